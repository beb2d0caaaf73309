/- Store: the document's answers. -/
import Derived.Test.YtdjcgbejnpbjlaaGreatDoorSdb
import Derived.Test.YtdjcgbejnpbjlaaGreatDoorUrw
namespace Go.Proofs.YtdjcgbejnpbjlaaGreatDoor.Sd
open Go Go.Eng Go.RowKit Bld Sp Ti Uc Ua Ui Ub
set_option maxHeartbeats 4000000
set_option maxRecDepth 100000
set_option linter.unusedSimpArgs false
set_option linter.unusedVariables false
noncomputable section
def rbtF (xn : Int) (xlow : Int) (xhigh : Int) (K : Bool → Prop) : Prop :=
 K ((decide (xlow ≤ xn)) && (decide (xn ≤ xhigh)))
theorem rbt_ok {g : Ghost} (xn : Int) (xlow : Int) (xhigh : Int) (K : Bool → Prop)
  (hF : rbtF xn xlow xhigh K) : CallsH Tryz.prog 15 #[.int .i64 xn, .int .i64 xlow, .int .i64 xhigh] g [] (fun g' H' v => ∃ (r0 : Bool), v = .bool r0 ∧ H' = [] ∧ K r0) := by
 refine CallsH.enter 15 [(0, .int .i64 xn), (1, .int .i64 xlow), (2, .int .i64 xhigh)] Tryz.func15 rfl (by kernel_rfl) (by kernel_rfl) (by kernel_rfl) fun w0 => ?_
 refine Ok.seq (Ok.region (Ok.batch 1 [(0, .int .i64 xn), (1, .int .i64 xlow), (2, .int .i64 xhigh)] (by kernel_rfl) (Ok.nil (Ok.thenN (Ok.seq (Ok.region (Ok.bat 4 [0, 2] [(10, .bool (decide (xlow ≤ xn)))] ?_)))))))
 refine Ok.midway 4 [(14, .bool ((decide (xlow ≤ xn)) && (decide (xn ≤ xhigh))))] (fun hR1 => ?_) ?_
 ·refine Ok.boolAt 10 (decide (xlow ≤ xn)) rfl (fun hc2 => ?_) (fun hc2 => ?_)
  ·skip
   refine Ok.batch 4 [(14, .bool (decide (xn ≤ xhigh)))] (by kernel_rfl) (Ok.reval 14 rfl (show (.bool (decide (xn ≤ xhigh)) : Value) = .bool ((decide (xlow ≤ xn)) && (decide (xn ≤ xhigh))) from congrArg Value.bool (mand_t hc2)) (Ok.batch 0 [(14, .bool ((decide (xlow ≤ xn)) && (decide (xn ≤ xhigh))))] (by kernel_rfl) ?_))
   exact hR1
  ·skip
   refine Ok.batch 4 [(14, .bool false)] (by kernel_rfl) (Ok.reval 14 rfl (show (.bool false : Value) = .bool ((decide (xlow ≤ xn)) && (decide (xn ≤ xhigh))) from congrArg Value.bool (mand_f hc2)) (Ok.batch 0 [(14, .bool ((decide (xlow ≤ xn)) && (decide (xn ≤ xhigh))))] (by kernel_rfl) ?_))
   exact hR1
 refine Ok.batch 1 [(6, .bool ((decide (xlow ≤ xn)) && (decide (xn ≤ xhigh))))] (by kernel_rfl) (Ok.nil (Ok.thenN (Ok.ret ?_)))
 exact Ok.resH (vs := [.bool ((decide (xlow ≤ xn)) && (decide (xn ≤ xhigh)))]) (.inl rfl) rfl (.cons (.tmp rfl) .nil) (Gext.refl w0 g) ⟨((decide (xlow ≤ xn)) && (decide (xn ≤ xhigh))), rfl, rfl, hF⟩
def rbtM (xn : Int) (xlow : Int) (xhigh : Int) : Bool := ((decide (xlow ≤ xn)) && (decide (xn ≤ xhigh)))
theorem rbtF_A (xn : Int) (xlow : Int) (xhigh : Int) (P : Bool → Prop) (h : P (rbtM xn xlow xhigh)) : rbtF xn xlow xhigh (fun k0 => P k0) := by
 unfold rbtM at h
 unfold rbtF
 exact h
theorem rbt_F (xn : Int) (xlow : Int) (xhigh : Int) : rbtF xn xlow xhigh (fun k0 => k0 = rbtM xn xlow xhigh) :=
 rbtF_A xn xlow xhigh (fun z => z = rbtM xn xlow xhigh) rfl
theorem rbt_c {g : Ghost} (xn : Int) (xlow : Int) (xhigh : Int)  : CallsG Tryz.prog 15 #[.int .i64 xn, .int .i64 xlow, .int .i64 xhigh] g (.bool (rbtM xn xlow xhigh)) :=
 (rbt_ok xn xlow xhigh _ (rbt_F xn xlow xhigh)).gives (by rintro g' H' v _ ⟨r0, rfl, rfl, hK⟩; subst hK; rfl)
abbrev KP := Bt × Bt × Bt
def kclj4 (K : (List (KP)) → Prop) (x0j4 : List (KP)) (x4j4 : Bool) : Prop :=
 ((x4j4) = true → K ([] : List (KP))) ∧ ((x4j4) = false → (([] : List (KP)) ++ x0j4).length ≤ 2932031007402 ∧ K (([] : List (KP)) ++ x0j4))
def kclF (xs : List (KP)) (K : (List (KP)) → Prop) : Prop :=
 (xs = [] → kclj4 K xs true) ∧ (kclj4 K xs false)
theorem kcl_ok {g : Ghost} {axs_0 : Option Addr} {cxs_0 : Nat} (xs : List (KP)) (hRxs_0 : Rep g (.slice (.pair (.str) (.pair (.str) (.str)))) [.slice axs_0 xs.length cxs_0] xs) (K : (List (KP)) → Prop)
  (hF : kclF xs K) : CallsH Tryz.prog 17 #[.slice axs_0 xs.length cxs_0] g [] (fun g' H' v => ∃ (r0 : List (KP)), ∃ (ar0 : Option Addr) (cr0 : Nat) (xsr0 : List Value), v = .slice ar0 r0.length cr0 ∧ RepL g' (.pair (.str) (.pair (.str) (.str))) xsr0 r0 ∧ H' = [.own (.slice ar0 r0.length cr0) 52 3 r0.length xsr0] ∧ K r0) := by
 refine CallsH.enter 8 [(0, .slice axs_0 xs.length cxs_0)] Tryz.func17 rfl (by kernel_rfl) (by kernel_rfl) (by kernel_rfl) fun w0 => ?_
 refine Ok.seq (Ok.region (Ok.batch 1 [(0, .slice axs_0 xs.length cxs_0)] (by kernel_rfl) (Ok.nil (Ok.thenN (Ok.seq (Ok.cut (fun a W => ∃ gj4 : Ghost, Gext w0 g gj4 ∧ ∃ (ax0j4 : Option Addr) (cx0j4 : Nat) (x0j4 : List (KP)) (x4j4 : Bool), Rep gj4 (.slice (.pair (.str) (.pair (.str) (.str)))) [.slice ax0j4 x0j4.length cx0j4] x0j4 ∧ StA 8 [(0, .slice ax0j4 x0j4.length cx0j4), (4, .bool x4j4)] a ∧ StW w0 [] gj4 W ∧ kclj4 K x0j4 x4j4) ?_ ?_))))))
 ·
  refine Ok.region (Ok.bat 1 [0] [(3, .slice axs_0 xs.length cxs_0)] ?_)
  rcases optCases axs_0 with rfl | ⟨ad5, rfl⟩
  ·have hz5 := Rep.none_nil hRxs_0
   replace hF := hF.1 hz5
   refine Ok.op rfl (OpOk.step (v := .bool true) (Yields.eqNilAt rfl rfl Tryz.underlying44 (by kernel_rfl) rfl) rfl rfl (Ok.nil (Ok.thenN ?_)))
   exact fun a W hA hW => ⟨g, (Gext.refl w0 g), none, cxs_0, xs, true, hRxs_0, hA.sub (by kernel_rfl), hW, hF⟩
  ·replace hF := hF.2
   refine Ok.op rfl (OpOk.step (v := .bool false) (Yields.eqNilAt rfl rfl Tryz.underlying44 (by kernel_rfl) rfl) rfl rfl (Ok.nil (Ok.thenN ?_)))
   exact fun a W hA hW => ⟨g, (Gext.refl w0 g), (some ad5), cxs_0, xs, false, hRxs_0, hA.sub (by kernel_rfl), hW, hF⟩
 ·
  clear hF
  rintro a W ⟨gj4, hxj4, ax0j4, cx0j4, x0j4, x4j4, hRx0j4, hA, hW, hF⟩
  refine (?_ : Ok _ _ _ _ _ _) a W hA hW
  clear hA hW
  refine Ok.cond (b := x4j4) rfl (fun hc1 => ?_) (fun hc1 => ?_)
  ·replace hF := hF.1 hc1
   refine Ok.seq (Ok.region (Ok.batch 1 [(2, .slice none 0 0)] (by kernel_rfl) ?_))
   have hL2 : RepL gj4 (.pair (.str) (.pair (.str) (.str))) [] [] := rfl
   refine Ok.ownNil 52 3 (Ok.nil (Ok.thenN (Ok.ret (Ok.thenR ?_))))
   exact Ok.resH (vs := [.slice none ([] : List (KP)).length 0]) (.inl rfl) rfl (.cons (.tmp rfl) .nil) hxj4 ⟨([] : List (KP)), none, 0, [], rfl, hL2, rfl, hF⟩
  ·replace hF := hF.2 hc1
   refine Ok.skip (Ok.thenN (Ok.seq (Ok.region ?_)))
   have hL3 : RepL gj4 (.pair (.str) (.pair (.str) (.str))) ([] : List Value) ([] : List (KP)) := rfl
   refine Ok.op rfl (OpOk.lit (E := 52) (.pair (.str) (.pair (.str) (.str))) ([] : List (KP)) ([] : List Value) (by kernel_rfl) (by kernel_rfl) rfl (by kernel_rfl) hL3 rfl fun b3 => ?_)
   refine Ok.batch 1 [(5, .slice (some ⟨b3, 0, none⟩) ([] : List (KP)).length 0), (6, .slice ax0j4 x0j4.length cx0j4)] (by kernel_rfl) ?_
   obtain ⟨hb4, hF⟩ := hF
   refine Ok.op rfl (OpOk.appendRo (e := .pair (.str) (.pair (.str) (.str))) 48 2932031007402 0 rfl rfl rfl hL3 hRx0j4 Tryz.underlying44 (by kernel_rfl) (by kernel_rfl) (by kernel_rfl) hb4 rfl fun a4 c4 xs4 hL4 => ?_)
   refine Ok.batch 1 [(2, .slice a4 (([] : List (KP)) ++ x0j4).length c4)] (by kernel_rfl) (Ok.nil (Ok.thenN (Ok.ret ?_)))
   exact Ok.resH (vs := [.slice a4 (([] : List (KP)) ++ x0j4).length c4]) (.inl rfl) rfl (.cons (.tmp rfl) .nil) hxj4 ⟨(([] : List (KP)) ++ x0j4), a4, c4, xs4, rfl, hL4, rfl, hF⟩
def kclS (l : List (KP)) : List (KP) := l
def kclP (l : List (KP)) : Prop := l.length ≤ 1000000
theorem kcl_F (l : List (KP)) (hp : kclP l) : kclF l (fun r => r = kclS l) := by
 unfold kclP at hp
 refine ⟨fun h => ⟨fun _ => by rw [h]; rfl, (fun h => by cases h)⟩, ⟨(fun h => by cases h), fun _ => ⟨by rw [List.nil_append]; omega, by rw [List.nil_append]; rfl⟩⟩⟩
theorem kcl_c {g : Ghost} {axs_0 : Option Addr} {cxs_0 : Nat} (xs : List (Bs × Bs × Bs)) (hRxs_0 : Rep g (.slice (.pair (.str) (.pair (.str) (.str)))) [.slice axs_0 xs.length cxs_0] xs)  (hp : kclP xs) : CallsH Tryz.prog 17 #[.slice axs_0 xs.length cxs_0] g [] (fun g' H' v => ∃ (ar0 : Option Addr) (cr0 : Nat) (xsr0 : List Value), v = .slice ar0 (kclS xs).length cr0 ∧ RepL g' (.pair (.str) (.pair (.str) (.str))) xsr0 (kclS xs) ∧ H' = [.own (.slice ar0 (kclS xs).length cr0) 52 3 (kclS xs).length xsr0]) :=
 (kcl_ok xs hRxs_0 _ (kcl_F xs hp)).mono (by rintro g' H' v _ ⟨r0, ar0, cr0, xsr0, rfl, hLr0, rfl, hK⟩; subst hK; exact ⟨ar0, cr0, xsr0, rfl, hLr0, rfl⟩)

def kdlF (xs : List (KP)) (xi : Int) (xj : Int) (K : (List (KP)) → Prop) : Prop :=
 ∀ cxs : Nat, xs.length ≤ cxs → cxs ≤ maxLen → (0 : Int) ≤ xi ∧ (xi : Int) ≤ xj ∧ xj ≤ (xs.length : Int) ∧ (xs.length : Int) ≤ (cxs : Int) ∧ (((xi == xj)) = true → K xs) ∧ (((xi == xj)) = false → (0 : Int) ≤ xi ∧ xi ≤ (cxs : Int) ∧ (0 : Int) ≤ xj ∧ (xj : Int) ≤ (xs.length : Int) ∧ (xs.length : Int) ≤ (cxs : Int) ∧ (Int.toNat xi) ≤ (Int.toNat xj) ∧ (Int.toNat xj) ≤ xs.length ∧ ∀ L5 : List (KP), L5 = xs.take (Int.toNat xi) ++ xs.drop (Int.toNat xj) → (0 : Int) ≤ (L5.length : Int) ∧ ((L5.length : Int) : Int) ≤ (xs.length : Int) ∧ (xs.length : Int) ≤ (cxs : Int) ∧ Int.toNat (L5.length : Int) ≤ Int.toNat (xs.length : Int) ∧ Int.toNat (xs.length : Int) ≤ cxs ∧ K L5)
theorem kdl_ok {g : Ghost} {axs : Option Addr} {cxs : Nat} {xsxs : List Value} (xs : List (KP)) (xi : Int) (xj : Int) (hLxs : RepL g (.pair (.str) (.pair (.str) (.str))) xsxs xs) (K : (List (KP)) → Prop)
  (hF : kdlF xs xi xj K) : CallsH Tryz.prog 18 #[.slice axs xs.length cxs, .int .i64 xi, .int .i64 xj] g [.own (.slice axs xs.length cxs) 52 3 xs.length xsxs] (fun g' H' v => ∃ (r0 : List (KP)), ∃ (ar0 : Option Addr) (cr0 : Nat) (xsr0 : List Value), v = .slice ar0 r0.length cr0 ∧ RepL g' (.pair (.str) (.pair (.str) (.str))) xsr0 r0 ∧ H' = [.own (.slice ar0 r0.length cr0) 52 3 r0.length xsr0] ∧ K r0) := by
 refine CallsH.enter 33 [(0, .slice axs xs.length cxs), (1, .int .i64 xi), (2, .int .i64 xj)] Tryz.func18 rfl (by kernel_rfl) (by kernel_rfl) (by kernel_rfl) fun w0 => ?_
 refine Ok.capOwn 0 rfl fun hcccxs hcmcxs => ?_
 have hF := hF cxs hcccxs hcmcxs
 refine Ok.seq (Ok.region (Ok.batch 1 [(0, .slice axs xs.length cxs), (1, .int .i64 xi), (2, .int .i64 xj)] (by kernel_rfl) (Ok.nil (Ok.thenN (Ok.seq (Ok.region (Ok.bat 5 [0, 1, 2] [(8, .slice axs xs.length cxs), (9, .int .i64 xi), (10, .int .i64 xj), (12, .int .i64 (xs.length : Int))] ?_)))))))
 obtain ⟨h01, h11, h21, h31, hF⟩ := hF
 refine Ok.op rfl (OpOk.step (v := vw axs 3 (Int.toNat (xs.length : Int)) (Int.toNat xi) (Int.toNat xj)) (slice3_run (size := 3) (l := xi) (h := xj) (q := (xs.length : Int)) rfl Tryz.underlying44 (by kernel_rfl) rfl rfl rfl h01 h11 h21 h31) rfl rfl (Ok.nil (Ok.thenN (Ok.seq (Ok.seq (Ok.region (Ok.bat 3 [0, 1, 2] [(16, .bool (xi == xj))] ?_)))))))
 refine Ok.nil (Ok.thenN (Ok.cond (b := (xi == xj)) rfl (fun hc2 => ?_) (fun hc2 => ?_)))
 ·replace hF := hF.1 hc2
  refine Ok.seq (Ok.region (Ok.batch 2 [(6, .slice axs xs.length cxs)] (by kernel_rfl) (Ok.nil (Ok.thenN (Ok.ret (Ok.thenR ?_))))))
  exact Ok.resH (vs := [.slice axs xs.length cxs]) (.inl rfl) rfl (.cons (.tmp rfl) .nil) (Gext.refl w0 g) ⟨xs, axs, cxs, xsxs, rfl, hLxs, rfl, hF⟩
 ·replace hF := hF.2 hc2
  refine Ok.skip (Ok.thenN (Ok.seq (Ok.region (Ok.bat 3 [0, 1, 2] [(7, .int .i64 (xs.length : Int))] ?_))))
  refine Ok.nil (Ok.thenN (Ok.seq (Ok.mix [] [] [] [(0, true), (1, true), (2, true), (3, true), (4, true), (5, true), (6, false), (7, true)] (by kernel_rfl) (by kernel_rfl) (.cons _ .slnil) (OkM.bat 2 [0, 2, 7] [(20, .slice axs xs.length cxs), (21, .int .i64 xi)] ?_))))
  obtain ⟨h03, h23, hF⟩ := hF
  refine OkM.head rfl rfl (show _ = [] from rfl) (OpQ.step (v := .slice axs (Int.toNat xi) cxs) (slice0_run (h := xi) rfl Tryz.underlying44 (by kernel_rfl) rfl h03 h23) rfl rfl (OkM.bat 2 [7] [(22, .slice axs (Int.toNat xi) cxs), (23, .slice axs xs.length cxs), (24, .int .i64 xj)] ?_))
  obtain ⟨h04, h14, h24, hF⟩ := hF
  refine OkM.head rfl rfl (show _ = [] from rfl) (OpQ.step (v := vw axs 3 cxs (Int.toNat xj) (Int.toNat (xs.length : Int))) (slice_run (size := 3) (l := xj) (h := (xs.length : Int)) rfl Tryz.underlying44 (by kernel_rfl) (.inl ⟨_, _, rfl, rfl⟩) (.inr ⟨rfl, rfl⟩) h04 h14 h24) rfl rfl ?_)
  obtain ⟨h05, h15, hF⟩ := hF
  obtain ⟨L5, hdL5⟩ : ∃ y : List (KP), y = xs.take (Int.toNat xi) ++ xs.drop (Int.toNat xj) := ⟨_, rfl⟩
  replace hF := hF L5 hdL5
  refine OkM.tail rfl rfl (OpOk.delAppL (e := .pair (.str) (.pair (.str) (.str))) (l := xs) (p := (Int.toNat xi)) (q := (Int.toNat xj)) 0 rfl rfl rfl hLxs Tryz.underlying44 (by kernel_rfl) h05 h15 (Int.toNat_natCast _) hdL5 rfl fun xs5 hL5 => ?_)
  refine OkM.leaf (i := 6) (show _ = [] from rfl) (Gle.refl _) (.cons _ .slnil) (OkM.bat 1 [7] [(0, .slice axs L5.length cxs)] ?_)
  refine OkM.nil (Ok.thenN (Ok.seq (Ok.region (Ok.bat 4 [0] [(27, .slice axs L5.length cxs), (29, .int .i64 (L5.length : Int)), (30, .int .i64 (xs.length : Int))] ?_))))
  obtain ⟨h06, h16, h26, hF⟩ := hF
  refine Ok.op rfl (OpOk.step (v := vw axs 3 cxs (Int.toNat (L5.length : Int)) (Int.toNat (xs.length : Int))) (slice_run (size := 3) (l := (L5.length : Int)) (h := (xs.length : Int)) rfl Tryz.underlying44 (by kernel_rfl) (.inl ⟨_, _, rfl, rfl⟩) (.inl ⟨_, _, rfl, rfl⟩) h06 h16 h26) rfl rfl ?_)
  obtain ⟨h17, h27, hF⟩ := hF
  refine Ok.op rfl (OpOk.clearSpare (z := .agg #[sv ([] : Bs), sv ([] : Bs), sv ([] : Bs)]) 0 rfl rfl Tryz.underlying44 (by kernel_rfl) (by decide) (by kernel_rfl) (Nat.le_of_eq (Int.toNat_natCast _).symm) h17 h27 (Ok.nil (Ok.thenN (Ok.seq (Ok.region (Ok.batch 2 [(6, .slice axs L5.length cxs)] (by kernel_rfl) (Ok.nil (Ok.thenN (Ok.ret ?_)))))))))
  exact Ok.resH (vs := [.slice axs L5.length cxs]) (.inl rfl) rfl (.cons (.tmp rfl) .nil) (Gext.refl w0 g) ⟨L5, axs, cxs, xs5, rfl, hL5, rfl, hF⟩
def cutL {α : Type} (l : List α) (i j : Int) : List α := l.take i.toNat ++ l.drop j.toNat
def kdlS (l : List KP) (i j : Int) : List KP := cutL l i j
def kdlP (l : List KP) (i j : Int) : Prop := 0 ≤ i ∧ i ≤ j ∧ j ≤ (l.length : Int) ∧ l.length ≤ 1000000
theorem kdl_F (l : List KP) (i j : Int) (hp : kdlP l i j) : kdlF l i j (fun r => r = kdlS l i j) := by
 obtain ⟨h0, h1, h2, h3⟩ := hp
 intro c hc hm
 refine ⟨h0, h1, h2, by omega, fun h => ?_, fun h => ⟨h0, by omega, by omega, h2, by omega, by omega, by omega, fun L hL => ?_⟩⟩
 ·have := eq_of_beq h
  subst this
  show l = l.take i.toNat ++ l.drop i.toNat
  rw [List.take_append_drop]
 ·have hl : L.length = i.toNat + (l.length - j.toNat) := by rw [hL, List.length_append, List.length_take, List.length_drop]; omega
  exact ⟨by omega, by omega, by omega, by omega, by omega, hL⟩
theorem kdl_c {g : Ghost} {axs : Option Addr} {cxs : Nat} {xsxs : List Value} (xs : List (Bs × Bs × Bs)) (xi : Int) (xj : Int) (hLxs : RepL g (.pair (.str) (.pair (.str) (.str))) xsxs xs)  (hp : kdlP xs xi xj) : CallsH Tryz.prog 18 #[.slice axs xs.length cxs, .int .i64 xi, .int .i64 xj] g [.own (.slice axs xs.length cxs) 52 3 xs.length xsxs] (fun g' H' v => ∃ (ar0 : Option Addr) (cr0 : Nat) (xsr0 : List Value), v = .slice ar0 (kdlS xs xi xj).length cr0 ∧ RepL g' (.pair (.str) (.pair (.str) (.str))) xsr0 (kdlS xs xi xj) ∧ H' = [.own (.slice ar0 (kdlS xs xi xj).length cr0) 52 3 (kdlS xs xi xj).length xsr0]) :=
 (kdl_ok xs xi xj hLxs _ (kdl_F xs xi xj hp)).mono (by rintro g' H' v _ ⟨r0, ar0, cr0, xsr0, rfl, hLr0, rfl, hK⟩; subst hK; exact ⟨ar0, cr0, xsr0, rfl, hLr0, rfl⟩)
def rsaV37 (yown1_0l11 : List (KP)) (x37ji28 : Int) : Bs :=
 (if (decide (x37ji28 ≥ 0)) = true then (yown1_0l11.getD (Int.toNat x37ji28) default).2.2 else ([] : Bs))
def rsaV38 (e5 : Int × KP) (yown1_0l11 : List (KP)) (x37ji28 : Int) : List (KP) :=
 (if ((e5.1 == 1) && (decide (x37ji28 ≥ 0))) = true then ((kclS yown1_0l11).set (Int.toNat x37ji28) (((kclS yown1_0l11).getD (Int.toNat x37ji28) default).1, ((kclS yown1_0l11).getD (Int.toNat x37ji28) default).2.1, e5.2.2.2)) else (if (e5.1 == 1) = true then ((kclS yown1_0l11) ++ ([((oriS (parS e5.2.1).1), e5.2.2.1, e5.2.2.2)] : List (KP))) else (if ((e5.1 == 3) && (decide (x37ji28 ≥ 0))) = true then (kdlS (kclS yown1_0l11) x37ji28 (w6 (x37ji28 + 1))) else (kclS yown1_0l11))))
def rsaV43 (e5 : Int × KP) (x135l48 : Int) (yown9_0l48 : List Bs) (yown1_0l11 : List (KP)) : List Bs :=
 (if ((yown1_0l11.getD (Int.toNat x135l48) default).1 == (oriS (parS e5.2.1).1)) = true then (yown9_0l48 ++ ([(yown1_0l11.getD (Int.toNat x135l48) default).2.1] : List Bs)) else yown9_0l48)
def rsaV54 (e5 : Int × KP) (x5l17i159 : Int) (x6l17i159 : Int) (yown30_0_0l17i159 : List (KP)) : Int :=
 (if (!((yown30_0_0l17i159.getD (Int.toNat x6l17i159) default).1 == (oriS (parS e5.2.1).1))) = true then w6 (x5l17i159 + 1) else x5l17i159)
def rsaV55 (e5 : Int × KP) (x5l17i159 : Int) (x6l17i159 : Int) (yown30_0_0l17i159 : List (KP)) : List (KP) :=
 (if (!((yown30_0_0l17i159.getD (Int.toNat x6l17i159) default).1 == (oriS (parS e5.2.1).1))) = true then (yown30_0_0l17i159.set (Int.toNat x5l17i159) (yown30_0_0l17i159.getD (Int.toNat x6l17i159) default)) else yown30_0_0l17i159)
def rsaV58 (e5 : Int × KP) (x17l102 : Int) (x92l102 : Int) (yown1_0l11 : List (KP)) (x37ji28 : Int) : Int :=
 (if (((rsaV38 e5 yown1_0l11 x37ji28).getD (Int.toNat x92l102) default).1 == (oriS (parS e5.2.1).1)) = true then w6 (x17l102 + (w6 ((((rsaV38 e5 yown1_0l11 x37ji28).getD (Int.toNat x92l102) default).2.1.length : Int) + (((rsaV38 e5 yown1_0l11 x37ji28).getD (Int.toNat x92l102) default).2.2.length : Int)))) else x17l102)
def rsaV59 (e5 : Int × KP) (e80 : KP) : Bool :=
 ((e80.1 == (oriS (parS e5.2.1).1)) && (e80.2.1 == e5.2.2.1))
def rsaj32 (yown9_0j32 : List Bs) (ybs7_0j32 : Int) (ybs7_1j32 : Bs) (ybs7_2j32 : Bool) (yown1_0j32 : List (KP)) (x22l11 : Int) (yown2_0l11 : List (Int × Bs × Bool × List Bs)) (C11 : Int → (List (Int × Bs × Bool × List Bs)) → (List (KP)) → Prop) : Prop :=
 (yown2_0l11 ++ ([(ybs7_0j32, ybs7_1j32, ybs7_2j32, yown9_0j32)] : List (Int × Bs × Bool × List Bs))).length ≤ 2513169434916 ∧ C11 (w6 (x22l11 + 1)) (yown2_0l11 ++ ([(ybs7_0j32, ybs7_1j32, ybs7_2j32, yown9_0j32)] : List (Int × Bs × Bool × List Bs))) yown1_0j32
def rsaj55 (e5 : Int × KP) (x135l48 : Int) (yown9_0l48 : List Bs) (yown1_0l11 : List (KP)) (C48 : Int → (List Bs) → Prop) : Prop :=
 C48 (w6 (x135l48 + 1)) (rsaV43 e5 x135l48 yown9_0l48 yown1_0l11)
def rsal48b (e5 : Int × KP) (x22l11 : Int) (yown2_0l11 : List (Int × Bs × Bool × List Bs)) (yown1_0l11 : List (KP)) (C11 : Int → (List (Int × Bs × Bool × List Bs)) → (List (KP)) → Prop) (x135l48 : Int) (yown9_0l48 : List Bs) (C48 : Int → (List Bs) → Prop) : Prop :=
 ((decide (x135l48 < (yown1_0l11.length : Int))) = true → (0 : Int) ≤ x135l48 ∧ Int.toNat x135l48 < yown1_0l11.length ∧ ((((yown1_0l11.getD (Int.toNat x135l48) default).1 == (oriS (parS e5.2.1).1))) = true → (yown9_0l48 ++ ([(yown1_0l11.getD (Int.toNat x135l48) default).2.1] : List Bs)).length ≤ 8796093022208 ∧ rsaj55 e5 x135l48 yown9_0l48 yown1_0l11 C48) ∧ ((((yown1_0l11.getD (Int.toNat x135l48) default).1 == (oriS (parS e5.2.1).1))) = false → rsaj55 e5 x135l48 yown9_0l48 yown1_0l11 C48)) ∧ ((decide (x135l48 < (yown1_0l11.length : Int))) = false → rsaj32 yown9_0l48 0 ([] : Bs) false yown1_0l11 x22l11 yown2_0l11 C11)
def rsal48 (e5 : Int × KP) (x22l11 : Int) (yown2_0l11 : List (Int × Bs × Bool × List Bs)) (yown1_0l11 : List (KP)) (C11 : Int → (List (Int × Bs × Bool × List Bs)) → (List (KP)) → Prop) : Nat → Int → (List Bs) → Prop
 | 0, _, _ => False
 | k + 1, x135l48, yown9_0l48 => rsal48b e5 x22l11 yown2_0l11 yown1_0l11 C11 x135l48 yown9_0l48 (rsal48 e5 x22l11 yown2_0l11 yown1_0l11 C11 k)
def rsaji34 (x22l11 : Int) (yown2_0l11 : List (Int × Bs × Bool × List Bs)) (yown1_0l11 : List (KP)) (C11 : Int → (List (Int × Bs × Bool × List Bs)) → (List (KP)) → Prop) (yown30_0_0ji34 : List (KP)) : Prop :=
 rsaj32 ([] : List Bs) 0 ([] : Bs) (decide ((yown30_0_0ji34.length : Int) < (yown1_0l11.length : Int))) yown30_0_0ji34 x22l11 yown2_0l11 C11
def rsaj24i159 (e5 : Int × KP) (x5l17i159 : Int) (x6l17i159 : Int) (yown30_0_0l17i159 : List (KP)) (C17x3 : Int → Int → (List (KP)) → Prop) : Prop :=
 C17x3 (rsaV54 e5 x5l17i159 x6l17i159 yown30_0_0l17i159) (w6 (x6l17i159 + 1)) (rsaV55 e5 x5l17i159 x6l17i159 yown30_0_0l17i159)
def rsal17x3b (e5 : Int × KP) (x22l11 : Int) (yown2_0l11 : List (Int × Bs × Bool × List Bs)) (yown1_0l11 : List (KP)) (C11 : Int → (List (Int × Bs × Bool × List Bs)) → (List (KP)) → Prop) (x5l17i159 : Int) (x6l17i159 : Int) (yown30_0_0l17i159 : List (KP)) (C17x3 : Int → Int → (List (KP)) → Prop) : Prop :=
 ((decide (x6l17i159 < (yown30_0_0l17i159.length : Int))) = true → (0 : Int) ≤ x6l17i159 ∧ Int.toNat x6l17i159 < yown30_0_0l17i159.length ∧ ((!((yown30_0_0l17i159.getD (Int.toNat x6l17i159) default).1 == (oriS (parS e5.2.1).1))) = true → (0 : Int) ≤ x5l17i159 ∧ Int.toNat x5l17i159 < yown30_0_0l17i159.length ∧ rsaj24i159 e5 x5l17i159 x6l17i159 yown30_0_0l17i159 C17x3) ∧ ((!((yown30_0_0l17i159.getD (Int.toNat x6l17i159) default).1 == (oriS (parS e5.2.1).1))) = false → rsaj24i159 e5 x5l17i159 x6l17i159 yown30_0_0l17i159 C17x3)) ∧ ((decide (x6l17i159 < (yown30_0_0l17i159.length : Int))) = false → (0 : Int) ≤ x5l17i159 ∧ (x5l17i159 : Int) ≤ (yown30_0_0l17i159.length : Int) ∧ (yown30_0_0l17i159.length : Int) ≤ (yown30_0_0l17i159.length : Int) ∧ (Int.toNat x5l17i159) ≤ Int.toNat (yown30_0_0l17i159.length : Int) ∧ (0 : Int) ≤ x5l17i159 ∧ x5l17i159 ≤ ((clr yown30_0_0l17i159 (Int.toNat x5l17i159) ((([] : Bs), ([] : Bs), ([] : Bs)) : KP)).length : Int) ∧ rsaji34 x22l11 yown2_0l11 yown1_0l11 C11 ((clr yown30_0_0l17i159 (Int.toNat x5l17i159) ((([] : Bs), ([] : Bs), ([] : Bs)) : KP)).take (Int.toNat x5l17i159)))
def rsal17x3 (e5 : Int × KP) (x22l11 : Int) (yown2_0l11 : List (Int × Bs × Bool × List Bs)) (yown1_0l11 : List (KP)) (C11 : Int → (List (Int × Bs × Bool × List Bs)) → (List (KP)) → Prop) : Nat → Int → Int → (List (KP)) → Prop
 | 0, _, _, _ => False
 | k + 1, x5l17i159, x6l17i159, yown30_0_0l17i159 => rsal17x3b e5 x22l11 yown2_0l11 yown1_0l11 C11 x5l17i159 x6l17i159 yown30_0_0l17i159 (rsal17x3 e5 x22l11 yown2_0l11 yown1_0l11 C11 k)
def rsaji36 (e5 : Int × KP) (x22l11 : Int) (yown2_0l11 : List (Int × Bs × Bool × List Bs)) (yown1_0l11 : List (KP)) (C11 : Int → (List (Int × Bs × Bool × List Bs)) → (List (KP)) → Prop) (x10ji36 : Int) : Prop :=
 (((x10ji36 == (-1))) = true → rsaji34 x22l11 yown2_0l11 yown1_0l11 C11 (kclS yown1_0l11)) ∧ (((x10ji36 == (-1))) = false → ∃ k, rsal17x3 e5 x22l11 yown2_0l11 yown1_0l11 C11 k x10ji36 (w6 (x10ji36 + 1)) (kclS yown1_0l11))
def rsal7x4b (e5 : Int × KP) (x22l11 : Int) (yown2_0l11 : List (Int × Bs × Bool × List Bs)) (yown1_0l11 : List (KP)) (C11 : Int → (List (Int × Bs × Bool × List Bs)) → (List (KP)) → Prop) (x8l7i159i10 : Int) (C7x4 : Int → Prop) : Prop :=
 ((decide (x8l7i159i10 < ((kclS yown1_0l11).length : Int))) = true → (0 : Int) ≤ x8l7i159i10 ∧ Int.toNat x8l7i159i10 < (kclS yown1_0l11).length ∧ (((((kclS yown1_0l11).getD (Int.toNat x8l7i159i10) default).1 == (oriS (parS e5.2.1).1))) = true → rsaji36 e5 x22l11 yown2_0l11 yown1_0l11 C11 x8l7i159i10) ∧ (((((kclS yown1_0l11).getD (Int.toNat x8l7i159i10) default).1 == (oriS (parS e5.2.1).1))) = false → C7x4 (w6 (x8l7i159i10 + 1)))) ∧ ((decide (x8l7i159i10 < ((kclS yown1_0l11).length : Int))) = false → rsaji36 e5 x22l11 yown2_0l11 yown1_0l11 C11 (-1))
def rsal7x4 (e5 : Int × KP) (x22l11 : Int) (yown2_0l11 : List (Int × Bs × Bool × List Bs)) (yown1_0l11 : List (KP)) (C11 : Int → (List (Int × Bs × Bool × List Bs)) → (List (KP)) → Prop) : Nat → Int → Prop
 | 0, _ => False
 | k + 1, x8l7i159i10 => rsal7x4b e5 x22l11 yown2_0l11 yown1_0l11 C11 x8l7i159i10 (rsal7x4 e5 x22l11 yown2_0l11 yown1_0l11 C11 k)
def rsaj109 (e5 : Int × KP) (x17l102 : Int) (x92l102 : Int) (yown1_0l11 : List (KP)) (x37ji28 : Int) (C102 : Int → Int → Prop) : Prop :=
 C102 (rsaV58 e5 x17l102 x92l102 yown1_0l11 x37ji28) (w6 (x92l102 + 1))
def rsal102b (e5 : Int × KP) (x22l11 : Int) (yown2_0l11 : List (Int × Bs × Bool × List Bs)) (yown1_0l11 : List (KP)) (C11 : Int → (List (Int × Bs × Bool × List Bs)) → (List (KP)) → Prop) (x37ji28 : Int) (x17l102 : Int) (x92l102 : Int) (C102 : Int → Int → Prop) : Prop :=
 ((decide (x92l102 < ((rsaV38 e5 yown1_0l11 x37ji28).length : Int))) = true → (0 : Int) ≤ x92l102 ∧ Int.toNat x92l102 < (rsaV38 e5 yown1_0l11 x37ji28).length ∧ (((((rsaV38 e5 yown1_0l11 x37ji28).getD (Int.toNat x92l102) default).1 == (oriS (parS e5.2.1).1))) = true → rsaj109 e5 x17l102 x92l102 yown1_0l11 x37ji28 C102) ∧ (((((rsaV38 e5 yown1_0l11 x37ji28).getD (Int.toNat x92l102) default).1 == (oriS (parS e5.2.1).1))) = false → rsaj109 e5 x17l102 x92l102 yown1_0l11 x37ji28 C102)) ∧ ((decide (x92l102 < ((rsaV38 e5 yown1_0l11 x37ji28).length : Int))) = false → ((((e5.1 == 1) && (decide (x17l102 > 400)))) = true → rsaj32 ([] : List Bs) 2 ([] : Bs) false yown1_0l11 x22l11 yown2_0l11 C11) ∧ ((((e5.1 == 1) && (decide (x17l102 > 400)))) = false → rsaj32 ([] : List Bs) 0 (rsaV37 yown1_0l11 x37ji28) (decide (x37ji28 ≥ 0)) (rsaV38 e5 yown1_0l11 x37ji28) x22l11 yown2_0l11 C11))
def rsal102 (e5 : Int × KP) (x22l11 : Int) (yown2_0l11 : List (Int × Bs × Bool × List Bs)) (yown1_0l11 : List (KP)) (C11 : Int → (List (Int × Bs × Bool × List Bs)) → (List (KP)) → Prop) (x37ji28 : Int) : Nat → Int → Int → Prop
 | 0, _, _ => False
 | k + 1, x17l102, x92l102 => rsal102b e5 x22l11 yown2_0l11 yown1_0l11 C11 x37ji28 x17l102 x92l102 (rsal102 e5 x22l11 yown2_0l11 yown1_0l11 C11 x37ji28 k)
def rsaj81 (e5 : Int × KP) (x22l11 : Int) (yown2_0l11 : List (Int × Bs × Bool × List Bs)) (yown1_0l11 : List (KP)) (C11 : Int → (List (Int × Bs × Bool × List Bs)) → (List (KP)) → Prop) (x37ji28 : Int) : Prop :=
 ∃ k, rsal102 e5 x22l11 yown2_0l11 yown1_0l11 C11 x37ji28 k 0 0
def rsaj73 (e5 : Int × KP) (x22l11 : Int) (yown2_0l11 : List (Int × Bs × Bool × List Bs)) (yown1_0l11 : List (KP)) (C11 : Int → (List (Int × Bs × Bool × List Bs)) → (List (KP)) → Prop) (x37ji28 : Int) : Prop :=
 kclP yown1_0l11 ∧ ((((e5.1 == 1) && (decide (x37ji28 ≥ 0)))) = true → (0 : Int) ≤ x37ji28 ∧ Int.toNat x37ji28 < (kclS yown1_0l11).length ∧ rsaj81 e5 x22l11 yown2_0l11 yown1_0l11 C11 x37ji28) ∧ ((((e5.1 == 1) && (decide (x37ji28 ≥ 0)))) = false → (((e5.1 == 1)) = true → ((kclS yown1_0l11) ++ ([((oriS (parS e5.2.1).1), e5.2.2.1, e5.2.2.2)] : List (KP))).length ≤ 2932031007402 ∧ rsaj81 e5 x22l11 yown2_0l11 yown1_0l11 C11 x37ji28) ∧ (((e5.1 == 1)) = false → ((((e5.1 == 3) && (decide (x37ji28 ≥ 0)))) = true → kdlP (kclS yown1_0l11) x37ji28 (w6 (x37ji28 + 1)) ∧ rsaj81 e5 x22l11 yown2_0l11 yown1_0l11 C11 x37ji28) ∧ ((((e5.1 == 3) && (decide (x37ji28 ≥ 0)))) = false → rsaj81 e5 x22l11 yown2_0l11 yown1_0l11 C11 x37ji28)))
def rsaji28 (e5 : Int × KP) (x22l11 : Int) (yown2_0l11 : List (Int × Bs × Bool × List Bs)) (yown1_0l11 : List (KP)) (C11 : Int → (List (Int × Bs × Bool × List Bs)) → (List (KP)) → Prop) (x37ji28 : Int) : Prop :=
 ((((parS e5.2.1).2 != 0)) = true → rsaj32 ([] : List Bs) (parS e5.2.1).2 ([] : Bs) false yown1_0l11 x22l11 yown2_0l11 C11) ∧ ((((parS e5.2.1).2 != 0)) = false → ((!(rbtM e5.1 1 5)) = true → rsaj32 ([] : List Bs) 1 ([] : Bs) false yown1_0l11 x22l11 yown2_0l11 C11) ∧ ((!(rbtM e5.1 1 5)) = false → (((e5.1 == 5)) = true → ∃ k, rsal48 e5 x22l11 yown2_0l11 yown1_0l11 C11 k 0 ([] : List Bs)) ∧ (((e5.1 == 5)) = false → (((e5.1 == 4)) = true → kclP yown1_0l11 ∧ ∃ k, rsal7x4 e5 x22l11 yown2_0l11 yown1_0l11 C11 k 0) ∧ (((e5.1 == 4)) = false → ((decide (x37ji28 ≥ 0)) = true → (0 : Int) ≤ x37ji28 ∧ Int.toNat x37ji28 < yown1_0l11.length ∧ rsaj73 e5 x22l11 yown2_0l11 yown1_0l11 C11 x37ji28) ∧ ((decide (x37ji28 ≥ 0)) = false → rsaj73 e5 x22l11 yown2_0l11 yown1_0l11 C11 x37ji28)))))
def rsaj3i37i16 (e5 : Int × KP) (x8l7i37 : Int) (x22l11 : Int) (yown2_0l11 : List (Int × Bs × Bool × List Bs)) (yown1_0l11 : List (KP)) (C11 : Int → (List (Int × Bs × Bool × List Bs)) → (List (KP)) → Prop) (e80 : KP) (C7x6 : Int → Prop) : Prop :=
 (((rsaV59 e5 e80)) = true → rsaji28 e5 x22l11 yown2_0l11 yown1_0l11 C11 x8l7i37) ∧ (((rsaV59 e5 e80)) = false → C7x6 (w6 (x8l7i37 + 1)))
def rsal7x6b (e5 : Int × KP) (x22l11 : Int) (yown2_0l11 : List (Int × Bs × Bool × List Bs)) (yown1_0l11 : List (KP)) (C11 : Int → (List (Int × Bs × Bool × List Bs)) → (List (KP)) → Prop) (x8l7i37 : Int) (C7x6 : Int → Prop) : Prop :=
 ((decide (x8l7i37 < (yown1_0l11.length : Int))) = true → (0 : Int) ≤ x8l7i37 ∧ Int.toNat x8l7i37 < yown1_0l11.length ∧ ((((yown1_0l11.getD (Int.toNat x8l7i37) default).1 == (oriS (parS e5.2.1).1))) = true → rsaj3i37i16 e5 x8l7i37 x22l11 yown2_0l11 yown1_0l11 C11 (yown1_0l11.getD (Int.toNat x8l7i37) default) C7x6) ∧ ((((yown1_0l11.getD (Int.toNat x8l7i37) default).1 == (oriS (parS e5.2.1).1))) = false → rsaj3i37i16 e5 x8l7i37 x22l11 yown2_0l11 yown1_0l11 C11 (yown1_0l11.getD (Int.toNat x8l7i37) default) C7x6)) ∧ ((decide (x8l7i37 < (yown1_0l11.length : Int))) = false → rsaji28 e5 x22l11 yown2_0l11 yown1_0l11 C11 (-1))
def rsal7x6 (e5 : Int × KP) (x22l11 : Int) (yown2_0l11 : List (Int × Bs × Bool × List Bs)) (yown1_0l11 : List (KP)) (C11 : Int → (List (Int × Bs × Bool × List Bs)) → (List (KP)) → Prop) : Nat → Int → Prop
 | 0, _ => False
 | k + 1, x8l7i37 => rsal7x6b e5 x22l11 yown2_0l11 yown1_0l11 C11 x8l7i37 (rsal7x6 e5 x22l11 yown2_0l11 yown1_0l11 C11 k)
def rsal11b (xops : List (Int × KP)) (K : (List (Int × Bs × Bool × List Bs)) → Prop) (x22l11 : Int) (yown2_0l11 : List (Int × Bs × Bool × List Bs)) (yown1_0l11 : List (KP)) (C11 : Int → (List (Int × Bs × Bool × List Bs)) → (List (KP)) → Prop) : Prop :=
 ((decide (x22l11 < (xops.length : Int))) = true → (0 : Int) ≤ x22l11 ∧ Int.toNat x22l11 < xops.length ∧ oriP (parS (xops.getD (Int.toNat x22l11) default).2.1).1 ∧ ∃ k, rsal7x6 (xops.getD (Int.toNat x22l11) default) x22l11 yown2_0l11 yown1_0l11 C11 k 0) ∧ ((decide (x22l11 < (xops.length : Int))) = false → K yown2_0l11)
def rsal11 (xops : List (Int × KP)) (K : (List (Int × Bs × Bool × List Bs)) → Prop) : Nat → Int → (List (Int × Bs × Bool × List Bs)) → (List (KP)) → Prop
 | 0, _, _, _ => False
 | k + 1, x22l11, yown2_0l11, yown1_0l11 => rsal11b xops K x22l11 yown2_0l11 yown1_0l11 (rsal11 xops K k)
def rsaF (xops : List (Int × KP)) (K : (List (Int × Bs × Bool × List Bs)) → Prop) : Prop :=
 ∃ k, rsal11 xops K k 0 ([] : List (Int × Bs × Bool × List Bs)) ([] : List (KP))
theorem rsa_ok {g : Ghost} {axops_0 : Option Addr} {cxops_0 : Nat} (xops : List (Int × KP)) (hRxops_0 : Rep g (.slice (.pair (.int .i64) (.pair (.str) (.pair (.str) (.str))))) [.slice axops_0 xops.length cxops_0] xops) (hG0 : SomeInt g 0) (hG1 : GlobL g 1 (.int .u64) DPow) (K : (List (Int × Bs × Bool × List Bs)) → Prop)
  (hF : rsaF xops K) : CallsH Tryz.prog 6 #[.slice axops_0 xops.length cxops_0] g [] (fun g' H' v => ∃ (r0 : List (Int × Bs × Bool × List Bs)), ∃ (ar0_0 : Option Addr) (cr0_0 : Nat), v = .slice ar0_0 r0.length cr0_0 ∧ Rep g' (.slice (.pair (.int .i64) (.pair (.str) (.pair (.bool) (.slice (.str)))))) [.slice ar0_0 r0.length cr0_0] r0 ∧ H' = [] ∧ K r0) := by
 refine CallsH.enter 171 [(0, .slice axops_0 xops.length cxops_0)] Tryz.func6 rfl (by kernel_rfl) (by kernel_rfl) (by kernel_rfl) fun w0 => ?_
 refine Ok.seq (Ok.region (Ok.batch 1 [(0, .slice axops_0 xops.length cxops_0)] (by kernel_rfl) (Ok.nil (Ok.thenN (Ok.seq (Ok.region (Ok.bat 1 [0] [(3, .slice none 0 0)] ?_)))))))
 have hL1 : RepL g (.pair (.str) (.pair (.str) (.str))) [] [] := rfl
 refine Ok.ownNil 52 3 (Ok.nil (Ok.thenN (Ok.seq (Ok.region (Ok.bat 1 [0] [(3, .slice none ([] : List (KP)).length 0), (4, .slice none 0 0)] ?_)))))
 have hL2 : RepL g (.pair (.int .i64) (.pair (.str) (.pair (.bool) (.slice (.str))))) [] [] := rfl
 refine Ok.ownNil 30 4 (Ok.nil (Ok.thenN (Ok.seq (Ok.seq (Ok.region (Ok.bat 3 [3] [(4, .slice none ([] : List (Int × Bs × Bool × List Bs)).length 0), (20, .slice axops_0 xops.length cxops_0), (21, .int .i64 (xops.length : Int)), (22, .int .i64 0)] ?_))))))
 refine Ok.nil (Ok.thenN (Ok.block ?_))
 obtain ⟨k, hF⟩ := hF
 refine Ok.loop (fun k a W => ∃ gl11 : Ghost, Gext w0 g gl11 ∧ ∃ (x22l11 : Int) (ayown2_0l11 : Option Addr) (cyown2_0l11 : Nat) (yown2_0l11 : List (Int × Bs × Bool × List Bs)) (xsyown2_0l11 : List Value) (ayown1_0l11 : Option Addr) (cyown1_0l11 : Nat) (yown1_0l11 : List (KP)) (xsyown1_0l11 : List Value), RepL gl11 (.pair (.int .i64) (.pair (.str) (.pair (.bool) (.slice (.str))))) xsyown2_0l11 yown2_0l11 ∧ RepL gl11 (.pair (.str) (.pair (.str) (.str))) xsyown1_0l11 yown1_0l11 ∧ StA 171 [(3, .slice ayown1_0l11 yown1_0l11.length cyown1_0l11), (4, .slice ayown2_0l11 yown2_0l11.length cyown2_0l11), (20, .slice axops_0 xops.length cxops_0), (21, .int .i64 (xops.length : Int)), (22, .int .i64 x22l11)] a ∧ StW w0 [.own (.slice ayown2_0l11 yown2_0l11.length cyown2_0l11) 30 4 yown2_0l11.length xsyown2_0l11, .own (.slice ayown1_0l11 yown1_0l11.length cyown1_0l11) 52 3 yown1_0l11.length xsyown1_0l11] gl11 W ∧ rsal11 xops K k x22l11 yown2_0l11 yown1_0l11) k ?_ ?_
 ·
  exact fun a W hA hW => ⟨g, (Gext.refl w0 g), 0, none, 0, ([] : List (Int × Bs × Bool × List Bs)), [], none, 0, ([] : List (KP)), [], hL2, hL1, hA.sub (by kernel_rfl), hW, hF⟩
 ·
  clear hF
  rintro k11 a W ⟨gl11, hxl11, x22l11, ayown2_0l11, cyown2_0l11, yown2_0l11, xsyown2_0l11, ayown1_0l11, cyown1_0l11, yown1_0l11, xsyown1_0l11, hLyown2_0l11, hLyown1_0l11, hA, hW, hF⟩
  cases k11 with
  | zero => exact (hF : False).elim
  | succ k11 =>
   refine (?_ : Ok _ _ _ _ _ _) a W hA hW
   clear hA hW
   replace hRxops_0 := hRxops_0.mono hxl11.1
   replace hG0 := hG0.mono hxl11.1
   replace hG1 := hG1.mono hxl11.1
   refine Ok.seq (Ok.region (Ok.bat 1 [3, 4, 20, 21, 22] [(23, .bool (decide (x22l11 < (xops.length : Int))))] ?_))
   refine Ok.nil (Ok.thenN (Ok.seq (Ok.cond (b := decide (x22l11 < (xops.length : Int))) rfl (fun hc3 => ?_) (fun hc3 => ?_))))
   ·replace hF := hF.1 hc3
    refine Ok.skip (Ok.thenN (Ok.seq (Ok.block (Ok.seq (Ok.region ?_)))))
    obtain ⟨h05, h15, hF⟩ := hF
    have he5 := get_of (l := xops) (default : Int × KP) h15
    generalize hg5 : (xops.getD (Int.toNat x22l11) default) = e5 at he5 hF ⊢
    refine Ok.op rfl (OpOk.indexRo (e := .pair (.int .i64) (.pair (.str) (.pair (.str) (.str)))) (i := x22l11) (el := e5) rfl rfl Tryz.underlying22 (by kernel_rfl) hRxops_0 h05 he5 rfl fun q4 o4 cs4 _ hat4 hr4 => ?_)
    obtain ⟨_, _, rfl, rfl, ⟨_, _, rfl, rfl, ⟨_, _, rfl, rfl, rfl⟩⟩⟩ := hr4
    replace hat4 : At gl11 q4 o4 [.int .i64 e5.1, sv e5.2.1, sv e5.2.2.1, sv e5.2.2.2] := hat4
    refine Ok.op rfl (OpOk.step (v := .agg #[.int .i64 e5.1, sv e5.2.1, sv e5.2.2.1, sv e5.2.2.2]) (Yields.loadAggRo 0 4 #[.int .i64 e5.1, sv e5.2.1, sv e5.2.2.1, sv e5.2.2.2] hat4 (by kernel_rfl) Tryz.underlying36 rfl (by kernel_rfl) (by kernel_rfl) (by kernel_rfl)) rfl rfl (Ok.op rfl (OpOk.alloc (z := .agg #[.int .i64 0, sv ([] : Bs), sv ([] : Bs), sv ([] : Bs)]) (cs := #[.int .i64 0, sv ([] : Bs), sv ([] : Bs), sv ([] : Bs)]) (by kernel_rfl) (by kernel_rfl) rfl fun bs6 => ?_)))
    refine Ok.op rfl (OpOk.sto (k := 4) (v := .agg #[.int .i64 e5.1, sv e5.2.1, sv e5.2.2.1, sv e5.2.2.2]) 0 #[.int .i64 e5.1, sv e5.2.1, sv e5.2.2.1, sv e5.2.2.2] rfl rfl rfl ?_)
    refine Ok.nil (Ok.thenN (Ok.seq (Ok.region (Ok.bat 1 [3, 4, 20, 21, 22] [(6, pv bs6 0), (26, .agg #[.int .i64 0, sv ([] : Bs), .bool false, .slice none 0 0])] ?_))))
    have hL7 : RepL gl11 (.str) [] [] := rfl
    refine Ok.ownNil 9 1 (Ok.op rfl (OpOk.alloc (z := .agg #[.int .i64 0, sv ([] : Bs), .bool false, .slice none ([] : List Bs).length 0]) (cs := #[.int .i64 0, sv ([] : Bs), .bool false, .slice none ([] : List Bs).length 0]) (by kernel_rfl) (by kernel_rfl) rfl fun bs7 => ?_))
    have hL9 : RepL gl11 (.str) [] [] := rfl
    refine Ok.ownNil 9 1 (Ok.op rfl (OpOk.sto (k := 4) (v := .agg #[.int .i64 0, sv ([] : Bs), .bool false, .slice none ([] : List Bs).length 0]) 1 #[.int .i64 0, sv ([] : Bs), .bool false, .slice none ([] : List Bs).length 0] rfl rfl rfl ?_))
    refine Ok.nil (Ok.thenN (Ok.seq (Ok.region (Ok.bat 1 [3, 4, 6, 20, 21, 22] [(7, pv bs7 0), (28, pv bs6 1)] ?_))))
    refine Ok.op rfl (OpOk.step (v := sv e5.2.1) (Yields.load 3 rfl rfl Tryz.underlying9 rfl (by kernel_rfl)) rfl rfl (Ok.op rfl (OpOk.callH [] _ enr rfl (radr_c e5.2.1 hG0) rfl fun g10 _ _ hx10 hV10 => ?_)))
    obtain ⟨a10_0, c10_0, rfl, hR10_0, rfl⟩ := hV10
    replace hLyown1_0l11 := hLyown1_0l11.mono hx10.1
    replace hLyown2_0l11 := hLyown2_0l11.mono hx10.1
    replace hRxops_0 := hRxops_0.mono hx10.1
    replace hL9 := hL9.mono hx10.1
    replace hL7 := hL7.mono hx10.1
    replace hG0 := hG0.mono hx10.1
    replace hG1 := hG1.mono hx10.1
    refine Ok.bat 3 [3, 4, 6, 7, 20, 21, 22] [(31, .agg #[sv ((parS e5.2.1).1.1), sv ((parS e5.2.1).1.2.1), .int .i64 (parS e5.2.1).1.2.2.1, .slice a10_0 (parS e5.2.1).1.2.2.2.1.length c10_0, sv ((parS e5.2.1).1.2.2.2.2.1), .bool (parS e5.2.1).1.2.2.2.2.2.1, sv ((parS e5.2.1).1.2.2.2.2.2.2.1), .bool (parS e5.2.1).1.2.2.2.2.2.2.2]), (32, .int .i64 (parS e5.2.1).2)] ?_
    refine Ok.op rfl (OpOk.alloc (z := .agg #[sv ([] : Bs), sv ([] : Bs), .int .i64 0, .slice none 0 0, sv ([] : Bs), .bool false, sv ([] : Bs), .bool false]) (cs := #[sv ([] : Bs), sv ([] : Bs), .int .i64 0, .slice none 0 0, sv ([] : Bs), .bool false, sv ([] : Bs), .bool false]) (by kernel_rfl) (by kernel_rfl) rfl fun bs8 => ?_)
    refine Ok.op rfl (OpOk.sto (k := 8) (v := .agg #[sv ((parS e5.2.1).1.1), sv ((parS e5.2.1).1.2.1), .int .i64 (parS e5.2.1).1.2.2.1, .slice a10_0 (parS e5.2.1).1.2.2.2.1.length c10_0, sv ((parS e5.2.1).1.2.2.2.2.1), .bool (parS e5.2.1).1.2.2.2.2.2.1, sv ((parS e5.2.1).1.2.2.2.2.2.2.1), .bool (parS e5.2.1).1.2.2.2.2.2.2.2]) 0 #[sv ((parS e5.2.1).1.1), sv ((parS e5.2.1).1.2.1), .int .i64 (parS e5.2.1).1.2.2.1, .slice a10_0 (parS e5.2.1).1.2.2.2.1.length c10_0, sv ((parS e5.2.1).1.2.2.2.2.1), .bool (parS e5.2.1).1.2.2.2.2.2.1, sv ((parS e5.2.1).1.2.2.2.2.2.2.1), .bool (parS e5.2.1).1.2.2.2.2.2.2.2] rfl rfl rfl ?_)
    refine Ok.bat 1 [3, 4, 6, 7, 20, 21, 22] [(8, pv bs8 0), (9, .int .i64 (parS e5.2.1).2)] ?_
    refine Ok.nil (Ok.thenN (Ok.seq (Ok.region (Ok.op rfl (OpOk.step (v := .agg #[sv ((parS e5.2.1).1.1), sv ((parS e5.2.1).1.2.1), .int .i64 (parS e5.2.1).1.2.2.1, .slice a10_0 (parS e5.2.1).1.2.2.2.1.length c10_0, sv ((parS e5.2.1).1.2.2.2.2.1), .bool (parS e5.2.1).1.2.2.2.2.2.1, sv ((parS e5.2.1).1.2.2.2.2.2.2.1), .bool (parS e5.2.1).1.2.2.2.2.2.2.2]) (Yields.loadAgg 0 8 #[sv ((parS e5.2.1).1.1), sv ((parS e5.2.1).1.2.1), .int .i64 (parS e5.2.1).1.2.2.1, .slice a10_0 (parS e5.2.1).1.2.2.2.1.length c10_0, sv ((parS e5.2.1).1.2.2.2.2.1), .bool (parS e5.2.1).1.2.2.2.2.2.1, sv ((parS e5.2.1).1.2.2.2.2.2.2.1), .bool (parS e5.2.1).1.2.2.2.2.2.2.2] rfl rfl Tryz.underlying46 rfl (by kernel_rfl) (by kernel_rfl) (by kernel_rfl)) rfl rfl ?_)))))
    obtain ⟨hp12, hF⟩ := hF
    refine Ok.op rfl (OpOk.callG (v := sv (oriS (parS e5.2.1).1)) enr (fun W hW => rori_c (parS e5.2.1).1 (hR10_0.mono hW.sees) (hG1.mono hW.sees) hp12) rfl ?_)
    refine Ok.op rfl (OpOk.alloc (z := sv ([] : Bs)) (cs := #[sv ([] : Bs)]) (by kernel_rfl) (by kernel_rfl) rfl fun bs10 => ?_)
    refine Ok.op rfl (OpOk.sto (k := 1) (v := sv (oriS (parS e5.2.1).1)) 0 #[sv (oriS (parS e5.2.1).1)] rfl rfl rfl ?_)
    refine Ok.nil (Ok.thenN (Ok.seq (Ok.region (Ok.bat 2 [3, 4, 6, 7, 9, 20, 21, 22] [(10, pv bs10 0), (35, .slice ayown1_0l11 yown1_0l11.length cyown1_0l11), (36, .func (.func 13) #[] #[pv bs10 0, pv bs6 0])] ?_))))
    refine Ok.op rfl (OpOk.cut (fun a W => ∃ gji28 : Ghost, Gext w0 g10 gji28 ∧ ∃ (x37ji28 : Int), StA 171 [(3, .slice ayown1_0l11 yown1_0l11.length cyown1_0l11), (4, .slice ayown2_0l11 yown2_0l11.length cyown2_0l11), (6, pv bs6 0), (7, pv bs7 0), (9, .int .i64 (parS e5.2.1).2), (10, pv bs10 0), (20, .slice axops_0 xops.length cxops_0), (21, .int .i64 (xops.length : Int)), (22, .int .i64 x22l11), (37, .int .i64 x37ji28)] a ∧ StW w0 [.blk bs10 (.cells #[sv (oriS (parS e5.2.1).1)] 9), .own (.slice none ([] : List Bs).length 0) 9 1 ([] : List Bs).length ([]), .blk bs7 (.cells #[.int .i64 0, sv ([] : Bs), .bool false, .slice none ([] : List Bs).length 0] 30), .blk bs6 (.cells #[.int .i64 e5.1, sv e5.2.1, sv e5.2.2.1, sv e5.2.2.2] 36), .own (.slice ayown2_0l11 yown2_0l11.length cyown2_0l11) 30 4 yown2_0l11.length xsyown2_0l11, .own (.slice ayown1_0l11 yown1_0l11.length cyown1_0l11) 52 3 yown1_0l11.length xsyown1_0l11] gji28 W ∧ rsaji28 e5 x22l11 yown2_0l11 yown1_0l11 (rsal11 xops K k11) x37ji28) ?_ ?_)
    ·
     refine OpOk.inline (args := #[.slice ayown1_0l11 yown1_0l11.length cyown1_0l11, .func (.func 13) #[] #[pv bs10 0, pv bs6 0]]) 19 [(0, .slice ayown1_0l11 yown1_0l11.length cyown1_0l11), (1, .func (.func 13) #[] #[pv bs10 0, pv bs6 0])] enr Tryz.func12 rfl rfl rfl rfl (Ok.seq (Ok.region (Ok.batch 1 [(0, .slice ayown1_0l11 yown1_0l11.length cyown1_0l11), (1, .func (.func 13) #[] #[pv bs10 0, pv bs6 0])] (by kernel_rfl) (Ok.nil (Ok.thenN (Ok.seq (Ok.seq (Ok.region (Ok.bat 3 [0, 1] [(7, .int .i64 (yown1_0l11.length : Int)), (8, .int .i64 0)] ?_)))))))))
     refine Ok.nil (Ok.thenN (Ok.block ?_))
     obtain ⟨k, hF⟩ := hF
     refine Ok.loop (fun k a W => ∃ gl7i37 : Ghost, Gext w0 g10 gl7i37 ∧ ∃ (x8l7i37 : Int), StA 19 [(0, .slice ayown1_0l11 yown1_0l11.length cyown1_0l11), (1, .func (.func 13) #[] #[pv bs10 0, pv bs6 0]), (7, .int .i64 (yown1_0l11.length : Int)), (8, .int .i64 x8l7i37)] a ∧ StW w0 [.blk bs10 (.cells #[sv (oriS (parS e5.2.1).1)] 9), .own (.slice none ([] : List Bs).length 0) 9 1 ([] : List Bs).length ([]), .blk bs7 (.cells #[.int .i64 0, sv ([] : Bs), .bool false, .slice none ([] : List Bs).length 0] 30), .blk bs6 (.cells #[.int .i64 e5.1, sv e5.2.1, sv e5.2.2.1, sv e5.2.2.2] 36), .own (.slice ayown2_0l11 yown2_0l11.length cyown2_0l11) 30 4 yown2_0l11.length xsyown2_0l11, .own (.slice ayown1_0l11 yown1_0l11.length cyown1_0l11) 52 3 yown1_0l11.length xsyown1_0l11] gl7i37 W ∧ rsal7x6 e5 x22l11 yown2_0l11 yown1_0l11 (rsal11 xops K k11) k x8l7i37) k ?_ ?_
     ·
      exact fun a W hA hW => ⟨g10, (Gext.refl w0 g10), 0, hA.sub (by kernel_rfl), hW.sub (.cons_cons _ (.cons _ (.cons_cons _ (.cons_cons _ (.cons _ (.cons_cons _ (.cons_cons _ (.cons_cons _ .slnil)))))))), hF⟩
     ·
      clear hF
      rintro k7x6 a W ⟨gl7i37, hxl7i37, x8l7i37, hA, hW, hF⟩
      cases k7x6 with
      | zero => exact (hF : False).elim
      | succ k7x6 =>
       refine (?_ : Ok _ _ _ _ _ _) a W hA hW
       clear hA hW
       replace hLyown1_0l11 := hLyown1_0l11.mono hxl7i37.1
       replace hL9 := hL9.mono hxl7i37.1
       replace hLyown2_0l11 := hLyown2_0l11.mono hxl7i37.1
       replace hRxops_0 := hRxops_0.mono hxl7i37.1
       replace hG0 := hG0.mono hxl7i37.1
       replace hG1 := hG1.mono hxl7i37.1
       refine Ok.seq (Ok.region (Ok.bat 1 [0, 1, 7, 8] [(9, .bool (decide (x8l7i37 < (yown1_0l11.length : Int))))] ?_))
       refine Ok.nil (Ok.thenN (Ok.seq (Ok.cond (b := decide (x8l7i37 < (yown1_0l11.length : Int))) rfl (fun hc78 => ?_) (fun hc78 => ?_))))
       ·replace hF := hF.1 hc78
        refine Ok.skip (Ok.thenN (Ok.seq (Ok.block (Ok.seq (Ok.region (Ok.bat 2 [0, 1, 7, 8] [(5, .int .i64 x8l7i37)] ?_))))))
        refine Ok.nil (Ok.thenN (Ok.seq (Ok.region (Ok.bat 3 [0, 1, 5, 7, 8] [(11, .func (.func 13) #[] #[pv bs10 0, pv bs6 0]), (12, .slice ayown1_0l11 yown1_0l11.length cyown1_0l11), (13, .int .i64 x8l7i37)] ?_))))
        obtain ⟨h080, h180, hF⟩ := hF
        have he80 := get_of (l := yown1_0l11) (default : KP) h180
        generalize hg80 : (yown1_0l11.getD (Int.toNat x8l7i37) default) = e80 at he80 hF ⊢
        refine Ok.op rfl (OpOk.indexOwn (e := .pair (.str) (.pair (.str) (.str))) (q := x8l7i37) (el := e80) 5 rfl hLyown1_0l11 rfl rfl Tryz.underlying44 (by kernel_rfl) (by kernel_rfl) h080 he80 rfl fun cs79 _ hr79 hc79 => ?_)
        obtain ⟨_, _, rfl, rfl, ⟨_, _, rfl, rfl, rfl⟩⟩ := hr79
        replace hc79 : ∀ j v, ([sv e80.1, sv e80.2.1, sv e80.2.2] : List Value)[j]? = some v → xsyown1_0l11[Int.toNat x8l7i37 * 3 + j]? = some v := hc79
        refine Ok.op rfl (OpOk.step (v := .agg #[sv e80.1, sv e80.2.1, sv e80.2.2]) (Yields.loadAggOwn 5 0 3 #[sv e80.1, sv e80.2.1, sv e80.2.2] rfl hc79 rfl Tryz.underlying52 rfl (by kernel_rfl) (by kernel_rfl) (by kernel_rfl)) rfl rfl (Ok.op rfl (OpOk.inline (args := #[.agg #[sv e80.1, sv e80.2.1, sv e80.2.2], pv bs10 0, pv bs6 0]) 16 [(0, .agg #[sv e80.1, sv e80.2.1, sv e80.2.2]), (1, pv bs10 0), (2, pv bs6 0)] enr Tryz.func13 rfl rfl rfl rfl (Ok.seq (Ok.region (Ok.op rfl (OpOk.box (v := .agg #[sv e80.1, sv e80.2.1, sv e80.2.2]) (cs := #[sv e80.1, sv e80.2.1, sv e80.2.2]) rfl (by kernel_rfl) rfl fun bs3i37i16 => ?_)))))))
        refine Ok.batch 1 [(1, pv bs10 0), (2, pv bs6 0), (3, pv bs3i37i16 0)] (by kernel_rfl) (Ok.nil (Ok.thenN (Ok.cut (fun a W => ∃ gj3i37i16 : Ghost, Gext w0 gl7i37 gj3i37i16 ∧ StA 16 [(4, .bool (rsaV59 e5 e80))] a ∧ StW w0 [.blk bs10 (.cells #[sv (oriS (parS e5.2.1).1)] 9), .own (.slice none ([] : List Bs).length 0) 9 1 ([] : List Bs).length ([]), .blk bs7 (.cells #[.int .i64 0, sv ([] : Bs), .bool false, .slice none ([] : List Bs).length 0] 30), .blk bs6 (.cells #[.int .i64 e5.1, sv e5.2.1, sv e5.2.2.1, sv e5.2.2.2] 36), .own (.slice ayown2_0l11 yown2_0l11.length cyown2_0l11) 30 4 yown2_0l11.length xsyown2_0l11, .own (.slice ayown1_0l11 yown1_0l11.length cyown1_0l11) 52 3 yown1_0l11.length xsyown1_0l11] gj3i37i16 W ∧ rsaj3i37i16 e5 x8l7i37 x22l11 yown2_0l11 yown1_0l11 (rsal11 xops K k11) e80 (rsal7x6 e5 x22l11 yown2_0l11 yown1_0l11 (rsal11 xops K k11) k7x6)) ?_ ?_)))
        ·
         refine Ok.region (Ok.bat 1 [1, 2, 3] [(5, pv bs3i37i16 0)] ?_)
         refine Ok.op rfl (OpOk.step (v := sv e80.1) (Yields.load 0 rfl rfl Tryz.underlying9 rfl (by kernel_rfl)) rfl rfl (Ok.op rfl (OpOk.step (v := sv (oriS (parS e5.2.1).1)) (Yields.load 1 rfl rfl Tryz.underlying9 rfl (by kernel_rfl)) rfl rfl (Ok.op rfl (OpOk.step (v := .bool (e80.1 == (oriS (parS e5.2.1).1))) (Yields.strCmp (f := .eql) (a := e80.1) (b := (oriS (parS e5.2.1).1)) (by kernel_rfl) (by kernel_rfl) rfl) rfl rfl (Ok.bat 1 [2, 3] [(9, .bool (e80.1 == (oriS (parS e5.2.1).1)))] ?_))))))
         refine Ok.boolAt 9 ((e80.1 == (oriS (parS e5.2.1).1))) rfl (fun hc83 => ?_) (fun hc83 => ?_)
         ·replace hF := hF.1 hc83
          refine Ok.bat 1 [2] [(9, .bool true), (10, pv bs3i37i16 1)] ?_
          refine Ok.opYes (j := 4) (d := 9) (want := true) (b := true) rfl (by kernel_rfl) (by kernel_rfl) rfl (OpOk.step (v := sv e80.2.1) (Yields.load 0 rfl rfl Tryz.underlying9 rfl (by kernel_rfl)) rfl rfl (Ok.bat 1 [9] [(11, sv e80.2.1), (12, pv bs6 2)] ?_))
          refine Ok.opYes (j := 4) (d := 9) (want := true) (b := true) rfl (by kernel_rfl) (by kernel_rfl) rfl (OpOk.step (v := sv e5.2.2.1) (Yields.load 4 rfl rfl Tryz.underlying9 rfl (by kernel_rfl)) rfl rfl (Ok.opYes (j := 4) (d := 9) (want := true) (b := true) rfl (by kernel_rfl) (by kernel_rfl) rfl (OpOk.step (v := .bool (e80.2.1 == e5.2.2.1)) (Yields.strCmp (f := .eql) (a := e80.2.1) (b := e5.2.2.1) (by kernel_rfl) (by kernel_rfl) rfl) rfl rfl (Ok.batch 2 [(4, .bool (e80.2.1 == e5.2.2.1))] (by kernel_rfl) (Ok.nil (Ok.thenN (Ok.reval 4 rfl (show (.bool (e80.2.1 == e5.2.2.1) : Value) = .bool (rsaV59 e5 e80) from congrArg (Value.bool) (mand_t hc83)) ?_)))))))
          exact fun a W hA hW => ⟨gl7i37, (Gext.refl w0 gl7i37), hA.sub (by kernel_rfl), hW.sub (.cons _ (.cons_cons _ (.cons_cons _ (.cons_cons _ (.cons_cons _ (.cons_cons _ (.cons_cons _ .slnil))))))), hF⟩
         ·replace hF := hF.2 hc83
          refine Ok.batch 7 [(4, .bool false)] (by kernel_rfl) (Ok.nil (Ok.thenN (Ok.reval 4 rfl (show (.bool false : Value) = .bool (rsaV59 e5 e80) from congrArg (Value.bool) (mand_f hc83)) ?_)))
          exact fun a W hA hW => ⟨gl7i37, (Gext.refl w0 gl7i37), hA.sub (by kernel_rfl), hW.sub (.cons _ (.cons_cons _ (.cons_cons _ (.cons_cons _ (.cons_cons _ (.cons_cons _ (.cons_cons _ .slnil))))))), hF⟩
        ·
         clear hF
         rintro a W ⟨gj3i37i16, hxj3i37i16, hA, hW, hF⟩
         refine (?_ : Ok _ _ _ _ _ _) a W hA hW
         clear hA hW
         replace hL9 := hL9.mono hxj3i37i16.1
         replace hLyown2_0l11 := hLyown2_0l11.mono hxj3i37i16.1
         replace hLyown1_0l11 := hLyown1_0l11.mono hxj3i37i16.1
         replace hRxops_0 := hRxops_0.mono hxj3i37i16.1
         replace hG0 := hG0.mono hxj3i37i16.1
         replace hG1 := hG1.mono hxj3i37i16.1
         refine Ok.ret (Ok.back (vs := [.bool (rsaV59 e5 e80)]) (.inl rfl) rfl (.cons (.tmp rfl) .nil) rfl (Ok.nil (Ok.thenN (Ok.cond (b := (rsaV59 e5 e80)) rfl (fun hc82 => ?_) (fun hc82 => ?_)))))
         ·replace hF := hF.1 hc82
          refine Ok.seq (Ok.region (Ok.batch 2 [(4, .int .i64 x8l7i37)] (by kernel_rfl) (Ok.nil (Ok.thenN (Ok.ret (Ok.blockR (Ok.thenR (Ok.thenR (Ok.blockR (Ok.thenR (Ok.back (vs := [.int .i64 x8l7i37]) (.inl rfl) rfl (.cons (.tmp rfl) .nil) rfl ?_)))))))))))
          subst hg80
          exact fun a W hA hW => ⟨gj3i37i16, (hxl7i37.trans hxj3i37i16), x8l7i37, hA.sub (by kernel_rfl), hW, hF⟩
         ·replace hF := hF.2 hc82
          refine Ok.skip (Ok.blockN (Ok.thenN (Ok.region (Ok.batch 2 [(0, .slice ayown1_0l11 yown1_0l11.length cyown1_0l11), (1, .func (.func 13) #[] #[pv bs10 0, pv bs6 0]), (7, .int .i64 (yown1_0l11.length : Int)), (8, .int .i64 (w6 (x8l7i37 + 1)))] (by kernel_rfl) (Ok.nil (Ok.thenN ?_))))))
          subst hg80
          exact fun a W hA hW => ⟨k7x6, Nat.lt_succ_self _, gj3i37i16, (hxl7i37.trans hxj3i37i16), w6 (x8l7i37 + 1), hA.sub (by kernel_rfl), hW, hF⟩
       ·replace hF := hF.2 hc78
        refine Ok.exit (Ok.thenE (Ok.thenE (Ok.blockHit (Ok.thenN (Ok.seq (Ok.region (Ok.batch 1 [(4, .int .i64 (-1))] (by kernel_rfl) (Ok.nil (Ok.thenN (Ok.ret (Ok.back (vs := [.int .i64 (-1)]) (.inl rfl) rfl (.cons (.tmp rfl) .nil) rfl ?_)))))))))))
        exact fun a W hA hW => ⟨gl7i37, hxl7i37, -1, hA.sub (by kernel_rfl), hW, hF⟩
    ·
     clear hF
     rintro a W ⟨gji28, hxji28, x37ji28, hA, hW, hF⟩
     refine (?_ : Ok _ _ _ _ _ _) a W hA hW
     clear hA hW
     replace hLyown1_0l11 := hLyown1_0l11.mono hxji28.1
     replace hLyown2_0l11 := hLyown2_0l11.mono hxji28.1
     replace hRxops_0 := hRxops_0.mono hxji28.1
     replace hL9 := hL9.mono hxji28.1
     replace hG0 := hG0.mono hxji28.1
     replace hG1 := hG1.mono hxji28.1
     refine Ok.bat 1 [3, 4, 6, 7, 9, 10, 20, 21, 22] [(11, .int .i64 x37ji28)] ?_
     refine Ok.nil (Ok.thenN (Ok.seq (Ok.region (Ok.bat 2 [3, 4, 6, 7, 9, 10, 11, 20, 21, 22] [(12, .func (.func 14) #[] #[pv bs10 0])] ?_))))
     refine Ok.nil (Ok.thenN (Ok.cut (fun a W => ∃ gj32 : Ghost, Gext w0 gji28 gj32 ∧ ∃ (ayown9_0j32 : Option Addr) (cyown9_0j32 : Nat) (yown9_0j32 : List Bs) (xsyown9_0j32 : List Value) (ybs7_0j32 : Int) (ybs7_1j32 : Bs) (ybs7_2j32 : Bool) (ayown1_0j32 : Option Addr) (cyown1_0j32 : Nat) (yown1_0j32 : List (KP)) (xsyown1_0j32 : List Value), RepL gj32 (.str) xsyown9_0j32 yown9_0j32 ∧ RepL gj32 (.pair (.str) (.pair (.str) (.str))) xsyown1_0j32 yown1_0j32 ∧ StA 171 [(3, .slice ayown1_0j32 yown1_0j32.length cyown1_0j32), (4, .slice ayown2_0l11 yown2_0l11.length cyown2_0l11), (7, pv bs7 0), (20, .slice axops_0 xops.length cxops_0), (21, .int .i64 (xops.length : Int)), (22, .int .i64 x22l11)] a ∧ StW w0 [.own (.slice ayown9_0j32 yown9_0j32.length cyown9_0j32) 9 1 yown9_0j32.length xsyown9_0j32, .blk bs7 (.cells #[.int .i64 ybs7_0j32, sv ybs7_1j32, .bool ybs7_2j32, .slice ayown9_0j32 yown9_0j32.length cyown9_0j32] 30), .own (.slice ayown2_0l11 yown2_0l11.length cyown2_0l11) 30 4 yown2_0l11.length xsyown2_0l11, .own (.slice ayown1_0j32 yown1_0j32.length cyown1_0j32) 52 3 yown1_0j32.length xsyown1_0j32] gj32 W ∧ rsaj32 yown9_0j32 ybs7_0j32 ybs7_1j32 ybs7_2j32 yown1_0j32 x22l11 yown2_0l11 (rsal11 xops K k11)) ?_ ?_))
     ·
      refine Ok.block (Ok.seq (Ok.region (Ok.bat 3 [3, 4, 6, 7, 9, 10, 11, 12, 20, 21, 22] [(118, .bool ((parS e5.2.1).2 != 0))] ?_)))
      refine Ok.nil (Ok.thenN (Ok.cond (b := ((parS e5.2.1).2 != 0)) rfl (fun hc17 => ?_) (fun hc17 => ?_)))
      ·replace hF := hF.1 hc17
       refine Ok.region (Ok.bat 2 [3, 4, 7, 20, 21, 22] [(121, .int .i64 (parS e5.2.1).2), (122, pv bs7 0)] ?_)
       refine Ok.op rfl (OpOk.sto (k := 1) (v := .int .i64 (parS e5.2.1).2) 2 #[.int .i64 (parS e5.2.1).2, sv ([] : Bs), .bool false, .slice none ([] : List Bs).length 0] rfl rfl rfl ?_)
       refine Ok.nil (Ok.blockN (Ok.thenN ?_))
       exact fun a W hA hW => ⟨gji28, (Gext.refl w0 gji28), none, 0, ([] : List Bs), [], (parS e5.2.1).2, ([] : Bs), false, ayown1_0l11, cyown1_0l11, yown1_0l11, xsyown1_0l11, hL9, hLyown1_0l11, hA.sub (by kernel_rfl), hW.sub (.cons _ (.cons_cons _ (.cons_cons _ (.cons _ (.cons_cons _ (.cons_cons _ .slnil)))))), hF⟩
      ·replace hF := hF.2 hc17
       refine Ok.seq (Ok.region (Ok.bat 1 [3, 4, 6, 7, 10, 11, 12, 20, 21, 22] [(124, pv bs6 0)] ?_))
       refine Ok.op rfl (OpOk.step (v := .int .i64 e5.1) (Yields.load 3 rfl rfl Tryz.underlying3 rfl (by kernel_rfl)) rfl rfl (Ok.op rfl (OpOk.callG (v := .bool (rbtM e5.1 1 5)) enr (fun W hW => rbt_c e5.1 1 5) rfl ?_)))
       refine Ok.bat 2 [3, 4, 6, 7, 10, 11, 12, 20, 21, 22] [(123, .bool (!(rbtM e5.1 1 5)))] ?_
       refine Ok.nil (Ok.thenN (Ok.cond (b := !(rbtM e5.1 1 5)) rfl (fun hc18 => ?_) (fun hc18 => ?_)))
       ·replace hF := hF.1 hc18
        refine Ok.region (Ok.bat 1 [3, 4, 7, 20, 21, 22] [(128, pv bs7 0)] ?_)
        refine Ok.op rfl (OpOk.sto (k := 1) (v := .int .i64 1) 2 #[.int .i64 1, sv ([] : Bs), .bool false, .slice none ([] : List Bs).length 0] rfl rfl rfl ?_)
        refine Ok.nil (Ok.blockN (Ok.thenN ?_))
        exact fun a W hA hW => ⟨gji28, (Gext.refl w0 gji28), none, 0, ([] : List Bs), [], 1, ([] : Bs), false, ayown1_0l11, cyown1_0l11, yown1_0l11, xsyown1_0l11, hL9, hLyown1_0l11, hA.sub (by kernel_rfl), hW.sub (.cons _ (.cons_cons _ (.cons_cons _ (.cons _ (.cons_cons _ (.cons_cons _ .slnil)))))), hF⟩
       ·replace hF := hF.2 hc18
        refine Ok.seq (Ok.region (Ok.bat 1 [3, 4, 6, 7, 10, 11, 12, 20, 21, 22] [(130, pv bs6 0)] ?_))
        refine Ok.op rfl (OpOk.step (v := .int .i64 e5.1) (Yields.load 3 rfl rfl Tryz.underlying3 rfl (by kernel_rfl)) rfl rfl (Ok.bat 2 [3, 4, 6, 7, 10, 11, 12, 20, 21, 22] [(129, .bool (e5.1 == 5))] ?_))
        refine Ok.nil (Ok.thenN (Ok.cond (b := (e5.1 == 5)) rfl (fun hc19 => ?_) (fun hc19 => ?_)))
        ·replace hF := hF.1 hc19
         refine Ok.seq (Ok.region (Ok.bat 3 [3, 4, 7, 12, 20, 21, 22] [(133, .slice ayown1_0l11 yown1_0l11.length cyown1_0l11), (134, .int .i64 (yown1_0l11.length : Int)), (135, .int .i64 0)] ?_))
         refine Ok.nil (Ok.thenN (Ok.block ?_))
         obtain ⟨k, hF⟩ := hF
         refine Ok.loop (fun k a W => ∃ gl48 : Ghost, Gext w0 gji28 gl48 ∧ ∃ (x135l48 : Int) (ayown9_0l48 : Option Addr) (cyown9_0l48 : Nat) (yown9_0l48 : List Bs) (xsyown9_0l48 : List Value), RepL gl48 (.str) xsyown9_0l48 yown9_0l48 ∧ StA 171 [(3, .slice ayown1_0l11 yown1_0l11.length cyown1_0l11), (4, .slice ayown2_0l11 yown2_0l11.length cyown2_0l11), (7, pv bs7 0), (12, .func (.func 14) #[] #[pv bs10 0]), (20, .slice axops_0 xops.length cxops_0), (21, .int .i64 (xops.length : Int)), (22, .int .i64 x22l11), (133, .slice ayown1_0l11 yown1_0l11.length cyown1_0l11), (134, .int .i64 (yown1_0l11.length : Int)), (135, .int .i64 x135l48)] a ∧ StW w0 [.blk bs10 (.cells #[sv (oriS (parS e5.2.1).1)] 9), .own (.slice ayown9_0l48 yown9_0l48.length cyown9_0l48) 9 1 yown9_0l48.length xsyown9_0l48, .blk bs7 (.cells #[.int .i64 0, sv ([] : Bs), .bool false, .slice ayown9_0l48 yown9_0l48.length cyown9_0l48] 30), .own (.slice ayown2_0l11 yown2_0l11.length cyown2_0l11) 30 4 yown2_0l11.length xsyown2_0l11, .own (.slice ayown1_0l11 yown1_0l11.length cyown1_0l11) 52 3 yown1_0l11.length xsyown1_0l11] gl48 W ∧ rsal48 e5 x22l11 yown2_0l11 yown1_0l11 (rsal11 xops K k11) k x135l48 yown9_0l48) k ?_ ?_
         ·
          exact fun a W hA hW => ⟨gji28, (Gext.refl w0 gji28), 0, none, 0, ([] : List Bs), [], hL9, hA.sub (by kernel_rfl), hW.sub (.cons_cons _ (.cons_cons _ (.cons_cons _ (.cons _ (.cons_cons _ (.cons_cons _ .slnil)))))), hF⟩
         ·
          clear hF
          rintro k48 a W ⟨gl48, hxl48, x135l48, ayown9_0l48, cyown9_0l48, yown9_0l48, xsyown9_0l48, hLyown9_0l48, hA, hW, hF⟩
          cases k48 with
          | zero => exact (hF : False).elim
          | succ k48 =>
           refine (?_ : Ok _ _ _ _ _ _) a W hA hW
           clear hA hW
           replace hLyown1_0l11 := hLyown1_0l11.mono hxl48.1
           replace hLyown2_0l11 := hLyown2_0l11.mono hxl48.1
           replace hRxops_0 := hRxops_0.mono hxl48.1
           replace hG0 := hG0.mono hxl48.1
           replace hG1 := hG1.mono hxl48.1
           refine Ok.seq (Ok.region (Ok.bat 1 [3, 4, 7, 12, 20, 21, 22, 133, 134, 135] [(136, .bool (decide (x135l48 < (yown1_0l11.length : Int))))] ?_))
           refine Ok.nil (Ok.thenN (Ok.seq (Ok.cond (b := decide (x135l48 < (yown1_0l11.length : Int))) rfl (fun hc20 => ?_) (fun hc20 => ?_))))
           ·replace hF := hF.1 hc20
            refine Ok.skip (Ok.thenN (Ok.cut (fun a W => ∃ gj55 : Ghost, Gext w0 gl48 gj55 ∧ ∃ (ayown9_0j55 : Option Addr) (cyown9_0j55 : Nat) (xsyown9_0j55 : List Value), RepL gj55 (.str) xsyown9_0j55 (rsaV43 e5 x135l48 yown9_0l48 yown1_0l11) ∧ StA 171 [(3, .slice ayown1_0l11 yown1_0l11.length cyown1_0l11), (4, .slice ayown2_0l11 yown2_0l11.length cyown2_0l11), (7, pv bs7 0), (12, .func (.func 14) #[] #[pv bs10 0]), (20, .slice axops_0 xops.length cxops_0), (21, .int .i64 (xops.length : Int)), (22, .int .i64 x22l11), (133, .slice ayown1_0l11 yown1_0l11.length cyown1_0l11), (134, .int .i64 (yown1_0l11.length : Int)), (135, .int .i64 x135l48)] a ∧ StW w0 [.blk bs10 (.cells #[sv (oriS (parS e5.2.1).1)] 9), .own (.slice ayown9_0j55 (rsaV43 e5 x135l48 yown9_0l48 yown1_0l11).length cyown9_0j55) 9 1 (rsaV43 e5 x135l48 yown9_0l48 yown1_0l11).length xsyown9_0j55, .blk bs7 (.cells #[.int .i64 0, sv ([] : Bs), .bool false, .slice ayown9_0j55 (rsaV43 e5 x135l48 yown9_0l48 yown1_0l11).length cyown9_0j55] 30), .own (.slice ayown2_0l11 yown2_0l11.length cyown2_0l11) 30 4 yown2_0l11.length xsyown2_0l11, .own (.slice ayown1_0l11 yown1_0l11.length cyown1_0l11) 52 3 yown1_0l11.length xsyown1_0l11] gj55 W ∧ rsaj55 e5 x135l48 yown9_0l48 yown1_0l11 (rsal48 e5 x22l11 yown2_0l11 yown1_0l11 (rsal11 xops K k11) k48)) ?_ ?_))
            ·
             refine Ok.block (Ok.seq (Ok.region ?_))
             obtain ⟨h022, h122, hF⟩ := hF
             have he22 := get_of (l := yown1_0l11) (default : KP) h122
             generalize hg22 : (yown1_0l11.getD (Int.toNat x135l48) default) = e22 at he22 hF ⊢
             refine Ok.op rfl (OpOk.indexOwn (e := .pair (.str) (.pair (.str) (.str))) (q := x135l48) (el := e22) 4 rfl hLyown1_0l11 rfl rfl Tryz.underlying44 (by kernel_rfl) (by kernel_rfl) h022 he22 rfl fun cs21 _ hr21 hc21 => ?_)
             obtain ⟨_, _, rfl, rfl, ⟨_, _, rfl, rfl, rfl⟩⟩ := hr21
             replace hc21 : ∀ j v, ([sv e22.1, sv e22.2.1, sv e22.2.2] : List Value)[j]? = some v → xsyown1_0l11[Int.toNat x135l48 * 3 + j]? = some v := hc21
             refine Ok.op rfl (OpOk.step (v := .agg #[sv e22.1, sv e22.2.1, sv e22.2.2]) (Yields.loadAggOwn 4 0 3 #[sv e22.1, sv e22.2.1, sv e22.2.2] rfl hc21 rfl Tryz.underlying52 rfl (by kernel_rfl) (by kernel_rfl) (by kernel_rfl)) rfl rfl (Ok.op rfl (OpOk.alloc (z := .agg #[sv ([] : Bs), sv ([] : Bs), sv ([] : Bs)]) (cs := #[sv ([] : Bs), sv ([] : Bs), sv ([] : Bs)]) (by kernel_rfl) (by kernel_rfl) rfl fun bs14 => ?_)))
             refine Ok.op rfl (OpOk.sto (k := 3) (v := .agg #[sv e22.1, sv e22.2.1, sv e22.2.2]) 0 #[sv e22.1, sv e22.2.1, sv e22.2.2] rfl rfl rfl ?_)
             refine Ok.nil (Ok.thenN (Ok.seq (Ok.region (Ok.bat 1 [3, 4, 7, 12, 20, 21, 22, 133, 134, 135] [(14, pv bs14 0), (139, .func (.func 14) #[] #[pv bs10 0])] ?_))))
             refine Ok.op rfl (OpOk.step (v := .agg #[sv e22.1, sv e22.2.1, sv e22.2.2]) (Yields.loadAgg 0 3 #[sv e22.1, sv e22.2.1, sv e22.2.2] rfl rfl Tryz.underlying52 rfl (by kernel_rfl) (by kernel_rfl) (by kernel_rfl)) rfl rfl (Ok.op rfl (OpOk.inline (args := #[.agg #[sv e22.1, sv e22.2.1, sv e22.2.2], pv bs10 0]) 8 [(0, .agg #[sv e22.1, sv e22.2.1, sv e22.2.2]), (1, pv bs10 0)] enr Tryz.func14 rfl rfl rfl rfl (Ok.seq (Ok.region (Ok.op rfl (OpOk.box (v := .agg #[sv e22.1, sv e22.2.1, sv e22.2.2]) (cs := #[sv e22.1, sv e22.2.1, sv e22.2.2]) rfl (by kernel_rfl) rfl fun bs2i141 => ?_)))))))
             refine Ok.batch 1 [(1, pv bs10 0), (2, pv bs2i141 0)] (by kernel_rfl) (Ok.nil (Ok.thenN (Ok.seq (Ok.region (Ok.bat 1 [1] [(4, pv bs2i141 0)] ?_)))))
             refine Ok.op rfl (OpOk.step (v := sv e22.1) (Yields.load 0 rfl rfl Tryz.underlying9 rfl (by kernel_rfl)) rfl rfl (Ok.op rfl (OpOk.step (v := sv (oriS (parS e5.2.1).1)) (Yields.load 2 rfl rfl Tryz.underlying9 rfl (by kernel_rfl)) rfl rfl (Ok.op rfl (OpOk.step (v := .bool (e22.1 == (oriS (parS e5.2.1).1))) (Yields.strCmp (f := .eql) (a := e22.1) (b := (oriS (parS e5.2.1).1)) (by kernel_rfl) (by kernel_rfl) rfl) rfl rfl (Ok.batch 1 [(3, .bool (e22.1 == (oriS (parS e5.2.1).1)))] (by kernel_rfl) (Ok.nil (Ok.thenN (Ok.ret (Ok.back (vs := [.bool (e22.1 == (oriS (parS e5.2.1).1))]) (.inl rfl) rfl (.cons (.tmp rfl) .nil) rfl (Ok.nil (Ok.thenN (Ok.cond (b := (e22.1 == (oriS (parS e5.2.1).1))) rfl (fun hc25 => ?_) (fun hc25 => ?_))))))))))))))
             ·replace hF := hF.1 hc25
              refine Ok.region (Ok.batch 1 [(3, .slice ayown1_0l11 yown1_0l11.length cyown1_0l11), (4, .slice ayown2_0l11 yown2_0l11.length cyown2_0l11), (7, pv bs7 0), (12, .func (.func 14) #[] #[pv bs10 0]), (14, pv bs14 0), (20, .slice axops_0 xops.length cxops_0), (21, .int .i64 (xops.length : Int)), (22, .int .i64 x22l11), (133, .slice ayown1_0l11 yown1_0l11.length cyown1_0l11), (134, .int .i64 (yown1_0l11.length : Int)), (135, .int .i64 x135l48), (142, pv bs7 3)] (by kernel_rfl) (Ok.op rfl (OpOk.step (v := .slice ayown9_0l48 yown9_0l48.length cyown9_0l48) (Yields.load 4 rfl rfl Tryz.underlying28 rfl (by kernel_rfl)) rfl rfl (Ok.bat 1 [3, 4, 7, 12, 20, 21, 22, 133, 134, 135] [(143, .slice ayown9_0l48 yown9_0l48.length cyown9_0l48), (144, pv bs14 1)] ?_))))
              refine Ok.op rfl (OpOk.step (v := sv e22.2.1) (Yields.load 1 rfl rfl Tryz.underlying9 rfl (by kernel_rfl)) rfl rfl ?_)
              have hL26 : RepL gl48 (.str) ([sv e22.2.1] : List Value) ([e22.2.1] : List Bs) := (RepL.consN (c := [sv e22.2.1]) rfl rfl)
              refine Ok.op rfl (OpOk.lit (E := 9) (.str) ([e22.2.1] : List Bs) ([sv e22.2.1] : List Value) (by kernel_rfl) (by kernel_rfl) rfl (by kernel_rfl) hL26 rfl fun b26 => ?_)
              obtain ⟨hb27, hF⟩ := hF
              refine Ok.op rfl (OpOk.append' (e := .str) 16 8796093022208 4 0 rfl rfl rfl rfl hLyown9_0l48 hL26 Tryz.underlying28 (by kernel_rfl) (by kernel_rfl) (by kernel_rfl) hb27 rfl fun a27 c27 xs27 hL27 => ?_)
              refine Ok.bat 1 [3, 4, 7, 12, 20, 21, 22, 133, 134, 135] [(147, .slice a27 (yown9_0l48 ++ ([e22.2.1] : List Bs)).length c27), (148, pv bs7 3)] ?_
              refine Ok.op rfl (OpOk.sto (k := 1) (v := .slice a27 (yown9_0l48 ++ ([e22.2.1] : List Bs)).length c27) 5 #[.int .i64 0, sv ([] : Bs), .bool false, .slice a27 (yown9_0l48 ++ ([e22.2.1] : List Bs)).length c27] rfl rfl rfl ?_)
              refine Ok.nil (Ok.blockN (Ok.thenN ?_))
              subst hg22
              refine Ok.heapEq (H' := [.own (.slice (some ⟨b26, 0, none⟩) ([(yown1_0l11.getD (Int.toNat x135l48) default).2.1] : List Bs).length 1) 9 1 ([(yown1_0l11.getD (Int.toNat x135l48) default).2.1] : List Bs).length ([sv ((yown1_0l11.getD (Int.toNat x135l48) default).2.1)] : List Value), .blk bs2i141 (.cells #[sv ((yown1_0l11.getD (Int.toNat x135l48) default).1), sv ((yown1_0l11.getD (Int.toNat x135l48) default).2.1), sv ((yown1_0l11.getD (Int.toNat x135l48) default).2.2)] 52), .blk bs14 (.cells #[sv ((yown1_0l11.getD (Int.toNat x135l48) default).1), sv ((yown1_0l11.getD (Int.toNat x135l48) default).2.1), sv ((yown1_0l11.getD (Int.toNat x135l48) default).2.2)] 52), .blk bs10 (.cells #[sv (oriS (parS e5.2.1).1)] 9), .own (.slice a27 (rsaV43 e5 x135l48 yown9_0l48 yown1_0l11).length c27) 9 1 (rsaV43 e5 x135l48 yown9_0l48 yown1_0l11).length xs27, .blk bs7 (.cells #[.int .i64 0, sv ([] : Bs), .bool false, .slice a27 (rsaV43 e5 x135l48 yown9_0l48 yown1_0l11).length c27] 30), .own (.slice ayown2_0l11 yown2_0l11.length cyown2_0l11) 30 4 yown2_0l11.length xsyown2_0l11, .own (.slice ayown1_0l11 yown1_0l11.length cyown1_0l11) 52 3 yown1_0l11.length xsyown1_0l11]) (econs (rfl) (econs (rfl) (econs (rfl) (econs (rfl) (econs (congrArg (fun l : List Bs => Ent.own (.slice a27 l.length c27) 9 1 l.length xs27) ((if_t hc25).symm)) (econs (congrArg (fun l : List Value => Ent.blk bs7 (.cells ⟨l⟩ 30)) (lcons (rfl) (lcons (rfl) (lcons (rfl) (lcons (congrArg (fun l : List Bs => Value.slice a27 l.length c27) ((if_t hc25).symm)) rfl))))) (econs (rfl) (econs (rfl) rfl)))))))) ?_
              exact fun a W hA hW => ⟨gl48, (Gext.refl w0 gl48), a27, c27, xs27, (Eq.mp (congrArg (fun l : List Bs => RepL gl48 (.str) xs27 l) ((if_t hc25).symm)) hL27), hA.sub (by kernel_rfl), hW.sub (.cons _ (.cons _ (.cons _ (.cons_cons _ (.cons_cons _ (.cons_cons _ (.cons_cons _ (.cons_cons _ .slnil)))))))), hF⟩
             ·replace hF := hF.2 hc25
              refine Ok.skip (Ok.blockN (Ok.thenN ?_))
              subst hg22
              refine Ok.heapEq (H' := [.blk bs2i141 (.cells #[sv ((yown1_0l11.getD (Int.toNat x135l48) default).1), sv ((yown1_0l11.getD (Int.toNat x135l48) default).2.1), sv ((yown1_0l11.getD (Int.toNat x135l48) default).2.2)] 52), .blk bs14 (.cells #[sv ((yown1_0l11.getD (Int.toNat x135l48) default).1), sv ((yown1_0l11.getD (Int.toNat x135l48) default).2.1), sv ((yown1_0l11.getD (Int.toNat x135l48) default).2.2)] 52), .blk bs10 (.cells #[sv (oriS (parS e5.2.1).1)] 9), .own (.slice ayown9_0l48 (rsaV43 e5 x135l48 yown9_0l48 yown1_0l11).length cyown9_0l48) 9 1 (rsaV43 e5 x135l48 yown9_0l48 yown1_0l11).length xsyown9_0l48, .blk bs7 (.cells #[.int .i64 0, sv ([] : Bs), .bool false, .slice ayown9_0l48 (rsaV43 e5 x135l48 yown9_0l48 yown1_0l11).length cyown9_0l48] 30), .own (.slice ayown2_0l11 yown2_0l11.length cyown2_0l11) 30 4 yown2_0l11.length xsyown2_0l11, .own (.slice ayown1_0l11 yown1_0l11.length cyown1_0l11) 52 3 yown1_0l11.length xsyown1_0l11]) (econs (rfl) (econs (rfl) (econs (rfl) (econs (congrArg (fun l : List Bs => Ent.own (.slice ayown9_0l48 l.length cyown9_0l48) 9 1 l.length xsyown9_0l48) ((if_f hc25).symm)) (econs (congrArg (fun l : List Value => Ent.blk bs7 (.cells ⟨l⟩ 30)) (lcons (rfl) (lcons (rfl) (lcons (rfl) (lcons (congrArg (fun l : List Bs => Value.slice ayown9_0l48 l.length cyown9_0l48) ((if_f hc25).symm)) rfl))))) (econs (rfl) (econs (rfl) rfl))))))) ?_
              exact fun a W hA hW => ⟨gl48, (Gext.refl w0 gl48), ayown9_0l48, cyown9_0l48, xsyown9_0l48, (Eq.mp (congrArg (fun l : List Bs => RepL gl48 (.str) xsyown9_0l48 l) ((if_f hc25).symm)) hLyown9_0l48), hA.sub (by kernel_rfl), hW.sub (.cons _ (.cons _ (.cons_cons _ (.cons_cons _ (.cons_cons _ (.cons_cons _ (.cons_cons _ .slnil))))))), hF⟩
            ·
             clear hF
             rintro a W ⟨gj55, hxj55, ayown9_0j55, cyown9_0j55, xsyown9_0j55, hLyown9_0j55, hA, hW, hF⟩
             refine (?_ : Ok _ _ _ _ _ _) a W hA hW
             clear hA hW
             replace hLyown1_0l11 := hLyown1_0l11.mono hxj55.1
             replace hLyown2_0l11 := hLyown2_0l11.mono hxj55.1
             replace hRxops_0 := hRxops_0.mono hxj55.1
             replace hG0 := hG0.mono hxj55.1
             replace hG1 := hG1.mono hxj55.1
             refine Ok.region (Ok.bat 2 [3, 4, 7, 12, 20, 21, 22, 133, 134] [(135, .int .i64 (w6 (x135l48 + 1)))] ?_)
             refine Ok.nil (Ok.thenN ?_)
             exact fun a W hA hW => ⟨k48, Nat.lt_succ_self _, gj55, (hxl48.trans hxj55), w6 (x135l48 + 1), ayown9_0j55, cyown9_0j55, (rsaV43 e5 x135l48 yown9_0l48 yown1_0l11), xsyown9_0j55, hLyown9_0j55, hA.sub (by kernel_rfl), hW, hF⟩
           ·replace hF := hF.2 hc20
            refine Ok.exit (Ok.thenE (Ok.thenE (Ok.blockHit (Ok.blockN (Ok.thenN ?_)))))
            exact fun a W hA hW => ⟨gl48, hxl48, ayown9_0l48, cyown9_0l48, yown9_0l48, xsyown9_0l48, 0, ([] : Bs), false, ayown1_0l11, cyown1_0l11, yown1_0l11, xsyown1_0l11, hLyown9_0l48, hLyown1_0l11, hA.sub (by kernel_rfl), hW.sub (.cons _ (.cons_cons _ (.cons_cons _ (.cons_cons _ (.cons_cons _ .slnil))))), hF⟩
        ·replace hF := hF.2 hc19
         refine Ok.seq (Ok.region (Ok.bat 1 [3, 4, 6, 7, 10, 11, 12, 20, 21, 22] [(151, pv bs6 0)] ?_))
         refine Ok.op rfl (OpOk.step (v := .int .i64 e5.1) (Yields.load 3 rfl rfl Tryz.underlying3 rfl (by kernel_rfl)) rfl rfl (Ok.bat 2 [3, 4, 6, 7, 10, 11, 12, 20, 21, 22] [(150, .bool (e5.1 == 4))] ?_))
         refine Ok.nil (Ok.thenN (Ok.cond (b := (e5.1 == 4)) rfl (fun hc28 => ?_) (fun hc28 => ?_)))
         ·replace hF := hF.1 hc28
          refine Ok.seq (Ok.region (Ok.bat 3 [3, 4, 7, 12, 20, 21, 22] [(15, .int .i64 (yown1_0l11.length : Int))] ?_))
          refine Ok.nil (Ok.thenN (Ok.seq (Ok.region (Ok.bat 1 [4, 7, 12, 15, 20, 21, 22] [(156, .slice ayown1_0l11 yown1_0l11.length cyown1_0l11)] ?_))))
          obtain ⟨hp29, hF⟩ := hF
          refine Ok.op rfl (OpOk.callSee enr (fun W hW => kcl_c yown1_0l11 (hW.seeOwn 5 rfl hLyown1_0l11) hp29) rfl fun g30 _ _ _ hx30 hV30 => ?_)
          obtain ⟨a30_0, c30_0, xs30_0, rfl, hL30_0, rfl⟩ := hV30
          replace hL30_0 := RepL.any (g' := g30) rfl hL30_0
          replace hLyown2_0l11 := hLyown2_0l11.mono hx30.1
          replace hRxops_0 := hRxops_0.mono hx30.1
          replace hLyown1_0l11 := hLyown1_0l11.mono hx30.1
          replace hL9 := hL9.mono hx30.1
          replace hG0 := hG0.mono hx30.1
          replace hG1 := hG1.mono hx30.1
          refine Ok.bat 1 [4, 7, 15, 20, 21, 22] [(157, .slice a30_0 (kclS yown1_0l11).length c30_0), (158, .func (.func 14) #[] #[pv bs10 0])] ?_
          refine Ok.op rfl (OpOk.cut (fun a W => ∃ gji34 : Ghost, Gext w0 g30 gji34 ∧ ∃ (ayown30_0_0ji34 : Option Addr) (cyown30_0_0ji34 : Nat) (yown30_0_0ji34 : List (KP)) (xsyown30_0_0ji34 : List Value), RepL gji34 (.pair (.str) (.pair (.str) (.str))) xsyown30_0_0ji34 yown30_0_0ji34 ∧ StA 171 [(4, .slice ayown2_0l11 yown2_0l11.length cyown2_0l11), (7, pv bs7 0), (15, .int .i64 (yown1_0l11.length : Int)), (20, .slice axops_0 xops.length cxops_0), (21, .int .i64 (xops.length : Int)), (22, .int .i64 x22l11), (159, .slice ayown30_0_0ji34 yown30_0_0ji34.length cyown30_0_0ji34)] a ∧ StW w0 [.own (.slice ayown30_0_0ji34 yown30_0_0ji34.length cyown30_0_0ji34) 52 3 yown30_0_0ji34.length xsyown30_0_0ji34, .own (.slice none ([] : List Bs).length 0) 9 1 ([] : List Bs).length ([]), .blk bs7 (.cells #[.int .i64 0, sv ([] : Bs), .bool false, .slice none ([] : List Bs).length 0] 30), .own (.slice ayown2_0l11 yown2_0l11.length cyown2_0l11) 30 4 yown2_0l11.length xsyown2_0l11] gji34 W ∧ rsaji34 x22l11 yown2_0l11 yown1_0l11 (rsal11 xops K k11) yown30_0_0ji34) ?_ ?_)
          ·
           refine OpOk.inline (args := #[.slice a30_0 (kclS yown1_0l11).length c30_0, .func (.func 14) #[] #[pv bs10 0]]) 42 [(0, .slice a30_0 (kclS yown1_0l11).length c30_0), (1, .func (.func 14) #[] #[pv bs10 0])] enr Tryz.func16 rfl rfl rfl rfl (Ok.seq (Ok.region (Ok.batch 1 [(0, .slice a30_0 (kclS yown1_0l11).length c30_0), (1, .func (.func 14) #[] #[pv bs10 0])] (by kernel_rfl) (Ok.nil (Ok.thenN (Ok.seq (Ok.region (Ok.bat 2 [0, 1] [(8, .slice a30_0 (kclS yown1_0l11).length c30_0), (9, .func (.func 14) #[] #[pv bs10 0])] ?_))))))))
           refine Ok.op rfl (OpOk.cut (fun a W => ∃ gji36 : Ghost, Gext w0 g30 gji36 ∧ ∃ (x10ji36 : Int), StA 42 [(0, .slice a30_0 (kclS yown1_0l11).length c30_0), (1, .func (.func 14) #[] #[pv bs10 0]), (10, .int .i64 x10ji36)] a ∧ StW w0 [.own (.slice a30_0 (kclS yown1_0l11).length c30_0) 52 3 (kclS yown1_0l11).length xs30_0, .blk bs10 (.cells #[sv (oriS (parS e5.2.1).1)] 9), .own (.slice none ([] : List Bs).length 0) 9 1 ([] : List Bs).length ([]), .blk bs7 (.cells #[.int .i64 0, sv ([] : Bs), .bool false, .slice none ([] : List Bs).length 0] 30), .own (.slice ayown2_0l11 yown2_0l11.length cyown2_0l11) 30 4 yown2_0l11.length xsyown2_0l11] gji36 W ∧ rsaji36 e5 x22l11 yown2_0l11 yown1_0l11 (rsal11 xops K k11) x10ji36) ?_ ?_)
           ·
            refine OpOk.inline (args := #[.slice a30_0 (kclS yown1_0l11).length c30_0, .func (.func 14) #[] #[pv bs10 0]]) 19 [(0, .slice a30_0 (kclS yown1_0l11).length c30_0), (1, .func (.func 14) #[] #[pv bs10 0])] enr Tryz.func12 rfl rfl rfl rfl (Ok.seq (Ok.region (Ok.batch 1 [(0, .slice a30_0 (kclS yown1_0l11).length c30_0), (1, .func (.func 14) #[] #[pv bs10 0])] (by kernel_rfl) (Ok.nil (Ok.thenN (Ok.seq (Ok.seq (Ok.region (Ok.bat 3 [0, 1] [(7, .int .i64 ((kclS yown1_0l11).length : Int)), (8, .int .i64 0)] ?_)))))))))
            refine Ok.nil (Ok.thenN (Ok.block ?_))
            obtain ⟨k, hF⟩ := hF
            refine Ok.loop (fun k a W => ∃ gl7i159i10 : Ghost, Gext w0 g30 gl7i159i10 ∧ ∃ (x8l7i159i10 : Int), StA 19 [(0, .slice a30_0 (kclS yown1_0l11).length c30_0), (1, .func (.func 14) #[] #[pv bs10 0]), (7, .int .i64 ((kclS yown1_0l11).length : Int)), (8, .int .i64 x8l7i159i10)] a ∧ StW w0 [.own (.slice a30_0 (kclS yown1_0l11).length c30_0) 52 3 (kclS yown1_0l11).length xs30_0, .blk bs10 (.cells #[sv (oriS (parS e5.2.1).1)] 9), .own (.slice none ([] : List Bs).length 0) 9 1 ([] : List Bs).length ([]), .blk bs7 (.cells #[.int .i64 0, sv ([] : Bs), .bool false, .slice none ([] : List Bs).length 0] 30), .own (.slice ayown2_0l11 yown2_0l11.length cyown2_0l11) 30 4 yown2_0l11.length xsyown2_0l11] gl7i159i10 W ∧ rsal7x4 e5 x22l11 yown2_0l11 yown1_0l11 (rsal11 xops K k11) k x8l7i159i10) k ?_ ?_
            ·
             exact fun a W hA hW => ⟨g30, (Gext.refl w0 g30), 0, hA.sub (by kernel_rfl), hW.sub (.cons_cons _ (.cons_cons _ (.cons_cons _ (.cons_cons _ (.cons _ (.cons_cons _ (.cons _ .slnil))))))), hF⟩
            ·
             clear hF
             rintro k7x4 a W ⟨gl7i159i10, hxl7i159i10, x8l7i159i10, hA, hW, hF⟩
             cases k7x4 with
             | zero => exact (hF : False).elim
             | succ k7x4 =>
              refine (?_ : Ok _ _ _ _ _ _) a W hA hW
              clear hA hW
              replace hL30_0 := hL30_0.mono hxl7i159i10.1
              replace hL9 := hL9.mono hxl7i159i10.1
              replace hLyown2_0l11 := hLyown2_0l11.mono hxl7i159i10.1
              replace hRxops_0 := hRxops_0.mono hxl7i159i10.1
              replace hG0 := hG0.mono hxl7i159i10.1
              replace hG1 := hG1.mono hxl7i159i10.1
              refine Ok.seq (Ok.region (Ok.bat 1 [0, 1, 7, 8] [(9, .bool (decide (x8l7i159i10 < ((kclS yown1_0l11).length : Int))))] ?_))
              refine Ok.nil (Ok.thenN (Ok.seq (Ok.cond (b := decide (x8l7i159i10 < ((kclS yown1_0l11).length : Int))) rfl (fun hc44 => ?_) (fun hc44 => ?_))))
              ·replace hF := hF.1 hc44
               refine Ok.skip (Ok.thenN (Ok.seq (Ok.block (Ok.seq (Ok.region (Ok.bat 2 [0, 1, 7, 8] [(5, .int .i64 x8l7i159i10)] ?_))))))
               refine Ok.nil (Ok.thenN (Ok.seq (Ok.region (Ok.bat 3 [0, 1, 5, 7, 8] [(11, .func (.func 14) #[] #[pv bs10 0]), (12, .slice a30_0 (kclS yown1_0l11).length c30_0), (13, .int .i64 x8l7i159i10)] ?_))))
               obtain ⟨h046, h146, hF⟩ := hF
               have he46 := get_of (l := (kclS yown1_0l11)) (default : KP) h146
               generalize hg46 : ((kclS yown1_0l11).getD (Int.toNat x8l7i159i10) default) = e46 at he46 hF ⊢
               refine Ok.op rfl (OpOk.indexOwn (e := .pair (.str) (.pair (.str) (.str))) (q := x8l7i159i10) (el := e46) 0 rfl hL30_0 rfl rfl Tryz.underlying44 (by kernel_rfl) (by kernel_rfl) h046 he46 rfl fun cs45 _ hr45 hc45 => ?_)
               obtain ⟨_, _, rfl, rfl, ⟨_, _, rfl, rfl, rfl⟩⟩ := hr45
               replace hc45 : ∀ j v, ([sv e46.1, sv e46.2.1, sv e46.2.2] : List Value)[j]? = some v → xs30_0[Int.toNat x8l7i159i10 * 3 + j]? = some v := hc45
               refine Ok.op rfl (OpOk.step (v := .agg #[sv e46.1, sv e46.2.1, sv e46.2.2]) (Yields.loadAggOwn 0 0 3 #[sv e46.1, sv e46.2.1, sv e46.2.2] rfl hc45 rfl Tryz.underlying52 rfl (by kernel_rfl) (by kernel_rfl) (by kernel_rfl)) rfl rfl (Ok.op rfl (OpOk.inline (args := #[.agg #[sv e46.1, sv e46.2.1, sv e46.2.2], pv bs10 0]) 8 [(0, .agg #[sv e46.1, sv e46.2.1, sv e46.2.2]), (1, pv bs10 0)] enr Tryz.func14 rfl rfl rfl rfl (Ok.seq (Ok.region (Ok.op rfl (OpOk.box (v := .agg #[sv e46.1, sv e46.2.1, sv e46.2.2]) (cs := #[sv e46.1, sv e46.2.1, sv e46.2.2]) rfl (by kernel_rfl) rfl fun bs2i159i10i16 => ?_)))))))
               refine Ok.batch 1 [(1, pv bs10 0), (2, pv bs2i159i10i16 0)] (by kernel_rfl) (Ok.nil (Ok.thenN (Ok.seq (Ok.region (Ok.bat 1 [1] [(4, pv bs2i159i10i16 0)] ?_)))))
               refine Ok.op rfl (OpOk.step (v := sv e46.1) (Yields.load 0 rfl rfl Tryz.underlying9 rfl (by kernel_rfl)) rfl rfl (Ok.op rfl (OpOk.step (v := sv (oriS (parS e5.2.1).1)) (Yields.load 2 rfl rfl Tryz.underlying9 rfl (by kernel_rfl)) rfl rfl (Ok.op rfl (OpOk.step (v := .bool (e46.1 == (oriS (parS e5.2.1).1))) (Yields.strCmp (f := .eql) (a := e46.1) (b := (oriS (parS e5.2.1).1)) (by kernel_rfl) (by kernel_rfl) rfl) rfl rfl (Ok.batch 1 [(3, .bool (e46.1 == (oriS (parS e5.2.1).1)))] (by kernel_rfl) (Ok.nil (Ok.thenN (Ok.ret (Ok.back (vs := [.bool (e46.1 == (oriS (parS e5.2.1).1))]) (.inl rfl) rfl (.cons (.tmp rfl) .nil) rfl (Ok.nil (Ok.thenN (Ok.cond (b := (e46.1 == (oriS (parS e5.2.1).1))) rfl (fun hc48 => ?_) (fun hc48 => ?_))))))))))))))
               ·replace hF := hF.1 hc48
                refine Ok.seq (Ok.region (Ok.batch 2 [(4, .int .i64 x8l7i159i10)] (by kernel_rfl) (Ok.nil (Ok.thenN (Ok.ret (Ok.blockR (Ok.thenR (Ok.thenR (Ok.blockR (Ok.thenR (Ok.back (vs := [.int .i64 x8l7i159i10]) (.inl rfl) rfl (.cons (.tmp rfl) .nil) rfl ?_)))))))))))
                subst hg46
                exact fun a W hA hW => ⟨gl7i159i10, hxl7i159i10, x8l7i159i10, hA.sub (by kernel_rfl), hW.sub (.cons _ (.cons_cons _ (.cons_cons _ (.cons_cons _ (.cons_cons _ (.cons_cons _ .slnil)))))), hF⟩
               ·replace hF := hF.2 hc48
                refine Ok.skip (Ok.blockN (Ok.thenN (Ok.region (Ok.batch 2 [(0, .slice a30_0 (kclS yown1_0l11).length c30_0), (1, .func (.func 14) #[] #[pv bs10 0]), (7, .int .i64 ((kclS yown1_0l11).length : Int)), (8, .int .i64 (w6 (x8l7i159i10 + 1)))] (by kernel_rfl) (Ok.nil (Ok.thenN ?_))))))
                subst hg46
                exact fun a W hA hW => ⟨k7x4, Nat.lt_succ_self _, gl7i159i10, hxl7i159i10, w6 (x8l7i159i10 + 1), hA.sub (by kernel_rfl), hW.sub (.cons _ (.cons_cons _ (.cons_cons _ (.cons_cons _ (.cons_cons _ (.cons_cons _ .slnil)))))), hF⟩
              ·replace hF := hF.2 hc44
               refine Ok.exit (Ok.thenE (Ok.thenE (Ok.blockHit (Ok.thenN (Ok.seq (Ok.region (Ok.batch 1 [(4, .int .i64 (-1))] (by kernel_rfl) (Ok.nil (Ok.thenN (Ok.ret (Ok.back (vs := [.int .i64 (-1)]) (.inl rfl) rfl (.cons (.tmp rfl) .nil) rfl ?_)))))))))))
               exact fun a W hA hW => ⟨gl7i159i10, hxl7i159i10, -1, hA.sub (by kernel_rfl), hW, hF⟩
           ·
            clear hF
            rintro a W ⟨gji36, hxji36, x10ji36, hA, hW, hF⟩
            refine (?_ : Ok _ _ _ _ _ _) a W hA hW
            clear hA hW
            replace hL30_0 := hL30_0.mono hxji36.1
            replace hL9 := hL9.mono hxji36.1
            replace hLyown2_0l11 := hLyown2_0l11.mono hxji36.1
            replace hRxops_0 := hRxops_0.mono hxji36.1
            replace hG0 := hG0.mono hxji36.1
            replace hG1 := hG1.mono hxji36.1
            refine Ok.bat 1 [0, 1] [(5, .int .i64 x10ji36)] ?_
            refine Ok.nil (Ok.thenN (Ok.seq (Ok.seq (Ok.region (Ok.bat 2 [0, 1, 5] [(12, .bool (x10ji36 == (-1)))] ?_)))))
            refine Ok.nil (Ok.thenN (Ok.cond (b := (x10ji36 == (-1))) rfl (fun hc31 => ?_) (fun hc31 => ?_)))
            ·replace hF := hF.1 hc31
             refine Ok.seq (Ok.region (Ok.batch 2 [(4, .slice a30_0 (kclS yown1_0l11).length c30_0)] (by kernel_rfl) (Ok.nil (Ok.thenN (Ok.ret (Ok.thenR (Ok.back (vs := [.slice a30_0 (kclS yown1_0l11).length c30_0]) (.inl rfl) rfl (.cons (.tmp rfl) .nil) rfl ?_)))))))
             exact fun a W hA hW => ⟨gji36, hxji36, a30_0, c30_0, (kclS yown1_0l11), xs30_0, hL30_0, hA.sub (by kernel_rfl), hW.sub (.cons_cons _ (.cons _ (.cons_cons _ (.cons_cons _ (.cons_cons _ .slnil))))), hF⟩
            ·replace hF := hF.2 hc31
             refine Ok.skip (Ok.thenN (Ok.seq (Ok.seq (Ok.region (Ok.bat 3 [0, 1, 5] [(6, .int .i64 (w6 (x10ji36 + 1)))] ?_)))))
             refine Ok.nil (Ok.thenN (Ok.block ?_))
             obtain ⟨k, hF⟩ := hF
             refine Ok.loop (fun k a W => ∃ gl17i159 : Ghost, Gext w0 gji36 gl17i159 ∧ ∃ (x5l17i159 : Int) (x6l17i159 : Int) (ayown30_0_0l17i159 : Option Addr) (cyown30_0_0l17i159 : Nat) (yown30_0_0l17i159 : List (KP)) (xsyown30_0_0l17i159 : List Value), RepL gl17i159 (.pair (.str) (.pair (.str) (.str))) xsyown30_0_0l17i159 yown30_0_0l17i159 ∧ StA 42 [(0, .slice ayown30_0_0l17i159 yown30_0_0l17i159.length cyown30_0_0l17i159), (1, .func (.func 14) #[] #[pv bs10 0]), (5, .int .i64 x5l17i159), (6, .int .i64 x6l17i159)] a ∧ StW w0 [.own (.slice ayown30_0_0l17i159 yown30_0_0l17i159.length cyown30_0_0l17i159) 52 3 yown30_0_0l17i159.length xsyown30_0_0l17i159, .blk bs10 (.cells #[sv (oriS (parS e5.2.1).1)] 9), .own (.slice none ([] : List Bs).length 0) 9 1 ([] : List Bs).length ([]), .blk bs7 (.cells #[.int .i64 0, sv ([] : Bs), .bool false, .slice none ([] : List Bs).length 0] 30), .own (.slice ayown2_0l11 yown2_0l11.length cyown2_0l11) 30 4 yown2_0l11.length xsyown2_0l11] gl17i159 W ∧ rsal17x3 e5 x22l11 yown2_0l11 yown1_0l11 (rsal11 xops K k11) k x5l17i159 x6l17i159 yown30_0_0l17i159) k ?_ ?_
             ·
              exact fun a W hA hW => ⟨gji36, (Gext.refl w0 gji36), x10ji36, w6 (x10ji36 + 1), a30_0, c30_0, (kclS yown1_0l11), xs30_0, hL30_0, hA.sub (by kernel_rfl), hW, hF⟩
             ·
              clear hF
              rintro k17x3 a W ⟨gl17i159, hxl17i159, x5l17i159, x6l17i159, ayown30_0_0l17i159, cyown30_0_0l17i159, yown30_0_0l17i159, xsyown30_0_0l17i159, hLyown30_0_0l17i159, hA, hW, hF⟩
              cases k17x3 with
              | zero => exact (hF : False).elim
              | succ k17x3 =>
               refine (?_ : Ok _ _ _ _ _ _) a W hA hW
               clear hA hW
               replace hL9 := hL9.mono hxl17i159.1
               replace hLyown2_0l11 := hLyown2_0l11.mono hxl17i159.1
               replace hRxops_0 := hRxops_0.mono hxl17i159.1
               replace hG0 := hG0.mono hxl17i159.1
               replace hG1 := hG1.mono hxl17i159.1
               refine Ok.seq (Ok.seq (Ok.region (Ok.bat 4 [0, 1, 5, 6] [(19, .bool (decide (x6l17i159 < (yown30_0_0l17i159.length : Int))))] ?_)))
               refine Ok.nil (Ok.thenN (Ok.cond (b := decide (x6l17i159 < (yown30_0_0l17i159.length : Int))) rfl (fun hc32 => ?_) (fun hc32 => ?_)))
               ·replace hF := hF.1 hc32
                refine Ok.skip (Ok.thenN (Ok.cut (fun a W => ∃ gj24i159 : Ghost, Gext w0 gl17i159 gj24i159 ∧ ∃ (ayown30_0_0j24i159 : Option Addr) (cyown30_0_0j24i159 : Nat) (xsyown30_0_0j24i159 : List Value), RepL gj24i159 (.pair (.str) (.pair (.str) (.str))) xsyown30_0_0j24i159 (rsaV55 e5 x5l17i159 x6l17i159 yown30_0_0l17i159) ∧ StA 42 [(0, .slice ayown30_0_0j24i159 (rsaV55 e5 x5l17i159 x6l17i159 yown30_0_0l17i159).length cyown30_0_0j24i159), (1, .func (.func 14) #[] #[pv bs10 0]), (5, .int .i64 (rsaV54 e5 x5l17i159 x6l17i159 yown30_0_0l17i159)), (6, .int .i64 x6l17i159)] a ∧ StW w0 [.own (.slice ayown30_0_0j24i159 (rsaV55 e5 x5l17i159 x6l17i159 yown30_0_0l17i159).length cyown30_0_0j24i159) 52 3 (rsaV55 e5 x5l17i159 x6l17i159 yown30_0_0l17i159).length xsyown30_0_0j24i159, .blk bs10 (.cells #[sv (oriS (parS e5.2.1).1)] 9), .own (.slice none ([] : List Bs).length 0) 9 1 ([] : List Bs).length ([]), .blk bs7 (.cells #[.int .i64 0, sv ([] : Bs), .bool false, .slice none ([] : List Bs).length 0] 30), .own (.slice ayown2_0l11 yown2_0l11.length cyown2_0l11) 30 4 yown2_0l11.length xsyown2_0l11] gj24i159 W ∧ rsaj24i159 e5 x5l17i159 x6l17i159 yown30_0_0l17i159 (rsal17x3 e5 x22l11 yown2_0l11 yown1_0l11 (rsal11 xops K k11) k17x3)) ?_ ?_))
                ·
                 refine Ok.block (Ok.seq (Ok.region (Ok.bat 2 [0, 1, 5, 6] [(22, .slice ayown30_0_0l17i159 yown30_0_0l17i159.length cyown30_0_0l17i159), (23, .int .i64 x6l17i159)] ?_)))
                 obtain ⟨h034, h134, hF⟩ := hF
                 have he34 := get_of (l := yown30_0_0l17i159) (default : KP) h134
                 generalize hg34 : (yown30_0_0l17i159.getD (Int.toNat x6l17i159) default) = e34 at he34 hF ⊢
                 refine Ok.op rfl (OpOk.indexOwn (e := .pair (.str) (.pair (.str) (.str))) (q := x6l17i159) (el := e34) 0 rfl hLyown30_0_0l17i159 rfl rfl Tryz.underlying44 (by kernel_rfl) (by kernel_rfl) h034 he34 rfl fun cs33 _ hr33 hc33 => ?_)
                 obtain ⟨_, _, rfl, rfl, ⟨_, _, rfl, rfl, rfl⟩⟩ := hr33
                 replace hc33 : ∀ j v, ([sv e34.1, sv e34.2.1, sv e34.2.2] : List Value)[j]? = some v → xsyown30_0_0l17i159[Int.toNat x6l17i159 * 3 + j]? = some v := hc33
                 refine Ok.op rfl (OpOk.step (v := .agg #[sv e34.1, sv e34.2.1, sv e34.2.2]) (Yields.loadAggOwn 0 0 3 #[sv e34.1, sv e34.2.1, sv e34.2.2] rfl hc33 rfl Tryz.underlying52 rfl (by kernel_rfl) (by kernel_rfl) (by kernel_rfl)) rfl rfl (Ok.op rfl (OpOk.alloc (z := .agg #[sv ([] : Bs), sv ([] : Bs), sv ([] : Bs)]) (cs := #[sv ([] : Bs), sv ([] : Bs), sv ([] : Bs)]) (by kernel_rfl) (by kernel_rfl) rfl fun bs7i159 => ?_)))
                 refine Ok.op rfl (OpOk.sto (k := 3) (v := .agg #[sv e34.1, sv e34.2.1, sv e34.2.2]) 0 #[sv e34.1, sv e34.2.1, sv e34.2.2] rfl rfl rfl ?_)
                 refine Ok.nil (Ok.thenN (Ok.seq (Ok.region (Ok.bat 1 [0, 1, 5, 6] [(7, pv bs7i159 0), (26, .func (.func 14) #[] #[pv bs10 0])] ?_))))
                 refine Ok.op rfl (OpOk.step (v := .agg #[sv e34.1, sv e34.2.1, sv e34.2.2]) (Yields.loadAgg 0 3 #[sv e34.1, sv e34.2.1, sv e34.2.2] rfl rfl Tryz.underlying52 rfl (by kernel_rfl) (by kernel_rfl) (by kernel_rfl)) rfl rfl (Ok.op rfl (OpOk.inline (args := #[.agg #[sv e34.1, sv e34.2.1, sv e34.2.2], pv bs10 0]) 8 [(0, .agg #[sv e34.1, sv e34.2.1, sv e34.2.2]), (1, pv bs10 0)] enr Tryz.func14 rfl rfl rfl rfl (Ok.seq (Ok.region (Ok.op rfl (OpOk.box (v := .agg #[sv e34.1, sv e34.2.1, sv e34.2.2]) (cs := #[sv e34.1, sv e34.2.1, sv e34.2.2]) rfl (by kernel_rfl) rfl fun bs2i159i28 => ?_)))))))
                 refine Ok.batch 1 [(1, pv bs10 0), (2, pv bs2i159i28 0)] (by kernel_rfl) (Ok.nil (Ok.thenN (Ok.seq (Ok.region (Ok.bat 1 [1] [(4, pv bs2i159i28 0)] ?_)))))
                 refine Ok.op rfl (OpOk.step (v := sv e34.1) (Yields.load 0 rfl rfl Tryz.underlying9 rfl (by kernel_rfl)) rfl rfl (Ok.op rfl (OpOk.step (v := sv (oriS (parS e5.2.1).1)) (Yields.load 3 rfl rfl Tryz.underlying9 rfl (by kernel_rfl)) rfl rfl (Ok.op rfl (OpOk.step (v := .bool (e34.1 == (oriS (parS e5.2.1).1))) (Yields.strCmp (f := .eql) (a := e34.1) (b := (oriS (parS e5.2.1).1)) (by kernel_rfl) (by kernel_rfl) rfl) rfl rfl (Ok.batch 1 [(3, .bool (e34.1 == (oriS (parS e5.2.1).1)))] (by kernel_rfl) (Ok.nil (Ok.thenN (Ok.ret (Ok.back (vs := [.bool (e34.1 == (oriS (parS e5.2.1).1))]) (.inl rfl) rfl (.cons (.tmp rfl) .nil) rfl (Ok.batch 1 [(0, .slice ayown30_0_0l17i159 yown30_0_0l17i159.length cyown30_0_0l17i159), (1, .func (.func 14) #[] #[pv bs10 0]), (5, .int .i64 x5l17i159), (6, .int .i64 x6l17i159), (7, pv bs7i159 0), (29, .bool (!(e34.1 == (oriS (parS e5.2.1).1))))] (by kernel_rfl) (Ok.nil (Ok.thenN (Ok.cond (b := !(e34.1 == (oriS (parS e5.2.1).1))) rfl (fun hc37 => ?_) (fun hc37 => ?_)))))))))))))))
                 ·replace hF := hF.1 hc37
                  refine Ok.seq (Ok.region (Ok.bat 2 [0, 1, 5, 6, 7] [(30, .slice ayown30_0_0l17i159 yown30_0_0l17i159.length cyown30_0_0l17i159), (31, .int .i64 x5l17i159)] ?_))
                  refine Ok.op rfl (OpOk.step (v := .agg #[sv e34.1, sv e34.2.1, sv e34.2.2]) (Yields.loadAgg 1 3 #[sv e34.1, sv e34.2.1, sv e34.2.2] rfl rfl Tryz.underlying52 rfl (by kernel_rfl) (by kernel_rfl) (by kernel_rfl)) rfl rfl ?_)
                  obtain ⟨h039, h139, hF⟩ := hF
                  have he39 := get_of (l := yown30_0_0l17i159) (default : KP) h139
                  generalize hg39 : (yown30_0_0l17i159.getD (Int.toNat x5l17i159) default) = e39 at he39 hF ⊢
                  refine Ok.op rfl (OpOk.indexOwn (e := .pair (.str) (.pair (.str) (.str))) (q := x5l17i159) (el := e39) 2 rfl hLyown30_0_0l17i159 rfl rfl Tryz.underlying44 (by kernel_rfl) (by kernel_rfl) h039 he39 rfl fun cs38 _ hr38 hc38 => ?_)
                  obtain ⟨_, _, rfl, rfl, ⟨_, _, rfl, rfl, rfl⟩⟩ := hr38
                  replace hc38 : ∀ j v, ([sv e39.1, sv e39.2.1, sv e39.2.2] : List Value)[j]? = some v → xsyown30_0_0l17i159[Int.toNat x5l17i159 * 3 + j]? = some v := hc38
                  refine Ok.op rfl (OpOk.storeOwn (e := .pair (.str) (.pair (.str) (.str))) (q := Int.toNat x5l17i159) (cells := [sv e39.1, sv e39.2.1, sv e39.2.2]) (vs := [sv e34.1, sv e34.2.1, sv e34.2.2]) (el' := e34) 2 0 3 rfl hLyown30_0_0l17i159 hc38 (by kernel_rfl) rfl rfl rfl (by kernel_rfl) (by kernel_rfl) (by kernel_rfl) (by kernel_rfl) (by kernel_rfl) (show Rep _ _ [sv e34.1, sv e34.2.1, sv e34.2.2] _ from ⟨[sv e34.1], [sv e34.2.1, sv e34.2.2], rfl, rfl, ⟨[sv e34.2.1], [sv e34.2.2], rfl, rfl, rfl⟩⟩) fun xs40 hL40 => ?_)
                  rw [show yown30_0_0l17i159.length = (yown30_0_0l17i159.set (Int.toNat x5l17i159) e34).length from (List.length_set ..).symm]
                  refine Ok.nil (Ok.thenN (Ok.region (Ok.bat 3 [1, 6] [(0, .slice ayown30_0_0l17i159 (yown30_0_0l17i159.set (Int.toNat x5l17i159) e34).length cyown30_0_0l17i159), (5, .int .i64 (w6 (x5l17i159 + 1)))] ?_)))
                  refine Ok.nil (Ok.blockN (Ok.thenN ?_))
                  subst hg39
                  subst hg34
                  refine Ok.reval 0 rfl (show (.slice ayown30_0_0l17i159 (yown30_0_0l17i159.set (Int.toNat x5l17i159) (yown30_0_0l17i159.getD (Int.toNat x6l17i159) default)).length cyown30_0_0l17i159 : Value) = .slice ayown30_0_0l17i159 (rsaV55 e5 x5l17i159 x6l17i159 yown30_0_0l17i159).length cyown30_0_0l17i159 from congrArg (fun l : List (KP) => Value.slice ayown30_0_0l17i159 l.length cyown30_0_0l17i159) ((if_t hc37).symm)) ?_
                  refine Ok.reval 5 rfl (show (.int .i64 (w6 (x5l17i159 + 1)) : Value) = .int .i64 (rsaV54 e5 x5l17i159 x6l17i159 yown30_0_0l17i159) from congrArg (Value.int .i64) ((if_t hc37).symm)) (Ok.heapEq (H' := [.blk bs2i159i28 (.cells #[sv ((yown30_0_0l17i159.getD (Int.toNat x6l17i159) default).1), sv ((yown30_0_0l17i159.getD (Int.toNat x6l17i159) default).2.1), sv ((yown30_0_0l17i159.getD (Int.toNat x6l17i159) default).2.2)] 52), .blk bs7i159 (.cells #[sv ((yown30_0_0l17i159.getD (Int.toNat x6l17i159) default).1), sv ((yown30_0_0l17i159.getD (Int.toNat x6l17i159) default).2.1), sv ((yown30_0_0l17i159.getD (Int.toNat x6l17i159) default).2.2)] 52), .own (.slice ayown30_0_0l17i159 (rsaV55 e5 x5l17i159 x6l17i159 yown30_0_0l17i159).length cyown30_0_0l17i159) 52 3 (rsaV55 e5 x5l17i159 x6l17i159 yown30_0_0l17i159).length xs40, .blk bs10 (.cells #[sv (oriS (parS e5.2.1).1)] 9), .own (.slice none ([] : List Bs).length 0) 9 1 ([] : List Bs).length ([]), .blk bs7 (.cells #[.int .i64 0, sv ([] : Bs), .bool false, .slice none ([] : List Bs).length 0] 30), .own (.slice ayown2_0l11 yown2_0l11.length cyown2_0l11) 30 4 yown2_0l11.length xsyown2_0l11]) (econs (rfl) (econs (rfl) (econs (congrArg (fun l : List (KP) => Ent.own (.slice ayown30_0_0l17i159 l.length cyown30_0_0l17i159) 52 3 l.length xs40) ((if_t hc37).symm)) (econs (rfl) (econs (rfl) (econs (rfl) (econs (rfl) rfl))))))) ?_)
                  exact fun a W hA hW => ⟨gl17i159, (Gext.refl w0 gl17i159), ayown30_0_0l17i159, cyown30_0_0l17i159, xs40, (Eq.mp (congrArg (fun l : List (KP) => RepL gl17i159 (.pair (.str) (.pair (.str) (.str))) xs40 l) ((if_t hc37).symm)) hL40), hA.sub (by kernel_rfl), hW.sub (.cons _ (.cons _ (.cons_cons _ (.cons_cons _ (.cons_cons _ (.cons_cons _ (.cons_cons _ .slnil))))))), hF⟩
                 ·replace hF := hF.2 hc37
                  refine Ok.skip (Ok.blockN (Ok.thenN ?_))
                  subst hg34
                  refine Ok.reval 0 rfl (show (.slice ayown30_0_0l17i159 yown30_0_0l17i159.length cyown30_0_0l17i159 : Value) = .slice ayown30_0_0l17i159 (rsaV55 e5 x5l17i159 x6l17i159 yown30_0_0l17i159).length cyown30_0_0l17i159 from congrArg (fun l : List (KP) => Value.slice ayown30_0_0l17i159 l.length cyown30_0_0l17i159) ((if_f hc37).symm)) ?_
                  refine Ok.reval 5 rfl (show (.int .i64 x5l17i159 : Value) = .int .i64 (rsaV54 e5 x5l17i159 x6l17i159 yown30_0_0l17i159) from congrArg (Value.int .i64) ((if_f hc37).symm)) (Ok.heapEq (H' := [.blk bs2i159i28 (.cells #[sv ((yown30_0_0l17i159.getD (Int.toNat x6l17i159) default).1), sv ((yown30_0_0l17i159.getD (Int.toNat x6l17i159) default).2.1), sv ((yown30_0_0l17i159.getD (Int.toNat x6l17i159) default).2.2)] 52), .blk bs7i159 (.cells #[sv ((yown30_0_0l17i159.getD (Int.toNat x6l17i159) default).1), sv ((yown30_0_0l17i159.getD (Int.toNat x6l17i159) default).2.1), sv ((yown30_0_0l17i159.getD (Int.toNat x6l17i159) default).2.2)] 52), .own (.slice ayown30_0_0l17i159 (rsaV55 e5 x5l17i159 x6l17i159 yown30_0_0l17i159).length cyown30_0_0l17i159) 52 3 (rsaV55 e5 x5l17i159 x6l17i159 yown30_0_0l17i159).length xsyown30_0_0l17i159, .blk bs10 (.cells #[sv (oriS (parS e5.2.1).1)] 9), .own (.slice none ([] : List Bs).length 0) 9 1 ([] : List Bs).length ([]), .blk bs7 (.cells #[.int .i64 0, sv ([] : Bs), .bool false, .slice none ([] : List Bs).length 0] 30), .own (.slice ayown2_0l11 yown2_0l11.length cyown2_0l11) 30 4 yown2_0l11.length xsyown2_0l11]) (econs (rfl) (econs (rfl) (econs (congrArg (fun l : List (KP) => Ent.own (.slice ayown30_0_0l17i159 l.length cyown30_0_0l17i159) 52 3 l.length xsyown30_0_0l17i159) ((if_f hc37).symm)) (econs (rfl) (econs (rfl) (econs (rfl) (econs (rfl) rfl))))))) ?_)
                  exact fun a W hA hW => ⟨gl17i159, (Gext.refl w0 gl17i159), ayown30_0_0l17i159, cyown30_0_0l17i159, xsyown30_0_0l17i159, (Eq.mp (congrArg (fun l : List (KP) => RepL gl17i159 (.pair (.str) (.pair (.str) (.str))) xsyown30_0_0l17i159 l) ((if_f hc37).symm)) hLyown30_0_0l17i159), hA.sub (by kernel_rfl), hW.sub (.cons _ (.cons _ (.cons_cons _ (.cons_cons _ (.cons_cons _ (.cons_cons _ (.cons_cons _ .slnil))))))), hF⟩
                ·
                 clear hF
                 rintro a W ⟨gj24i159, hxj24i159, ayown30_0_0j24i159, cyown30_0_0j24i159, xsyown30_0_0j24i159, hLyown30_0_0j24i159, hA, hW, hF⟩
                 refine (?_ : Ok _ _ _ _ _ _) a W hA hW
                 clear hA hW
                 replace hL9 := hL9.mono hxj24i159.1
                 replace hLyown2_0l11 := hLyown2_0l11.mono hxj24i159.1
                 replace hRxops_0 := hRxops_0.mono hxj24i159.1
                 replace hG0 := hG0.mono hxj24i159.1
                 replace hG1 := hG1.mono hxj24i159.1
                 refine Ok.region (Ok.bat 3 [0, 1, 5] [(6, .int .i64 (w6 (x6l17i159 + 1)))] ?_)
                 refine Ok.nil (Ok.thenN ?_)
                 exact fun a W hA hW => ⟨k17x3, Nat.lt_succ_self _, gj24i159, (hxl17i159.trans hxj24i159), (rsaV54 e5 x5l17i159 x6l17i159 yown30_0_0l17i159), w6 (x6l17i159 + 1), ayown30_0_0j24i159, cyown30_0_0j24i159, (rsaV55 e5 x5l17i159 x6l17i159 yown30_0_0l17i159), xsyown30_0_0j24i159, hLyown30_0_0j24i159, hA.sub (by kernel_rfl), hW, hF⟩
               ·replace hF := hF.2 hc32
                refine Ok.exit (Ok.thenE (Ok.thenE (Ok.blockHit (Ok.thenN (Ok.seq (Ok.region (Ok.bat 2 [0, 5] [(36, .slice ayown30_0_0l17i159 yown30_0_0l17i159.length cyown30_0_0l17i159), (37, .int .i64 x5l17i159)] ?_)))))))
                refine Ok.capOwn 0 rfl fun hcc41 hcm41 => ?_
                obtain ⟨h041, h141, h241, hF⟩ := hF
                refine Ok.op rfl (OpOk.step (v := vw ayown30_0_0l17i159 3 cyown30_0_0l17i159 (Int.toNat x5l17i159) (Int.toNat (yown30_0_0l17i159.length : Int))) (slice_run (size := 3) (l := x5l17i159) (h := (yown30_0_0l17i159.length : Int)) rfl Tryz.underlying44 (by kernel_rfl) (.inl ⟨_, _, rfl, rfl⟩) (.inr ⟨rfl, rfl⟩) h041 h141 (Int.le_trans h241 (Int.ofNat_le.2 hcc41))) rfl rfl ?_)
                obtain ⟨h142, hF⟩ := hF
                refine Ok.op rfl (OpOk.clearOwn (e := .pair (.str) (.pair (.str) (.str))) (l := yown30_0_0l17i159) (lo := (Int.toNat x5l17i159)) (y := ((([] : Bs), ([] : Bs), ([] : Bs)) : KP)) (z := .agg #[sv ([] : Bs), sv ([] : Bs), sv ([] : Bs)]) 0 rfl rfl hLyown30_0_0l17i159 Tryz.underlying44 (by kernel_rfl) (by decide) ⟨[sv ([] : Bs)], [sv ([] : Bs), sv ([] : Bs)], rfl, rfl, ⟨[sv ([] : Bs)], [sv ([] : Bs)], rfl, rfl, rfl⟩⟩ h142 (Int.toNat_natCast _) fun xs42 hL42 => ?_)
                rw [clr_len yown30_0_0l17i159 (Int.toNat x5l17i159) ((([] : Bs), ([] : Bs), ([] : Bs)) : KP) (by rw [Int.toNat_natCast] at h142; exact h142)]
                refine Ok.nil (Ok.thenN (Ok.seq (Ok.region (Ok.batch 2 [(39, .slice ayown30_0_0l17i159 (clr yown30_0_0l17i159 (Int.toNat x5l17i159) ((([] : Bs), ([] : Bs), ([] : Bs)) : KP)).length cyown30_0_0l17i159), (40, .int .i64 x5l17i159)] (by kernel_rfl) ?_))))
                obtain ⟨h043, h243, hF⟩ := hF
                refine Ok.op rfl (OpOk.cutOwn (e := .pair (.str) (.pair (.str) (.str))) (h := x5l17i159) 0 rfl rfl rfl hL42 Tryz.underlying44 (by kernel_rfl) h043 h243 rfl fun xs43 hL43 => ?_)
                refine Ok.batch 1 [(4, .slice ayown30_0_0l17i159 ((clr yown30_0_0l17i159 (Int.toNat x5l17i159) ((([] : Bs), ([] : Bs), ([] : Bs)) : KP)).take (Int.toNat x5l17i159)).length cyown30_0_0l17i159)] (by kernel_rfl) (Ok.nil (Ok.thenN (Ok.ret (Ok.back (vs := [.slice ayown30_0_0l17i159 ((clr yown30_0_0l17i159 (Int.toNat x5l17i159) ((([] : Bs), ([] : Bs), ([] : Bs)) : KP)).take (Int.toNat x5l17i159)).length cyown30_0_0l17i159]) (.inl rfl) rfl (.cons (.tmp rfl) .nil) rfl ?_))))
                exact fun a W hA hW => ⟨gl17i159, (hxji36.trans hxl17i159), ayown30_0_0l17i159, cyown30_0_0l17i159, ((clr yown30_0_0l17i159 (Int.toNat x5l17i159) ((([] : Bs), ([] : Bs), ([] : Bs)) : KP)).take (Int.toNat x5l17i159)), xs43, hL43, hA.sub (by kernel_rfl), hW.sub (.cons_cons _ (.cons _ (.cons_cons _ (.cons_cons _ (.cons_cons _ .slnil))))), hF⟩
          ·
           clear hF
           rintro a W ⟨gji34, hxji34, ayown30_0_0ji34, cyown30_0_0ji34, yown30_0_0ji34, xsyown30_0_0ji34, hLyown30_0_0ji34, hA, hW, hF⟩
           refine (?_ : Ok _ _ _ _ _ _) a W hA hW
           clear hA hW
           replace hLyown2_0l11 := hLyown2_0l11.mono hxji34.1
           replace hRxops_0 := hRxops_0.mono hxji34.1
           replace hL9 := hL9.mono hxji34.1
           replace hG0 := hG0.mono hxji34.1
           replace hG1 := hG1.mono hxji34.1
           refine Ok.bat 1 [4, 7, 15, 20, 21, 22] [(3, .slice ayown30_0_0ji34 yown30_0_0ji34.length cyown30_0_0ji34)] ?_
           refine Ok.nil (Ok.thenN (Ok.region (Ok.bat 5 [3, 4, 7, 20, 21, 22] [(163, .bool (decide ((yown30_0_0ji34.length : Int) < (yown1_0l11.length : Int)))), (164, pv bs7 2)] ?_)))
           refine Ok.op rfl (OpOk.sto (k := 1) (v := .bool (decide ((yown30_0_0ji34.length : Int) < (yown1_0l11.length : Int)))) 2 #[.int .i64 0, sv ([] : Bs), .bool (decide ((yown30_0_0ji34.length : Int) < (yown1_0l11.length : Int))), .slice none ([] : List Bs).length 0] rfl rfl rfl ?_)
           refine Ok.nil (Ok.blockN (Ok.thenN ?_))
           exact fun a W hA hW => ⟨gji34, (hx30.trans hxji34), none, 0, ([] : List Bs), [], 0, ([] : Bs), decide ((yown30_0_0ji34.length : Int) < (yown1_0l11.length : Int)), ayown30_0_0ji34, cyown30_0_0ji34, yown30_0_0ji34, xsyown30_0_0ji34, hL9, hLyown30_0_0ji34, hA.sub (by kernel_rfl), hW.pick [1, 2, 3, 0] _ (by decide) rfl, hF⟩
         ·replace hF := hF.2 hc28
          refine Ok.cut (fun a W => ∃ gj73 : Ghost, Gext w0 gji28 gj73 ∧ StA 171 [(3, .slice ayown1_0l11 yown1_0l11.length cyown1_0l11), (4, .slice ayown2_0l11 yown2_0l11.length cyown2_0l11), (6, pv bs6 0), (7, pv bs7 0), (10, pv bs10 0), (11, .int .i64 x37ji28), (12, .func (.func 14) #[] #[pv bs10 0]), (20, .slice axops_0 xops.length cxops_0), (21, .int .i64 (xops.length : Int)), (22, .int .i64 x22l11)] a ∧ StW w0 [.blk bs10 (.cells #[sv (oriS (parS e5.2.1).1)] 9), .own (.slice none ([] : List Bs).length 0) 9 1 ([] : List Bs).length ([]), .blk bs7 (.cells #[.int .i64 0, sv (rsaV37 yown1_0l11 x37ji28), .bool (decide (x37ji28 ≥ 0)), .slice none ([] : List Bs).length 0] 30), .blk bs6 (.cells #[.int .i64 e5.1, sv e5.2.1, sv e5.2.2.1, sv e5.2.2.2] 36), .own (.slice ayown2_0l11 yown2_0l11.length cyown2_0l11) 30 4 yown2_0l11.length xsyown2_0l11, .own (.slice ayown1_0l11 yown1_0l11.length cyown1_0l11) 52 3 yown1_0l11.length xsyown1_0l11] gj73 W ∧ rsaj73 e5 x22l11 yown2_0l11 yown1_0l11 (rsal11 xops K k11) x37ji28) ?_ ?_
          ·
           refine Ok.seq (Ok.region (Ok.bat 2 [3, 4, 6, 7, 10, 11, 12, 20, 21, 22] [(40, .bool (decide (x37ji28 ≥ 0)))] ?_))
           refine Ok.nil (Ok.thenN (Ok.cond (b := decide (x37ji28 ≥ 0)) rfl (fun hc75 => ?_) (fun hc75 => ?_)))
           ·replace hF := hF.1 hc75
            refine Ok.mix [] [] [.blk bs10 (.cells #[sv (oriS (parS e5.2.1).1)] 9), .own (.slice none ([] : List Bs).length 0) 9 1 ([] : List Bs).length ([]), .blk bs6 (.cells #[.int .i64 e5.1, sv e5.2.1, sv e5.2.2.1, sv e5.2.2.2] 36), .own (.slice ayown2_0l11 yown2_0l11.length cyown2_0l11) 30 4 yown2_0l11.length xsyown2_0l11, .own (.slice ayown1_0l11 yown1_0l11.length cyown1_0l11) 52 3 yown1_0l11.length xsyown1_0l11] [(0, true), (1, true), (2, true), (3, true), (4, true), (5, true), (6, false), (7, true), (8, false)] (by kernel_rfl) (by kernel_rfl) (.cons_cons _ (.cons_cons _ (.cons _ (.cons_cons _ (.cons_cons _ (.cons_cons _ .slnil)))))) (OkM.bat 2 [3, 4, 6, 7, 10, 11, 12, 20, 21, 22] [(41, .slice ayown1_0l11 yown1_0l11.length cyown1_0l11), (42, .int .i64 x37ji28)] ?_)
            obtain ⟨h077, h177, hF⟩ := hF
            have he77 := get_of (l := yown1_0l11) (default : KP) h177
            generalize hg77 : (yown1_0l11.getD (Int.toNat x37ji28) default) = e77 at he77 hF ⊢
            refine OkM.head rfl rfl (show _ = [.blk bs10 (.cells #[sv (oriS (parS e5.2.1).1)] 9), .own (.slice none ([] : List Bs).length 0) 9 1 ([] : List Bs).length ([]), .blk bs6 (.cells #[.int .i64 e5.1, sv e5.2.1, sv e5.2.2.1, sv e5.2.2.2] 36), .own (.slice ayown2_0l11 yown2_0l11.length cyown2_0l11) 30 4 yown2_0l11.length xsyown2_0l11, .own (.slice ayown1_0l11 yown1_0l11.length cyown1_0l11) 52 3 yown1_0l11.length xsyown1_0l11] from rfl) (OpQ.indexOwn (e := .pair (.str) (.pair (.str) (.str))) (q := x37ji28) (el := e77) 4 rfl hLyown1_0l11 rfl rfl Tryz.underlying44 (by kernel_rfl) (by kernel_rfl) h077 he77 rfl fun cs76 _ hr76 hc76 => ?_)
            obtain ⟨_, _, rfl, rfl, ⟨_, _, rfl, rfl, rfl⟩⟩ := hr76
            replace hc76 : ∀ j v, ([sv e77.1, sv e77.2.1, sv e77.2.2] : List Value)[j]? = some v → xsyown1_0l11[Int.toNat x37ji28 * 3 + j]? = some v := hc76
            refine OkM.bat 1 [3, 4, 6, 7, 10, 11, 12, 20, 21, 22] [(44, .pointer (some ⟨ablk ayown1_0l11, Int.toNat x37ji28 * 3 + 2, none⟩))] ?_
            refine OkM.head rfl rfl (show _ = [.blk bs10 (.cells #[sv (oriS (parS e5.2.1).1)] 9), .own (.slice none ([] : List Bs).length 0) 9 1 ([] : List Bs).length ([]), .blk bs6 (.cells #[.int .i64 e5.1, sv e5.2.1, sv e5.2.2.1, sv e5.2.2.2] 36), .own (.slice ayown2_0l11 yown2_0l11.length cyown2_0l11) 30 4 yown2_0l11.length xsyown2_0l11, .own (.slice ayown1_0l11 yown1_0l11.length cyown1_0l11) 52 3 yown1_0l11.length xsyown1_0l11] from rfl) (OpQ.step (v := sv e77.2.2) (Yields.loadOwn 4 2 rfl hc76 rfl Tryz.underlying9 rfl (by kernel_rfl)) rfl rfl (OkM.bat 1 [3, 4, 6, 7, 10, 11, 12, 20, 21, 22] [(45, sv e77.2.2), (46, pv bs7 2)] ?_))
            refine OkM.tail rfl rfl (OpOk.sto (k := 1) (v := .bool true) 2 #[.int .i64 0, sv ([] : Bs), .bool true, .slice none ([] : List Bs).length 0] rfl rfl rfl ?_)
            refine OkM.leaf (i := 6) (show _ = [.blk bs10 (.cells #[sv (oriS (parS e5.2.1).1)] 9), .own (.slice none ([] : List Bs).length 0) 9 1 ([] : List Bs).length ([]), .blk bs6 (.cells #[.int .i64 e5.1, sv e5.2.1, sv e5.2.2.1, sv e5.2.2.2] 36), .own (.slice ayown2_0l11 yown2_0l11.length cyown2_0l11) 30 4 yown2_0l11.length xsyown2_0l11, .own (.slice ayown1_0l11 yown1_0l11.length cyown1_0l11) 52 3 yown1_0l11.length xsyown1_0l11] from rfl) (Gle.refl _) (.cons_cons _ (.cons_cons _ (.cons _ (.cons_cons _ (.cons_cons _ (.cons_cons _ .slnil)))))) (OkM.bat 1 [3, 4, 6, 7, 10, 11, 12, 20, 21, 22, 45] [(47, pv bs7 1)] ?_)
            refine OkM.tail rfl rfl (OpOk.sto (k := 1) (v := sv e77.2.2) 2 #[.int .i64 0, sv e77.2.2, .bool true, .slice none ([] : List Bs).length 0] rfl rfl rfl ?_)
            refine OkM.leaf (i := 8) (show _ = [.blk bs10 (.cells #[sv (oriS (parS e5.2.1).1)] 9), .own (.slice none ([] : List Bs).length 0) 9 1 ([] : List Bs).length ([]), .blk bs6 (.cells #[.int .i64 e5.1, sv e5.2.1, sv e5.2.2.1, sv e5.2.2.2] 36), .own (.slice ayown2_0l11 yown2_0l11.length cyown2_0l11) 30 4 yown2_0l11.length xsyown2_0l11, .own (.slice ayown1_0l11 yown1_0l11.length cyown1_0l11) 52 3 yown1_0l11.length xsyown1_0l11] from rfl) (Gle.refl _) (.cons_cons _ (.cons_cons _ (.cons _ (.cons_cons _ (.cons_cons _ (.cons_cons _ .slnil)))))) (OkM.nil (Ok.thenN ?_))
            subst hg77
            refine Ok.heapEq (H' := [.blk bs10 (.cells #[sv (oriS (parS e5.2.1).1)] 9), .own (.slice none ([] : List Bs).length 0) 9 1 ([] : List Bs).length ([]), .blk bs7 (.cells #[.int .i64 0, sv (rsaV37 yown1_0l11 x37ji28), .bool (decide (x37ji28 ≥ 0)), .slice none ([] : List Bs).length 0] 30), .blk bs6 (.cells #[.int .i64 e5.1, sv e5.2.1, sv e5.2.2.1, sv e5.2.2.2] 36), .own (.slice ayown2_0l11 yown2_0l11.length cyown2_0l11) 30 4 yown2_0l11.length xsyown2_0l11, .own (.slice ayown1_0l11 yown1_0l11.length cyown1_0l11) 52 3 yown1_0l11.length xsyown1_0l11]) (econs (rfl) (econs (rfl) (econs (congrArg (fun l : List Value => Ent.blk bs7 (.cells ⟨l⟩ 30)) (lcons (rfl) (lcons (congrArg ((fun s : Bs => Value.string ⟨⟨s⟩⟩)) ((if_t hc75).symm)) (lcons (congrArg (Value.bool) (hc75.symm)) (lcons (rfl) rfl))))) (econs (rfl) (econs (rfl) (econs (rfl) rfl)))))) ?_
            exact fun a W hA hW => ⟨gji28, (Gext.refl w0 gji28), hA.sub (by kernel_rfl), hW, hF⟩
           ·replace hF := hF.2 hc75
            refine Ok.skip (Ok.thenN (Ok.heapEq (H' := [.blk bs10 (.cells #[sv (oriS (parS e5.2.1).1)] 9), .own (.slice none ([] : List Bs).length 0) 9 1 ([] : List Bs).length ([]), .blk bs7 (.cells #[.int .i64 0, sv (rsaV37 yown1_0l11 x37ji28), .bool (decide (x37ji28 ≥ 0)), .slice none ([] : List Bs).length 0] 30), .blk bs6 (.cells #[.int .i64 e5.1, sv e5.2.1, sv e5.2.2.1, sv e5.2.2.2] 36), .own (.slice ayown2_0l11 yown2_0l11.length cyown2_0l11) 30 4 yown2_0l11.length xsyown2_0l11, .own (.slice ayown1_0l11 yown1_0l11.length cyown1_0l11) 52 3 yown1_0l11.length xsyown1_0l11]) (econs (rfl) (econs (rfl) (econs (congrArg (fun l : List Value => Ent.blk bs7 (.cells ⟨l⟩ 30)) (lcons (rfl) (lcons (congrArg ((fun s : Bs => Value.string ⟨⟨s⟩⟩)) ((if_f hc75).symm)) (lcons (congrArg (Value.bool) (hc75.symm)) (lcons (rfl) rfl))))) (econs (rfl) (econs (rfl) (econs (rfl) rfl)))))) ?_))
            exact fun a W hA hW => ⟨gji28, (Gext.refl w0 gji28), hA.sub (by kernel_rfl), hW, hF⟩
          ·
           clear hF
           rintro a W ⟨gj73, hxj73, hA, hW, hF⟩
           refine (?_ : Ok _ _ _ _ _ _) a W hA hW
           clear hA hW
           replace hLyown1_0l11 := hLyown1_0l11.mono hxj73.1
           replace hLyown2_0l11 := hLyown2_0l11.mono hxj73.1
           replace hRxops_0 := hRxops_0.mono hxj73.1
           replace hL9 := hL9.mono hxj73.1
           replace hG0 := hG0.mono hxj73.1
           replace hG1 := hG1.mono hxj73.1
           refine Ok.seq (Ok.region (Ok.bat 1 [3, 4, 6, 7, 10, 11, 12, 20, 21, 22] [(48, .slice ayown1_0l11 yown1_0l11.length cyown1_0l11)] ?_))
           obtain ⟨hp49, hF⟩ := hF
           refine Ok.op rfl (OpOk.callSee enr (fun W hW => kcl_c yown1_0l11 (hW.seeOwn 5 rfl hLyown1_0l11) hp49) rfl fun g50 _ _ _ hx50 hV50 => ?_)
           obtain ⟨a50_0, c50_0, xs50_0, rfl, hL50_0, rfl⟩ := hV50
           replace hL50_0 := RepL.any (g' := g50) rfl hL50_0
           replace hLyown1_0l11 := hLyown1_0l11.mono hx50.1
           replace hLyown2_0l11 := hLyown2_0l11.mono hx50.1
           replace hRxops_0 := hRxops_0.mono hx50.1
           replace hL9 := hL9.mono hx50.1
           replace hG0 := hG0.mono hx50.1
           replace hG1 := hG1.mono hx50.1
           refine Ok.bat 1 [3, 4, 6, 7, 10, 11, 12, 20, 21, 22] [(16, .slice a50_0 (kclS yown1_0l11).length c50_0)] ?_
           refine Ok.nil (Ok.thenN (Ok.cut (fun a W => ∃ gj81 : Ghost, Gext w0 g50 gj81 ∧ ∃ (ayown50_0_0j81 : Option Addr) (cyown50_0_0j81 : Nat) (xsyown50_0_0j81 : List Value), RepL gj81 (.pair (.str) (.pair (.str) (.str))) xsyown50_0_0j81 (rsaV38 e5 yown1_0l11 x37ji28) ∧ StA 171 [(3, .slice ayown1_0l11 yown1_0l11.length cyown1_0l11), (4, .slice ayown2_0l11 yown2_0l11.length cyown2_0l11), (6, pv bs6 0), (7, pv bs7 0), (12, .func (.func 14) #[] #[pv bs10 0]), (16, .slice ayown50_0_0j81 (rsaV38 e5 yown1_0l11 x37ji28).length cyown50_0_0j81), (20, .slice axops_0 xops.length cxops_0), (21, .int .i64 (xops.length : Int)), (22, .int .i64 x22l11)] a ∧ StW w0 [.own (.slice ayown50_0_0j81 (rsaV38 e5 yown1_0l11 x37ji28).length cyown50_0_0j81) 52 3 (rsaV38 e5 yown1_0l11 x37ji28).length xsyown50_0_0j81, .blk bs10 (.cells #[sv (oriS (parS e5.2.1).1)] 9), .own (.slice none ([] : List Bs).length 0) 9 1 ([] : List Bs).length ([]), .blk bs7 (.cells #[.int .i64 0, sv (rsaV37 yown1_0l11 x37ji28), .bool (decide (x37ji28 ≥ 0)), .slice none ([] : List Bs).length 0] 30), .blk bs6 (.cells #[.int .i64 e5.1, sv e5.2.1, sv e5.2.2.1, sv e5.2.2.2] 36), .own (.slice ayown2_0l11 yown2_0l11.length cyown2_0l11) 30 4 yown2_0l11.length xsyown2_0l11, .own (.slice ayown1_0l11 yown1_0l11.length cyown1_0l11) 52 3 yown1_0l11.length xsyown1_0l11] gj81 W ∧ rsaj81 e5 x22l11 yown2_0l11 yown1_0l11 (rsal11 xops K k11) x37ji28) ?_ ?_))
           ·
            refine Ok.block (Ok.seq (Ok.region (Ok.bat 1 [3, 4, 6, 7, 10, 11, 12, 16, 20, 21, 22] [(51, pv bs6 0)] ?_)))
            refine Ok.op rfl (OpOk.step (v := .int .i64 e5.1) (Yields.load 4 rfl rfl Tryz.underlying3 rfl (by kernel_rfl)) rfl rfl (Ok.bat 2 [3, 4, 6, 7, 10, 11, 12, 16, 20, 21, 22] [(54, .bool (e5.1 == 1))] ?_))
            refine Ok.midway 3 [(3, .slice ayown1_0l11 yown1_0l11.length cyown1_0l11), (4, .slice ayown2_0l11 yown2_0l11.length cyown2_0l11), (6, pv bs6 0), (7, pv bs7 0), (10, pv bs10 0), (11, .int .i64 x37ji28), (12, .func (.func 14) #[] #[pv bs10 0]), (16, .slice a50_0 (kclS yown1_0l11).length c50_0), (20, .slice axops_0 xops.length cxops_0), (21, .int .i64 (xops.length : Int)), (22, .int .i64 x22l11), (57, .bool ((e5.1 == 1) && (decide (x37ji28 ≥ 0))))] (fun hR61 => ?_) ?_
            ·refine Ok.boolAt 54 ((e5.1 == 1)) rfl (fun hc62 => ?_) (fun hc62 => ?_)
             ·skip
              refine Ok.bat 3 [3, 4, 6, 7, 10, 11, 12, 16, 20, 21, 22] [(57, .bool (decide (x37ji28 ≥ 0)))] ?_
              refine Ok.reval 57 rfl (show (.bool (decide (x37ji28 ≥ 0)) : Value) = .bool ((e5.1 == 1) && (decide (x37ji28 ≥ 0))) from congrArg Value.bool (mand_t hc62)) (Ok.bat 0 [3, 4, 6, 7, 10, 11, 12, 16, 20, 21, 22] [(57, .bool ((e5.1 == 1) && (decide (x37ji28 ≥ 0))))] ?_)
              exact hR61
             ·skip
              refine Ok.bat 3 [3, 4, 6, 7, 10, 11, 12, 16, 20, 21, 22] [(57, .bool false)] ?_
              refine Ok.reval 57 rfl (show (.bool false : Value) = .bool ((e5.1 == 1) && (decide (x37ji28 ≥ 0))) from congrArg Value.bool (mand_f hc62)) (Ok.bat 0 [3, 4, 6, 7, 10, 11, 12, 16, 20, 21, 22] [(57, .bool ((e5.1 == 1) && (decide (x37ji28 ≥ 0))))] ?_)
              exact hR61
            refine Ok.bat 1 [3, 4, 6, 7, 10, 11, 12, 16, 20, 21, 22] [(50, .bool ((e5.1 == 1) && (decide (x37ji28 ≥ 0))))] ?_
            refine Ok.nil (Ok.thenN (Ok.cond (b := ((e5.1 == 1) && (decide (x37ji28 ≥ 0)))) rfl (fun hc63 => ?_) (fun hc63 => ?_)))
            ·replace hF := hF.1 hc63
             refine Ok.region (Ok.bat 3 [3, 4, 6, 7, 12, 16, 20, 21, 22] [(58, .slice a50_0 (kclS yown1_0l11).length c50_0), (59, .int .i64 x37ji28), (60, pv bs6 3)] ?_)
             refine Ok.op rfl (OpOk.step (v := sv e5.2.2.2) (Yields.load 4 rfl rfl Tryz.underlying9 rfl (by kernel_rfl)) rfl rfl ?_)
             obtain ⟨h065, h165, hF⟩ := hF
             have he65 := get_of (l := (kclS yown1_0l11)) (default : KP) h165
             generalize hg65 : ((kclS yown1_0l11).getD (Int.toNat x37ji28) default) = e65 at he65 hF ⊢
             refine Ok.op rfl (OpOk.indexOwn (e := .pair (.str) (.pair (.str) (.str))) (q := x37ji28) (el := e65) 0 rfl hL50_0 rfl rfl Tryz.underlying44 (by kernel_rfl) (by kernel_rfl) h065 he65 rfl fun cs64 _ hr64 hc64 => ?_)
             obtain ⟨_, _, rfl, rfl, ⟨_, _, rfl, rfl, rfl⟩⟩ := hr64
             replace hc64 : ∀ j v, ([sv e65.1, sv e65.2.1, sv e65.2.2] : List Value)[j]? = some v → xs50_0[Int.toNat x37ji28 * 3 + j]? = some v := hc64
             refine Ok.bat 1 [3, 4, 6, 7, 12, 16, 20, 21, 22] [(61, sv e5.2.2.2), (63, .pointer (some ⟨ablk a50_0, Int.toNat x37ji28 * 3 + 2, none⟩))] ?_
             refine Ok.op rfl (OpOk.storeOwn (e := .pair (.str) (.pair (.str) (.str))) (q := Int.toNat x37ji28) (cells := [sv e65.1, sv e65.2.1, sv e65.2.2]) (vs := [sv e5.2.2.2]) (el' := (e65.1, e65.2.1, e5.2.2.2)) 0 2 1 rfl hL50_0 hc64 (by kernel_rfl) rfl rfl rfl (by kernel_rfl) (by kernel_rfl) (by kernel_rfl) (by kernel_rfl) (by kernel_rfl) (show Rep _ _ [sv e65.1, sv e65.2.1, sv e5.2.2.2] _ from ⟨[sv e65.1], [sv e65.2.1, sv e5.2.2.2], rfl, rfl, ⟨[sv e65.2.1], [sv e5.2.2.2], rfl, rfl, rfl⟩⟩) fun xs66 hL66 => ?_)
             rw [show (kclS yown1_0l11).length = ((kclS yown1_0l11).set (Int.toNat x37ji28) (e65.1, e65.2.1, e5.2.2.2)).length from (List.length_set ..).symm]
             refine Ok.nil (Ok.blockN (Ok.thenN ?_))
             subst hg65
             refine Ok.reval 16 rfl (show (.slice a50_0 ((kclS yown1_0l11).set (Int.toNat x37ji28) (((kclS yown1_0l11).getD (Int.toNat x37ji28) default).1, ((kclS yown1_0l11).getD (Int.toNat x37ji28) default).2.1, e5.2.2.2)).length c50_0 : Value) = .slice a50_0 (rsaV38 e5 yown1_0l11 x37ji28).length c50_0 from congrArg (fun l : List (KP) => Value.slice a50_0 l.length c50_0) ((if_t hc63).symm)) ?_
             refine Ok.heapEq (H' := [.own (.slice a50_0 (rsaV38 e5 yown1_0l11 x37ji28).length c50_0) 52 3 (rsaV38 e5 yown1_0l11 x37ji28).length xs66, .blk bs10 (.cells #[sv (oriS (parS e5.2.1).1)] 9), .own (.slice none ([] : List Bs).length 0) 9 1 ([] : List Bs).length ([]), .blk bs7 (.cells #[.int .i64 0, sv (rsaV37 yown1_0l11 x37ji28), .bool (decide (x37ji28 ≥ 0)), .slice none ([] : List Bs).length 0] 30), .blk bs6 (.cells #[.int .i64 e5.1, sv e5.2.1, sv e5.2.2.1, sv e5.2.2.2] 36), .own (.slice ayown2_0l11 yown2_0l11.length cyown2_0l11) 30 4 yown2_0l11.length xsyown2_0l11, .own (.slice ayown1_0l11 yown1_0l11.length cyown1_0l11) 52 3 yown1_0l11.length xsyown1_0l11]) (econs (congrArg (fun l : List (KP) => Ent.own (.slice a50_0 l.length c50_0) 52 3 l.length xs66) ((if_t hc63).symm)) (econs (rfl) (econs (rfl) (econs (rfl) (econs (rfl) (econs (rfl) (econs (rfl) rfl))))))) ?_
             exact fun a W hA hW => ⟨g50, (Gext.refl w0 g50), a50_0, c50_0, xs66, (Eq.mp (congrArg (fun l : List (KP) => RepL g50 (.pair (.str) (.pair (.str) (.str))) xs66 l) ((if_t hc63).symm)) hL66), hA.sub (by kernel_rfl), hW, hF⟩
            ·replace hF := hF.2 hc63
             refine Ok.seq (Ok.region (Ok.bat 1 [3, 4, 6, 7, 10, 11, 12, 16, 20, 21, 22] [(65, pv bs6 0)] ?_))
             refine Ok.op rfl (OpOk.step (v := .int .i64 e5.1) (Yields.load 4 rfl rfl Tryz.underlying3 rfl (by kernel_rfl)) rfl rfl (Ok.bat 2 [3, 4, 6, 7, 10, 11, 12, 16, 20, 21, 22] [(64, .bool (e5.1 == 1))] ?_))
             refine Ok.nil (Ok.thenN (Ok.cond (b := (e5.1 == 1)) rfl (fun hc67 => ?_) (fun hc67 => ?_)))
             ·replace hF := hF.1 hc67
              refine Ok.region (Ok.bat 1 [3, 4, 6, 7, 10, 12, 20, 21, 22] [(68, .slice a50_0 (kclS yown1_0l11).length c50_0)] ?_)
              refine Ok.op rfl (OpOk.step (v := sv (oriS (parS e5.2.1).1)) (Yields.load 1 rfl rfl Tryz.underlying9 rfl (by kernel_rfl)) rfl rfl (Ok.bat 1 [3, 4, 6, 7, 12, 20, 21, 22, 68] [(69, sv (oriS (parS e5.2.1).1)), (70, pv bs6 2)] ?_))
              refine Ok.op rfl (OpOk.step (v := sv e5.2.2.1) (Yields.load 4 rfl rfl Tryz.underlying9 rfl (by kernel_rfl)) rfl rfl (Ok.bat 1 [3, 4, 6, 7, 12, 20, 21, 22, 68, 69] [(71, sv e5.2.2.1), (72, pv bs6 3)] ?_))
              refine Ok.op rfl (OpOk.step (v := sv e5.2.2.2) (Yields.load 4 rfl rfl Tryz.underlying9 rfl (by kernel_rfl)) rfl rfl (Ok.bat 1 [3, 4, 6, 7, 12, 20, 21, 22, 68] [(74, .agg #[sv (oriS (parS e5.2.1).1), sv e5.2.2.1, sv e5.2.2.2])] ?_))
              have hL68 : RepL g50 (.pair (.str) (.pair (.str) (.str))) ([sv (oriS (parS e5.2.1).1), sv e5.2.2.1, sv e5.2.2.2] : List Value) ([((oriS (parS e5.2.1).1), e5.2.2.1, e5.2.2.2)] : List (KP)) := (RepL.consN (c := [sv (oriS (parS e5.2.1).1), sv e5.2.2.1, sv e5.2.2.2]) ⟨[sv (oriS (parS e5.2.1).1)], [sv e5.2.2.1, sv e5.2.2.2], rfl, rfl, ⟨[sv e5.2.2.1], [sv e5.2.2.2], rfl, rfl, rfl⟩⟩ rfl)
              refine Ok.op rfl (OpOk.lit (E := 52) (.pair (.str) (.pair (.str) (.str))) ([((oriS (parS e5.2.1).1), e5.2.2.1, e5.2.2.2)] : List (KP)) ([sv (oriS (parS e5.2.1).1), sv e5.2.2.1, sv e5.2.2.2] : List Value) (by kernel_rfl) (by kernel_rfl) rfl (by kernel_rfl) hL68 rfl fun b68 => ?_)
              obtain ⟨hb69, hF⟩ := hF
              refine Ok.op rfl (OpOk.append' (e := .pair (.str) (.pair (.str) (.str))) 48 2932031007402 1 0 rfl rfl rfl rfl hL50_0 hL68 Tryz.underlying44 (by kernel_rfl) (by kernel_rfl) (by kernel_rfl) hb69 rfl fun a69 c69 xs69 hL69 => ?_)
              refine Ok.bat 1 [3, 4, 6, 7, 12, 20, 21, 22] [(16, .slice a69 ((kclS yown1_0l11) ++ ([((oriS (parS e5.2.1).1), e5.2.2.1, e5.2.2.2)] : List (KP))).length c69)] ?_
              refine Ok.nil (Ok.blockN (Ok.thenN (Ok.reval 16 rfl (show (.slice a69 ((kclS yown1_0l11) ++ ([((oriS (parS e5.2.1).1), e5.2.2.1, e5.2.2.2)] : List (KP))).length c69 : Value) = .slice a69 (rsaV38 e5 yown1_0l11 x37ji28).length c69 from congrArg (fun l : List (KP) => Value.slice a69 l.length c69) ((Eq.trans ((if_t hc67).symm) ((if_f hc63).symm)))) ?_)))
              refine Ok.heapEq (H' := [.own (.slice (some ⟨b68, 0, none⟩) ([((oriS (parS e5.2.1).1), e5.2.2.1, e5.2.2.2)] : List (KP)).length 1) 52 3 ([((oriS (parS e5.2.1).1), e5.2.2.1, e5.2.2.2)] : List (KP)).length ([sv (oriS (parS e5.2.1).1), sv e5.2.2.1, sv e5.2.2.2] : List Value), .own (.slice a69 (rsaV38 e5 yown1_0l11 x37ji28).length c69) 52 3 (rsaV38 e5 yown1_0l11 x37ji28).length xs69, .blk bs10 (.cells #[sv (oriS (parS e5.2.1).1)] 9), .own (.slice none ([] : List Bs).length 0) 9 1 ([] : List Bs).length ([]), .blk bs7 (.cells #[.int .i64 0, sv (rsaV37 yown1_0l11 x37ji28), .bool (decide (x37ji28 ≥ 0)), .slice none ([] : List Bs).length 0] 30), .blk bs6 (.cells #[.int .i64 e5.1, sv e5.2.1, sv e5.2.2.1, sv e5.2.2.2] 36), .own (.slice ayown2_0l11 yown2_0l11.length cyown2_0l11) 30 4 yown2_0l11.length xsyown2_0l11, .own (.slice ayown1_0l11 yown1_0l11.length cyown1_0l11) 52 3 yown1_0l11.length xsyown1_0l11]) (econs (rfl) (econs (congrArg (fun l : List (KP) => Ent.own (.slice a69 l.length c69) 52 3 l.length xs69) ((Eq.trans ((if_t hc67).symm) ((if_f hc63).symm)))) (econs (rfl) (econs (rfl) (econs (rfl) (econs (rfl) (econs (rfl) (econs (rfl) rfl)))))))) ?_
              exact fun a W hA hW => ⟨g50, (Gext.refl w0 g50), a69, c69, xs69, (Eq.mp (congrArg (fun l : List (KP) => RepL g50 (.pair (.str) (.pair (.str) (.str))) xs69 l) ((Eq.trans ((if_t hc67).symm) ((if_f hc63).symm)))) hL69), hA.sub (by kernel_rfl), hW.sub (.cons _ (.cons_cons _ (.cons_cons _ (.cons_cons _ (.cons_cons _ (.cons_cons _ (.cons_cons _ (.cons_cons _ .slnil)))))))), hF⟩
             ·replace hF := hF.2 hc67
              refine Ok.seq (Ok.region (Ok.bat 1 [3, 4, 6, 7, 11, 12, 16, 20, 21, 22] [(78, pv bs6 0)] ?_))
              refine Ok.op rfl (OpOk.step (v := .int .i64 e5.1) (Yields.load 4 rfl rfl Tryz.underlying3 rfl (by kernel_rfl)) rfl rfl (Ok.bat 2 [3, 4, 6, 7, 11, 12, 16, 20, 21, 22] [(81, .bool (e5.1 == 3))] ?_))
              refine Ok.midway 3 [(3, .slice ayown1_0l11 yown1_0l11.length cyown1_0l11), (4, .slice ayown2_0l11 yown2_0l11.length cyown2_0l11), (6, pv bs6 0), (7, pv bs7 0), (11, .int .i64 x37ji28), (12, .func (.func 14) #[] #[pv bs10 0]), (16, .slice a50_0 (kclS yown1_0l11).length c50_0), (20, .slice axops_0 xops.length cxops_0), (21, .int .i64 (xops.length : Int)), (22, .int .i64 x22l11), (84, .bool ((e5.1 == 3) && (decide (x37ji28 ≥ 0))))] (fun hR70 => ?_) ?_
              ·refine Ok.boolAt 81 ((e5.1 == 3)) rfl (fun hc71 => ?_) (fun hc71 => ?_)
               ·skip
                refine Ok.bat 3 [3, 4, 6, 7, 11, 12, 16, 20, 21, 22] [(84, .bool (decide (x37ji28 ≥ 0)))] ?_
                refine Ok.reval 84 rfl (show (.bool (decide (x37ji28 ≥ 0)) : Value) = .bool ((e5.1 == 3) && (decide (x37ji28 ≥ 0))) from congrArg Value.bool (mand_t hc71)) (Ok.bat 0 [3, 4, 6, 7, 11, 12, 16, 20, 21, 22] [(84, .bool ((e5.1 == 3) && (decide (x37ji28 ≥ 0))))] ?_)
                exact hR70
               ·skip
                refine Ok.bat 3 [3, 4, 6, 7, 11, 12, 16, 20, 21, 22] [(84, .bool false)] ?_
                refine Ok.reval 84 rfl (show (.bool false : Value) = .bool ((e5.1 == 3) && (decide (x37ji28 ≥ 0))) from congrArg Value.bool (mand_f hc71)) (Ok.bat 0 [3, 4, 6, 7, 11, 12, 16, 20, 21, 22] [(84, .bool ((e5.1 == 3) && (decide (x37ji28 ≥ 0))))] ?_)
                exact hR70
              refine Ok.bat 1 [3, 4, 6, 7, 11, 12, 16, 20, 21, 22] [(77, .bool ((e5.1 == 3) && (decide (x37ji28 ≥ 0))))] ?_
              refine Ok.nil (Ok.thenN (Ok.cond (b := ((e5.1 == 3) && (decide (x37ji28 ≥ 0)))) rfl (fun hc72 => ?_) (fun hc72 => ?_)))
              ·replace hF := hF.1 hc72
               refine Ok.region (Ok.bat 4 [3, 4, 6, 7, 12, 20, 21, 22] [(85, .slice a50_0 (kclS yown1_0l11).length c50_0), (86, .int .i64 x37ji28), (88, .int .i64 (w6 (x37ji28 + 1)))] ?_)
               obtain ⟨hp73, hF⟩ := hF
               refine Ok.op rfl (OpOk.callH [_] _ enr rfl (kdl_c (kclS yown1_0l11) x37ji28 (w6 (x37ji28 + 1)) hL50_0 hp73) rfl fun g74 _ _ hx74 hV74 => ?_)
               obtain ⟨a74_0, c74_0, xs74_0, rfl, hL74_0, rfl⟩ := hV74
               replace hLyown1_0l11 := hLyown1_0l11.mono hx74.1
               replace hLyown2_0l11 := hLyown2_0l11.mono hx74.1
               replace hRxops_0 := hRxops_0.mono hx74.1
               replace hL50_0 := hL50_0.mono hx74.1
               replace hL9 := hL9.mono hx74.1
               replace hG0 := hG0.mono hx74.1
               replace hG1 := hG1.mono hx74.1
               refine Ok.bat 1 [3, 4, 6, 7, 12, 20, 21, 22] [(16, .slice a74_0 (kdlS (kclS yown1_0l11) x37ji28 (w6 (x37ji28 + 1))).length c74_0)] ?_
               refine Ok.nil (Ok.blockN (Ok.thenN (Ok.reval 16 rfl (show (.slice a74_0 (kdlS (kclS yown1_0l11) x37ji28 (w6 (x37ji28 + 1))).length c74_0 : Value) = .slice a74_0 (rsaV38 e5 yown1_0l11 x37ji28).length c74_0 from congrArg (fun l : List (KP) => Value.slice a74_0 l.length c74_0) ((Eq.trans ((Eq.trans ((if_t hc72).symm) ((if_f hc67).symm))) ((if_f hc63).symm)))) ?_)))
               refine Ok.heapEq (H' := [.own (.slice a74_0 (rsaV38 e5 yown1_0l11 x37ji28).length c74_0) 52 3 (rsaV38 e5 yown1_0l11 x37ji28).length xs74_0, .blk bs10 (.cells #[sv (oriS (parS e5.2.1).1)] 9), .own (.slice none ([] : List Bs).length 0) 9 1 ([] : List Bs).length ([]), .blk bs7 (.cells #[.int .i64 0, sv (rsaV37 yown1_0l11 x37ji28), .bool (decide (x37ji28 ≥ 0)), .slice none ([] : List Bs).length 0] 30), .blk bs6 (.cells #[.int .i64 e5.1, sv e5.2.1, sv e5.2.2.1, sv e5.2.2.2] 36), .own (.slice ayown2_0l11 yown2_0l11.length cyown2_0l11) 30 4 yown2_0l11.length xsyown2_0l11, .own (.slice ayown1_0l11 yown1_0l11.length cyown1_0l11) 52 3 yown1_0l11.length xsyown1_0l11]) (econs (congrArg (fun l : List (KP) => Ent.own (.slice a74_0 l.length c74_0) 52 3 l.length xs74_0) ((Eq.trans ((Eq.trans ((if_t hc72).symm) ((if_f hc67).symm))) ((if_f hc63).symm)))) (econs (rfl) (econs (rfl) (econs (rfl) (econs (rfl) (econs (rfl) (econs (rfl) rfl))))))) ?_
               exact fun a W hA hW => ⟨g74, hx74, a74_0, c74_0, xs74_0, (Eq.mp (congrArg (fun l : List (KP) => RepL g74 (.pair (.str) (.pair (.str) (.str))) xs74_0 l) ((Eq.trans ((Eq.trans ((if_t hc72).symm) ((if_f hc67).symm))) ((if_f hc63).symm)))) hL74_0), hA.sub (by kernel_rfl), hW, hF⟩
              ·replace hF := hF.2 hc72
               refine Ok.skip (Ok.blockN (Ok.thenN (Ok.reval 16 rfl (show (.slice a50_0 (kclS yown1_0l11).length c50_0 : Value) = .slice a50_0 (rsaV38 e5 yown1_0l11 x37ji28).length c50_0 from congrArg (fun l : List (KP) => Value.slice a50_0 l.length c50_0) ((Eq.trans ((Eq.trans ((if_f hc72).symm) ((if_f hc67).symm))) ((if_f hc63).symm)))) ?_)))
               refine Ok.heapEq (H' := [.own (.slice a50_0 (rsaV38 e5 yown1_0l11 x37ji28).length c50_0) 52 3 (rsaV38 e5 yown1_0l11 x37ji28).length xs50_0, .blk bs10 (.cells #[sv (oriS (parS e5.2.1).1)] 9), .own (.slice none ([] : List Bs).length 0) 9 1 ([] : List Bs).length ([]), .blk bs7 (.cells #[.int .i64 0, sv (rsaV37 yown1_0l11 x37ji28), .bool (decide (x37ji28 ≥ 0)), .slice none ([] : List Bs).length 0] 30), .blk bs6 (.cells #[.int .i64 e5.1, sv e5.2.1, sv e5.2.2.1, sv e5.2.2.2] 36), .own (.slice ayown2_0l11 yown2_0l11.length cyown2_0l11) 30 4 yown2_0l11.length xsyown2_0l11, .own (.slice ayown1_0l11 yown1_0l11.length cyown1_0l11) 52 3 yown1_0l11.length xsyown1_0l11]) (econs (congrArg (fun l : List (KP) => Ent.own (.slice a50_0 l.length c50_0) 52 3 l.length xs50_0) ((Eq.trans ((Eq.trans ((if_f hc72).symm) ((if_f hc67).symm))) ((if_f hc63).symm)))) (econs (rfl) (econs (rfl) (econs (rfl) (econs (rfl) (econs (rfl) (econs (rfl) rfl))))))) ?_
               exact fun a W hA hW => ⟨g50, (Gext.refl w0 g50), a50_0, c50_0, xs50_0, (Eq.mp (congrArg (fun l : List (KP) => RepL g50 (.pair (.str) (.pair (.str) (.str))) xs50_0 l) ((Eq.trans ((Eq.trans ((if_f hc72).symm) ((if_f hc67).symm))) ((if_f hc63).symm)))) hL50_0), hA.sub (by kernel_rfl), hW, hF⟩
           ·
            clear hF
            rintro a W ⟨gj81, hxj81, ayown50_0_0j81, cyown50_0_0j81, xsyown50_0_0j81, hLyown50_0_0j81, hA, hW, hF⟩
            refine (?_ : Ok _ _ _ _ _ _) a W hA hW
            clear hA hW
            replace hLyown1_0l11 := hLyown1_0l11.mono hxj81.1
            replace hLyown2_0l11 := hLyown2_0l11.mono hxj81.1
            replace hRxops_0 := hRxops_0.mono hxj81.1
            replace hL9 := hL9.mono hxj81.1
            replace hG0 := hG0.mono hxj81.1
            replace hG1 := hG1.mono hxj81.1
            refine Ok.seq (Ok.region (Ok.bat 1 [3, 4, 6, 7, 12, 16, 20, 21, 22] [(17, .int .i64 0)] ?_))
            refine Ok.nil (Ok.thenN (Ok.seq (Ok.seq (Ok.region (Ok.bat 3 [3, 4, 6, 7, 12, 16, 17, 20, 21, 22] [(90, .slice ayown50_0_0j81 (rsaV38 e5 yown1_0l11 x37ji28).length cyown50_0_0j81), (91, .int .i64 ((rsaV38 e5 yown1_0l11 x37ji28).length : Int)), (92, .int .i64 0)] ?_)))))
            refine Ok.nil (Ok.thenN (Ok.block ?_))
            obtain ⟨k, hF⟩ := hF
            refine Ok.loop (fun k a W => ∃ gl102 : Ghost, Gext w0 gj81 gl102 ∧ ∃ (x17l102 : Int) (x92l102 : Int), StA 171 [(3, .slice ayown1_0l11 yown1_0l11.length cyown1_0l11), (4, .slice ayown2_0l11 yown2_0l11.length cyown2_0l11), (6, pv bs6 0), (7, pv bs7 0), (12, .func (.func 14) #[] #[pv bs10 0]), (16, .slice ayown50_0_0j81 (rsaV38 e5 yown1_0l11 x37ji28).length cyown50_0_0j81), (17, .int .i64 x17l102), (20, .slice axops_0 xops.length cxops_0), (21, .int .i64 (xops.length : Int)), (22, .int .i64 x22l11), (90, .slice ayown50_0_0j81 (rsaV38 e5 yown1_0l11 x37ji28).length cyown50_0_0j81), (91, .int .i64 ((rsaV38 e5 yown1_0l11 x37ji28).length : Int)), (92, .int .i64 x92l102)] a ∧ StW w0 [.own (.slice ayown50_0_0j81 (rsaV38 e5 yown1_0l11 x37ji28).length cyown50_0_0j81) 52 3 (rsaV38 e5 yown1_0l11 x37ji28).length xsyown50_0_0j81, .blk bs10 (.cells #[sv (oriS (parS e5.2.1).1)] 9), .own (.slice none ([] : List Bs).length 0) 9 1 ([] : List Bs).length ([]), .blk bs7 (.cells #[.int .i64 0, sv (rsaV37 yown1_0l11 x37ji28), .bool (decide (x37ji28 ≥ 0)), .slice none ([] : List Bs).length 0] 30), .blk bs6 (.cells #[.int .i64 e5.1, sv e5.2.1, sv e5.2.2.1, sv e5.2.2.2] 36), .own (.slice ayown2_0l11 yown2_0l11.length cyown2_0l11) 30 4 yown2_0l11.length xsyown2_0l11, .own (.slice ayown1_0l11 yown1_0l11.length cyown1_0l11) 52 3 yown1_0l11.length xsyown1_0l11] gl102 W ∧ rsal102 e5 x22l11 yown2_0l11 yown1_0l11 (rsal11 xops K k11) x37ji28 k x17l102 x92l102) k ?_ ?_
            ·
             exact fun a W hA hW => ⟨gj81, (Gext.refl w0 gj81), 0, 0, hA.sub (by kernel_rfl), hW, hF⟩
            ·
             clear hF
             rintro k102 a W ⟨gl102, hxl102, x17l102, x92l102, hA, hW, hF⟩
             cases k102 with
             | zero => exact (hF : False).elim
             | succ k102 =>
              refine (?_ : Ok _ _ _ _ _ _) a W hA hW
              clear hA hW
              replace hLyown1_0l11 := hLyown1_0l11.mono hxl102.1
              replace hLyown2_0l11 := hLyown2_0l11.mono hxl102.1
              replace hLyown50_0_0j81 := hLyown50_0_0j81.mono hxl102.1
              replace hRxops_0 := hRxops_0.mono hxl102.1
              replace hL9 := hL9.mono hxl102.1
              replace hG0 := hG0.mono hxl102.1
              replace hG1 := hG1.mono hxl102.1
              refine Ok.seq (Ok.region (Ok.bat 1 [3, 4, 6, 7, 12, 16, 17, 20, 21, 22, 90, 91, 92] [(93, .bool (decide (x92l102 < ((rsaV38 e5 yown1_0l11 x37ji28).length : Int))))] ?_))
              refine Ok.nil (Ok.thenN (Ok.seq (Ok.cond (b := decide (x92l102 < ((rsaV38 e5 yown1_0l11 x37ji28).length : Int))) rfl (fun hc51 => ?_) (fun hc51 => ?_))))
              ·replace hF := hF.1 hc51
               refine Ok.skip (Ok.thenN (Ok.cut (fun a W => ∃ gj109 : Ghost, Gext w0 gl102 gj109 ∧ StA 171 [(3, .slice ayown1_0l11 yown1_0l11.length cyown1_0l11), (4, .slice ayown2_0l11 yown2_0l11.length cyown2_0l11), (6, pv bs6 0), (7, pv bs7 0), (12, .func (.func 14) #[] #[pv bs10 0]), (16, .slice ayown50_0_0j81 (rsaV38 e5 yown1_0l11 x37ji28).length cyown50_0_0j81), (17, .int .i64 (rsaV58 e5 x17l102 x92l102 yown1_0l11 x37ji28)), (20, .slice axops_0 xops.length cxops_0), (21, .int .i64 (xops.length : Int)), (22, .int .i64 x22l11), (90, .slice ayown50_0_0j81 (rsaV38 e5 yown1_0l11 x37ji28).length cyown50_0_0j81), (91, .int .i64 ((rsaV38 e5 yown1_0l11 x37ji28).length : Int)), (92, .int .i64 x92l102)] a ∧ StW w0 [.own (.slice ayown50_0_0j81 (rsaV38 e5 yown1_0l11 x37ji28).length cyown50_0_0j81) 52 3 (rsaV38 e5 yown1_0l11 x37ji28).length xsyown50_0_0j81, .blk bs10 (.cells #[sv (oriS (parS e5.2.1).1)] 9), .own (.slice none ([] : List Bs).length 0) 9 1 ([] : List Bs).length ([]), .blk bs7 (.cells #[.int .i64 0, sv (rsaV37 yown1_0l11 x37ji28), .bool (decide (x37ji28 ≥ 0)), .slice none ([] : List Bs).length 0] 30), .blk bs6 (.cells #[.int .i64 e5.1, sv e5.2.1, sv e5.2.2.1, sv e5.2.2.2] 36), .own (.slice ayown2_0l11 yown2_0l11.length cyown2_0l11) 30 4 yown2_0l11.length xsyown2_0l11, .own (.slice ayown1_0l11 yown1_0l11.length cyown1_0l11) 52 3 yown1_0l11.length xsyown1_0l11] gj109 W ∧ rsaj109 e5 x17l102 x92l102 yown1_0l11 x37ji28 (rsal102 e5 x22l11 yown2_0l11 yown1_0l11 (rsal11 xops K k11) x37ji28 k102)) ?_ ?_))
               ·
                refine Ok.block (Ok.seq (Ok.region ?_))
                obtain ⟨h053, h153, hF⟩ := hF
                have he53 := get_of (l := (rsaV38 e5 yown1_0l11 x37ji28)) (default : KP) h153
                generalize hg53 : ((rsaV38 e5 yown1_0l11 x37ji28).getD (Int.toNat x92l102) default) = e53 at he53 hF ⊢
                refine Ok.op rfl (OpOk.indexOwn (e := .pair (.str) (.pair (.str) (.str))) (q := x92l102) (el := e53) 0 rfl hLyown50_0_0j81 rfl rfl Tryz.underlying44 (by kernel_rfl) (by kernel_rfl) h053 he53 rfl fun cs52 _ hr52 hc52 => ?_)
                obtain ⟨_, _, rfl, rfl, ⟨_, _, rfl, rfl, rfl⟩⟩ := hr52
                replace hc52 : ∀ j v, ([sv e53.1, sv e53.2.1, sv e53.2.2] : List Value)[j]? = some v → xsyown50_0_0j81[Int.toNat x92l102 * 3 + j]? = some v := hc52
                refine Ok.op rfl (OpOk.step (v := .agg #[sv e53.1, sv e53.2.1, sv e53.2.2]) (Yields.loadAggOwn 0 0 3 #[sv e53.1, sv e53.2.1, sv e53.2.2] rfl hc52 rfl Tryz.underlying52 rfl (by kernel_rfl) (by kernel_rfl) (by kernel_rfl)) rfl rfl (Ok.op rfl (OpOk.alloc (z := .agg #[sv ([] : Bs), sv ([] : Bs), sv ([] : Bs)]) (cs := #[sv ([] : Bs), sv ([] : Bs), sv ([] : Bs)]) (by kernel_rfl) (by kernel_rfl) rfl fun bs19 => ?_)))
                refine Ok.op rfl (OpOk.sto (k := 3) (v := .agg #[sv e53.1, sv e53.2.1, sv e53.2.2]) 0 #[sv e53.1, sv e53.2.1, sv e53.2.2] rfl rfl rfl ?_)
                refine Ok.nil (Ok.thenN (Ok.seq (Ok.region (Ok.bat 1 [3, 4, 6, 7, 12, 16, 17, 20, 21, 22, 90, 91, 92] [(19, pv bs19 0), (96, .func (.func 14) #[] #[pv bs10 0])] ?_))))
                refine Ok.op rfl (OpOk.step (v := .agg #[sv e53.1, sv e53.2.1, sv e53.2.2]) (Yields.loadAgg 0 3 #[sv e53.1, sv e53.2.1, sv e53.2.2] rfl rfl Tryz.underlying52 rfl (by kernel_rfl) (by kernel_rfl) (by kernel_rfl)) rfl rfl (Ok.op rfl (OpOk.inline (args := #[.agg #[sv e53.1, sv e53.2.1, sv e53.2.2], pv bs10 0]) 8 [(0, .agg #[sv e53.1, sv e53.2.1, sv e53.2.2]), (1, pv bs10 0)] enr Tryz.func14 rfl rfl rfl rfl (Ok.seq (Ok.region (Ok.op rfl (OpOk.box (v := .agg #[sv e53.1, sv e53.2.1, sv e53.2.2]) (cs := #[sv e53.1, sv e53.2.1, sv e53.2.2]) rfl (by kernel_rfl) rfl fun bs2i98 => ?_)))))))
                refine Ok.batch 1 [(1, pv bs10 0), (2, pv bs2i98 0)] (by kernel_rfl) (Ok.nil (Ok.thenN (Ok.seq (Ok.region (Ok.bat 1 [1] [(4, pv bs2i98 0)] ?_)))))
                refine Ok.op rfl (OpOk.step (v := sv e53.1) (Yields.load 0 rfl rfl Tryz.underlying9 rfl (by kernel_rfl)) rfl rfl (Ok.op rfl (OpOk.step (v := sv (oriS (parS e5.2.1).1)) (Yields.load 3 rfl rfl Tryz.underlying9 rfl (by kernel_rfl)) rfl rfl (Ok.op rfl (OpOk.step (v := .bool (e53.1 == (oriS (parS e5.2.1).1))) (Yields.strCmp (f := .eql) (a := e53.1) (b := (oriS (parS e5.2.1).1)) (by kernel_rfl) (by kernel_rfl) rfl) rfl rfl (Ok.batch 1 [(3, .bool (e53.1 == (oriS (parS e5.2.1).1)))] (by kernel_rfl) (Ok.nil (Ok.thenN (Ok.ret (Ok.back (vs := [.bool (e53.1 == (oriS (parS e5.2.1).1))]) (.inl rfl) rfl (.cons (.tmp rfl) .nil) rfl (Ok.nil (Ok.thenN (Ok.cond (b := (e53.1 == (oriS (parS e5.2.1).1))) rfl (fun hc56 => ?_) (fun hc56 => ?_))))))))))))))
                ·replace hF := hF.1 hc56
                 refine Ok.region (Ok.batch 2 [(3, .slice ayown1_0l11 yown1_0l11.length cyown1_0l11), (4, .slice ayown2_0l11 yown2_0l11.length cyown2_0l11), (6, pv bs6 0), (7, pv bs7 0), (12, .func (.func 14) #[] #[pv bs10 0]), (16, .slice ayown50_0_0j81 (rsaV38 e5 yown1_0l11 x37ji28).length cyown50_0_0j81), (19, pv bs19 0), (20, .slice axops_0 xops.length cxops_0), (21, .int .i64 (xops.length : Int)), (22, .int .i64 x22l11), (90, .slice ayown50_0_0j81 (rsaV38 e5 yown1_0l11 x37ji28).length cyown50_0_0j81), (91, .int .i64 ((rsaV38 e5 yown1_0l11 x37ji28).length : Int)), (92, .int .i64 x92l102), (99, .int .i64 x17l102), (100, pv bs19 1)] (by kernel_rfl) (Ok.op rfl (OpOk.step (v := sv e53.2.1) (Yields.load 1 rfl rfl Tryz.underlying9 rfl (by kernel_rfl)) rfl rfl (Ok.bat 2 [3, 4, 6, 7, 12, 16, 20, 21, 22, 90, 91, 92, 99] [(102, .int .i64 (e53.2.1.length : Int)), (103, pv bs19 2)] ?_))))
                 refine Ok.op rfl (OpOk.step (v := sv e53.2.2) (Yields.load 1 rfl rfl Tryz.underlying9 rfl (by kernel_rfl)) rfl rfl (Ok.bat 4 [3, 4, 6, 7, 12, 16, 20, 21, 22, 90, 91, 92] [(17, .int .i64 (w6 (x17l102 + (w6 ((e53.2.1.length : Int) + (e53.2.2.length : Int))))))] ?_))
                 refine Ok.nil (Ok.blockN (Ok.thenN ?_))
                 subst hg53
                 refine Ok.reval 17 rfl (show (.int .i64 (w6 (x17l102 + (w6 ((((rsaV38 e5 yown1_0l11 x37ji28).getD (Int.toNat x92l102) default).2.1.length : Int) + (((rsaV38 e5 yown1_0l11 x37ji28).getD (Int.toNat x92l102) default).2.2.length : Int))))) : Value) = .int .i64 (rsaV58 e5 x17l102 x92l102 yown1_0l11 x37ji28) from congrArg (Value.int .i64) ((if_t hc56).symm)) ?_
                 exact fun a W hA hW => ⟨gl102, (Gext.refl w0 gl102), hA.sub (by kernel_rfl), hW.sub (.cons _ (.cons _ (.cons_cons _ (.cons_cons _ (.cons_cons _ (.cons_cons _ (.cons_cons _ (.cons_cons _ (.cons_cons _ .slnil))))))))), hF⟩
                ·replace hF := hF.2 hc56
                 refine Ok.skip (Ok.blockN (Ok.thenN ?_))
                 subst hg53
                 refine Ok.reval 17 rfl (show (.int .i64 x17l102 : Value) = .int .i64 (rsaV58 e5 x17l102 x92l102 yown1_0l11 x37ji28) from congrArg (Value.int .i64) ((if_f hc56).symm)) ?_
                 exact fun a W hA hW => ⟨gl102, (Gext.refl w0 gl102), hA.sub (by kernel_rfl), hW.sub (.cons _ (.cons _ (.cons_cons _ (.cons_cons _ (.cons_cons _ (.cons_cons _ (.cons_cons _ (.cons_cons _ (.cons_cons _ .slnil))))))))), hF⟩
               ·
                clear hF
                rintro a W ⟨gj109, hxj109, hA, hW, hF⟩
                refine (?_ : Ok _ _ _ _ _ _) a W hA hW
                clear hA hW
                replace hLyown1_0l11 := hLyown1_0l11.mono hxj109.1
                replace hLyown2_0l11 := hLyown2_0l11.mono hxj109.1
                replace hLyown50_0_0j81 := hLyown50_0_0j81.mono hxj109.1
                replace hRxops_0 := hRxops_0.mono hxj109.1
                replace hL9 := hL9.mono hxj109.1
                replace hG0 := hG0.mono hxj109.1
                replace hG1 := hG1.mono hxj109.1
                refine Ok.region (Ok.bat 2 [3, 4, 6, 7, 12, 16, 17, 20, 21, 22, 90, 91] [(92, .int .i64 (w6 (x92l102 + 1)))] ?_)
                refine Ok.nil (Ok.thenN ?_)
                exact fun a W hA hW => ⟨k102, Nat.lt_succ_self _, gj109, (hxl102.trans hxj109), (rsaV58 e5 x17l102 x92l102 yown1_0l11 x37ji28), w6 (x92l102 + 1), hA.sub (by kernel_rfl), hW, hF⟩
              ·replace hF := hF.2 hc51
               refine Ok.exit (Ok.thenE (Ok.thenE (Ok.blockHit (Ok.thenN (Ok.seq (Ok.region (Ok.bat 1 [3, 4, 7, 16, 17, 20, 21, 22] [(109, pv bs6 0)] ?_)))))))
               refine Ok.op rfl (OpOk.step (v := .int .i64 e5.1) (Yields.load 4 rfl rfl Tryz.underlying3 rfl (by kernel_rfl)) rfl rfl (Ok.bat 2 [3, 4, 7, 16, 17, 20, 21, 22] [(112, .bool (e5.1 == 1))] ?_))
               refine Ok.midway 3 [(3, .slice ayown1_0l11 yown1_0l11.length cyown1_0l11), (4, .slice ayown2_0l11 yown2_0l11.length cyown2_0l11), (7, pv bs7 0), (16, .slice ayown50_0_0j81 (rsaV38 e5 yown1_0l11 x37ji28).length cyown50_0_0j81), (20, .slice axops_0 xops.length cxops_0), (21, .int .i64 (xops.length : Int)), (22, .int .i64 x22l11), (115, .bool ((e5.1 == 1) && (decide (x17l102 > 400))))] (fun hR57 => ?_) ?_
               ·refine Ok.boolAt 112 ((e5.1 == 1)) rfl (fun hc58 => ?_) (fun hc58 => ?_)
                ·skip
                 refine Ok.bat 3 [3, 4, 7, 16, 20, 21, 22] [(115, .bool (decide (x17l102 > 400)))] ?_
                 refine Ok.reval 115 rfl (show (.bool (decide (x17l102 > 400)) : Value) = .bool ((e5.1 == 1) && (decide (x17l102 > 400))) from congrArg Value.bool (mand_t hc58)) (Ok.bat 0 [3, 4, 7, 16, 20, 21, 22] [(115, .bool ((e5.1 == 1) && (decide (x17l102 > 400))))] ?_)
                 exact hR57
                ·skip
                 refine Ok.bat 3 [3, 4, 7, 16, 20, 21, 22] [(115, .bool false)] ?_
                 refine Ok.reval 115 rfl (show (.bool false : Value) = .bool ((e5.1 == 1) && (decide (x17l102 > 400))) from congrArg Value.bool (mand_f hc58)) (Ok.bat 0 [3, 4, 7, 16, 20, 21, 22] [(115, .bool ((e5.1 == 1) && (decide (x17l102 > 400))))] ?_)
                 exact hR57
               refine Ok.nil (Ok.thenN (Ok.cond (b := ((e5.1 == 1) && (decide (x17l102 > 400)))) rfl (fun hc59 => ?_) (fun hc59 => ?_)))
               ·replace hF := hF.1 hc59
                refine Ok.region (Ok.bat 1 [3, 4, 7, 20, 21, 22] [(116, .agg #[.int .i64 2, sv ([] : Bs), .bool false, .slice none 0 0])] ?_)
                have hL60 : RepL gl102 (.str) [] [] := rfl
                refine Ok.ownNil 9 1 (Ok.op rfl (OpOk.sto (k := 4) (v := .agg #[.int .i64 2, sv ([] : Bs), .bool false, .slice none ([] : List Bs).length 0]) 4 #[.int .i64 2, sv ([] : Bs), .bool false, .slice none ([] : List Bs).length 0] rfl rfl rfl ?_))
                refine Ok.nil (Ok.blockN (Ok.thenN ?_))
                exact fun a W hA hW => ⟨gl102, (((hxj73.trans hx50).trans hxj81).trans hxl102), none, 0, ([] : List Bs), [], 2, ([] : Bs), false, ayown1_0l11, cyown1_0l11, yown1_0l11, xsyown1_0l11, hL60, hLyown1_0l11, hA.sub (by kernel_rfl), hW.sub (.cons_cons _ (.cons _ (.cons _ (.cons _ (.cons_cons _ (.cons _ (.cons_cons _ (.cons_cons _ .slnil)))))))), hF⟩
               ·replace hF := hF.2 hc59
                refine Ok.region (Ok.bat 2 [4, 7, 20, 21, 22] [(3, .slice ayown50_0_0j81 (rsaV38 e5 yown1_0l11 x37ji28).length cyown50_0_0j81)] ?_)
                refine Ok.nil (Ok.blockN (Ok.thenN ?_))
                exact fun a W hA hW => ⟨gl102, (((hxj73.trans hx50).trans hxj81).trans hxl102), none, 0, ([] : List Bs), [], 0, (rsaV37 yown1_0l11 x37ji28), (decide (x37ji28 ≥ 0)), ayown50_0_0j81, cyown50_0_0j81, (rsaV38 e5 yown1_0l11 x37ji28), xsyown50_0_0j81, hL9, hLyown50_0_0j81, hA.sub (by kernel_rfl), hW.pick [2, 3, 5, 0] _ (by decide) rfl, hF⟩
     ·
      clear hF
      rintro a W ⟨gj32, hxj32, ayown9_0j32, cyown9_0j32, yown9_0j32, xsyown9_0j32, ybs7_0j32, ybs7_1j32, ybs7_2j32, ayown1_0j32, cyown1_0j32, yown1_0j32, xsyown1_0j32, hLyown9_0j32, hLyown1_0j32, hA, hW, hF⟩
      refine (?_ : Ok _ _ _ _ _ _) a W hA hW
      clear hA hW
      replace hLyown2_0l11 := hLyown2_0l11.mono hxj32.1
      replace hRxops_0 := hRxops_0.mono hxj32.1
      replace hG0 := hG0.mono hxj32.1
      replace hG1 := hG1.mono hxj32.1
      refine Ok.region (Ok.bat 1 [3, 7, 20, 21, 22] [(165, .slice ayown2_0l11 yown2_0l11.length cyown2_0l11)] ?_)
      refine Ok.op rfl (OpOk.step (v := .agg #[.int .i64 ybs7_0j32, sv ybs7_1j32, .bool ybs7_2j32, .slice ayown9_0j32 yown9_0j32.length cyown9_0j32]) (Yields.loadAgg 1 4 #[.int .i64 ybs7_0j32, sv ybs7_1j32, .bool ybs7_2j32, .slice ayown9_0j32 yown9_0j32.length cyown9_0j32] rfl rfl Tryz.underlying30 rfl (by kernel_rfl) (by kernel_rfl) (by kernel_rfl)) rfl rfl (Ok.frz 0 rfl hLyown9_0j32 fun g14 hx14 hRf14 => ?_))
      replace hLyown1_0j32 := hLyown1_0j32.mono hx14.1
      replace hRxops_0 := hRxops_0.mono hx14.1
      replace hLyown2_0l11 := hLyown2_0l11.mono hx14.1
      replace hG0 := hG0.mono hx14.1
      replace hG1 := hG1.mono hx14.1
      have hL15 : RepL g14 (.pair (.int .i64) (.pair (.str) (.pair (.bool) (.slice (.str))))) ([.int .i64 ybs7_0j32, sv ybs7_1j32, .bool ybs7_2j32, .slice ayown9_0j32 yown9_0j32.length cyown9_0j32] : List Value) ([(ybs7_0j32, ybs7_1j32, ybs7_2j32, yown9_0j32)] : List (Int × Bs × Bool × List Bs)) := (RepL.consN (c := [.int .i64 ybs7_0j32, sv ybs7_1j32, .bool ybs7_2j32, .slice ayown9_0j32 yown9_0j32.length cyown9_0j32]) ⟨[.int .i64 ybs7_0j32], [sv ybs7_1j32, .bool ybs7_2j32, .slice ayown9_0j32 yown9_0j32.length cyown9_0j32], rfl, rfl, ⟨[sv ybs7_1j32], [.bool ybs7_2j32, .slice ayown9_0j32 yown9_0j32.length cyown9_0j32], rfl, rfl, ⟨[.bool ybs7_2j32], [.slice ayown9_0j32 yown9_0j32.length cyown9_0j32], rfl, rfl, hRf14⟩⟩⟩ rfl)
      refine Ok.op rfl (OpOk.lit (E := 30) (.pair (.int .i64) (.pair (.str) (.pair (.bool) (.slice (.str))))) ([(ybs7_0j32, ybs7_1j32, ybs7_2j32, yown9_0j32)] : List (Int × Bs × Bool × List Bs)) ([.int .i64 ybs7_0j32, sv ybs7_1j32, .bool ybs7_2j32, .slice ayown9_0j32 yown9_0j32.length cyown9_0j32] : List Value) (by kernel_rfl) (by kernel_rfl) rfl (by kernel_rfl) hL15 rfl fun b15 => ?_)
      obtain ⟨hb16, hF⟩ := hF
      refine Ok.op rfl (OpOk.append' (e := .pair (.int .i64) (.pair (.str) (.pair (.bool) (.slice (.str))))) 56 2513169434916 2 0 rfl rfl rfl rfl hLyown2_0l11 hL15 Tryz.underlying23 (by kernel_rfl) (by kernel_rfl) (by kernel_rfl) hb16 rfl fun a16 c16 xs16 hL16 => ?_)
      refine Ok.bat 1 [3, 20, 21, 22] [(4, .slice a16 (yown2_0l11 ++ ([(ybs7_0j32, ybs7_1j32, ybs7_2j32, yown9_0j32)] : List (Int × Bs × Bool × List Bs))).length c16)] ?_
      refine Ok.nil (Ok.blockN (Ok.thenN (Ok.region (Ok.bat 2 [3, 4, 20, 21] [(22, .int .i64 (w6 (x22l11 + 1)))] ?_))))
      refine Ok.nil (Ok.thenN ?_)
      subst hg5
      exact fun a W hA hW => ⟨k11, Nat.lt_succ_self _, g14, ((((hxl11.trans hx10).trans hxji28).trans hxj32).trans hx14), w6 (x22l11 + 1), a16, c16, (yown2_0l11 ++ ([(ybs7_0j32, ybs7_1j32, ybs7_2j32, yown9_0j32)] : List (Int × Bs × Bool × List Bs))), xs16, ayown1_0j32, cyown1_0j32, yown1_0j32, xsyown1_0j32, hL16, hLyown1_0j32, hA.sub (by kernel_rfl), hW.sub (.cons _ (.cons _ (.cons_cons _ (.cons_cons _ .slnil)))), hF⟩
   ·replace hF := hF.2 hc3
    refine Ok.exit (Ok.thenE (Ok.thenE (Ok.blockHit (Ok.thenN (Ok.seq (Ok.region (Ok.batch 2 [(2, .slice ayown2_0l11 yown2_0l11.length cyown2_0l11)] (by kernel_rfl) (Ok.nil (Ok.thenN (Ok.ret (Ok.frz 0 rfl hLyown2_0l11 fun g84 hx84 hRf84 => ?_)))))))))))
    replace hLyown1_0l11 := hLyown1_0l11.mono hx84.1
    replace hG0 := hG0.mono hx84.1
    replace hG1 := hG1.mono hx84.1
    exact Ok.resP (vs := [.slice ayown2_0l11 yown2_0l11.length cyown2_0l11]) [] [] (by decide) rfl (.inl rfl) rfl (.cons (.tmp rfl) .nil) (hxl11.trans hx84) ⟨yown2_0l11, ayown2_0l11, cyown2_0l11, rfl, hRf84, rfl, hF⟩
end
end Go.Proofs.YtdjcgbejnpbjlaaGreatDoor.Sd
