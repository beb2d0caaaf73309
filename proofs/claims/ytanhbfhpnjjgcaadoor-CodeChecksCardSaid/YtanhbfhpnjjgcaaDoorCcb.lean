/- Code: slices.Grow of nothing, slices.Concat of numbers, slices.Equal. -/
import Derived.Test.YtanhbfhpnjjgcaaDoorCca
import Derived.Shelf.Spec.SlicesGrow
namespace Go.Eng
open Go.RowKit
theorem StW.ownNil {w0 : Base} {H : List Ent} {g : Ghost} {W : World} (hW : StW w0 H g W) (E : TypeId) (size : Nat) : StW w0 (.own (.slice none 0 0) E size 0 [] :: H) g W := ⟨fun x hx => by
  rcases List.mem_cons.1 hx with rfl | hx
  ·exact World.ownsRow_nil W _ E size
  ·exact hW.ents x hx, (show (List.filterMap Ent.block H).Nodup from hW.nodup), hW.ghost, fun x hx b hb => by
  rcases List.mem_cons.1 hx with rfl | hx
  ·simp [Ent.block, Value.ownBlock] at hb
  ·exact hW.apart x hx b hb, fun x hx b hb => by
  rcases List.mem_cons.1 hx with rfl | hx
  ·simp [Ent.block, Value.ownBlock] at hb
  ·exact hW.mine x hx b hb, hW.below⟩
end Go.Eng
namespace Go.Proofs.YtanhbfhpnjjgcaaDoor.Cc
open Go Go.Eng Go.RowKit Go.Shelf Go.Proofs
set_option linter.unusedVariables false
noncomputable section
def growR : Ren := ⟨fun | 4 => 21 | n => n, fun | 0 => 0 | 3 => 3 | 4 => 4 | 9 => 9 | 20 => 20 | 22 => 30 | 25 => 3 | n => n, fun | n => n⟩
theorem growL : Lays8.n4 Tryd.prog growR := {
 mixed := by kernel_rfl
 f4 := ⟨"slices.Grow[[]int,int]", rfl, Tryd.func21.trans (congrArg some (by kernel_rfl))⟩
 t0 := Tryd.underlying0
 a0 := Tryd.isAgg0
 z0 := Tryd.sizeOf0
 v0 := Tryd.zeroValue0
 t3 := Tryd.underlying3
 a3 := Tryd.isAgg3
 z3 := Tryd.sizeOf3
 v3 := Tryd.zeroValue3
 t4 := Tryd.underlying4
 a4 := Tryd.isAgg4
 z4 := Tryd.sizeOf4
 v4 := Tryd.zeroValue4
 t9 := Tryd.underlying9
 a9 := Tryd.isAgg9
 z9 := Tryd.sizeOf9
 v9 := Tryd.zeroValue9
 t20 := Tryd.underlying20
 a20 := Tryd.isAgg20
 z20 := Tryd.sizeOf20
 v20 := Tryd.zeroValue20
 t22 := Tryd.underlying30
 a22 := Tryd.isAgg30
 z22 := Tryd.sizeOf30
 v22 := Tryd.zeroValue30 }
def sgrS (n : Int) : List Int := []
def sgrP (n : Int) : Prop := 0 ≤ n ∧ n ≤ 1000000
theorem sgr_c {g : Ghost} (n : Int) (hp : sgrP n) : CallsH Tryd.prog 21 #[.slice none 0 0, .int .i64 n] g []
  (fun g' H' v => ∃ (a : Option Addr) (c : Nat) (xs : List Value), v = .slice a (sgrS n).length c ∧ RepL g' (.int .i64) xs (sgrS n) ∧ H' = [.own (.slice a (sgrS n).length c) 3 1 (sgrS n).length xs]) := fun W hW => by
 obtain ⟨h0, h1⟩ := hp
 obtain ⟨k, rfl⟩ := Int.eq_ofNat_of_zero_le h0
 by_cases hk : k = 0
 ·subst hk
  refine (Any8.slices_Grow_room growL none 0 0 0 W (by omega) (by omega) (by omega) (by omega)).mono fun e W' ⟨he, hw⟩ => ?_
  subst hw
  exact ⟨_, g, _, he, ⟨none, 0, [], rfl, rfl, rfl⟩, Gext.refl _ g, hW.ownNil 3 1⟩
 ·have hinf : (Tryd.prog.info? 3).map (fun i => (i.size, i.bytes, i.zero)) = some (1, 8, some (.int .i64 0)) := by kernel_rfl
  obtain ⟨i0, i1, i2⟩ := Option.map_eq_some_iff.1 hinf
  simp only [Prod.mk.injEq] at i2
  obtain ⟨i3, i4, i5⟩ := i2
  refine (Any8.slices_Grow_grow growL i0 (.int .i64 0) i1 i5 (by omega) none 0 0 k [] W (by omega) (by omega) (by rw [i4]; omega) (by omega) (by rw [i3]; rfl) (fun _ => rfl) (fun a h => by cases h)).mono fun e W' ⟨he, hw⟩ => ?_
  have hge := grownCap_ge W (0 + k) 0 3
  have hle := grownCap_le_maxLen W (0 + k) 0 3 (by unfold maxLen; omega)
  obtain ⟨G, hG⟩ : ∃ G, grownCap W (0 + k) 0 (growR.t 25) = G := ⟨_, rfl⟩
  rw [show grownCap W (0 + k) 0 3 = G from hG] at hge hle
  rw [hG] at he hw
  subst hw
  refine ⟨_, g, _, he, ⟨some ⟨W.heap.size, 0, none⟩, G, [], rfl, rfl, rfl⟩, Gext.refl _ g, ?_⟩
  refine (hW.ownNil 3 1).grown (i := 0) (e' := .own (.slice (some ⟨W.heap.size, 0, none⟩) 0 G) 3 1 0 []) rfl ⟨rfl, rfl, rfl, ?_, fun b hb _ => ?_⟩ ?_ (.inr rfl)
  ·simp
  ·exact heap_alloc_old _ _ hb
  ·refine ⟨rfl, .inr ⟨W.heap.size, G, _, rfl, Nat.zero_le _, heap_alloc_new _ _, Nat.zero_le _, hle, ?_, rfl⟩⟩
   have hz : (Value.int .i64 0).cells.size = 1 := rfl
   rw [Array.size_append, Array.size_append, size_zeroCells, size_zeroCells, hz]
   simp only [List.size_toArray, List.length_nil]
   omega
def scoS (l : List (List Int)) : List Int := l.flatten
def scoP (l : List (List Int)) : Prop := l.length ≤ 10 ∧ ∀ x ∈ l, x.length ≤ 100000
def scol34b (xslices : List (List (Int))) (K : (List (Int)) → Prop) (x27l34 : Int) (yown6_0_0l34 : List (Int)) (C34 : Int → (List (Int)) → Prop) : Prop :=
 ((decide (x27l34 < (xslices.length : Int))) = true → (0 : Int) ≤ x27l34 ∧ Int.toNat x27l34 < xslices.length ∧ (yown6_0_0l34 ++ (xslices.getD (Int.toNat x27l34) default)).length ≤ 17592186044416 ∧ C34 (w6 (x27l34 + 1)) (yown6_0_0l34 ++ (xslices.getD (Int.toNat x27l34) default))) ∧ ((decide (x27l34 < (xslices.length : Int))) = false → K yown6_0_0l34)
def scol34 (xslices : List (List (Int))) (K : (List (Int)) → Prop) : Nat → Int → (List (Int)) → Prop
 | 0, _, _ => False
 | k + 1, x27l34, yown6_0_0l34 => scol34b xslices K x27l34 yown6_0_0l34 (scol34 xslices K k)
def scol9b (xslices : List (List (Int))) (K : (List (Int)) → Prop) (x3l9 : Int) (x11l9 : Int) (C9 : Int → Int → Prop) : Prop :=
 ((decide (x11l9 < (xslices.length : Int))) = true → (0 : Int) ≤ x11l9 ∧ Int.toNat x11l9 < xslices.length ∧ ((decide ((w6 (x3l9 + ((xslices.getD (Int.toNat x11l9) default).length : Int))) < 0)) = true → False) ∧ ((decide ((w6 (x3l9 + ((xslices.getD (Int.toNat x11l9) default).length : Int))) < 0)) = false → C9 (w6 (x3l9 + ((xslices.getD (Int.toNat x11l9) default).length : Int))) (w6 (x11l9 + 1)))) ∧ ((decide (x11l9 < (xslices.length : Int))) = false → sgrP x3l9 ∧ ∃ k, scol34 xslices K k 0 (sgrS x3l9))
def scol9 (xslices : List (List (Int))) (K : (List (Int)) → Prop) : Nat → Int → Int → Prop
 | 0, _, _ => False
 | k + 1, x3l9, x11l9 => scol9b xslices K x3l9 x11l9 (scol9 xslices K k)
def scoF (xslices : List (List (Int))) (K : (List (Int)) → Prop) : Prop :=
 ∃ k, scol9 xslices K k 0 0
set_option maxHeartbeats 4000000 in
set_option maxRecDepth 100000 in
set_option linter.unusedVariables false in
theorem sco_ok {g : Ghost} {axslices_0 : Option Addr} {cxslices_0 : Nat} (xslices : List (List (Int))) (hRxslices_0 : Rep g (.slice (.slice (.int .i64))) [.slice axslices_0 xslices.length cxslices_0] xslices) (K : (List (Int)) → Prop)
  (hF : scoF xslices K) : CallsH Tryd.prog 18 #[.slice axslices_0 xslices.length cxslices_0] g [] (fun g' H' v => ∃ (r0 : List (Int)), ∃ (ar0_0 : Option Addr) (cr0_0 : Nat), v = .slice ar0_0 r0.length cr0_0 ∧ Rep g' (.slice (.int .i64)) [.slice ar0_0 r0.length cr0_0] r0 ∧ H' = [] ∧ K r0) := by
 refine CallsH.enter 36 [(0, .slice axslices_0 xslices.length cxslices_0)] Tryd.func18 rfl (by kernel_rfl) (by kernel_rfl) (by kernel_rfl) fun w0 => ?_
 refine Ok.seq ?_
 refine Ok.region ?_
 refine Ok.batch 1 [(0, .slice axslices_0 xslices.length cxslices_0)] (by kernel_rfl) ?_
 refine Ok.nil ?_
 refine Ok.thenN ?_
 refine Ok.seq ?_
 refine Ok.region ?_
 refine Ok.batch 1 [(0, .slice axslices_0 xslices.length cxslices_0), (3, .int .i64 0)] (by kernel_rfl) ?_
 refine Ok.nil ?_
 refine Ok.thenN ?_
 refine Ok.seq ?_
 refine Ok.seq ?_
 refine Ok.region ?_
 refine Ok.batch 3 [(0, .slice axslices_0 xslices.length cxslices_0), (3, .int .i64 0), (9, .slice axslices_0 xslices.length cxslices_0), (10, .int .i64 (xslices.length : Int)), (11, .int .i64 0)] (by kernel_rfl) ?_
 refine Ok.nil ?_
 refine Ok.thenN ?_
 refine Ok.block ?_
 obtain ⟨k, hF⟩ := hF
 refine Ok.loop (fun k a W => ∃ gl9 : Ghost, Gext w0 g gl9 ∧ ∃ (x3l9 : Int) (x11l9 : Int), StA 36 [(0, .slice axslices_0 xslices.length cxslices_0), (3, .int .i64 x3l9), (9, .slice axslices_0 xslices.length cxslices_0), (10, .int .i64 (xslices.length : Int)), (11, .int .i64 x11l9)] a ∧ StW w0 [] gl9 W ∧ scol9 xslices K k x3l9 x11l9) k ?_ ?_
 ·
  exact fun a W hA hW => ⟨g, (Gext.refl w0 g), 0, 0, hA.sub (by kernel_rfl), hW, hF⟩
 ·
  clear hF
  rintro k9 a W ⟨gl9, hxl9, x3l9, x11l9, hA, hW, hF⟩
  cases k9 with
  | zero => exact (hF : False).elim
  | succ k9 =>
   refine (?_ : Ok _ _ _ _ _ _) a W hA hW
   clear hA hW
   replace hRxslices_0 := hRxslices_0.mono hxl9.1
   refine Ok.seq ?_
   refine Ok.region ?_
   refine Ok.batch 1 [(0, .slice axslices_0 xslices.length cxslices_0), (3, .int .i64 x3l9), (9, .slice axslices_0 xslices.length cxslices_0), (10, .int .i64 (xslices.length : Int)), (11, .int .i64 x11l9), (12, .bool (decide (x11l9 < (xslices.length : Int))))] (by kernel_rfl) ?_
   refine Ok.nil ?_
   refine Ok.thenN ?_
   refine Ok.seq ?_
   refine Ok.cond (b := decide (x11l9 < (xslices.length : Int))) rfl (fun hc1 => ?_) (fun hc1 => ?_)
   ·replace hF := hF.1 hc1
    refine Ok.skip ?_
    refine Ok.thenN ?_
    refine Ok.seq ?_
    refine Ok.block ?_
    refine Ok.seq ?_
    refine Ok.region ?_
    obtain ⟨h03, h13, hF⟩ := hF
    have he3 := get_of (l := xslices) (default : List (Int)) h13
    generalize hg3 : (xslices.getD (Int.toNat x11l9) default) = e3 at he3 hF ⊢
    refine Ok.op rfl (OpOk.indexRo (e := .slice (.int .i64)) (i := x11l9) (el := e3) rfl rfl Tryd.underlying67 (by kernel_rfl) hRxslices_0 h03 he3 rfl fun q2 o2 cs2 _ hat2 hr2 => ?_)
    obtain ⟨a2_0, c2_0, rfl, hm2_0, hr2_0⟩ := hr2
    have hR2_0 : Rep gl9 (.slice (.int .i64)) [.slice a2_0 e3.length c2_0] e3 := ⟨a2_0, c2_0, rfl, hm2_0, hr2_0⟩
    replace hat2 : At gl9 q2 o2 [.slice a2_0 e3.length c2_0] := hat2
    refine Ok.op rfl (OpOk.step (v := .slice a2_0 e3.length c2_0) (Yields.loadRo 0 hat2 (by kernel_rfl) Tryd.underlying30 rfl (by kernel_rfl)) rfl rfl ?_)
    refine Ok.batch 1 [(0, .slice axslices_0 xslices.length cxslices_0), (3, .int .i64 x3l9), (5, .slice a2_0 e3.length c2_0), (9, .slice axslices_0 xslices.length cxslices_0), (10, .int .i64 (xslices.length : Int)), (11, .int .i64 x11l9)] (by kernel_rfl) ?_
    refine Ok.nil ?_
    refine Ok.thenN ?_
    refine Ok.seq ?_
    refine Ok.region ?_
    refine Ok.batch 5 [(0, .slice axslices_0 xslices.length cxslices_0), (3, .int .i64 (w6 (x3l9 + (e3.length : Int)))), (9, .slice axslices_0 xslices.length cxslices_0), (10, .int .i64 (xslices.length : Int)), (11, .int .i64 x11l9)] (by kernel_rfl) ?_
    refine Ok.nil ?_
    refine Ok.thenN ?_
    refine Ok.seq ?_
    refine Ok.region ?_
    refine Ok.batch 2 [(0, .slice axslices_0 xslices.length cxslices_0), (3, .int .i64 (w6 (x3l9 + (e3.length : Int)))), (9, .slice axslices_0 xslices.length cxslices_0), (10, .int .i64 (xslices.length : Int)), (11, .int .i64 x11l9), (20, .bool (decide ((w6 (x3l9 + (e3.length : Int))) < 0)))] (by kernel_rfl) ?_
    refine Ok.nil ?_
    refine Ok.thenN ?_
    refine Ok.cond (b := decide ((w6 (x3l9 + (e3.length : Int))) < 0)) rfl (fun hc4 => ?_) (fun hc4 => ?_)
    ·replace hF := hF.1 hc4
     exact False.elim hF
    ·replace hF := hF.2 hc4
     refine Ok.skip ?_
     refine Ok.blockN ?_
     refine Ok.thenN ?_
     refine Ok.region ?_
     refine Ok.batch 2 [(0, .slice axslices_0 xslices.length cxslices_0), (3, .int .i64 (w6 (x3l9 + (e3.length : Int)))), (9, .slice axslices_0 xslices.length cxslices_0), (10, .int .i64 (xslices.length : Int)), (11, .int .i64 (w6 (x11l9 + 1)))] (by kernel_rfl) ?_
     refine Ok.nil ?_
     refine Ok.thenN ?_
     subst hg3
     exact fun a W hA hW => ⟨k9, Nat.lt_succ_self _, gl9, hxl9, w6 (x3l9 + ((xslices.getD (Int.toNat x11l9) default).length : Int)), w6 (x11l9 + 1), hA.sub (by kernel_rfl), hW, hF⟩
   ·replace hF := hF.2 hc1
    refine Ok.exit ?_
    refine Ok.thenE ?_
    refine Ok.thenE ?_
    refine Ok.blockHit ?_
    refine Ok.thenN ?_
    refine Ok.seq ?_
    refine Ok.region ?_
    refine Ok.batch 1 [(0, .slice axslices_0 xslices.length cxslices_0), (23, .int .i64 x3l9)] (by kernel_rfl) ?_
    obtain ⟨hp5, hF⟩ := hF
    refine Ok.op rfl (OpOk.callH [] [] (enters (by kernel_rfl) (fun _ => by kernel_rfl)) rfl (sgr_c x3l9 hp5) rfl fun g6 _ _ hx6 hV6 => ?_)
    obtain ⟨a6_0, c6_0, xs6_0, rfl, hL6_0, rfl⟩ := hV6
    replace hRxslices_0 := hRxslices_0.mono hx6.1
    refine Ok.batch 1 [(0, .slice axslices_0 xslices.length cxslices_0), (6, .slice a6_0 (sgrS x3l9).length c6_0)] (by kernel_rfl) ?_
    refine Ok.nil ?_
    refine Ok.thenN ?_
    refine Ok.seq ?_
    refine Ok.seq ?_
    refine Ok.region ?_
    refine Ok.batch 3 [(6, .slice a6_0 (sgrS x3l9).length c6_0), (25, .slice axslices_0 xslices.length cxslices_0), (26, .int .i64 (xslices.length : Int)), (27, .int .i64 0)] (by kernel_rfl) ?_
    refine Ok.nil ?_
    refine Ok.thenN ?_
    refine Ok.block ?_
    obtain ⟨k, hF⟩ := hF
    refine Ok.loop (fun k a W => ∃ gl34 : Ghost, Gext w0 g6 gl34 ∧ ∃ (x27l34 : Int) (ayown6_0_0l34 : Option Addr) (cyown6_0_0l34 : Nat) (yown6_0_0l34 : List (Int)) (xsyown6_0_0l34 : List Value), RepL gl34 (.int .i64) xsyown6_0_0l34 yown6_0_0l34 ∧ StA 36 [(6, .slice ayown6_0_0l34 yown6_0_0l34.length cyown6_0_0l34), (25, .slice axslices_0 xslices.length cxslices_0), (26, .int .i64 (xslices.length : Int)), (27, .int .i64 x27l34)] a ∧ StW w0 [.own (.slice ayown6_0_0l34 yown6_0_0l34.length cyown6_0_0l34) 3 1 yown6_0_0l34.length xsyown6_0_0l34] gl34 W ∧ scol34 xslices K k x27l34 yown6_0_0l34) k ?_ ?_
    ·
     exact fun a W hA hW => ⟨g6, (Gext.refl w0 g6), 0, a6_0, c6_0, (sgrS x3l9), xs6_0, hL6_0, hA.sub (by kernel_rfl), hW, hF⟩
    ·
     clear hF
     rintro k34 a W ⟨gl34, hxl34, x27l34, ayown6_0_0l34, cyown6_0_0l34, yown6_0_0l34, xsyown6_0_0l34, hLyown6_0_0l34, hA, hW, hF⟩
     cases k34 with
     | zero => exact (hF : False).elim
     | succ k34 =>
      refine (?_ : Ok _ _ _ _ _ _) a W hA hW
      clear hA hW
      replace hRxslices_0 := hRxslices_0.mono hxl34.1
      refine Ok.seq ?_
      refine Ok.region ?_
      refine Ok.batch 1 [(6, .slice ayown6_0_0l34 yown6_0_0l34.length cyown6_0_0l34), (25, .slice axslices_0 xslices.length cxslices_0), (26, .int .i64 (xslices.length : Int)), (27, .int .i64 x27l34), (28, .bool (decide (x27l34 < (xslices.length : Int))))] (by kernel_rfl) ?_
      refine Ok.nil ?_
      refine Ok.thenN ?_
      refine Ok.seq ?_
      refine Ok.cond (b := decide (x27l34 < (xslices.length : Int))) rfl (fun hc7 => ?_) (fun hc7 => ?_)
      ·replace hF := hF.1 hc7
       refine Ok.skip ?_
       refine Ok.thenN ?_
       refine Ok.seq ?_
       refine Ok.block ?_
       refine Ok.seq ?_
       refine Ok.region ?_
       obtain ⟨h09, h19, hF⟩ := hF
       have he9 := get_of (l := xslices) (default : List (Int)) h19
       generalize hg9 : (xslices.getD (Int.toNat x27l34) default) = e9 at he9 hF ⊢
       refine Ok.op rfl (OpOk.indexRo (e := .slice (.int .i64)) (i := x27l34) (el := e9) rfl rfl Tryd.underlying67 (by kernel_rfl) hRxslices_0 h09 he9 rfl fun q8 o8 cs8 _ hat8 hr8 => ?_)
       obtain ⟨a8_0, c8_0, rfl, hm8_0, hr8_0⟩ := hr8
       have hR8_0 : Rep gl34 (.slice (.int .i64)) [.slice a8_0 e9.length c8_0] e9 := ⟨a8_0, c8_0, rfl, hm8_0, hr8_0⟩
       replace hat8 : At gl34 q8 o8 [.slice a8_0 e9.length c8_0] := hat8
       refine Ok.op rfl (OpOk.step (v := .slice a8_0 e9.length c8_0) (Yields.loadRo 0 hat8 (by kernel_rfl) Tryd.underlying30 rfl (by kernel_rfl)) rfl rfl ?_)
       refine Ok.batch 1 [(6, .slice ayown6_0_0l34 yown6_0_0l34.length cyown6_0_0l34), (8, .slice a8_0 e9.length c8_0), (25, .slice axslices_0 xslices.length cxslices_0), (26, .int .i64 (xslices.length : Int)), (27, .int .i64 x27l34)] (by kernel_rfl) ?_
       refine Ok.nil ?_
       refine Ok.thenN ?_
       refine Ok.region ?_
       refine Ok.batch 2 [(25, .slice axslices_0 xslices.length cxslices_0), (26, .int .i64 (xslices.length : Int)), (27, .int .i64 x27l34), (31, .slice ayown6_0_0l34 yown6_0_0l34.length cyown6_0_0l34), (32, .slice a8_0 e9.length c8_0)] (by kernel_rfl) ?_
       obtain ⟨hb10, hF⟩ := hF
       refine Ok.op rfl (OpOk.appendRo (e := .int .i64) 8 17592186044416 0 rfl rfl rfl hLyown6_0_0l34 hR8_0 Tryd.underlying30 (by kernel_rfl) (by kernel_rfl) (by kernel_rfl) hb10 rfl fun a10 c10 xs10 hL10 => ?_)
       refine Ok.batch 1 [(6, .slice a10 (yown6_0_0l34 ++ e9).length c10), (25, .slice axslices_0 xslices.length cxslices_0), (26, .int .i64 (xslices.length : Int)), (27, .int .i64 x27l34)] (by kernel_rfl) ?_
       refine Ok.nil ?_
       refine Ok.blockN ?_
       refine Ok.thenN ?_
       refine Ok.region ?_
       refine Ok.batch 2 [(6, .slice a10 (yown6_0_0l34 ++ e9).length c10), (25, .slice axslices_0 xslices.length cxslices_0), (26, .int .i64 (xslices.length : Int)), (27, .int .i64 (w6 (x27l34 + 1)))] (by kernel_rfl) ?_
       refine Ok.nil ?_
       refine Ok.thenN ?_
       subst hg9
       exact fun a W hA hW => ⟨k34, Nat.lt_succ_self _, gl34, hxl34, w6 (x27l34 + 1), a10, c10, (yown6_0_0l34 ++ (xslices.getD (Int.toNat x27l34) default)), xs10, hL10, hA.sub (by kernel_rfl), hW, hF⟩
      ·replace hF := hF.2 hc7
       refine Ok.exit ?_
       refine Ok.thenE ?_
       refine Ok.thenE ?_
       refine Ok.blockHit ?_
       refine Ok.thenN ?_
       refine Ok.seq ?_
       refine Ok.region ?_
       refine Ok.batch 2 [(2, .slice ayown6_0_0l34 yown6_0_0l34.length cyown6_0_0l34)] (by kernel_rfl) ?_
       refine Ok.nil ?_
       refine Ok.thenN ?_
       refine Ok.ret ?_
       refine Ok.freeze (H' := []) 0 rfl hLyown6_0_0l34 rfl fun g11 hx11 hRf11 => ?_
       exact Ok.resH (vs := [.slice ayown6_0_0l34 yown6_0_0l34.length cyown6_0_0l34]) (.inl rfl) rfl (.cons (.tmp rfl) .nil) (((hxl9.trans hx6).trans hxl34).trans hx11) ⟨yown6_0_0l34, ayown6_0_0l34, cyown6_0_0l34, rfl, hRf11, rfl, hF⟩
theorem sum_lens : ∀ (l : List (List Int)), (∀ x ∈ l, x.length ≤ 100000) → l.flatten.length ≤ 100000 * l.length
 | [], _ => Nat.le_refl _
 | a :: l, h => by
  have h1 := h a (List.mem_cons_self ..)
  have h2 := sum_lens l fun x hx => h x (List.mem_cons_of_mem _ hx)
  rw [List.flatten_cons, List.length_append, List.length_cons]; omega
theorem flat_take (l : List (List Int)) (i : Nat) (hi : i < l.length) : (l.take (i + 1)).flatten = (l.take i).flatten ++ l.getD i default := by
 rw [List.take_add_one, List.flatten_append, List.getD_eq_getElem?_getD, List.getElem?_eq_getElem hi]
 simp
theorem sco_F (l : List (List Int)) (hp : scoP l) : scoF l (fun r => r = scoS l) := by
 obtain ⟨hp1, hp2⟩ := hp
 have hb : ∀ i, (l.take i).flatten.length ≤ 1000000 := fun i => by
  have := sum_lens (l.take i) fun x hx => hp2 x (List.mem_of_mem_take hx)
  rw [List.length_take] at this
  omega
 have loop2 : ∀ (k i : Nat), i + k = l.length → scol34 l (fun r => r = scoS l) (k + 1) (i : Int) (l.take i).flatten := by
  intro k
  induction k with
  | zero =>
   intro i h1
   refine ⟨fun h => by have := of_decide_eq_true h; omega, fun _ => ?_⟩
   rw [List.take_of_length_le (by omega)]; rfl
  | succ k ih =>
   intro i h1
   have hi : i < l.length := by omega
   have h2 := hb (i + 1)
   have h3 := flat_take l i hi
   refine ⟨fun _ => ⟨by omega, by rw [Int.toNat_natCast]; omega, ?_⟩, fun h => by have := of_decide_eq_false h; omega⟩
   rw [Int.toNat_natCast, ← h3, w64 (by omega)]
   exact ⟨by omega, ih (i + 1) (by omega)⟩
 have loop1 : ∀ (k i : Nat), i + k = l.length → scol9 l (fun r => r = scoS l) (k + 1) ((l.take i).flatten.length : Int) (i : Int) := by
  intro k
  induction k with
  | zero =>
   intro i h1
   have h2 := hb i
   exact ⟨fun h => by have := of_decide_eq_true h; omega, fun _ => ⟨⟨by omega, by omega⟩, _, loop2 l.length 0 (by omega)⟩⟩
  | succ k ih =>
   intro i h1
   have hi : i < l.length := by omega
   have h2 := hb (i + 1)
   have h3 := congrArg List.length (flat_take l i hi)
   rw [List.length_append] at h3
   refine ⟨fun _ => ⟨by omega, by rw [Int.toNat_natCast]; omega, ?_⟩, fun h => by have := of_decide_eq_false h; omega⟩
   rw [Int.toNat_natCast, w64 (by omega), w64 (by omega)]
   refine ⟨fun h => ?_, fun _ => ?_⟩
   ·have := of_decide_eq_true h; omega
   ·have e : ((l.take i).flatten.length : Int) + ((l.getD i default).length : Int) = ((l.take (i + 1)).flatten.length : Int) := by omega
    rw [e]
    exact ih (i + 1) (by omega)
 exact ⟨_, loop1 l.length 0 (by omega)⟩
set_option linter.unusedVariables false in
theorem sco_c {g : Ghost} {axslices_0 : Option Addr} {cxslices_0 : Nat} (xslices : List (List (Int))) (hRxslices_0 : Rep g (.slice (.slice (.int .i64))) [.slice axslices_0 xslices.length cxslices_0] xslices)  (hp : scoP xslices) : CallsH Tryd.prog 18 #[.slice axslices_0 xslices.length cxslices_0] g [] (fun g' H' v => ∃ (ar0_0 : Option Addr) (cr0_0 : Nat), v = .slice ar0_0 (scoS xslices).length cr0_0 ∧ Rep g' (.slice (.int .i64)) [.slice ar0_0 (scoS xslices).length cr0_0] (scoS xslices) ∧ H' = []) :=
 (sco_ok xslices hRxslices_0 _ (sco_F xslices hp)).mono (by rintro g' H' v _ ⟨r0, ar0_0, cr0_0, rfl, hRr0_0, rfl, hK⟩; subst hK; exact ⟨ar0_0, cr0_0, rfl, hRr0_0, rfl⟩)
def ceql15b (xs1 : List (Int)) (xs2 : List (Int)) (K : Bool → Prop) (x13l15 : Int) (C15 : Int → Prop) : Prop :=
 ((decide (x13l15 < (xs1.length : Int))) = true → (0 : Int) ≤ x13l15 ∧ Int.toNat x13l15 < xs1.length ∧ (0 : Int) ≤ x13l15 ∧ Int.toNat x13l15 < xs2.length ∧ ((((xs1.getD (Int.toNat x13l15) default) != (xs2.getD (Int.toNat x13l15) default))) = true → K false) ∧ ((((xs1.getD (Int.toNat x13l15) default) != (xs2.getD (Int.toNat x13l15) default))) = false → C15 (w6 (x13l15 + 1)))) ∧ ((decide (x13l15 < (xs1.length : Int))) = false → K true)
def ceql15 (xs1 : List (Int)) (xs2 : List (Int)) (K : Bool → Prop) : Nat → Int → Prop
 | 0, _ => False
 | k + 1, x13l15 => ceql15b xs1 xs2 K x13l15 (ceql15 xs1 xs2 K k)
def ceqF (xs1 : List (Int)) (xs2 : List (Int)) (K : Bool → Prop) : Prop :=
 ((((xs1.length : Int) != (xs2.length : Int))) = true → K false) ∧ ((((xs1.length : Int) != (xs2.length : Int))) = false → ∃ k, ceql15 xs1 xs2 K k 0)
set_option maxHeartbeats 4000000 in
set_option maxRecDepth 100000 in
set_option linter.unusedVariables false in
theorem ceq_ok {g : Ghost} {axs1_0 : Option Addr} {cxs1_0 : Nat} (xs1 : List (Int)) {axs2_0 : Option Addr} {cxs2_0 : Nat} (xs2 : List (Int)) (hRxs1_0 : Rep g (.slice (.int .i64)) [.slice axs1_0 xs1.length cxs1_0] xs1) (hRxs2_0 : Rep g (.slice (.int .i64)) [.slice axs2_0 xs2.length cxs2_0] xs2) (K : Bool → Prop)
  (hF : ceqF xs1 xs2 K) : CallsH Tryd.prog 20 #[.slice axs1_0 xs1.length cxs1_0, .slice axs2_0 xs2.length cxs2_0] g [] (fun g' H' v => ∃ (r0 : Bool), v = .bool r0 ∧ H' = [] ∧ K r0) := by
 refine CallsH.enter 26 [(0, .slice axs1_0 xs1.length cxs1_0), (1, .slice axs2_0 xs2.length cxs2_0)] Tryd.func20 rfl (by kernel_rfl) (by kernel_rfl) (by kernel_rfl) fun w0 => ?_
 refine Ok.seq ?_
 refine Ok.region ?_
 refine Ok.batch 1 [(0, .slice axs1_0 xs1.length cxs1_0), (1, .slice axs2_0 xs2.length cxs2_0)] (by kernel_rfl) ?_
 refine Ok.nil ?_
 refine Ok.thenN ?_
 refine Ok.seq ?_
 refine Ok.seq ?_
 refine Ok.region ?_
 refine Ok.batch 5 [(0, .slice axs1_0 xs1.length cxs1_0), (1, .slice axs2_0 xs2.length cxs2_0), (10, .bool ((xs1.length : Int) != (xs2.length : Int)))] (by kernel_rfl) ?_
 refine Ok.nil ?_
 refine Ok.thenN ?_
 refine Ok.cond (b := ((xs1.length : Int) != (xs2.length : Int))) rfl (fun hc1 => ?_) (fun hc1 => ?_)
 ·replace hF := hF.1 hc1
  refine Ok.seq ?_
  refine Ok.region ?_
  refine Ok.batch 1 [(4, .bool false)] (by kernel_rfl) ?_
  refine Ok.nil ?_
  refine Ok.thenN ?_
  refine Ok.ret ?_
  refine Ok.thenR ?_
  exact Ok.resH (vs := [.bool false]) (.inl rfl) rfl (.cons (.tmp rfl) .nil) (Gext.refl w0 g) ⟨false, rfl, rfl, hF⟩
 ·replace hF := hF.2 hc1
  refine Ok.skip ?_
  refine Ok.thenN ?_
  refine Ok.seq ?_
  refine Ok.seq ?_
  refine Ok.region ?_
  refine Ok.batch 3 [(0, .slice axs1_0 xs1.length cxs1_0), (1, .slice axs2_0 xs2.length cxs2_0), (12, .int .i64 (xs1.length : Int)), (13, .int .i64 0)] (by kernel_rfl) ?_
  refine Ok.nil ?_
  refine Ok.thenN ?_
  refine Ok.block ?_
  obtain ⟨k, hF⟩ := hF
  refine Ok.loop (fun k a W => ∃ (x13l15 : Int), StA 26 [(0, .slice axs1_0 xs1.length cxs1_0), (1, .slice axs2_0 xs2.length cxs2_0), (12, .int .i64 (xs1.length : Int)), (13, .int .i64 x13l15)] a ∧ StW w0 [] g W ∧ ceql15 xs1 xs2 K k x13l15) k ?_ ?_
  ·
   exact fun a W hA hW => ⟨0, hA.sub (by kernel_rfl), hW, hF⟩
  ·
   clear hF
   rintro k15 a W ⟨x13l15, hA, hW, hF⟩
   cases k15 with
   | zero => exact (hF : False).elim
   | succ k15 =>
    refine (?_ : Ok _ _ _ _ _ _) a W hA hW
    clear hA hW
    refine Ok.seq ?_
    refine Ok.region ?_
    refine Ok.batch 1 [(0, .slice axs1_0 xs1.length cxs1_0), (1, .slice axs2_0 xs2.length cxs2_0), (12, .int .i64 (xs1.length : Int)), (13, .int .i64 x13l15), (14, .bool (decide (x13l15 < (xs1.length : Int))))] (by kernel_rfl) ?_
    refine Ok.nil ?_
    refine Ok.thenN ?_
    refine Ok.seq ?_
    refine Ok.cond (b := decide (x13l15 < (xs1.length : Int))) rfl (fun hc2 => ?_) (fun hc2 => ?_)
    ·replace hF := hF.1 hc2
     refine Ok.skip ?_
     refine Ok.thenN ?_
     refine Ok.seq ?_
     refine Ok.block ?_
     refine Ok.seq ?_
     refine Ok.region ?_
     refine Ok.batch 2 [(0, .slice axs1_0 xs1.length cxs1_0), (1, .slice axs2_0 xs2.length cxs2_0), (5, .int .i64 x13l15), (12, .int .i64 (xs1.length : Int)), (13, .int .i64 x13l15)] (by kernel_rfl) ?_
     refine Ok.nil ?_
     refine Ok.thenN ?_
     refine Ok.seq ?_
     refine Ok.quiet' (by kernel_rfl) (by kernel_rfl) ?_
     refine OkQ.batch 2 [(0, .slice axs1_0 xs1.length cxs1_0), (1, .slice axs2_0 xs2.length cxs2_0), (5, .int .i64 x13l15), (12, .int .i64 (xs1.length : Int)), (13, .int .i64 x13l15), (16, .slice axs1_0 xs1.length cxs1_0), (17, .int .i64 x13l15)] (by kernel_rfl) ?_
     obtain ⟨h04, h14, hF⟩ := hF
     have he4 := get_of (l := xs1) (default : Int) h14
     generalize hg4 : (xs1.getD (Int.toNat x13l15) default) = e4 at he4 hF ⊢
     refine OkQ.op rfl (OpQ.indexRo (e := .int .i64) (i := x13l15) (el := e4) rfl rfl Tryd.underlying30 (by kernel_rfl) hRxs1_0 h04 he4 rfl fun q3 o3 cs3 _ hat3 hr3 => ?_)
     obtain rfl := hr3
     replace hat3 : At g q3 o3 [.int .i64 e4] := hat3
     refine OkQ.op rfl (OpQ.step (v := .int .i64 e4) (Yields.loadRo 0 hat3 (by kernel_rfl) Tryd.underlying3 rfl (by kernel_rfl)) rfl rfl ?_)
     refine OkQ.batch 2 [(0, .slice axs1_0 xs1.length cxs1_0), (1, .slice axs2_0 xs2.length cxs2_0), (12, .int .i64 (xs1.length : Int)), (13, .int .i64 x13l15), (19, .int .i64 e4), (20, .slice axs2_0 xs2.length cxs2_0), (21, .int .i64 x13l15)] (by kernel_rfl) ?_
     obtain ⟨h06, h16, hF⟩ := hF
     have he6 := get_of (l := xs2) (default : Int) h16
     generalize hg6 : (xs2.getD (Int.toNat x13l15) default) = e6 at he6 hF ⊢
     refine OkQ.op rfl (OpQ.indexRo (e := .int .i64) (i := x13l15) (el := e6) rfl rfl Tryd.underlying30 (by kernel_rfl) hRxs2_0 h06 he6 rfl fun q5 o5 cs5 _ hat5 hr5 => ?_)
     obtain rfl := hr5
     replace hat5 : At g q5 o5 [.int .i64 e6] := hat5
     refine OkQ.op rfl (OpQ.step (v := .int .i64 e6) (Yields.loadRo 0 hat5 (by kernel_rfl) Tryd.underlying3 rfl (by kernel_rfl)) rfl rfl ?_)
     refine OkQ.batch 1 [(0, .slice axs1_0 xs1.length cxs1_0), (1, .slice axs2_0 xs2.length cxs2_0), (12, .int .i64 (xs1.length : Int)), (13, .int .i64 x13l15), (24, .bool (e4 != e6))] (by kernel_rfl) ?_
     refine OkQ.nil ?_
     refine Ok.thenN ?_
     refine Ok.cond (b := (e4 != e6)) rfl (fun hc7 => ?_) (fun hc7 => ?_)
     ·replace hF := hF.1 hc7
      refine Ok.seq ?_
      refine Ok.region ?_
      refine Ok.batch 1 [(4, .bool false)] (by kernel_rfl) ?_
      refine Ok.nil ?_
      refine Ok.thenN ?_
      refine Ok.ret ?_
      refine Ok.blockR ?_
      refine Ok.thenR ?_
      refine Ok.thenR ?_
      refine Ok.blockR ?_
      refine Ok.thenR ?_
      exact Ok.resH (vs := [.bool false]) (.inl rfl) rfl (.cons (.tmp rfl) .nil) (Gext.refl w0 g) ⟨false, rfl, rfl, hF⟩
     ·replace hF := hF.2 hc7
      refine Ok.skip ?_
      refine Ok.blockN ?_
      refine Ok.thenN ?_
      refine Ok.region ?_
      refine Ok.batch 2 [(0, .slice axs1_0 xs1.length cxs1_0), (1, .slice axs2_0 xs2.length cxs2_0), (12, .int .i64 (xs1.length : Int)), (13, .int .i64 (w6 (x13l15 + 1)))] (by kernel_rfl) ?_
      refine Ok.nil ?_
      refine Ok.thenN ?_
      subst hg6
      subst hg4
      exact fun a W hA hW => ⟨k15, Nat.lt_succ_self _, w6 (x13l15 + 1), hA.sub (by kernel_rfl), hW, hF⟩
    ·replace hF := hF.2 hc2
     refine Ok.exit ?_
     refine Ok.thenE ?_
     refine Ok.thenE ?_
     refine Ok.blockHit ?_
     refine Ok.thenN ?_
     refine Ok.seq ?_
     refine Ok.region ?_
     refine Ok.batch 1 [(4, .bool true)] (by kernel_rfl) ?_
     refine Ok.nil ?_
     refine Ok.thenN ?_
     refine Ok.ret ?_
     exact Ok.resH (vs := [.bool true]) (.inl rfl) rfl (.cons (.tmp rfl) .nil) (Gext.refl w0 g) ⟨true, rfl, rfl, hF⟩
def ceqS (a b : List (Int)) : Bool := a == b
def ceqP (a b : List (Int)) : Prop := a.length ≤ 1000000 ∧ b.length ≤ 1000000
theorem ceq_F (p q : List (Int)) (hp : ceqP p q) : ceqF p q (fun r => r = ceqS p q) := by
 obtain ⟨hp1, hp2⟩ := hp
 unfold ceqS
 refine ⟨fun h => ?_, fun h => ?_⟩
 ·have h : p.length ≠ q.length := by rw [bne_iff_ne] at h; omega
  have : (p == q) = false := by
   rw [beq_eq_false_iff_ne]
   intro h2; exact h (congrArg List.length h2)
  rw [this]
 ·have hlen : p.length = q.length := by
   rw [bne_eq_false_iff_eq] at h; omega
  have loop : ∀ (k i : Nat), i + k = p.length → (p == q) = (p.drop i == q.drop i) → ceql15 p q (fun r => r = (p == q)) (k + 1) (i : Int) := by
   intro k
   induction k with
   | zero =>
    intro i h1 he
    rw [List.drop_of_length_le (by omega), List.drop_of_length_le (by omega)] at he
    exact ⟨fun h => by have := of_decide_eq_true h; omega, fun _ => by rw [he]; rfl⟩
   | succ k ih =>
    intro i h1 he
    have hi : i < p.length := by omega
    rw [drop_get (l := p) default hi, drop_get (l := q) default (by omega)] at he
    refine ⟨fun _ => ?_, fun h => by have := of_decide_eq_false h; omega⟩
    rw [Int.toNat_natCast]
    refine ⟨by omega, by omega, by omega, by omega, fun h => ?_, fun h => ?_⟩
    ·have h : (p.getD i default == q.getD i default) = false := by rw [bne, Bool.not_eq_true'] at h; exact h
     rw [he, List.cons_beq_cons, h]; rfl
    ·have h : (p.getD i default == q.getD i default) = true := by rw [bne, Bool.not_eq_false'] at h; exact h
     rw [w64 (by omega)]
     refine ih (i + 1) (by omega) ?_
     rw [he, List.cons_beq_cons, h]; rfl
  exact ⟨_, loop p.length 0 (by omega) rfl⟩
set_option linter.unusedVariables false in
theorem ceq_c {g : Ghost} {axs1_0 : Option Addr} {cxs1_0 : Nat} (xs1 : List (Int)) {axs2_0 : Option Addr} {cxs2_0 : Nat} (xs2 : List (Int)) (hRxs1_0 : Rep g (.slice (.int .i64)) [.slice axs1_0 xs1.length cxs1_0] xs1) (hRxs2_0 : Rep g (.slice (.int .i64)) [.slice axs2_0 xs2.length cxs2_0] xs2)  (hp : ceqP xs1 xs2) : CallsG Tryd.prog 20 #[.slice axs1_0 xs1.length cxs1_0, .slice axs2_0 xs2.length cxs2_0] g (.bool (ceqS xs1 xs2)) :=
 (ceq_ok xs1 xs2 hRxs1_0 hRxs2_0 _ (ceq_F xs1 xs2 hp)).gives (by rintro g' H' v _ ⟨r0, rfl, rfl, hK⟩; subst hK; rfl)

theorem pairEq (x y : Int × Int) : ([x.1 == y.1, x.2 == y.2].all id) = (x == y) := by
 obtain ⟨a, b⟩ := x; obtain ⟨c, d⟩ := y
 show ((a == c) && ((b == d) && true)) = _
 rw [Bool.and_true]; rfl
def peql15b (xs1 : List (Int × Int)) (xs2 : List (Int × Int)) (K : Bool → Prop) (x13l15 : Int) (C15 : Int → Prop) : Prop :=
 ((decide (x13l15 < (xs1.length : Int))) = true → (0 : Int) ≤ x13l15 ∧ Int.toNat x13l15 < xs1.length ∧ (0 : Int) ≤ x13l15 ∧ Int.toNat x13l15 < xs2.length ∧ ((!([((xs1.getD (Int.toNat x13l15) default).1 == (xs2.getD (Int.toNat x13l15) default).1), ((xs1.getD (Int.toNat x13l15) default).2 == (xs2.getD (Int.toNat x13l15) default).2)].all id)) = true → K false) ∧ ((!([((xs1.getD (Int.toNat x13l15) default).1 == (xs2.getD (Int.toNat x13l15) default).1), ((xs1.getD (Int.toNat x13l15) default).2 == (xs2.getD (Int.toNat x13l15) default).2)].all id)) = false → C15 (w6 (x13l15 + 1)))) ∧ ((decide (x13l15 < (xs1.length : Int))) = false → K true)
def peql15 (xs1 : List (Int × Int)) (xs2 : List (Int × Int)) (K : Bool → Prop) : Nat → Int → Prop
 | 0, _ => False
 | k + 1, x13l15 => peql15b xs1 xs2 K x13l15 (peql15 xs1 xs2 K k)
def peqF (xs1 : List (Int × Int)) (xs2 : List (Int × Int)) (K : Bool → Prop) : Prop :=
 ((((xs1.length : Int) != (xs2.length : Int))) = true → K false) ∧ ((((xs1.length : Int) != (xs2.length : Int))) = false → ∃ k, peql15 xs1 xs2 K k 0)
set_option maxHeartbeats 4000000 in
set_option maxRecDepth 100000 in
set_option linter.unusedVariables false in
theorem peq_ok {g : Ghost} {axs1_0 : Option Addr} {cxs1_0 : Nat} (xs1 : List (Int × Int)) {axs2_0 : Option Addr} {cxs2_0 : Nat} (xs2 : List (Int × Int)) (hRxs1_0 : Rep g (.slice (.pair (.int .i64) (.int .i64))) [.slice axs1_0 xs1.length cxs1_0] xs1) (hRxs2_0 : Rep g (.slice (.pair (.int .i64) (.int .i64))) [.slice axs2_0 xs2.length cxs2_0] xs2) (K : Bool → Prop)
  (hF : peqF xs1 xs2 K) : CallsH Tryd.prog 13 #[.slice axs1_0 xs1.length cxs1_0, .slice axs2_0 xs2.length cxs2_0] g [] (fun g' H' v => ∃ (r0 : Bool), v = .bool r0 ∧ H' = [] ∧ K r0) := by
 refine CallsH.enter 26 [(0, .slice axs1_0 xs1.length cxs1_0), (1, .slice axs2_0 xs2.length cxs2_0)] Tryd.func13 rfl (by kernel_rfl) (by kernel_rfl) (by kernel_rfl) fun w0 => ?_
 refine Ok.seq ?_
 refine Ok.region ?_
 refine Ok.batch 1 [(0, .slice axs1_0 xs1.length cxs1_0), (1, .slice axs2_0 xs2.length cxs2_0)] (by kernel_rfl) ?_
 refine Ok.nil ?_
 refine Ok.thenN ?_
 refine Ok.seq ?_
 refine Ok.seq ?_
 refine Ok.region ?_
 refine Ok.batch 5 [(0, .slice axs1_0 xs1.length cxs1_0), (1, .slice axs2_0 xs2.length cxs2_0), (10, .bool ((xs1.length : Int) != (xs2.length : Int)))] (by kernel_rfl) ?_
 refine Ok.nil ?_
 refine Ok.thenN ?_
 refine Ok.cond (b := ((xs1.length : Int) != (xs2.length : Int))) rfl (fun hc1 => ?_) (fun hc1 => ?_)
 ·replace hF := hF.1 hc1
  refine Ok.seq ?_
  refine Ok.region ?_
  refine Ok.batch 1 [(4, .bool false)] (by kernel_rfl) ?_
  refine Ok.nil ?_
  refine Ok.thenN ?_
  refine Ok.ret ?_
  refine Ok.thenR ?_
  exact Ok.resH (vs := [.bool false]) (.inl rfl) rfl (.cons (.tmp rfl) .nil) (Gext.refl w0 g) ⟨false, rfl, rfl, hF⟩
 ·replace hF := hF.2 hc1
  refine Ok.skip ?_
  refine Ok.thenN ?_
  refine Ok.seq ?_
  refine Ok.seq ?_
  refine Ok.region ?_
  refine Ok.batch 3 [(0, .slice axs1_0 xs1.length cxs1_0), (1, .slice axs2_0 xs2.length cxs2_0), (12, .int .i64 (xs1.length : Int)), (13, .int .i64 0)] (by kernel_rfl) ?_
  refine Ok.nil ?_
  refine Ok.thenN ?_
  refine Ok.block ?_
  obtain ⟨k, hF⟩ := hF
  refine Ok.loop (fun k a W => ∃ (x13l15 : Int), StA 26 [(0, .slice axs1_0 xs1.length cxs1_0), (1, .slice axs2_0 xs2.length cxs2_0), (12, .int .i64 (xs1.length : Int)), (13, .int .i64 x13l15)] a ∧ StW w0 [] g W ∧ peql15 xs1 xs2 K k x13l15) k ?_ ?_
  ·
   exact fun a W hA hW => ⟨0, hA.sub (by kernel_rfl), hW, hF⟩
  ·
   clear hF
   rintro k15 a W ⟨x13l15, hA, hW, hF⟩
   cases k15 with
   | zero => exact (hF : False).elim
   | succ k15 =>
    refine (?_ : Ok _ _ _ _ _ _) a W hA hW
    clear hA hW
    refine Ok.seq ?_
    refine Ok.region ?_
    refine Ok.batch 1 [(0, .slice axs1_0 xs1.length cxs1_0), (1, .slice axs2_0 xs2.length cxs2_0), (12, .int .i64 (xs1.length : Int)), (13, .int .i64 x13l15), (14, .bool (decide (x13l15 < (xs1.length : Int))))] (by kernel_rfl) ?_
    refine Ok.nil ?_
    refine Ok.thenN ?_
    refine Ok.seq ?_
    refine Ok.cond (b := decide (x13l15 < (xs1.length : Int))) rfl (fun hc2 => ?_) (fun hc2 => ?_)
    ·replace hF := hF.1 hc2
     refine Ok.skip ?_
     refine Ok.thenN ?_
     refine Ok.seq ?_
     refine Ok.block ?_
     refine Ok.seq ?_
     refine Ok.region ?_
     refine Ok.batch 2 [(0, .slice axs1_0 xs1.length cxs1_0), (1, .slice axs2_0 xs2.length cxs2_0), (5, .int .i64 x13l15), (12, .int .i64 (xs1.length : Int)), (13, .int .i64 x13l15)] (by kernel_rfl) ?_
     refine Ok.nil ?_
     refine Ok.thenN ?_
     refine Ok.seq ?_
     refine Ok.quiet' (by kernel_rfl) (by kernel_rfl) ?_
     refine OkQ.batch 2 [(0, .slice axs1_0 xs1.length cxs1_0), (1, .slice axs2_0 xs2.length cxs2_0), (5, .int .i64 x13l15), (12, .int .i64 (xs1.length : Int)), (13, .int .i64 x13l15), (16, .slice axs1_0 xs1.length cxs1_0), (17, .int .i64 x13l15)] (by kernel_rfl) ?_
     obtain ⟨h04, h14, hF⟩ := hF
     have he4 := get_of (l := xs1) (default : Int × Int) h14
     generalize hg4 : (xs1.getD (Int.toNat x13l15) default) = e4 at he4 hF ⊢
     refine OkQ.op rfl (OpQ.indexRo (e := .pair (.int .i64) (.int .i64)) (i := x13l15) (el := e4) rfl rfl Tryd.underlying50 (by kernel_rfl) hRxs1_0 h04 he4 rfl fun q3 o3 cs3 _ hat3 hr3 => ?_)
     obtain ⟨_, _, rfl, rfl, rfl⟩ := hr3
     replace hat3 : At g q3 o3 [.int .i64 e4.1, .int .i64 e4.2] := hat3
     refine OkQ.op rfl (OpQ.step (v := .agg #[.int .i64 e4.1, .int .i64 e4.2]) (Yields.loadAggRo 0 2 #[.int .i64 e4.1, .int .i64 e4.2] hat3 (by kernel_rfl) Tryd.underlying56 rfl (by kernel_rfl) (by kernel_rfl) (by kernel_rfl)) rfl rfl ?_)
     refine OkQ.batch 2 [(0, .slice axs1_0 xs1.length cxs1_0), (1, .slice axs2_0 xs2.length cxs2_0), (12, .int .i64 (xs1.length : Int)), (13, .int .i64 x13l15), (19, .agg #[.int .i64 e4.1, .int .i64 e4.2]), (20, .slice axs2_0 xs2.length cxs2_0), (21, .int .i64 x13l15)] (by kernel_rfl) ?_
     obtain ⟨h06, h16, hF⟩ := hF
     have he6 := get_of (l := xs2) (default : Int × Int) h16
     generalize hg6 : (xs2.getD (Int.toNat x13l15) default) = e6 at he6 hF ⊢
     refine OkQ.op rfl (OpQ.indexRo (e := .pair (.int .i64) (.int .i64)) (i := x13l15) (el := e6) rfl rfl Tryd.underlying50 (by kernel_rfl) hRxs2_0 h06 he6 rfl fun q5 o5 cs5 _ hat5 hr5 => ?_)
     obtain ⟨_, _, rfl, rfl, rfl⟩ := hr5
     replace hat5 : At g q5 o5 [.int .i64 e6.1, .int .i64 e6.2] := hat5
     refine OkQ.op rfl (OpQ.step (v := .agg #[.int .i64 e6.1, .int .i64 e6.2]) (Yields.loadAggRo 0 2 #[.int .i64 e6.1, .int .i64 e6.2] hat5 (by kernel_rfl) Tryd.underlying56 rfl (by kernel_rfl) (by kernel_rfl) (by kernel_rfl)) rfl rfl ?_)
     refine OkQ.op rfl (OpQ.step (v := .bool (!([(e4.1 == e6.1), (e4.2 == e6.2)].all id))) (Yields.neAgg (k := 2) rfl rfl (.array (k := 1) (size := 1) Tryd.underlying56 rfl (by kernel_rfl) ⟨⟨.int .i64 e4.1, .int .i64 e6.1, fun _ => by kernel_rfl, fun _ => by kernel_rfl, EqR.mono (k := 1) (.int Tryd.underlying3) (by decide)⟩, ⟨⟨.int .i64 e4.2, .int .i64 e6.2, fun _ => by kernel_rfl, fun _ => by kernel_rfl, EqR.mono (k := 1) (.int Tryd.underlying3) (by decide)⟩, trivial⟩⟩) rfl (by kernel_rfl)) rfl rfl ?_)
     refine OkQ.nil ?_
     refine Ok.thenN ?_
     refine Ok.cond (b := !([(e4.1 == e6.1), (e4.2 == e6.2)].all id)) rfl (fun hc7 => ?_) (fun hc7 => ?_)
     ·replace hF := hF.1 hc7
      refine Ok.seq ?_
      refine Ok.region ?_
      refine Ok.batch 1 [(4, .bool false)] (by kernel_rfl) ?_
      refine Ok.nil ?_
      refine Ok.thenN ?_
      refine Ok.ret ?_
      refine Ok.blockR ?_
      refine Ok.thenR ?_
      refine Ok.thenR ?_
      refine Ok.blockR ?_
      refine Ok.thenR ?_
      exact Ok.resH (vs := [.bool false]) (.inl rfl) rfl (.cons (.tmp rfl) .nil) (Gext.refl w0 g) ⟨false, rfl, rfl, hF⟩
     ·replace hF := hF.2 hc7
      refine Ok.skip ?_
      refine Ok.blockN ?_
      refine Ok.thenN ?_
      refine Ok.region ?_
      refine Ok.batch 2 [(0, .slice axs1_0 xs1.length cxs1_0), (1, .slice axs2_0 xs2.length cxs2_0), (12, .int .i64 (xs1.length : Int)), (13, .int .i64 (w6 (x13l15 + 1)))] (by kernel_rfl) ?_
      refine Ok.nil ?_
      refine Ok.thenN ?_
      subst hg6
      subst hg4
      exact fun a W hA hW => ⟨k15, Nat.lt_succ_self _, w6 (x13l15 + 1), hA.sub (by kernel_rfl), hW, hF⟩
    ·replace hF := hF.2 hc2
     refine Ok.exit ?_
     refine Ok.thenE ?_
     refine Ok.thenE ?_
     refine Ok.blockHit ?_
     refine Ok.thenN ?_
     refine Ok.seq ?_
     refine Ok.region ?_
     refine Ok.batch 1 [(4, .bool true)] (by kernel_rfl) ?_
     refine Ok.nil ?_
     refine Ok.thenN ?_
     refine Ok.ret ?_
     exact Ok.resH (vs := [.bool true]) (.inl rfl) rfl (.cons (.tmp rfl) .nil) (Gext.refl w0 g) ⟨true, rfl, rfl, hF⟩
def peqS (a b : List (Int × Int)) : Bool := a == b
def peqP (a b : List (Int × Int)) : Prop := a.length ≤ 1000000 ∧ b.length ≤ 1000000
theorem peq_F (p q : List (Int × Int)) (hp : peqP p q) : peqF p q (fun r => r = peqS p q) := by
 obtain ⟨hp1, hp2⟩ := hp
 unfold peqS
 refine ⟨fun h => ?_, fun h => ?_⟩
 ·have h : p.length ≠ q.length := by rw [bne_iff_ne] at h; omega
  have : (p == q) = false := by
   rw [beq_eq_false_iff_ne]
   intro h2; exact h (congrArg List.length h2)
  rw [this]
 ·have hlen : p.length = q.length := by
   rw [bne_eq_false_iff_eq] at h; omega
  have loop : ∀ (k i : Nat), i + k = p.length → (p == q) = (p.drop i == q.drop i) → peql15 p q (fun r => r = (p == q)) (k + 1) (i : Int) := by
   intro k
   induction k with
   | zero =>
    intro i h1 he
    rw [List.drop_of_length_le (by omega), List.drop_of_length_le (by omega)] at he
    exact ⟨fun h => by have := of_decide_eq_true h; omega, fun _ => by rw [he]; rfl⟩
   | succ k ih =>
    intro i h1 he
    have hi : i < p.length := by omega
    rw [drop_get (l := p) default hi, drop_get (l := q) default (by omega)] at he
    refine ⟨fun _ => ?_, fun h => by have := of_decide_eq_false h; omega⟩
    rw [Int.toNat_natCast]
    rw [pairEq]
    refine ⟨by omega, by omega, by omega, by omega, fun h => ?_, fun h => ?_⟩
    ·have h : (p.getD i default == q.getD i default) = false := by rw [Bool.not_eq_true'] at h; exact h
     rw [he, List.cons_beq_cons, h]; rfl
    ·have h : (p.getD i default == q.getD i default) = true := by rw [Bool.not_eq_false'] at h; exact h
     rw [w64 (by omega)]
     refine ih (i + 1) (by omega) ?_
     rw [he, List.cons_beq_cons, h]; rfl
  exact ⟨_, loop p.length 0 (by omega) rfl⟩
set_option linter.unusedVariables false in
theorem peq_c {g : Ghost} {axs1_0 : Option Addr} {cxs1_0 : Nat} (xs1 : List (Int × Int)) {axs2_0 : Option Addr} {cxs2_0 : Nat} (xs2 : List (Int × Int)) (hRxs1_0 : Rep g (.slice (.pair (.int .i64) (.int .i64))) [.slice axs1_0 xs1.length cxs1_0] xs1) (hRxs2_0 : Rep g (.slice (.pair (.int .i64) (.int .i64))) [.slice axs2_0 xs2.length cxs2_0] xs2)  (hp : peqP xs1 xs2) : CallsG Tryd.prog 13 #[.slice axs1_0 xs1.length cxs1_0, .slice axs2_0 xs2.length cxs2_0] g (.bool (peqS xs1 xs2)) :=
 (peq_ok xs1 xs2 hRxs1_0 hRxs2_0 _ (peq_F xs1 xs2 hp)).gives (by rintro g' H' v _ ⟨r0, rfl, rfl, hK⟩; subst hK; rfl)
end
end Go.Proofs.YtanhbfhpnjjgcaaDoor.Cc
