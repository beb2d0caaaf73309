/- Addresses: slices.Grow of nothing, slices.Concat. -/
import Derived.Test.YtdaagfgedkdmjaaGreatDoorUta
import Derived.Shelf.Spec.SlicesGrow
namespace Go.Eng
open Go.RowKit
theorem StW.ownNil {w0 : Base} {H : List Ent} {g : Ghost} {W : World} (hW : StW w0 H g W) (E : TypeId) (size : Nat) : StW w0 (.own (.slice none 0 0) E size 0 [] :: H) g W := ⟨fun x hx => by
  rcases List.mem_cons.1 hx with rfl | hx
  ·exact World.ownsRow_nil W _ E size
  ·exact hW.ents x hx, (show (List.filterMap Ent.block H).Nodup from hW.nodup), hW.ghost, fun x hx b hb => by
  rcases List.mem_cons.1 hx with rfl | hx
  ·simp [Ent.block, Value.ownBlock] at hb
  ·exact hW.apart x hx b hb, fun x hx b hb => by
  rcases List.mem_cons.1 hx with rfl | hx
  ·simp [Ent.block, Value.ownBlock] at hb
  ·exact hW.mine x hx b hb, hW.below⟩
end Go.Eng
namespace Go.Proofs.YtdaagfgedkdmjaaGreatDoor.Ub
open Go Go.Eng Go.RowKit Go.Shelf Go.Proofs Bld Sp Ti Uc Ua Ui
set_option linter.unusedVariables false
noncomputable section
def growR : Ren := ⟨fun | 4 => 92 | n => n, fun | 0 => 0 | 3 => 3 | 4 => 4 | 9 => 9 | 20 => 20 | 22 => 51 | 25 => 9 | n => n, fun | n => n⟩
theorem growL : Lays8.n4 Tryz.prog growR := {
 mixed := by kernel_rfl
 f4 := ⟨"slices.Grow[[]string,string]", rfl, Tryz.func92.trans (congrArg some (by kernel_rfl))⟩
 t0 := Tryz.underlying0
 a0 := Tryz.isAgg0
 z0 := Tryz.sizeOf0
 v0 := Tryz.zeroValue0
 t3 := Tryz.underlying3
 a3 := Tryz.isAgg3
 z3 := Tryz.sizeOf3
 v3 := Tryz.zeroValue3
 t4 := Tryz.underlying4
 a4 := Tryz.isAgg4
 z4 := Tryz.sizeOf4
 v4 := Tryz.zeroValue4
 t9 := Tryz.underlying9
 a9 := Tryz.isAgg9
 z9 := Tryz.sizeOf9
 v9 := Tryz.zeroValue9
 t20 := Tryz.underlying20
 a20 := Tryz.isAgg20
 z20 := Tryz.sizeOf20
 v20 := Tryz.zeroValue20
 t22 := Tryz.underlying51
 a22 := Tryz.isAgg51
 z22 := Tryz.sizeOf51
 v22 := Tryz.zeroValue51 }
def sgrS (n : Int) : List (List UInt8) := []
def sgrP (n : Int) : Prop := 0 ≤ n ∧ n ≤ 1000000
theorem sgr_c {g : Ghost} (n : Int) (hp : sgrP n) : CallsH Tryz.prog 92 #[.slice none 0 0, .int .i64 n] g []
  (fun g' H' v => ∃ (a : Option Addr) (c : Nat) (xs : List Value), v = .slice a (sgrS n).length c ∧ RepL g' .str xs (sgrS n) ∧ H' = [.own (.slice a (sgrS n).length c) 9 1 (sgrS n).length xs]) := fun W hW => by
 obtain ⟨h0, h1⟩ := hp
 obtain ⟨k, rfl⟩ := Int.eq_ofNat_of_zero_le h0
 by_cases hk : k = 0
 ·subst hk
  refine (Any8.slices_Grow_room growL none 0 0 0 W (by omega) (by omega) (by omega) (by omega)).mono fun e W' ⟨he, hw⟩ => ?_
  subst hw
  exact ⟨_, g, _, he, ⟨none, 0, [], rfl, rfl, rfl⟩, Gext.refl _ g, hW.ownNil 9 1⟩
 ·have hinf : (Tryz.prog.info? 9).map (fun i => (i.size, i.bytes, i.zero)) = some (1, 16, some (.string ⟨#[]⟩)) := by kernel_rfl
  obtain ⟨i0, i1, i2⟩ := Option.map_eq_some_iff.1 hinf
  simp only [Prod.mk.injEq] at i2
  obtain ⟨i3, i4, i5⟩ := i2
  refine (Any8.slices_Grow_grow growL i0 (.string ⟨#[]⟩) i1 i5 (by omega) none 0 0 k [] W (by omega) (by omega) (by rw [i4]; omega) (by omega) (by rw [i3]; rfl) (fun _ => rfl) (fun a h => by cases h)).mono fun e W' ⟨he, hw⟩ => ?_
  have hge := grownCap_ge W (0 + k) 0 9
  have hle := grownCap_le_maxLen W (0 + k) 0 9 (by unfold maxLen; omega)
  obtain ⟨G, hG⟩ : ∃ G, grownCap W (0 + k) 0 (growR.t 25) = G := ⟨_, rfl⟩
  rw [show grownCap W (0 + k) 0 9 = G from hG] at hge hle
  rw [hG] at he hw
  subst hw
  refine ⟨_, g, _, he, ⟨some ⟨W.heap.size, 0, none⟩, G, [], rfl, rfl, rfl⟩, Gext.refl _ g, ?_⟩
  refine (hW.ownNil 9 1).grown (i := 0) (e' := .own (.slice (some ⟨W.heap.size, 0, none⟩) 0 G) 9 1 0 []) rfl ⟨rfl, rfl, rfl, ?_, fun b hb _ => ?_⟩ ?_ (.inr rfl)
  ·simp
  ·exact heap_alloc_old _ _ hb
  ·refine ⟨rfl, .inr ⟨W.heap.size, G, _, rfl, Nat.zero_le _, heap_alloc_new _ _, Nat.zero_le _, hle, ?_, rfl⟩⟩
   have hz : (Value.string ⟨#[]⟩).cells.size = 1 := rfl
   rw [Array.size_append, Array.size_append, size_zeroCells, size_zeroCells, hz]
   simp only [List.size_toArray, List.length_nil]
   omega
end
end Go.Proofs.YtdaagfgedkdmjaaGreatDoor.Ub
