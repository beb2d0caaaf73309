/- csstok: Cut and Text. -/
import Derived.Test.YtcnhdkhkadiohaaGreatDoorIdx
namespace Go.Proofs.YtcnhdkhkadiohaaGreatDoor.Css
open Go Go.Eng Bld Trm
set_option maxHeartbeats 4000000
set_option maxRecDepth 100000
set_option linter.unusedSimpArgs false
set_option linter.unusedVariables false
def cutl7b (K : (List KT) → Prop) (z0 : Bs) (v0 : List KT) (C7 : Bs → (List KT) → Prop) : Prop :=
 ((!(z0 == ([] : Bs))) = true → firstP z0 ∧ (v0 ++ ([((firstM z0).1, (firstM z0).2.1, (firstM z0).2.2.1, (firstM z0).2.2.2)] : List KT)).length ≤ 2932031007402 ∧ 0 ≤ (((firstM z0).2.1).length : Int) ∧ ((((firstM z0).2.1).length : Int) : Int) ≤ (z0.length : Int) ∧ (z0.length : Int) ≤ (z0.length : Int) ∧ C7 (z0.drop (Int.toNat (((firstM z0).2.1).length : Int))) (v0 ++ ([((firstM z0).1, (firstM z0).2.1, (firstM z0).2.2.1, (firstM z0).2.2.2)] : List KT))) ∧ ((!(z0 == ([] : Bs))) = false → K v0)
def cutl7 (K : (List KT) → Prop) : Nat → Bs → (List KT) → Prop
 | 0, _, _ => False
 | k + 1, z0, v0 => cutl7b K z0 v0 (cutl7 K k)
def cutF (xs : Bs) (K : (List KT) → Prop) : Prop :=
 ∃ k, cutl7 K k xs ([] : List KT)
theorem cut_ok {g : Ghost} (xs : Bs) (hG0 : SomeInt g 0) (K : (List KT) → Prop)
  (hF : cutF xs K) : CallsH Tryz.prog 27 #[sv xs] g [] (fun g' H' v => ∃ (r0 : List KT), ∃ (j0 : Option Addr) (x0 : Nat), v = .slice j0 r0.length x0 ∧ Rep g' (.slice yK) [.slice j0 r0.length x0] r0 ∧ H' = [] ∧ K r0) := by
 refine CallsH.enter 19 [(0, sv xs)] Tryz.func27 rfl kr kr kr fun w0 => ?_
 refine Ok.sr ((Ok.B 1 [(0, sv xs)] kr (Ok.nt ((Ok.sr ((Ok.b 1 [0] [(3, .slice none 0 0)] ?_)))))))
 have hL1 : RepL g yK [] [] := rfl
 refine Ok.ownNil 78 4 (Ok.nt ((Ok.q (Ok.block ?_))))
 obtain ⟨k, hF⟩ := hF
 refine Ok.L (fun k a W => ∃ gl7 : Ghost, Gext w0 g gl7 ∧ ∃ (z0 : Bs) (q0 : Option Addr) (k0 : Nat) (v0 : List KT) (y0 : List Value), RepL gl7 yK y0 v0 ∧ StA 19 [(0, sv z0), (3, .slice q0 v0.length k0)] a ∧ StW w0 [.own (.slice q0 v0.length k0) 78 4 v0.length y0] gl7 W ∧ cutl7 K k z0 v0) k ?_ ?_
 ·
  exact fun a W hA hW => ⟨g, (Gext.r w0 g), xs, none, 0, ([] : List KT), [], hL1, hA.sub kr, hW, hF⟩
 clear hF
 rintro k7 a W ⟨gl7, s0, z0, q0, k0, v0, y0, u0, hA, hW, hF⟩
 cases k7 with
 | zero => exact (hF : False).elim
 | succ k7 =>
  refine (?_ : Ok _ _ _ _ _ _) a W hA hW
  clear hA hW
  replace hG0 := hG0.mono s0.1
  refine Ok.q (Ok.sr ((Ok.b 1 [0, 3] [(5, sv z0)] ?_)))
  refine Ok.op rfl (OpOk.s (v := .bool (!(z0 == ([] : Bs)))) (Yields.sc (f := .neq) (a := z0) (b := ([] : Bs)) kr kr rfl) rfl rfl (Ok.nt ((Ok.cn hF rfl (fun hc2 => ?_) (fun hc2 => ?_)))))
  ·replace hF := hF.1 hc2
   refine Ok.k (Ok.t (Ok.block (Ok.sr ((Ok.b 1 [0, 3] [(7, sv z0)] ?_)))))
   obtain ⟨hp3, hF⟩ := hF
   refine Ok.op rfl (OpOk.f enr (fun W hW => first_c z0 (hG0.mono hW.sees) hp3) rfl ?_)
   refine Ok.op rfl (OpOk.a (z := .agg zK) (cs := zK) kr kr rfl fun bs4 => ?_)
   refine Ok.op rfl (OpOk.sto (k := 4) (v := .agg (aK (firstM z0))) 0 (aK (firstM z0)) rfl rfl rfl ?_)
   refine Ok.nt ((Ok.sr ((Ok.b 1 [0] [(4, pv bs4 0), (9, .slice q0 v0.length k0)] ?_))))
   refine Ok.op rfl (OpOk.s (v := .agg (aK (firstM z0))) (Yields.loadAgg 0 4 (aK (firstM z0)) rfl rfl Tryz.underlying78 rfl kr kr kr) rfl rfl ?_)
   have hL5 : RepL gl7 yK ((vK (firstM z0)) : List Value) ([((firstM z0).1, (firstM z0).2.1, (firstM z0).2.2.1, (firstM z0).2.2.2)] : List KT) := (RepL.consN (c := (vK (firstM z0))) ⟨[iv (firstM z0).1], [sv ((firstM z0).2.1), sv ((firstM z0).2.2.1), iv (firstM z0).2.2.2], rfl, rfl, ⟨[sv ((firstM z0).2.1)], [sv ((firstM z0).2.2.1), iv (firstM z0).2.2.2], rfl, rfl, ⟨[sv ((firstM z0).2.2.1)], [iv (firstM z0).2.2.2], rfl, rfl, rfl⟩⟩⟩ rfl)
   refine Ok.op rfl (OpOk.lit (E := 78) yK ([((firstM z0).1, (firstM z0).2.1, (firstM z0).2.2.1, (firstM z0).2.2.2)] : List KT) ((vK (firstM z0)) : List Value) kr kr rfl kr hL5 rfl fun b5 => ?_)
   obtain ⟨hb6, hF⟩ := hF
   refine Ok.op rfl (OpOk.append' (e := yK) 48 2932031007402 2 0 rfl rfl rfl rfl u0 hL5 Tryz.underlying56 kr kr kr hb6 rfl fun a6 c6 xs6 hL6 => ?_)
   refine Ok.b 1 [0, 4] [(3, .slice a6 (v0 ++ ([((firstM z0).1, (firstM z0).2.1, (firstM z0).2.2.1, (firstM z0).2.2.2)] : List KT)).length c6)] ?_
   refine Ok.nt ((Ok.r (Ok.b 2 [3] [(13, sv z0), (14, pv bs4 1)] ?_)))
   refine Ok.op rfl (OpOk.s (v := sv ((firstM z0).2.1)) (Yields.l 1 rfl rfl Tryz.underlying9 rfl kr) rfl rfl (Ok.b 1 [3, 13] [(16, iv (((firstM z0).2.1).length : Int))] ?_))
   obtain ⟨h07, h17, h27, hF⟩ := hF
   refine Ok.op rfl (OpOk.s (v := sv (z0.drop (Int.toNat (((firstM z0).2.1).length : Int)))) (Yields.ss (s := z0) (l := (((firstM z0).2.1).length : Int)) (h := (z0.length : Int)) kr Tryz.underlying9 (.inl ⟨_, _, rfl, rfl⟩) (.inr ⟨rfl, rfl⟩) h07 h17 h27 (z0.drop (Int.toNat (((firstM z0).2.1).length : Int))) (by rw [show ((z0.length : Int)).toNat = z0.length from Int.toNat_natCast _, List.take_length])) rfl rfl (Ok.b 1 [3] [(0, sv (z0.drop (Int.toNat (((firstM z0).2.1).length : Int))))] ?_))
   refine Ok.j (Ok.kn (Ok.t ?_))
   exact fun a W hA hW => ⟨k7, Nat.lt_succ_self _, gl7, s0, z0.drop (Int.toNat (((firstM z0).2.1).length : Int)), a6, c6, (v0 ++ ([((firstM z0).1, (firstM z0).2.1, (firstM z0).2.2.1, (firstM z0).2.2.2)] : List KT)), xs6, hL6, hA.sub kr, hW.sub (.cons _ (.cons _ (.cons_cons _ .slnil))), hF⟩
  replace hF := hF.2 hc2
  refine Ok.x (Ok.thenE (Ok.thenE (Ok.blockHit (Ok.t (Ok.sr ((Ok.B 2 [(2, .slice q0 v0.length k0)] kr (Ok.nt ((Ok.ret (Ok.frz 0 rfl u0 fun g8 hx8 hRf8 => ?_)))))))))))
  replace hG0 := hG0.mono hx8.1
  exact Ok.resH (vs := [.slice q0 v0.length k0]) (.inl rfl) rfl (.cons (.tmp rfl) .nil) (s0.trans hx8) ⟨v0, q0, k0, rfl, hRf8, rfl, hF⟩
end Go.Proofs.YtcnhdkhkadiohaaGreatDoor.Css
