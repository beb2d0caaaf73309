/- strings.NewReplacer: Replace, by its table. -/
import Derived.Test.YtcnhdkhkadiohaaGreatDoorRpo
import Derived.Test.YtcnhdkhkadiohaaGreatDoorShelf
namespace Go.Proofs.YtcnhdkhkadiohaaGreatDoor.Rp
open Go Go.Eng Go.RowKit
set_option maxHeartbeats 4000000
set_option maxRecDepth 100000
set_option linter.unusedSimpArgs false
set_option linter.unusedVariables false
def cntS (s x : Bs) : Int := (Lib.countByte s (x.headD 0) : Int)
def cntP (s x : Bs) : Prop := x.length = 1
theorem cnt_c {g : Ghost} (s x : Bs) (hp : cntP s x) : CallsG Tryz.prog 228 #[sv s, sv x] g (iv (cntS s x)) := fun W hW => by
 match x, hp with
 | [c], _ => exact (Tryz.strings_Count_one ⟨⟨s⟩⟩ c W).mono fun e W' ⟨he, hw⟩ => ⟨he, by subst hw; exact Below.refl _ _⟩
def rpeV0 (xs : Bs) : Int :=
 (if ((cntS xs ([10] : Bs)) != 0) = true then w6 ((xs.length : Int) + (w6 ((cntS xs ([10] : Bs)) * (w6 (((rpL.getD (Int.toNat 10) default).length : Int) - 1))))) else (xs.length : Int))
def rpeV1 (xs : Bs) : Int :=
 (if ((cntS xs ([34] : Bs)) != 0) = true then w6 ((rpeV0 xs) + (w6 ((cntS xs ([34] : Bs)) * (w6 (((rpL.getD (Int.toNat 34) default).length : Int) - 1))))) else (rpeV0 xs))
def rpeV2 (xs : Bs) : Bool :=
 (((cntS xs ([34] : Bs)) != 0) || ((cntS xs ([10] : Bs)) != 0))
def rpeV3 (xs : Bs) : Int :=
 (if ((cntS xs ([92] : Bs)) != 0) = true then w6 ((rpeV1 xs) + (w6 ((cntS xs ([92] : Bs)) * (w6 (((rpL.getD (Int.toNat 92) default).length : Int) - 1))))) else (rpeV1 xs))
def rpeV10 (xs : Bs) (q0 : Int) (y0 : Int) : Int :=
 (if (!(((rpL.getD (Int.toNat ((xs.getD (Int.toNat y0) 0).toNat : Int)) default).length : Int) == 0)) = true then w6 (q0 + ((rpL.getD (Int.toNat ((xs.getD (Int.toNat y0) 0).toNat : Int)) default).length : Int)) else w6 (q0 + 1))
def rpeV15 (xs : Bs) (s0 : Int) (k0 : Int) : Int :=
 (if (!(((rpL.getD (Int.toNat ((xs.getD (Int.toNat k0) 0).toNat : Int)) default).length : Int) == 0)) = true then w6 (s0 + (w6 (((rpL.getD (Int.toNat ((xs.getD (Int.toNat k0) 0).toNat : Int)) default).length : Int) - 1))) else s0)
def rpeV16 (xs : Bs) (b0 : Bool) (k0 : Int) : Bool :=
 ((!(((rpL.getD (Int.toNat ((xs.getD (Int.toNat k0) 0).toNat : Int)) default).length : Int) == 0)) || b0)
def rpej80 (xs : Bs) (x0 : List Int) (q0 : Int) (y0 : Int) (C73 : Int → Int → (List Int) → Prop) : Prop :=
 C73 (rpeV10 xs q0 y0) (w6 (y0 + 1)) x0
def rpel73b (xs : Bs) (K : Bs → Prop) (q0 : Int) (y0 : Int) (z0 : List Int) (C73 : Int → Int → (List Int) → Prop) : Prop :=
 ((decide (y0 < (xs.length : Int))) = true → 0 ≤ y0 ∧ Int.toNat y0 < xs.length ∧ 0 ≤ ((xs.getD (Int.toNat y0) 0).toNat : Int) ∧ Int.toNat ((xs.getD (Int.toNat y0) 0).toNat : Int) < rpL.length ∧ ((!(((rpL.getD (Int.toNat ((xs.getD (Int.toNat y0) 0).toNat : Int)) default).length : Int) == 0)) = true → 0 ≤ q0 ∧ (q0 : Int) ≤ (z0.length : Int) ∧ (z0.length : Int) ≤ (z0.length : Int) ∧ (Int.toNat q0) + (rpL.getD (Int.toNat ((xs.getD (Int.toNat y0) 0).toNat : Int)) default).length ≤ z0.length ∧ ∀ L11 : List Int, L11 = z0.take (Int.toNat q0) ++ (rpL.getD (Int.toNat ((xs.getD (Int.toNat y0) 0).toNat : Int)) default) ++ z0.drop ((Int.toNat q0) + (rpL.getD (Int.toNat ((xs.getD (Int.toNat y0) 0).toNat : Int)) default).length) → z0.length = L11.length ∧ rpej80 xs L11 q0 y0 C73) ∧ ((!(((rpL.getD (Int.toNat ((xs.getD (Int.toNat y0) 0).toNat : Int)) default).length : Int) == 0)) = false → 0 ≤ q0 ∧ Int.toNat q0 < z0.length ∧ rpej80 xs (z0.set (Int.toNat q0) ((xs.getD (Int.toNat y0) 0).toNat : Int)) q0 y0 C73)) ∧ ((decide (y0 < (xs.length : Int))) = false → K (bytesOf z0))
def rpel73 (xs : Bs) (K : Bs → Prop) : Nat → Int → Int → (List Int) → Prop
 | 0, _, _, _ => False
 | k + 1, q0, y0, z0 => rpel73b xs K q0 y0 z0 (rpel73 xs K k)
def rpej7 (xs : Bs) (K : Bs → Prop) (a0 : Int) (Y0 : Bool) : Prop :=
 ((!Y0) = true → K xs) ∧ ((!Y0) = false → 0 ≤ a0 ∧ a0 ≤ 140737488355328 ∧ ∃ k, rpel73 xs K k 0 0 (List.replicate (Int.toNat a0) (0 : Int)))
def rpej21 (xs : Bs) (K : Bs → Prop) : Prop :=
 rpej7 xs K (rpeV3 xs) (((cntS xs ([92] : Bs)) != 0) || (rpeV2 xs))
def rpej21a (xs : Bs) (K : Bs → Prop) : Prop :=
 (0 : Int) ≤ 2 ∧ Int.toNat 2 < ([[10], [34], [92]] : List Bs).length ∧ cntP xs ([92] : Bs) ∧ ((((cntS xs ([92] : Bs)) != 0)) = true → (0 : Int) ≤ 92 ∧ Int.toNat 92 < rpL.length ∧ rpej21 xs K) ∧ ((((cntS xs ([92] : Bs)) != 0)) = false → rpej21 xs K)
def rpej21b (xs : Bs) (K : Bs → Prop) : Prop :=
 (0 : Int) ≤ 1 ∧ Int.toNat 1 < ([[10], [34], [92]] : List Bs).length ∧ cntP xs ([34] : Bs) ∧ ((((cntS xs ([34] : Bs)) != 0)) = true → (0 : Int) ≤ 34 ∧ Int.toNat 34 < rpL.length ∧ rpej21a xs K) ∧ ((((cntS xs ([34] : Bs)) != 0)) = false → rpej21a xs K)
def rpej45 (xs : Bs) (s0 : Int) (b0 : Bool) (k0 : Int) (C38 : Int → Bool → Int → Prop) : Prop :=
 C38 (rpeV15 xs s0 k0) (rpeV16 xs b0 k0) (w6 (k0 + 1))
def rpel38b (xs : Bs) (K : Bs → Prop) (s0 : Int) (b0 : Bool) (k0 : Int) (C38 : Int → Bool → Int → Prop) : Prop :=
 ((decide (k0 < (xs.length : Int))) = true → 0 ≤ k0 ∧ Int.toNat k0 < xs.length ∧ 0 ≤ ((xs.getD (Int.toNat k0) 0).toNat : Int) ∧ Int.toNat ((xs.getD (Int.toNat k0) 0).toNat : Int) < rpL.length ∧ ((!(((rpL.getD (Int.toNat ((xs.getD (Int.toNat k0) 0).toNat : Int)) default).length : Int) == 0)) = true → rpej45 xs s0 b0 k0 C38) ∧ ((!(((rpL.getD (Int.toNat ((xs.getD (Int.toNat k0) 0).toNat : Int)) default).length : Int) == 0)) = false → rpej45 xs s0 b0 k0 C38)) ∧ ((decide (k0 < (xs.length : Int))) = false → rpej7 xs K s0 b0)
def rpel38 (xs : Bs) (K : Bs → Prop) : Nat → Int → Bool → Int → Prop
 | 0, _, _, _ => False
 | k + 1, s0, b0, k0 => rpel38b xs K s0 b0 k0 (rpel38 xs K k)
def rpeF (xs : Bs) (K : Bs → Prop) : Prop :=
 ((decide (24 ≤ (xs.length : Int))) = true → (0 : Int) ≤ 0 ∧ Int.toNat 0 < ([[10], [34], [92]] : List Bs).length ∧ cntP xs ([10] : Bs) ∧ ((((cntS xs ([10] : Bs)) != 0)) = true → (0 : Int) ≤ 10 ∧ Int.toNat 10 < rpL.length ∧ rpej21b xs K) ∧ ((((cntS xs ([10] : Bs)) != 0)) = false → rpej21b xs K)) ∧ ((decide (24 ≤ (xs.length : Int))) = false → ∃ k, rpel38 xs K k (xs.length : Int) false 0)
theorem rpe_ok {g : Ghost} {bxr : Nat} (xs : Bs) (hT : RplG g bxr) (K : Bs → Prop)
  (hF : rpeF xs K) : CallsH Tryz.prog 226 #[pv bxr 0, sv xs] g [] (fun g' H' v => ∃ (r0 : Bs), v = sv r0 ∧ H' = [] ∧ K r0) := by
 refine CallsH.enter 122 [(0, pv bxr 0), (1, sv xs)] Tryz.func226 rfl kr kr kr fun w0 => ?_
 refine Ok.sr ((Ok.B 1 [(0, pv bxr 0), (1, sv xs)] kr (Ok.nt ((Ok.sr ((Ok.b 3 [0, 1] [(5, iv (xs.length : Int))] ?_)))))))
 refine Ok.nt ((Ok.sr ((Ok.b 1 [0, 1, 5] [(6, .bool false)] ?_))))
 refine Ok.nt ((Ok.cut (fun a W => ∃ gj7 : Ghost, Gext w0 g gj7 ∧ ∃ (a0 : Int) (Y0 : Bool), StA 122 [(0, pv bxr 0), (1, sv xs), (5, iv a0), (6, .bool Y0)] a ∧ StW w0 [] gj7 W ∧ rpej7 xs K a0 Y0) ?_ ?_))
 ·
  refine Ok.sr ((Ok.b 3 [0, 1, 5, 6] [(20, pv bxr 256)] ?_))
  obtain ⟨_, tT15, ctT15, -, -, hatT15, hRT15, -⟩ := RplG.opened hT
  refine Ok.op rfl (OpOk.s (v := .slice tT15 ([[10], [34], [92]] : List Bs).length ctT15) (Yields.lr 0 hatT15 kr Tryz.underlying38 rfl kr) rfl rfl (Ok.b 5 [0, 1, 5, 6] [(26, .bool (decide (24 ≤ (xs.length : Int))))] ?_))
  refine Ok.nt ((Ok.cn hF rfl (fun o1 => ?_) (fun o1 => ?_)))
  ·replace hF := hF.1 o1
   refine Ok.sr ((Ok.b 3 [0, 1, 5, 6] [(29, pv bxr 256)] ?_))
   obtain ⟨_, Z0, n0, -, -, hatT17, o0, -⟩ := RplG.opened hT
   refine Ok.op rfl (OpOk.s (v := .slice Z0 ([[10], [34], [92]] : List Bs).length n0) (Yields.lr 0 hatT17 kr Tryz.underlying38 rfl kr) rfl rfl (Ok.b 2 [0, 1, 5, 6] [(30, .slice Z0 ([[10], [34], [92]] : List Bs).length n0), (31, iv 3), (32, iv 0)] ?_))
   refine Ok.nt ((Ok.block (Ok.rounds 4 (Ok.round (Ok.sr ((Ok.B 1 [(0, pv bxr 0), (1, sv xs), (5, iv (xs.length : Int)), (6, .bool false), (30, .slice Z0 ([[10], [34], [92]] : List Bs).length n0), (31, iv 3), (32, iv 0), (33, .bool true)] kr (Ok.nt ((Ok.q (Ok.c (b := true) rfl (fun _ => ?_) (fun h => by cases h))))))))))))
   refine Ok.k (Ok.t (Ok.cut (fun a W => ∃ i0 : Ghost, Gext w0 g i0 ∧ StA 122 [(0, pv bxr 0), (1, sv xs), (5, iv (rpeV0 xs)), (6, .bool ((cntS xs ([10] : Bs)) != 0)), (30, .slice Z0 ([[10], [34], [92]] : List Bs).length n0), (31, iv 3), (32, iv 0)] a ∧ StW w0 [] i0 W ∧ rpej21b xs K) ?_ ?_))
   ·
    refine Ok.block (Ok.q (Ok.r ?_))
    obtain ⟨h031, h131, hF⟩ := hF
    have he31 : ([[10], [34], [92]] : List Bs)[Int.toNat 0]? = some ([10] : Bs) := get_of (l := ([[10], [34], [92]] : List Bs)) (default : Bs) h131
    refine Ok.op rfl (OpOk.indexRo (e := .str) (i := 0) (el := ([10] : Bs)) rfl rfl Tryz.underlying38 kr o0 h031 he31 rfl fun q30 o30 cs30 _ q1 hr30 => ?_)
    obtain rfl := hr30
    replace q1 : At g q30 o30 [sv ([10] : Bs)] := q1
    refine Ok.op rfl (OpOk.s (v := sv ([10] : Bs)) (Yields.lr 0 q1 kr Tryz.underlying9 rfl kr) rfl rfl (Ok.b 1 [0, 1, 5, 6, 30, 31, 32] [(8, sv ([10] : Bs))] ?_))
    refine Ok.nt ((Ok.sr ((Ok.b 2 [0, 1, 5, 6, 8, 30, 31, 32] [(36, sv xs), (37, sv ([10] : Bs))] ?_))))
    obtain ⟨hp32, hF⟩ := hF
    refine Ok.op rfl (OpOk.f enr (fun W hW => cnt_c xs ([10] : Bs) hp32) rfl ?_)
    refine Ok.b 1 [0, 1, 5, 6, 8, 30, 31, 32] [(9, iv (cntS xs ([10] : Bs)))] ?_
    refine Ok.nt ((Ok.sr ((Ok.b 2 [0, 1, 5, 6, 8, 9, 30, 31, 32] [(40, .bool ((cntS xs ([10] : Bs)) != 0))] ?_))))
    refine Ok.nt ((Ok.cn hF rfl (fun U0 => ?_) (fun U0 => ?_)))
    ·replace hF := hF.1 U0
     refine Ok.q (Ok.quiet' kr kr (OkQ.b 7 [0, 1, 30, 31, 32] [(41, iv (xs.length : Int)), (42, iv (cntS xs ([10] : Bs))), (45, .int .u8 10), (47, pv bxr 0)] ?_))
     obtain ⟨h035, h135, hF⟩ := hF
     have i1 := get_of (l := rpL) (default : List Int) h135
     generalize hg35 : (rpL.getD (Int.toNat 10) default) = e35 at i1 hF ⊢
     obtain ⟨_, _, _, hatA34, hRA34, -, -, hnilT34⟩ := RplG.opened hT
     refine OkQ.op rfl (OpQ.indexEl (e := .slice yb) (o := 0) (L := rpL) (q := 10) (el := e35) hatA34 hRA34 rfl rfl Tryz.underlying163 kr rfl h035 i1 rfl fun cs34 _ S0 hr34 => ?_)
     obtain ⟨B0, C0, rfl, hm34_0, hr34_0⟩ := hr34
     have hR34_0 : Rep g (.slice yb) [.slice B0 e35.length C0] e35 := ⟨B0, C0, rfl, hm34_0, hr34_0⟩
     replace S0 : At g bxr (0 + Int.toNat 10 * 1) [.slice B0 e35.length C0] := S0
     have hnX34 := fun h => hnilT34 10 _ _ _ S0 h
     refine OkQ.op rfl (OpQ.s (v := .slice B0 e35.length C0) (Yields.lr 0 S0 kr Tryz.underlying23 rfl kr) rfl rfl (OkQ.b 5 [0, 1, 30, 31, 32] [(5, iv (w6 ((xs.length : Int) + (w6 ((cntS xs ([10] : Bs)) * (w6 ((e35.length : Int) - 1)))))))] ?_))
     refine OkQ.j (Ok.t (Ok.r (Ok.b 1 [0, 1, 5, 30, 31, 32] [(6, .bool true)] ?_)))
     refine Ok.j (Ok.kn (Ok.t ?_))
     subst hg35
     refine Ok.v 5 rfl (show (iv (w6 ((xs.length : Int) + (w6 ((cntS xs ([10] : Bs)) * (w6 (((rpL.getD (Int.toNat 10) default).length : Int) - 1)))))) : Value) = iv (rpeV0 xs) from congrArg (Value.int .i64) ((if_t U0).symm)) (Ok.v 6 rfl (show (.bool true : Value) = .bool ((cntS xs ([10] : Bs)) != 0) from congrArg (Value.bool) (U0.symm)) ?_)
     exact fun a W hA hW => ⟨g, (Gext.r w0 g), hA.sub kr, hW, hF⟩
    replace hF := hF.2 U0
    refine Ok.k (Ok.kn (Ok.t (Ok.v 5 rfl (show (iv (xs.length : Int) : Value) = iv (rpeV0 xs) from congrArg (Value.int .i64) ((if_f U0).symm)) (Ok.v 6 rfl (show (.bool false : Value) = .bool ((cntS xs ([10] : Bs)) != 0) from congrArg (Value.bool) (U0.symm)) ?_))))
    exact fun a W hA hW => ⟨g, (Gext.r w0 g), hA.sub kr, hW, hF⟩
   clear hF
   rintro a W ⟨i0, k1, hA, hW, hF⟩
   refine (?_ : Ok _ _ _ _ _ _) a W hA hW
   clear hA hW
   replace o0 := o0.mono k1.1
   replace hT := hT.mono k1.1
   refine Ok.r (Ok.b 2 [0, 1, 5, 6, 30, 31] [(32, iv 1)] ?_)
   refine Ok.nt ((Ok.round (Ok.sr ((Ok.B 1 [(0, pv bxr 0), (1, sv xs), (5, iv (rpeV0 xs)), (6, .bool ((cntS xs ([10] : Bs)) != 0)), (30, .slice Z0 ([[10], [34], [92]] : List Bs).length n0), (31, iv 3), (32, iv 1), (33, .bool true)] kr (Ok.nt ((Ok.q (Ok.c (b := true) rfl (fun _ => ?_) (fun h => by cases h))))))))))
   refine Ok.k (Ok.t (Ok.cut (fun a W => ∃ g0 : Ghost, Gext w0 i0 g0 ∧ StA 122 [(0, pv bxr 0), (1, sv xs), (5, iv (rpeV1 xs)), (6, .bool (rpeV2 xs)), (30, .slice Z0 ([[10], [34], [92]] : List Bs).length n0), (31, iv 3), (32, iv 1)] a ∧ StW w0 [] g0 W ∧ rpej21a xs K) ?_ ?_))
   ·
    refine Ok.block (Ok.q (Ok.r ?_))
    obtain ⟨h025, h125, hF⟩ := hF
    have he25 : ([[10], [34], [92]] : List Bs)[Int.toNat 1]? = some ([34] : Bs) := get_of (l := ([[10], [34], [92]] : List Bs)) (default : Bs) h125
    refine Ok.op rfl (OpOk.indexRo (e := .str) (i := 1) (el := ([34] : Bs)) rfl rfl Tryz.underlying38 kr o0 h025 he25 rfl fun q24 o24 cs24 _ y1 hr24 => ?_)
    obtain rfl := hr24
    replace y1 : At i0 q24 o24 [sv ([34] : Bs)] := y1
    refine Ok.op rfl (OpOk.s (v := sv ([34] : Bs)) (Yields.lr 0 y1 kr Tryz.underlying9 rfl kr) rfl rfl (Ok.b 1 [0, 1, 5, 6, 30, 31, 32] [(8, sv ([34] : Bs))] ?_))
    refine Ok.nt ((Ok.sr ((Ok.b 2 [0, 1, 5, 6, 8, 30, 31, 32] [(36, sv xs), (37, sv ([34] : Bs))] ?_))))
    obtain ⟨hp26, hF⟩ := hF
    refine Ok.op rfl (OpOk.f enr (fun W hW => cnt_c xs ([34] : Bs) hp26) rfl ?_)
    refine Ok.b 1 [0, 1, 5, 6, 8, 30, 31, 32] [(9, iv (cntS xs ([34] : Bs)))] ?_
    refine Ok.nt ((Ok.sr ((Ok.b 2 [0, 1, 5, 6, 8, 9, 30, 31, 32] [(40, .bool ((cntS xs ([34] : Bs)) != 0))] ?_))))
    refine Ok.nt ((Ok.cn hF rfl (fun J0 => ?_) (fun J0 => ?_)))
    ·replace hF := hF.1 J0
     refine Ok.q (Ok.quiet' kr kr (OkQ.b 7 [0, 1, 30, 31, 32] [(41, iv (rpeV0 xs)), (42, iv (cntS xs ([34] : Bs))), (45, .int .u8 34), (47, pv bxr 0)] ?_))
     obtain ⟨h029, h129, hF⟩ := hF
     have Z1 := get_of (l := rpL) (default : List Int) h129
     generalize hg29 : (rpL.getD (Int.toNat 34) default) = e29 at Z1 hF ⊢
     obtain ⟨_, _, _, hatA28, hRA28, -, -, hnilT28⟩ := RplG.opened hT
     refine OkQ.op rfl (OpQ.indexEl (e := .slice yb) (o := 0) (L := rpL) (q := 34) (el := e29) hatA28 hRA28 rfl rfl Tryz.underlying163 kr rfl h029 Z1 rfl fun cs28 _ D0 hr28 => ?_)
     obtain ⟨E0, F0, rfl, hm28_0, hr28_0⟩ := hr28
     have hR28_0 : Rep i0 (.slice yb) [.slice E0 e29.length F0] e29 := ⟨E0, F0, rfl, hm28_0, hr28_0⟩
     replace D0 : At i0 bxr (0 + Int.toNat 34 * 1) [.slice E0 e29.length F0] := D0
     have hnX28 := fun h => hnilT28 34 _ _ _ D0 h
     refine OkQ.op rfl (OpQ.s (v := .slice E0 e29.length F0) (Yields.lr 0 D0 kr Tryz.underlying23 rfl kr) rfl rfl (OkQ.b 5 [0, 1, 30, 31, 32] [(5, iv (w6 ((rpeV0 xs) + (w6 ((cntS xs ([34] : Bs)) * (w6 ((e29.length : Int) - 1)))))))] ?_))
     refine OkQ.j (Ok.t (Ok.r (Ok.b 1 [0, 1, 5, 30, 31, 32] [(6, .bool true)] ?_)))
     refine Ok.j (Ok.kn (Ok.t ?_))
     subst hg29
     refine Ok.v 5 rfl (show (iv (w6 ((rpeV0 xs) + (w6 ((cntS xs ([34] : Bs)) * (w6 (((rpL.getD (Int.toNat 34) default).length : Int) - 1)))))) : Value) = iv (rpeV1 xs) from congrArg (Value.int .i64) ((if_t J0).symm)) (Ok.v 6 rfl (show (.bool true : Value) = .bool (rpeV2 xs) from congrArg (Value.bool) (mor_t J0)) ?_)
     exact fun a W hA hW => ⟨i0, (Gext.r w0 i0), hA.sub kr, hW, hF⟩
    replace hF := hF.2 J0
    refine Ok.k (Ok.kn (Ok.t (Ok.v 5 rfl (show (iv (rpeV0 xs) : Value) = iv (rpeV1 xs) from congrArg (Value.int .i64) ((if_f J0).symm)) (Ok.v 6 rfl (show (.bool ((cntS xs ([10] : Bs)) != 0) : Value) = .bool (rpeV2 xs) from congrArg (Value.bool) (mor_f J0)) ?_))))
    exact fun a W hA hW => ⟨i0, (Gext.r w0 i0), hA.sub kr, hW, hF⟩
   clear hF
   rintro a W ⟨g0, V0, hA, hW, hF⟩
   refine (?_ : Ok _ _ _ _ _ _) a W hA hW
   clear hA hW
   replace o0 := o0.mono V0.1
   replace hT := hT.mono V0.1
   refine Ok.r (Ok.b 2 [0, 1, 5, 6, 30, 31] [(32, iv 2)] ?_)
   refine Ok.nt ((Ok.round (Ok.sr ((Ok.B 1 [(0, pv bxr 0), (1, sv xs), (5, iv (rpeV1 xs)), (6, .bool (rpeV2 xs)), (30, .slice Z0 ([[10], [34], [92]] : List Bs).length n0), (31, iv 3), (32, iv 2), (33, .bool true)] kr (Ok.nt ((Ok.q (Ok.c (b := true) rfl (fun _ => ?_) (fun h => by cases h))))))))))
   refine Ok.k (Ok.t (Ok.cut (fun a W => ∃ Q0 : Ghost, Gext w0 g0 Q0 ∧ StA 122 [(0, pv bxr 0), (1, sv xs), (5, iv (rpeV3 xs)), (6, .bool (((cntS xs ([92] : Bs)) != 0) || (rpeV2 xs))), (30, .slice Z0 ([[10], [34], [92]] : List Bs).length n0), (31, iv 3), (32, iv 2)] a ∧ StW w0 [] Q0 W ∧ rpej21 xs K) ?_ ?_))
   ·
    refine Ok.block (Ok.q (Ok.r ?_))
    obtain ⟨h019, h119, hF⟩ := hF
    have he19 : ([[10], [34], [92]] : List Bs)[Int.toNat 2]? = some ([92] : Bs) := get_of (l := ([[10], [34], [92]] : List Bs)) (default : Bs) h119
    refine Ok.op rfl (OpOk.indexRo (e := .str) (i := 2) (el := ([92] : Bs)) rfl rfl Tryz.underlying38 kr o0 h019 he19 rfl fun q18 o18 cs18 _ u1 hr18 => ?_)
    obtain rfl := hr18
    replace u1 : At g0 q18 o18 [sv ([92] : Bs)] := u1
    refine Ok.op rfl (OpOk.s (v := sv ([92] : Bs)) (Yields.lr 0 u1 kr Tryz.underlying9 rfl kr) rfl rfl (Ok.b 1 [0, 1, 5, 6, 30, 31, 32] [(8, sv ([92] : Bs))] ?_))
    refine Ok.nt ((Ok.sr ((Ok.b 2 [0, 1, 5, 6, 8, 30, 31, 32] [(36, sv xs), (37, sv ([92] : Bs))] ?_))))
    obtain ⟨hp20, hF⟩ := hF
    refine Ok.op rfl (OpOk.f enr (fun W hW => cnt_c xs ([92] : Bs) hp20) rfl ?_)
    refine Ok.b 1 [0, 1, 5, 6, 8, 30, 31, 32] [(9, iv (cntS xs ([92] : Bs)))] ?_
    refine Ok.nt ((Ok.sr ((Ok.b 2 [0, 1, 5, 6, 8, 9, 30, 31, 32] [(40, .bool ((cntS xs ([92] : Bs)) != 0))] ?_))))
    refine Ok.nt ((Ok.cn hF rfl (fun W0 => ?_) (fun W0 => ?_)))
    ·replace hF := hF.1 W0
     refine Ok.q (Ok.quiet' kr kr (OkQ.b 7 [0, 1, 30, 31, 32] [(41, iv (rpeV1 xs)), (42, iv (cntS xs ([92] : Bs))), (45, .int .u8 92), (47, pv bxr 0)] ?_))
     obtain ⟨h023, h123, hF⟩ := hF
     have V1 := get_of (l := rpL) (default : List Int) h123
     generalize hg23 : (rpL.getD (Int.toNat 92) default) = e23 at V1 hF ⊢
     obtain ⟨_, _, _, hatA22, hRA22, -, -, hnilT22⟩ := RplG.opened hT
     refine OkQ.op rfl (OpQ.indexEl (e := .slice yb) (o := 0) (L := rpL) (q := 92) (el := e23) hatA22 hRA22 rfl rfl Tryz.underlying163 kr rfl h023 V1 rfl fun cs22 _ G0 hr22 => ?_)
     obtain ⟨H0, M0, rfl, hm22_0, hr22_0⟩ := hr22
     have hR22_0 : Rep g0 (.slice yb) [.slice H0 e23.length M0] e23 := ⟨H0, M0, rfl, hm22_0, hr22_0⟩
     replace G0 : At g0 bxr (0 + Int.toNat 92 * 1) [.slice H0 e23.length M0] := G0
     have hnX22 := fun h => hnilT22 92 _ _ _ G0 h
     refine OkQ.op rfl (OpQ.s (v := .slice H0 e23.length M0) (Yields.lr 0 G0 kr Tryz.underlying23 rfl kr) rfl rfl (OkQ.b 5 [0, 1, 30, 31, 32] [(5, iv (w6 ((rpeV1 xs) + (w6 ((cntS xs ([92] : Bs)) * (w6 ((e23.length : Int) - 1)))))))] ?_))
     refine OkQ.j (Ok.t (Ok.r (Ok.b 1 [0, 1, 5, 30, 31, 32] [(6, .bool true)] ?_)))
     refine Ok.j (Ok.kn (Ok.t ?_))
     subst hg23
     refine Ok.v 5 rfl (show (iv (w6 ((rpeV1 xs) + (w6 ((cntS xs ([92] : Bs)) * (w6 (((rpL.getD (Int.toNat 92) default).length : Int) - 1)))))) : Value) = iv (rpeV3 xs) from congrArg (Value.int .i64) ((if_t W0).symm)) (Ok.v 6 rfl (show (.bool true : Value) = .bool (((cntS xs ([92] : Bs)) != 0) || (rpeV2 xs)) from congrArg (Value.bool) (mor_t W0)) ?_)
     exact fun a W hA hW => ⟨g0, (Gext.r w0 g0), hA.sub kr, hW, hF⟩
    replace hF := hF.2 W0
    refine Ok.k (Ok.kn (Ok.t (Ok.v 5 rfl (show (iv (rpeV1 xs) : Value) = iv (rpeV3 xs) from congrArg (Value.int .i64) ((if_f W0).symm)) (Ok.v 6 rfl (show (.bool (rpeV2 xs) : Value) = .bool (((cntS xs ([92] : Bs)) != 0) || (rpeV2 xs)) from congrArg (Value.bool) (mor_f W0)) ?_))))
    exact fun a W hA hW => ⟨g0, (Gext.r w0 g0), hA.sub kr, hW, hF⟩
   clear hF
   rintro a W ⟨Q0, K0, hA, hW, hF⟩
   refine (?_ : Ok _ _ _ _ _ _) a W hA hW
   clear hA hW
   replace o0 := o0.mono K0.1
   replace hT := hT.mono K0.1
   refine Ok.r (Ok.b 2 [0, 1, 5, 6, 30, 31] [(32, iv 3)] ?_)
   refine Ok.nt ((Ok.round (Ok.sr ((Ok.B 1 [(0, pv bxr 0), (1, sv xs), (5, iv (rpeV3 xs)), (6, .bool (((cntS xs ([92] : Bs)) != 0) || (rpeV2 xs))), (30, .slice Z0 ([[10], [34], [92]] : List Bs).length n0), (31, iv 3), (32, iv 3), (33, .bool false)] kr (Ok.nt ((Ok.q (Ok.c (b := false) rfl (fun h => by cases h) (fun _ => ?_))))))))))
   refine Ok.x (Ok.thenE (Ok.thenE (Ok.blockHit (Ok.t ?_))))
   exact fun a W hA hW => ⟨Q0, ((k1.trans V0).trans K0), (rpeV3 xs), (((cntS xs ([92] : Bs)) != 0) || (rpeV2 xs)), hA.sub kr, hW, hF⟩
  replace hF := hF.2 o1
  refine Ok.sr ((Ok.b 1 [0, 1, 5, 6] [(10, iv 0)] ?_))
  refine Ok.nt ((Ok.block ?_))
  obtain ⟨k, hF⟩ := hF
  refine Ok.L (fun k a W => ∃ p0 : Ghost, Gext w0 g p0 ∧ ∃ (s0 : Int) (b0 : Bool) (k0 : Int), StA 122 [(0, pv bxr 0), (1, sv xs), (5, iv s0), (6, .bool b0), (10, iv k0)] a ∧ StW w0 [] p0 W ∧ rpel38 xs K k s0 b0 k0) k ?_ ?_
  ·
   exact fun a W hA hW => ⟨g, (Gext.r w0 g), (xs.length : Int), false, 0, hA.sub kr, hW, hF⟩
  clear hF
  rintro k38 a W ⟨p0, j1, s0, b0, k0, hA, hW, hF⟩
  cases k38 with
  | zero => exact (hF : False).elim
  | succ k38 =>
   refine (?_ : Ok _ _ _ _ _ _) a W hA hW
   clear hA hW
   replace hT := hT.mono j1.1
   refine Ok.q (Ok.sr ((Ok.b 4 [0, 1, 5, 6, 10] [(58, .bool (decide (k0 < (xs.length : Int))))] ?_)))
   refine Ok.nt ((Ok.cn hF rfl (fun p1 => ?_) (fun p1 => ?_)))
   ·replace hF := hF.1 p1
    refine Ok.k (Ok.t (Ok.cut (fun a W => ∃ b1 : Ghost, Gext w0 p0 b1 ∧ StA 122 [(0, pv bxr 0), (1, sv xs), (5, iv (rpeV15 xs s0 k0)), (6, .bool (rpeV16 xs b0 k0)), (10, iv k0)] a ∧ StW w0 [] b1 W ∧ rpej45 xs s0 b0 k0 (rpel38 xs K k38)) ?_ ?_))
    ·
     refine Ok.block (Ok.sr ((Ok.b 2 [0, 1, 5, 6, 10] [(61, sv xs), (62, iv k0)] ?_)))
     obtain ⟨h037, h137, hF⟩ := hF
     have Q1 := get_of (l := xs) (0 : UInt8) h137
     generalize K1 : (xs.getD (Int.toNat k0) 0) = e37 at Q1 hF ⊢
     refine Ok.op rfl (OpOk.s (v := .int .u8 (e37.toNat : Int)) (Yields.ix (k := .i64) (i := k0) (s := xs) (b := e37) kr kr Tryz.underlying9 h037 Q1) rfl rfl (Ok.b 1 [0, 1, 5, 6, 10] [(11, .int .u8 (e37.toNat : Int))] ?_))
     refine Ok.nt ((Ok.sr ((Ok.b 4 [0, 1, 5, 6, 10, 11] [(65, .int .u8 (e37.toNat : Int)), (67, pv bxr 0)] ?_))))
     obtain ⟨Y1, h139, hF⟩ := hF
     have r1 := get_of (l := rpL) (default : List Int) h139
     generalize U1 : (rpL.getD (Int.toNat (e37.toNat : Int)) default) = e39 at r1 hF ⊢
     obtain ⟨_, _, _, hatA38, hRA38, -, -, hnilT38⟩ := RplG.opened hT
     refine Ok.op rfl (OpOk.indexEl (e := .slice yb) (o := 0) (L := rpL) (q := (e37.toNat : Int)) (el := e39) hatA38 hRA38 rfl rfl Tryz.underlying163 kr rfl Y1 r1 rfl fun cs38 _ N0 hr38 => ?_)
     obtain ⟨O0, P0, rfl, hm38_0, hr38_0⟩ := hr38
     have hR38_0 : Rep p0 (.slice yb) [.slice O0 e39.length P0] e39 := ⟨O0, P0, rfl, hm38_0, hr38_0⟩
     replace N0 : At p0 bxr (0 + Int.toNat (e37.toNat : Int) * 1) [.slice O0 e39.length P0] := N0
     have hnX38 := fun h => hnilT38 (e37.toNat : Int) _ _ _ N0 h
     refine Ok.op rfl (OpOk.s (v := .slice O0 e39.length P0) (Yields.lr 0 N0 kr Tryz.underlying23 rfl kr) rfl rfl (Ok.op rfl (OpOk.s (v := .bool (!((e39.length : Int) == 0))) (Yields.neNilX (e := .int .u8) rfl rfl Tryz.underlying23 hR38_0 hnX38) rfl rfl (Ok.nt ((Ok.cn hF rfl (fun X0 => ?_) (fun X0 => ?_)))))))
     ·replace hF := hF.1 X0
      refine Ok.sr ((Ok.b 5 [0, 1, 10] [(71, iv s0), (73, .int .u8 (e37.toNat : Int)), (75, pv bxr 0)] ?_))
      obtain ⟨_, _, _, hatA41, hRA41, -, -, hnilT41⟩ := RplG.opened hT
      refine Ok.op rfl (OpOk.indexEl (e := .slice yb) (o := 0) (L := rpL) (q := (e37.toNat : Int)) (el := e39) hatA41 hRA41 rfl rfl Tryz.underlying163 kr rfl Y1 r1 rfl fun cs41 _ R0 hr41 => ?_)
      obtain ⟨T0, L0, rfl, hm41_0, hr41_0⟩ := hr41
      have hR41_0 : Rep p0 (.slice yb) [.slice T0 e39.length L0] e39 := ⟨T0, L0, rfl, hm41_0, hr41_0⟩
      replace R0 : At p0 bxr (0 + Int.toNat (e37.toNat : Int) * 1) [.slice T0 e39.length L0] := R0
      have hnX41 := fun h => hnilT41 (e37.toNat : Int) _ _ _ R0 h
      refine Ok.op rfl (OpOk.s (v := .slice T0 e39.length L0) (Yields.lr 0 R0 kr Tryz.underlying23 rfl kr) rfl rfl (Ok.b 4 [0, 1, 10] [(5, iv (w6 (s0 + (w6 ((e39.length : Int) - 1)))))] ?_))
      refine Ok.nt ((Ok.r (Ok.b 1 [0, 1, 5, 10] [(6, .bool true)] ?_)))
      refine Ok.j (Ok.kn (Ok.t ?_))
      subst U1
      subst K1
      refine Ok.v 5 rfl (show (iv (w6 (s0 + (w6 (((rpL.getD (Int.toNat ((xs.getD (Int.toNat k0) 0).toNat : Int)) default).length : Int) - 1)))) : Value) = iv (rpeV15 xs s0 k0) from congrArg (Value.int .i64) ((if_t X0).symm)) (Ok.v 6 rfl (show (.bool true : Value) = .bool (rpeV16 xs b0 k0) from congrArg (Value.bool) (mor_t X0)) ?_)
      exact fun a W hA hW => ⟨p0, (Gext.r w0 p0), hA.sub kr, hW, hF⟩
     replace hF := hF.2 X0
     refine Ok.k (Ok.kn (Ok.t ?_))
     subst U1
     subst K1
     refine Ok.v 5 rfl (show (iv s0 : Value) = iv (rpeV15 xs s0 k0) from congrArg (Value.int .i64) ((if_f X0).symm)) (Ok.v 6 rfl (show (.bool b0 : Value) = .bool (rpeV16 xs b0 k0) from congrArg (Value.bool) (mor_f X0)) ?_)
     exact fun a W hA hW => ⟨p0, (Gext.r w0 p0), hA.sub kr, hW, hF⟩
    clear hF
    rintro a W ⟨b1, g1, hA, hW, hF⟩
    refine (?_ : Ok _ _ _ _ _ _) a W hA hW
    clear hA hW
    replace hT := hT.mono g1.1
    refine Ok.r (Ok.b 3 [0, 1, 5, 6] [(10, iv (w6 (k0 + 1)))] ?_)
    refine Ok.j (Ok.t ?_)
    exact fun a W hA hW => ⟨k38, Nat.lt_succ_self _, b1, (j1.trans g1), (rpeV15 xs s0 k0), (rpeV16 xs b0 k0), w6 (k0 + 1), hA.sub kr, hW, hF⟩
   replace hF := hF.2 p1
   refine Ok.x (Ok.thenE (Ok.thenE (Ok.blockHit (Ok.t ?_))))
   exact fun a W hA hW => ⟨p0, j1, s0, b0, hA.sub kr, hW, hF⟩
 clear hF
 rintro a W ⟨gj7, t1, a0, Y0, hA, hW, hF⟩
 refine (?_ : Ok _ _ _ _ _ _) a W hA hW
 clear hA hW
 replace hT := hT.mono t1.1
 refine Ok.q (Ok.sr ((Ok.b 2 [0, 1, 5] [(82, .bool (!Y0))] ?_)))
 refine Ok.nt ((Ok.cn hF rfl (fun hc1 => ?_) (fun hc1 => ?_)))
 ·replace hF := hF.1 hc1
  refine Ok.sr ((Ok.B 2 [(4, sv xs)] kr (Ok.nt ((Ok.ret (Ok.tr ?_))))))
  exact Ok.resH (vs := [sv xs]) (.inl rfl) rfl (.cons (.tmp rfl) .nil) t1 ⟨xs, rfl, rfl, hF⟩
 replace hF := hF.2 hc1
 refine Ok.k (Ok.t (Ok.sr ((Ok.b 1 [0, 1] [(84, iv a0)] ?_))))
 obtain ⟨h02, h12, hF⟩ := hF
 refine Ok.op rfl (OpOk.makeZero (e := .int .u8) (E := 5) (nn := a0) (y := 0) (z := .int .u8 0) 1 140737488355328 rfl rfl Tryz.underlying23 kr kr kr rfl h02 h12 rfl fun a2 c2 xs2 hL2 => ?_)
 refine Ok.b 1 [0, 1] [(12, .slice a2 (List.replicate (Int.toNat a0) (0 : Int)).length c2)] ?_
 refine Ok.nt ((Ok.sr ((Ok.b 1 [0, 1, 12] [(13, iv 0)] ?_))))
 refine Ok.nt ((Ok.q (Ok.sr ((Ok.b 1 [0, 1, 12, 13] [(14, iv 0)] ?_)))))
 refine Ok.nt ((Ok.block ?_))
 obtain ⟨k, hF⟩ := hF
 refine Ok.L (fun k a W => ∃ t0 : Ghost, Gext w0 gj7 t0 ∧ ∃ (q0 : Int) (y0 : Int) (u0 : Option Addr) (j0 : Nat) (z0 : List Int) (c0 : List Value), RepL t0 yb c0 z0 ∧ StA 122 [(0, pv bxr 0), (1, sv xs), (12, .slice u0 z0.length j0), (13, iv q0), (14, iv y0)] a ∧ StW w0 [.own (.slice u0 z0.length j0) 5 1 z0.length c0] t0 W ∧ rpel73 xs K k q0 y0 z0) k ?_ ?_
 ·
  exact fun a W hA hW => ⟨gj7, (Gext.r w0 gj7), 0, 0, a2, c2, (List.replicate (Int.toNat a0) (0 : Int)), xs2, hL2, hA.sub kr, hW, hF⟩
 clear hF
 rintro k73 a W ⟨t0, x1, q0, y0, u0, j0, z0, c0, d0, hA, hW, hF⟩
 cases k73 with
 | zero => exact (hF : False).elim
 | succ k73 =>
  refine (?_ : Ok _ _ _ _ _ _) a W hA hW
  clear hA hW
  replace hT := hT.mono x1.1
  refine Ok.q (Ok.sr ((Ok.b 4 [0, 1, 12, 13, 14] [(89, .bool (decide (y0 < (xs.length : Int))))] ?_)))
  refine Ok.nt ((Ok.cn hF rfl (fun hc3 => ?_) (fun hc3 => ?_)))
  ·replace hF := hF.1 hc3
   refine Ok.k (Ok.t (Ok.cut (fun a W => ∃ s1 : Ghost, Gext w0 t0 s1 ∧ ∃ (h0 : Option Addr) (m0 : Nat) (x0 : List Int) (f0 : List Value), RepL s1 yb f0 x0 ∧ StA 122 [(0, pv bxr 0), (1, sv xs), (12, .slice h0 x0.length m0), (13, iv (rpeV10 xs q0 y0)), (14, iv y0)] a ∧ StW w0 [.own (.slice h0 x0.length m0) 5 1 x0.length f0] s1 W ∧ rpej80 xs x0 q0 y0 (rpel73 xs K k73)) ?_ ?_))
   ·
    refine Ok.block (Ok.sr ((Ok.b 2 [0, 1, 12, 13, 14] [(92, sv xs), (93, iv y0)] ?_)))
    obtain ⟨h04, h14, hF⟩ := hF
    have he4 := get_of (l := xs) (0 : UInt8) h14
    generalize hg4 : (xs.getD (Int.toNat y0) 0) = e4 at he4 hF ⊢
    refine Ok.op rfl (OpOk.s (v := .int .u8 (e4.toNat : Int)) (Yields.ix (k := .i64) (i := y0) (s := xs) (b := e4) kr kr Tryz.underlying9 h04 he4) rfl rfl (Ok.b 1 [0, 1, 12, 13, 14] [(15, .int .u8 (e4.toNat : Int))] ?_))
    refine Ok.nt ((Ok.sr ((Ok.b 4 [0, 1, 12, 13, 14, 15] [(96, .int .u8 (e4.toNat : Int)), (98, pv bxr 0)] ?_))))
    obtain ⟨h06, h16, hF⟩ := hF
    have he6 := get_of (l := rpL) (default : List Int) h16
    generalize hg6 : (rpL.getD (Int.toNat (e4.toNat : Int)) default) = e6 at he6 hF ⊢
    obtain ⟨_, _, _, hatA5, hRA5, -, -, hnilT5⟩ := RplG.opened hT
    refine Ok.op rfl (OpOk.indexEl (e := .slice yb) (o := 0) (L := rpL) (q := (e4.toNat : Int)) (el := e6) hatA5 hRA5 rfl rfl Tryz.underlying163 kr rfl h06 he6 rfl fun cs5 _ d1 hr5 => ?_)
    obtain ⟨e1, f1, rfl, hm5_0, hr5_0⟩ := hr5
    have hR5_0 : Rep t0 (.slice yb) [.slice e1 e6.length f1] e6 := ⟨e1, f1, rfl, hm5_0, hr5_0⟩
    replace d1 : At t0 bxr (0 + Int.toNat (e4.toNat : Int) * 1) [.slice e1 e6.length f1] := d1
    have hnX5 := fun h => hnilT5 (e4.toNat : Int) _ _ _ d1 h
    refine Ok.op rfl (OpOk.s (v := .slice e1 e6.length f1) (Yields.lr 0 d1 kr Tryz.underlying23 rfl kr) rfl rfl (Ok.op rfl (OpOk.s (v := .bool (!((e6.length : Int) == 0))) (Yields.neNilX (e := .int .u8) rfl rfl Tryz.underlying23 hR5_0 hnX5) rfl rfl (Ok.nt ((Ok.cn hF rfl (fun hc7 => ?_) (fun hc7 => ?_)))))))
    ·replace hF := hF.1 hc7
     refine Ok.capOwn 0 rfl fun hcc8 hcm8 => ?_
     refine Ok.mix [] [] [] [(0, true), (1, true), (2, true), (3, true), (4, true), (5, true), (6, true), (7, true), (8, true), (9, true), (10, false), (11, true), (12, true)] kr kr (.cons _ .slnil) (OkM.B 3 [(0, pv bxr 0), (1, sv xs), (12, .slice u0 z0.length j0), (14, iv y0), (15, .int .u8 (e4.toNat : Int)), (102, iv q0), (103, .slice u0 z0.length j0), (104, iv q0)] kr ?_)
     obtain ⟨h09, h19, h29, hF⟩ := hF
     refine OkM.h rfl rfl (show _ = [] from rfl) (OpQ.s (v := vw u0 1 j0 (Int.toNat q0) (Int.toNat (z0.length : Int))) (slice_run (size := 1) (l := q0) (h := (z0.length : Int)) rfl Tryz.underlying23 kr (.inl ⟨_, _, rfl, rfl⟩) (.inr ⟨rfl, rfl⟩) h09 h19 (Int.le_trans h29 (Int.ofNat_le.2 hcc8))) rfl rfl (OkM.b 4 [0, 1, 12, 14, 102] [(105, vw u0 1 j0 (Int.toNat q0) (Int.toNat (z0.length : Int))), (107, .int .u8 (e4.toNat : Int)), (109, pv bxr 0)] ?_))
     obtain ⟨_, _, _, hatA10, hRA10, -, -, hnilT10⟩ := RplG.opened hT
     refine OkM.h rfl rfl (show _ = [] from rfl) (OpQ.indexEl (e := .slice yb) (o := 0) (L := rpL) (q := (e4.toNat : Int)) (el := e6) hatA10 hRA10 rfl rfl Tryz.underlying163 kr rfl h06 he6 rfl fun cs10 _ A0 hr10 => ?_)
     obtain ⟨I0, z1, rfl, hm10_0, hr10_0⟩ := hr10
     have hR10_0 : Rep t0 (.slice yb) [.slice I0 e6.length z1] e6 := ⟨I0, z1, rfl, hm10_0, hr10_0⟩
     replace A0 : At t0 bxr (0 + Int.toNat (e4.toNat : Int) * 1) [.slice I0 e6.length z1] := A0
     have hnX10 := fun h => hnilT10 (e4.toNat : Int) _ _ _ A0 h
     refine OkM.h rfl rfl (show _ = [] from rfl) (OpQ.s (v := .slice I0 e6.length z1) (Yields.lr 0 A0 kr Tryz.underlying23 rfl kr) rfl rfl ?_)
     obtain ⟨h111, hF⟩ := hF
     obtain ⟨L11, m1⟩ : ∃ y : List Int, y = z0.take (Int.toNat q0) ++ e6 ++ z0.drop ((Int.toNat q0) + e6.length) := ⟨_, rfl⟩
     replace hF := hF L11 m1
     obtain ⟨h211, hF⟩ := hF
     refine OkM.t rfl rfl (OpOk.copyRo (e := .int .u8) (l := z0) (l2 := e6) (p := (Int.toNat q0)) 0 rfl rfl rfl d0 hR10_0 Tryz.underlying23 kr (Int.toNat_natCast _) h111 m1 rfl fun xs11 hL11 => ?_)
     rw [show z0.length = L11.length from h211]
     refine OkM.l (i := 10) (show _ = [] from rfl) (Gle.refl _) (.cons _ .slnil) (OkM.b 2 [0, 1, 14] [(12, .slice u0 L11.length j0), (13, iv (w6 (q0 + (e6.length : Int))))] ?_)
     refine OkM.nil (Ok.kn (Ok.t ?_))
     subst hg6
     subst hg4
     refine Ok.v 13 rfl (show (iv (w6 (q0 + ((rpL.getD (Int.toNat ((xs.getD (Int.toNat y0) 0).toNat : Int)) default).length : Int))) : Value) = iv (rpeV10 xs q0 y0) from congrArg (Value.int .i64) ((if_t hc7).symm)) ?_
     exact fun a W hA hW => ⟨t0, (Gext.r w0 t0), u0, j0, L11, xs11, hL11, hA.sub kr, hW, hF⟩
    replace hF := hF.2 hc7
    refine Ok.sr ((Ok.b 3 [0, 1, 12, 13, 14] [(114, .slice u0 z0.length j0), (115, iv q0), (116, .int .u8 (e4.toNat : Int))] ?_))
    obtain ⟨h013, h113, hF⟩ := hF
    have J1 := get_of (l := z0) (default : Int) h113
    generalize hg13 : (z0.getD (Int.toNat q0) default) = e13 at J1 hF ⊢
    refine Ok.op rfl (OpOk.indexOwn (e := .int .u8) (q := q0) (el := e13) 0 rfl d0 rfl rfl Tryz.underlying23 kr kr h013 J1 rfl fun cs12 _ hr12 a1 => ?_)
    obtain rfl := hr12
    replace a1 : ∀ j v, ([.int .u8 e13] : List Value)[j]? = some v → c0[Int.toNat q0 * 1 + j]? = some v := a1
    refine Ok.op rfl (OpOk.storeOwn (e := .int .u8) (q := Int.toNat q0) (cells := [.int .u8 e13]) (vs := [.int .u8 (e4.toNat : Int)]) (el' := (e4.toNat : Int)) 0 0 1 rfl d0 a1 kr rfl rfl rfl kr kr kr kr kr (show Rep _ _ [.int .u8 (e4.toNat : Int)] _ from rfl) fun xs14 hL14 => ?_)
    rw [show z0.length = (z0.set (Int.toNat q0) (e4.toNat : Int)).length from (List.length_set ..).symm]
    refine Ok.nt ((Ok.r (Ok.b 3 [0, 1, 14] [(12, .slice u0 (z0.set (Int.toNat q0) (e4.toNat : Int)).length j0), (13, iv (w6 (q0 + 1)))] ?_)))
    refine Ok.j (Ok.kn (Ok.t ?_))
    subst hg13
    subst hg6
    subst hg4
    refine Ok.v 13 rfl (show (iv (w6 (q0 + 1)) : Value) = iv (rpeV10 xs q0 y0) from congrArg (Value.int .i64) ((if_f hc7).symm)) ?_
    exact fun a W hA hW => ⟨t0, (Gext.r w0 t0), u0, j0, (z0.set (Int.toNat q0) ((xs.getD (Int.toNat y0) 0).toNat : Int)), xs14, hL14, hA.sub kr, hW, hF⟩
   clear hF
   rintro a W ⟨s1, n1, h0, m0, x0, f0, hLyown2_0j80, hA, hW, hF⟩
   refine (?_ : Ok _ _ _ _ _ _) a W hA hW
   clear hA hW
   replace hT := hT.mono n1.1
   refine Ok.r (Ok.b 3 [0, 1, 12, 13] [(14, iv (w6 (y0 + 1)))] ?_)
   refine Ok.j (Ok.t ?_)
   exact fun a W hA hW => ⟨k73, Nat.lt_succ_self _, s1, (x1.trans n1), (rpeV10 xs q0 y0), w6 (y0 + 1), h0, m0, x0, f0, hLyown2_0j80, hA.sub kr, hW, hF⟩
  replace hF := hF.2 hc3
  refine Ok.x (Ok.thenE (Ok.thenE (Ok.blockHit (Ok.t (Ok.sr ((Ok.B 1 [(120, .slice u0 z0.length j0)] kr (Ok.op rfl (OpOk.s (v := sv (bytesOf z0)) (Yields.strOfOwn 0 kr rfl rfl d0 Tryz.underlying23 Tryz.underlying9 Tryz.underlying5) rfl rfl (Ok.B 1 [(4, sv (bytesOf z0))] kr (Ok.nt ((Ok.ret ?_)))))))))))))
  exact Ok.p (vs := [sv (bytesOf z0)]) [] [] dc rfl (.inl rfl) rfl (.cons (.tmp rfl) .nil) (t1.trans x1) ⟨(bytesOf z0), rfl, rfl, hF⟩
def spB (c : UInt8) : Bool := c == 10 || c == 34 || c == 92
def rp1 (c : UInt8) : Bs := if spB c = true then [92, c] else [c]
def quoteS : Bs → Bs
 | [] => []
 | c :: s => rp1 c ++ quoteS s
def quoteP (s : Bs) : Prop := s.length ≤ 70368744177664
theorem byte_all {p : UInt8 → Bool} (h : (List.range 256).all (fun n => p (UInt8.ofNat n)) = true) (c : UInt8) : p c = true := by
 have h1 := List.all_eq_true.1 h c.toNat (by simpa using c.toNat_lt)
 simpa using h1
theorem rpL_at (c : UInt8) : rpL.getD (Int.toNat (c.toNat : Int)) default = if spB c = true then [92, (c.toNat : Int)] else [] := by
 have := byte_all (p := fun c => decide (rpL.getD (Int.toNat (c.toNat : Int)) default = if spB c = true then [92, (c.toNat : Int)] else [])) dk c
 exact of_decide_eq_true this
theorem rpL_len : rpL.length = 256 := by kernel_rfl
theorem rp1_len (c : UInt8) : 1 ≤ (rp1 c).length ∧ (rp1 c).length ≤ 2 := by unfold rp1; split <;> simp
theorem quoteS_append (s t : Bs) : quoteS (s ++ t) = quoteS s ++ quoteS t := by
 induction s with
 | nil => rfl
 | cons c s ih => rw [List.cons_append, quoteS, quoteS, ih, List.append_assoc]
theorem quote_len (s : Bs) : s.length ≤ (quoteS s).length ∧ (quoteS s).length ≤ 2 * s.length := by
 induction s with
 | nil => simp [quoteS]
 | cons c s ih =>
  have := rp1_len c
  rw [quoteS, List.length_append, List.length_cons]
  omega
theorem quote_plain (s : Bs) (h : s.any spB = false) : quoteS s = s := by
 induction s with
 | nil => rfl
 | cons c s ih =>
  rw [List.any_cons, Bool.or_eq_false_iff] at h
  rw [quoteS, ih h.2, rp1, h.1]
  rfl
theorem take_get (s : Bs) {i : Nat} (h : i < s.length) : s.take (i + 1) = s.take i ++ [s.getD i 0] := by
 rw [List.take_add_one, List.getD_eq_getElem?_getD, List.getElem?_eq_getElem h]; rfl
theorem quote_split (s : Bs) {i : Nat} (h : i < s.length) : quoteS s = quoteS (s.take i) ++ (rp1 (s.getD i 0) ++ quoteS (s.drop (i + 1))) := by
 have e : s = s.take i ++ (s.getD i 0 :: s.drop (i + 1)) := by
  rw [List.getD_eq_getElem?_getD, List.getElem?_eq_getElem h]
  simp
 conv => lhs; rw [e]
 rw [quoteS_append, quoteS]
theorem rpe73 (xs : Bs) (hp : quoteP xs) : ∀ (m i : Nat), i + m = xs.length → rpel73 xs (fun r => r = quoteS xs) (m + 1) ((quoteS (xs.take i)).length : Int) (i : Int) (intsOf (quoteS (xs.take i)) ++ List.replicate ((quoteS xs).length - (quoteS (xs.take i)).length) 0) := by
 unfold quoteP at hp
 have hq := quote_len xs
 intro m
 induction m with
 | zero =>
  intro i hi
  have : xs.take i = xs := List.take_of_length_le om
  refine ⟨fun hc => absurd (of_decide_eq_true hc) om, fun _ => ?_⟩
  show bytesOf _ = _
  rw [this, Nat.sub_self, List.replicate_zero, List.append_nil, bytesOf_intsOf]
 | succ m ih =>
  intro i hi
  have hi' : i < xs.length := by omega
  have hs := quote_split xs hi'
  have h1 := congrArg List.length hs
  rw [List.length_append, List.length_append] at h1
  have hr := rp1_len (xs.getD i 0)
  have ht : quoteS (xs.take (i + 1)) = quoteS (xs.take i) ++ rp1 (xs.getD i 0) := by
   rw [take_get xs hi', quoteS_append, quoteS, quoteS, List.append_nil]
  have hn := quote_len (xs.take i)
  rw [List.length_take, Nat.min_eq_left om] at hn
  have hI : (intsOf (quoteS (xs.take i))).length = (quoteS (xs.take i)).length := List.length_map ..
  have hL : (intsOf (quoteS (xs.take i)) ++ List.replicate ((quoteS xs).length - (quoteS (xs.take i)).length) (0 : Int)).length = (quoteS xs).length := by rw [List.length_append, hI, List.length_replicate]; omega
  have step : ∀ (Y : List Int) (j : Int), j = ((quoteS (xs.take (i + 1))).length : Int) → Y = intsOf (quoteS (xs.take (i + 1))) ++ List.replicate ((quoteS xs).length - (quoteS (xs.take (i + 1))).length) 0 →
    rpel73 xs (fun r => r = quoteS xs) (m + 1) j (w6 ((i : Int) + 1)) Y := by
   intro Y j hj hY
   rw [hj, hY, w64 om, show (i : Int) + 1 = ((i + 1 : Nat) : Int) by omega]
   exact ih (i + 1) om
  have e0 : rpL.getD (Int.toNat ((xs.getD (Int.toNat (i : Int)) 0).toNat : Int)) default = if spB (xs.getD i 0) = true then [92, ((xs.getD i 0).toNat : Int)] else [] := by rw [Int.toNat_natCast i]; exact rpL_at _
  have hb : (xs.getD (Int.toNat (i : Int)) 0).toNat < 256 := UInt8.toNat_lt _
  have hV : rpeV10 xs ((quoteS (xs.take i)).length : Int) (i : Int) = ((quoteS (xs.take (i + 1))).length : Int) := by
   unfold rpeV10
   rw [e0, ht, List.length_append, rp1]
   by_cases hc : spB (xs.getD i 0) = true
   ·rw [if_pos hc, if_pos hc]
    rw [show (!((([92, ((xs.getD i 0).toNat : Int)].length : Nat) : Int) == 0)) = true from rfl, if_pos rfl, w64 (by simp; omega)]
    simp
   rw [if_neg hc, if_neg hc]
   rw [show (!((([] : List Int).length : Int) == 0)) = false from rfl, if_neg (by simp), w64 om]
   simp
  refine ⟨fun _ => ⟨by omega, by rw [Int.toNat_natCast]; exact hi', by omega, by rw [rpL_len, Int.toNat_natCast]; omega, fun hc => ?_, fun hc => ?_⟩, fun hc => absurd (of_decide_eq_false hc) om⟩
  ·rw [e0] at hc ⊢
   by_cases hsp : spB (xs.getD i 0) = true
   ·rw [if_pos hsp] at hc ⊢
    have hrl : (rp1 (xs.getD i 0)) = [92, xs.getD i 0] := by rw [rp1, if_pos hsp]
    rw [hrl] at h1 ht
    simp only [List.length_cons, List.length_nil] at h1
    refine ⟨by omega, by omega, by omega, by rw [hL, Int.toNat_natCast]; simp; omega, fun Y hY => ⟨?_, ?_⟩⟩
    ·rw [hY, Int.toNat_natCast]; simp; omega
    refine step Y _ hV ?_
    rw [hY, Int.toNat_natCast, ht, List.take_append_of_le_length om, List.take_of_length_le om, List.drop_append, hI, List.drop_of_length_le om, List.nil_append, List.drop_replicate]
    show intsOf (quoteS (xs.take i)) ++ [92, ((xs.getD i 0).toNat : Int)] ++ _ = _
    rw [intsOf, intsOf, List.map_append, List.append_assoc, List.append_assoc]
    congr 2
    congr 1
    simp only [List.length_append, List.length_cons, List.length_nil]
    omega
   rw [if_neg hsp] at hc
   exact absurd hc (by simp)
  rw [e0] at hc
  by_cases hsp : spB (xs.getD i 0) = true
  ·rw [if_pos hsp] at hc
   exact absurd hc (by simp)
  have hrl : (rp1 (xs.getD i 0)) = [xs.getD i 0] := by rw [rp1, if_neg hsp]
  rw [hrl] at h1 ht
  simp only [List.length_cons, List.length_nil] at h1
  refine ⟨by omega, by rw [hL, Int.toNat_natCast]; omega, ?_⟩
  refine step _ _ hV ?_
  rw [Int.toNat_natCast, Int.toNat_natCast, ht, List.set_append, if_neg om, hI, Nat.sub_self]
  obtain ⟨q, hq2⟩ : ∃ q, (quoteS xs).length - (quoteS (xs.take i)).length = q + 1 := ⟨_, (by omega : _ = ((quoteS xs).length - (quoteS (xs.take i)).length - 1) + 1)⟩
  rw [hq2, List.replicate_succ, List.set_cons_zero, intsOf, intsOf, List.map_append, List.append_assoc]
  congr 1
  show _ :: _ = _ :: _
  congr 1
  congr 1
  simp only [List.length_append, List.length_cons, List.length_nil]
  omega
theorem rpe7 (xs : Bs) (hp : quoteP xs) (n : Int) (b : Bool) (hb : b = xs.any spB) (hn : n = ((quoteS xs).length : Int)) : rpej7 xs (fun r => r = quoteS xs) n b := by
 have hq := quote_len xs
 refine ⟨fun h => ?_, fun _ => ⟨by omega, by unfold quoteP at hp; omega, xs.length + 1, ?_⟩⟩
 ·have h : b = false := by simpa using h
  show xs = quoteS xs
  rw [quote_plain xs (by rw [← hb, h])]
 have := rpe73 xs hp xs.length 0 om
 rw [List.take_zero] at this
 rw [hn, Int.toNat_natCast]
 simpa [quoteS, intsOf] using this
theorem rpe38 (xs : Bs) (hp : quoteP xs) : ∀ (m i : Nat), i + m = xs.length → rpel38 xs (fun r => r = quoteS xs) (m + 1) (((quoteS (xs.take i)).length + m : Nat) : Int) ((xs.take i).any spB) (i : Int) := by
 have hp' : xs.length ≤ 70368744177664 := hp
 intro m
 induction m with
 | zero =>
  intro i hi
  have : xs.take i = xs := List.take_of_length_le om
  refine ⟨fun hc => absurd (of_decide_eq_true hc) om, fun _ => ?_⟩
  rw [this]
  exact rpe7 xs hp _ _ rfl rfl
 | succ m ih =>
  intro i hi
  have hi' : i < xs.length := by omega
  have hb : (xs.getD (Int.toNat (i : Int)) 0).toNat < 256 := UInt8.toNat_lt _
  have ht : quoteS (xs.take (i + 1)) = quoteS (xs.take i) ++ rp1 (xs.getD i 0) := by
   rw [take_get xs hi', quoteS_append, quoteS, quoteS, List.append_nil]
  have hn := quote_len (xs.take i)
  rw [List.length_take, Nat.min_eq_left om] at hn
  have e0 : rpL.getD (Int.toNat ((xs.getD (Int.toNat (i : Int)) 0).toNat : Int)) default = if spB (xs.getD i 0) = true then [92, ((xs.getD i 0).toNat : Int)] else [] := by rw [Int.toNat_natCast i]; exact rpL_at _
  have hV : rpeV15 xs (((quoteS (xs.take i)).length + (m + 1) : Nat) : Int) (i : Int) = (((quoteS (xs.take (i + 1))).length + m : Nat) : Int) := by
   unfold rpeV15
   rw [e0, ht, List.length_append, rp1]
   by_cases hc : spB (xs.getD i 0) = true
   ·rw [if_pos hc, if_pos hc]
    rw [show (!((([92, ((xs.getD i 0).toNat : Int)].length : Nat) : Int) == 0)) = true from rfl, if_pos rfl, show w6 ((([92, ((xs.getD i 0).toNat : Int)].length : Nat) : Int) - 1) = 1 from rfl, w64 om]
    simp; omega
   rw [if_neg hc, if_neg hc]
   rw [show (!((([] : List Int).length : Int) == 0)) = false from rfl, if_neg (by simp)]
   simp; omega
  have hW : rpeV16 xs ((xs.take i).any spB) (i : Int) = (xs.take (i + 1)).any spB := by
   unfold rpeV16
   rw [e0, take_get xs hi', List.any_append, List.any_cons, List.any_nil, Bool.or_false, Bool.or_comm]
   congr 1
   by_cases hc : spB (xs.getD i 0) = true
   ·rw [if_pos hc, hc]; rfl
   rw [if_neg hc]; simp only [Bool.not_eq_true] at hc; rw [hc]; rfl
  have j : rpej45 xs (((quoteS (xs.take i)).length + (m + 1) : Nat) : Int) ((xs.take i).any spB) (i : Int) (rpel38 xs (fun r => r = quoteS xs) (m + 1)) := by
   unfold rpej45
   rw [hV, hW, w64 om, show (i : Int) + 1 = ((i + 1 : Nat) : Int) by omega]
   exact ih (i + 1) om
  exact ⟨fun _ => ⟨by omega, by rw [Int.toNat_natCast]; exact hi', by omega, by rw [rpL_len, Int.toNat_natCast]; omega, fun _ => j, fun _ => j⟩, fun hc => absurd (of_decide_eq_false hc) om⟩
theorem count_quote (xs : Bs) : (quoteS xs).length = xs.length + xs.count 10 + xs.count 34 + xs.count 92 := by
 induction xs with
 | nil => rfl
 | cons c s ih =>
  rw [quoteS, List.length_append, ih, List.count_cons, List.count_cons, List.count_cons, List.length_cons]
  have : (rp1 c).length = 1 + (if (c == 10) = true then 1 else 0) + (if (c == 34) = true then 1 else 0) + (if (c == 92) = true then 1 else 0) := by
   have := byte_all (p := fun c => decide ((rp1 c).length = 1 + (if (c == 10) = true then 1 else 0) + (if (c == 34) = true then 1 else 0) + (if (c == 92) = true then 1 else 0))) dk c
   exact of_decide_eq_true this
  omega
theorem count_any (xs : Bs) : xs.any spB = (((cntS xs [92]) != 0) || (((cntS xs [34]) != 0) || ((cntS xs [10]) != 0))) := by
 have k : ∀ c : UInt8, ((cntS xs [c]) != 0) = xs.any (· == c) := fun c => by
  show (((Lib.countByte xs c : Nat) : Int) != 0) = _
  rw [show Lib.countByte xs c = xs.count c from rfl]
  cases h : xs.any (· == c) with
  | true =>
   obtain ⟨y, hy, he⟩ := List.any_eq_true.1 h
   have := eq_of_beq he; subst this
   have := List.count_pos_iff.2 hy
   rw [bne_iff_ne]; omega
  | false =>
   have : xs.count c = 0 := List.count_eq_zero.2 fun hm => by
    rw [List.any_eq_false] at h
    exact h c hm (by simp)
   rw [this]; rfl
 rw [k, k, k]
 induction xs with
 | nil => rfl
 | cons c s ih =>
  simp only [List.any_cons]
  rw [ih (fun c => by
   show (((Lib.countByte s c : Nat) : Int) != 0) = _
   rw [show Lib.countByte s c = s.count c from rfl]
   cases h : s.any (· == c) with
   | true =>
    obtain ⟨y, hy, he⟩ := List.any_eq_true.1 h
    have := eq_of_beq he; subst this
    have := List.count_pos_iff.2 hy
    rw [bne_iff_ne]; omega
   | false =>
    have : s.count c = 0 := List.count_eq_zero.2 fun hm => by
     rw [List.any_eq_false] at h
     exact h c hm (by simp)
    rw [this]; rfl)]
  unfold spB
  cases (c == 10) <;> cases (c == 34) <;> cases (c == 92) <;> simp
theorem rpe_V (n cN : Int) (hn : 0 ≤ n ∧ n ≤ 4611686018427387903) (hc : 0 ≤ cN ∧ cN ≤ 4611686018427387903) (k : Int) (hk : k = 2) : (if (cN != 0) = true then w6 (n + (w6 (cN * (w6 (k - 1))))) else n) = n + cN := by
 subst hk
 rw [show w6 ((2 : Int) - 1) = 1 from rfl, Int.mul_one, w64 (x := cN) om]
 split
 ·exact w64 om
 rename_i h
 simp at h; omega
theorem rpe_F (xs : Bs) (hp : quoteP xs) : rpeF xs (fun r => r = quoteS xs) := by
 have hp' : xs.length ≤ 70368744177664 := hp
 have c1 := List.count_le_length (a := (10 : UInt8)) (l := xs)
 have c2 := List.count_le_length (a := (34 : UInt8)) (l := xs)
 have c3 := List.count_le_length (a := (92 : UInt8)) (l := xs)
 have q10 : cntS xs [10] = ((xs.count 10 : Nat) : Int) := rfl
 have q34 : cntS xs [34] = ((xs.count 34 : Nat) : Int) := rfl
 have q92 : cntS xs [92] = ((xs.count 92 : Nat) : Int) := rfl
 have v0 : rpeV0 xs = (xs.length : Int) + cntS xs [10] := rpe_V _ _ om om _ rfl
 have v1 : rpeV1 xs = (xs.length : Int) + cntS xs [10] + cntS xs [34] := by
  unfold rpeV1
  rw [v0]
  exact rpe_V _ _ om om _ rfl
 have v3 : rpeV3 xs = (xs.length : Int) + cntS xs [10] + cntS xs [34] + cntS xs [92] := by
  unfold rpeV3
  rw [v1]
  exact rpe_V _ _ om om _ rfl
 have j21 : rpej21 xs (fun r => r = quoteS xs) := by
  refine rpe7 xs hp _ _ ?_ ?_
  ·rw [count_any]; rfl
  rw [v3, count_quote]; omega
 have ja : rpej21a xs (fun r => r = quoteS xs) := ⟨by decide, by decide, rfl, fun _ => ⟨by decide, by rw [rpL_len]; decide, j21⟩, fun _ => j21⟩
 have jb : rpej21b xs (fun r => r = quoteS xs) := ⟨by decide, by decide, rfl, fun _ => ⟨by decide, by rw [rpL_len]; decide, ja⟩, fun _ => ja⟩
 refine ⟨fun _ => ⟨by decide, by decide, rfl, fun _ => ⟨by decide, by rw [rpL_len]; decide, jb⟩, fun _ => jb⟩, fun _ => ⟨xs.length + 1, ?_⟩⟩
 have := rpe38 xs hp xs.length 0 om
 simpa [quoteS] using this
theorem rpl_c {g : Ghost} {b : Nat} (xs : Bs) (hT : RplG g b) (hp : quoteP xs) : CallsG Tryz.prog 226 #[pv b 0, sv xs] g (sv (quoteS xs)) :=
 (rpe_ok xs hT _ (rpe_F xs hp)).gives fun g' H' u _ ⟨r, hu, _, hr⟩ => by rw [hu, hr]
end Go.Proofs.YtcnhdkhkadiohaaGreatDoor.Rp
