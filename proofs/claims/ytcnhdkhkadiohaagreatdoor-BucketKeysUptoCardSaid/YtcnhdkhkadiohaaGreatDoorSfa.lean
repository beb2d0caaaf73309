/- selector: names, small letters, signs. -/
import Derived.Test.YtcnhdkhkadiohaaGreatDoorTrd
import Derived.Test.YtcnhdkhkadiohaaGreatDoorTri
namespace Go.Proofs.YtcnhdkhkadiohaaGreatDoor.Se
open Go Go.Eng Go.RowKit Bld Trm Css Tk Ti
set_option maxHeartbeats 4000000
set_option maxRecDepth 100000
set_option linter.unusedSimpArgs false
set_option linter.unusedVariables false
def plainS (s : Bs) : Bool := match cutS s with
 | [t] => t.1 == 1 && t.2.1 == s && t.2.2.1 == s
 | _ => false
def snmV0 (xs : Bs) : Bool :=
 ((((cutS xs).length : Int) == 1) && ((((cutS xs).getD (Int.toNat 0) default).1 == 1) && ((((cutS xs).getD (Int.toNat 0) default).2.1 == xs) && (((cutS xs).getD (Int.toNat 0) default).2.2.1 == xs))))
def snmj5 (xs : Bs) (K : Bool → Prop) : Prop :=
 K (snmV0 xs)
def snmF (xs : Bs) (K : Bool → Prop) : Prop :=
 cutP xs ∧ (((((cutS xs).length : Int) == 1)) = true → (0 : Int) ≤ 0 ∧ Int.toNat 0 < (cutS xs).length ∧ (((((cutS xs).getD (Int.toNat 0) default).1 == 1)) = true → (((((cutS xs).getD (Int.toNat 0) default).2.1 == xs)) = true → snmj5 xs K) ∧ (((((cutS xs).getD (Int.toNat 0) default).2.1 == xs)) = false → snmj5 xs K)) ∧ (((((cutS xs).getD (Int.toNat 0) default).1 == 1)) = false → snmj5 xs K)) ∧ (((((cutS xs).length : Int) == 1)) = false → snmj5 xs K)
theorem snm_ok {g : Ghost} (xs : Bs) (hG0 : SomeInt g 0) (K : Bool → Prop)
  (hF : snmF xs K) : CallsH Tryz.prog 76 #[sv xs] g [] (fun g' H' v => ∃ (r0 : Bool), v = .bool r0 ∧ H' = [] ∧ K r0) := by
 refine CallsH.enter 32 [(0, sv xs)] Tryz.func76 rfl kr kr kr fun w0 => ?_
 refine Ok.sr ((Ok.B 1 [(0, sv xs)] kr (Ok.nt ((Ok.sr ((Ok.b 1 [0] [(4, sv xs)] ?_)))))))
 obtain ⟨hp1, hF⟩ := hF
 refine Ok.op rfl (OpOk.callH [] _ enr rfl (cut_c xs hG0 hp1) rfl fun g2 _ _ hx2 hV2 => ?_)
 obtain ⟨s0, b0, rfl, j0, rfl⟩ := hV2
 replace hG0 := hG0.mono hx2.1
 refine Ok.b 1 [0] [(3, .slice s0 (cutS xs).length b0)] ?_
 refine Ok.nt ((Ok.cut (fun a W => ∃ gj5 : Ghost, Gext w0 g2 gj5 ∧ StA 32 [(2, .bool (snmV0 xs))] a ∧ StW w0 [] gj5 W ∧ snmj5 xs K) ?_ ?_))
 ·
  refine Ok.r (Ok.b 4 [0, 3] [(9, .bool (((cutS xs).length : Int) == 1))] ?_)
  refine Ok.a 9 ((((cutS xs).length : Int) == 1)) rfl (fun hc3 => ?_) (fun hc3 => ?_)
  ·replace hF := hF.1 hc3
   refine Ok.b 1 [0, 3] [(9, .bool true), (10, .slice s0 (cutS xs).length b0)] ?_
   obtain ⟨h05, h15, hF⟩ := hF
   have he5 := get_of (l := (cutS xs)) (default : Int × Bs × Bs × Int) h15
   generalize hg5 : ((cutS xs).getD (Int.toNat 0) default) = e5 at he5 hF ⊢
   refine Ok.y (j := 3) (d := 9) (want := true) (b := true) rfl kr kr rfl (OpOk.indexRo (e := yK) (i := 0) (el := e5) rfl rfl Tryz.underlying56 kr j0 h05 he5 rfl fun q4 o4 cs4 _ c0 hr4 => ?_)
   obtain ⟨_, _, rfl, rfl, ⟨_, _, rfl, rfl, ⟨_, _, rfl, rfl, rfl⟩⟩⟩ := hr4
   replace c0 : At g2 q4 o4 (vK e5) := c0
   refine Ok.b 1 [0, 3, 9] [(12, pv q4 o4)] ?_
   refine Ok.y (j := 3) (d := 9) (want := true) (b := true) rfl kr kr rfl (OpOk.s (v := iv e5.1) (Yields.lr 0 c0 kr Tryz.underlying3 rfl kr) rfl rfl (Ok.b 3 [0, 3] [(16, .bool (e5.1 == 1))] ?_))
   refine Ok.a 16 ((e5.1 == 1)) rfl (fun hc6 => ?_) (fun hc6 => ?_)
   ·replace hF := hF.1 hc6
    refine Ok.b 1 [0, 3] [(16, .bool true), (17, .slice s0 (cutS xs).length b0)] ?_
    refine Ok.y (j := 10) (d := 16) (want := true) (b := true) rfl kr kr rfl (OpOk.indexRo (e := yK) (i := 0) (el := e5) rfl rfl Tryz.underlying56 kr j0 h05 he5 rfl fun q7 o7 cs7 _ d0 hr7 => ?_)
    obtain ⟨_, _, rfl, rfl, ⟨_, _, rfl, rfl, ⟨_, _, rfl, rfl, rfl⟩⟩⟩ := hr7
    replace d0 : At g2 q7 o7 (vK e5) := d0
    refine Ok.b 1 [0, 3, 16] [(19, .pointer (some ⟨q7, o7 + 1, none⟩))] ?_
    refine Ok.y (j := 10) (d := 16) (want := true) (b := true) rfl kr kr rfl (OpOk.s (v := sv e5.2.1) (Yields.lr 1 d0 kr Tryz.underlying9 rfl kr) rfl rfl (Ok.b 1 [0, 3, 16] [(20, sv e5.2.1), (21, sv xs)] ?_))
    refine Ok.y (j := 10) (d := 16) (want := true) (b := true) rfl kr kr rfl (OpOk.s (v := .bool (e5.2.1 == xs)) (Yields.sc (f := .eql) (a := e5.2.1) (b := xs) kr kr rfl) rfl rfl (Ok.b 2 [0, 3] [(24, .bool (e5.2.1 == xs))] ?_))
    refine Ok.a 24 ((e5.2.1 == xs)) rfl (fun hc8 => ?_) (fun hc8 => ?_)
    ·replace hF := hF.1 hc8
     refine Ok.b 1 [0] [(24, .bool true), (25, .slice s0 (cutS xs).length b0)] ?_
     refine Ok.y (j := 18) (d := 24) (want := true) (b := true) rfl kr kr rfl (OpOk.indexRo (e := yK) (i := 0) (el := e5) rfl rfl Tryz.underlying56 kr j0 h05 he5 rfl fun q9 o9 cs9 _ e0 hr9 => ?_)
     obtain ⟨_, _, rfl, rfl, ⟨_, _, rfl, rfl, ⟨_, _, rfl, rfl, rfl⟩⟩⟩ := hr9
     replace e0 : At g2 q9 o9 (vK e5) := e0
     refine Ok.b 1 [0, 24] [(27, .pointer (some ⟨q9, o9 + 2, none⟩))] ?_
     refine Ok.y (j := 18) (d := 24) (want := true) (b := true) rfl kr kr rfl (OpOk.s (v := sv e5.2.2.1) (Yields.lr 2 e0 kr Tryz.underlying9 rfl kr) rfl rfl (Ok.b 1 [24] [(28, sv e5.2.2.1), (29, sv xs)] ?_))
     refine Ok.y (j := 18) (d := 24) (want := true) (b := true) rfl kr kr rfl (OpOk.s (v := .bool (e5.2.2.1 == xs)) (Yields.sc (f := .eql) (a := e5.2.2.1) (b := xs) kr kr rfl) rfl rfl (Ok.B 2 [(2, .bool (e5.2.2.1 == xs))] kr (Ok.j (Ok.t ?_))))
     subst hg5
     refine Ok.v 2 rfl (show (.bool (((cutS xs).getD (Int.toNat 0) default).2.2.1 == xs) : Value) = .bool (snmV0 xs) from congrArg (Value.bool) ((Eq.trans ((Eq.trans (mand_t hc8) (mand_t hc6))) (mand_t hc3)))) ?_
     exact fun a W hA hW => ⟨g2, (Gext.r w0 g2), hA.sub kr, hW, hF⟩
    replace hF := hF.2 hc8
    refine Ok.B 8 [(2, .bool false)] kr (Ok.j (Ok.t ?_))
    subst hg5
    refine Ok.v 2 rfl (show (.bool false : Value) = .bool (snmV0 xs) from congrArg (Value.bool) ((Eq.trans ((Eq.trans (mand_f hc8) (mand_t hc6))) (mand_t hc3)))) ?_
    exact fun a W hA hW => ⟨g2, (Gext.r w0 g2), hA.sub kr, hW, hF⟩
   replace hF := hF.2 hc6
   refine Ok.B 16 [(2, .bool false)] kr (Ok.j (Ok.t ?_))
   subst hg5
   refine Ok.v 2 rfl (show (.bool false : Value) = .bool (snmV0 xs) from congrArg (Value.bool) ((Eq.trans (mand_f hc6) (mand_t hc3)))) ?_
   exact fun a W hA hW => ⟨g2, (Gext.r w0 g2), hA.sub kr, hW, hF⟩
  replace hF := hF.2 hc3
  refine Ok.B 23 [(2, .bool false)] kr (Ok.nt ((Ok.v 2 rfl (show (.bool false : Value) = .bool (snmV0 xs) from congrArg (Value.bool) (mand_f hc3)) ?_)))
  exact fun a W hA hW => ⟨g2, (Gext.r w0 g2), hA.sub kr, hW, hF⟩
 clear hF
 rintro a W ⟨gj5, f0, hA, hW, hF⟩
 refine (?_ : Ok _ _ _ _ _ _) a W hA hW
 clear hA hW
 replace hG0 := hG0.mono f0.1
 refine Ok.ret ?_
 exact Ok.resH (vs := [.bool (snmV0 xs)]) (.inl rfl) rfl (.cons (.tmp rfl) .nil) (hx2.trans f0) ⟨(snmV0 xs), rfl, rfl, hF⟩
theorem snmV_eq (xs : Bs) : snmV0 xs = plainS xs := by
 unfold snmV0 plainS
 generalize cutS xs = l
 match l with
 | [] => rfl
 | [t] => simp [Bool.and_assoc]
 | a :: b :: l =>
  have h : ((((a :: b :: l).length : Nat) : Int) == 1) = false := by simp; omega
  rw [h]; rfl
theorem snm_F (s : Bs) (hp : cutP s) : snmF s (fun r => r = plainS s) := by
 have j : snmj5 s (fun r => r = plainS s) := snmV_eq s
 refine ⟨hp, fun h => ⟨by decide, ?_, fun _ => ⟨fun _ => j, fun _ => j⟩, fun _ => j⟩, fun _ => j⟩
 have := eq_of_beq h
 show 0 < _; omega
theorem snm_c {g : Ghost} (xs : Bs) (hG0 : SomeInt g 0)  (hp : cutP xs) : CallsG Tryz.prog 76 #[sv xs] g (.bool (plainS xs)) :=
 (snm_ok xs hG0 _ (snm_F xs hp)).gives (by rintro g' H' v _ ⟨r0, rfl, rfl, hK⟩; subst hK; rfl)
def slwV2 (k0 : Int) (z0 : List Int) : List Int :=
 (if ((decide ((z0.getD (Int.toNat k0) default) ≥ 65)) && (decide ((z0.getD (Int.toNat k0) default) ≤ 90))) = true then (z0.set (Int.toNat k0) (IntKind.wrap .u8 ((z0.getD (Int.toNat k0) default) + 32))) else z0)
def slwj16 (k0 : Int) (z0 : List Int) (C9 : Int → (List Int) → Prop) : Prop :=
 C9 (w6 (k0 + 1)) (slwV2 k0 z0)
def slwl9b (xs : Bs) (K : Bs → Prop) (k0 : Int) (z0 : List Int) (C9 : Int → (List Int) → Prop) : Prop :=
 ((decide (k0 < ((intsOf xs).length : Int))) = true → 0 ≤ k0 ∧ Int.toNat k0 < z0.length ∧ ((((decide ((z0.getD (Int.toNat k0) default) ≥ 65)) && (decide ((z0.getD (Int.toNat k0) default) ≤ 90)))) = true → slwj16 k0 z0 C9) ∧ ((((decide ((z0.getD (Int.toNat k0) default) ≥ 65)) && (decide ((z0.getD (Int.toNat k0) default) ≤ 90)))) = false → slwj16 k0 z0 C9)) ∧ ((decide (k0 < ((intsOf xs).length : Int))) = false → K (bytesOf z0))
def slwl9 (xs : Bs) (K : Bs → Prop) : Nat → Int → (List Int) → Prop
 | 0, _, _ => False
 | k + 1, k0, z0 => slwl9b xs K k0 z0 (slwl9 xs K k)
def slwF (xs : Bs) (K : Bs → Prop) : Prop :=
 ∃ k, slwl9 xs K k 0 (intsOf xs)
theorem slw_ok {g : Ghost} (xs : Bs) (K : Bs → Prop)
  (hF : slwF xs K) : CallsH Tryz.prog 77 #[sv xs] g [] (fun g' H' v => ∃ (r0 : Bs), v = sv r0 ∧ H' = [] ∧ K r0) := by
 refine CallsH.enter 29 [(0, sv xs)] Tryz.func77 rfl kr kr kr fun w0 => ?_
 refine Ok.sr ((Ok.B 1 [(0, sv xs)] kr (Ok.nt ((Ok.sr ((Ok.B 1 [(6, sv xs)] kr (Ok.op rfl (OpOk.bytesB (s := xs) kr Tryz.underlying9 Tryz.underlying23 Tryz.underlying5 rfl fun a1 c1 xs1 hL1 => ?_)))))))))
 refine Ok.B 1 [(3, .slice a1 (intsOf xs).length c1)] kr (Ok.nt ((Ok.q (Ok.sr ((Ok.b 3 [3] [(8, .slice a1 (intsOf xs).length c1), (9, iv ((intsOf xs).length : Int)), (10, iv 0)] ?_))))))
 refine Ok.nt ((Ok.block ?_))
 obtain ⟨k, hF⟩ := hF
 refine Ok.L (fun k a W => ∃ gl9 : Ghost, Gext w0 g gl9 ∧ ∃ (k0 : Int) (v0 : Option Addr) (q0 : Nat) (z0 : List Int) (xsyownb1_0l9 : List Value), RepL gl9 yb xsyownb1_0l9 z0 ∧ StA 29 [(3, .slice v0 z0.length q0), (8, .slice v0 z0.length q0), (9, iv ((intsOf xs).length : Int)), (10, iv k0)] a ∧ StW w0 [.ownb (.slice v0 z0.length q0) 5 z0.length xsyownb1_0l9] gl9 W ∧ slwl9 xs K k k0 z0) k ?_ ?_
 ·
  exact fun a W hA hW => ⟨g, (Gext.r w0 g), 0, a1, c1, (intsOf xs), xs1, hL1, hA.sub kr, hW, hF⟩
 clear hF
 rintro k9 a W ⟨gl9, g0, k0, v0, q0, z0, xsyownb1_0l9, hLyownb1_0l9, hA, hW, hF⟩
 cases k9 with
 | zero => exact (hF : False).elim
 | succ k9 =>
  refine (?_ : Ok _ _ _ _ _ _) a W hA hW
  clear hA hW
  refine Ok.sr ((Ok.b 1 [3, 8, 9, 10] [(11, .bool (decide (k0 < ((intsOf xs).length : Int))))] ?_))
  refine Ok.nt ((Ok.q (Ok.cn hF rfl (fun hc2 => ?_) (fun hc2 => ?_))))
  ·replace hF := hF.1 hc2
   refine Ok.k (Ok.t (Ok.cut (fun a W => ∃ x0 : Ghost, Gext w0 gl9 x0 ∧ ∃ (y0 : Option Addr) (u0 : Nat) (xsyownb1_0j16 : List Value), RepL x0 yb xsyownb1_0j16 (slwV2 k0 z0) ∧ StA 29 [(3, .slice y0 (slwV2 k0 z0).length u0), (8, .slice y0 (slwV2 k0 z0).length u0), (9, iv ((intsOf xs).length : Int)), (10, iv k0)] a ∧ StW w0 [.ownb (.slice y0 (slwV2 k0 z0).length u0) 5 (slwV2 k0 z0).length xsyownb1_0j16] x0 W ∧ slwj16 k0 z0 (slwl9 xs K k9)) ?_ ?_))
   ·
    refine Ok.block (Ok.sr ((Ok.b 1 [3, 8, 9, 10] [(12, iv k0)] ?_)))
    obtain ⟨h04, h14, hF⟩ := hF
    have he4 := get_of (l := z0) (default : Int) h14
    generalize hg4 : (z0.getD (Int.toNat k0) default) = e4 at he4 hF ⊢
    refine Ok.op rfl (OpOk.indexB (q := k0) (el := e4) 0 rfl hLyownb1_0l9 rfl rfl Tryz.underlying23 kr h04 he4 rfl fun hc3 => ?_)
    refine Ok.op rfl (OpOk.s (v := .int .u8 e4) (Yields.loadB 0 0 rfl hc3 rfl Tryz.underlying5 rfl kr) rfl rfl (Ok.b 2 [3, 8, 9, 10] [(4, iv k0), (5, .int .u8 e4)] ?_))
    refine Ok.nt ((Ok.sr ((Ok.b 3 [3, 4, 5, 8, 9, 10] [(17, .bool (decide (e4 ≥ 65)))] ?_))))
    refine Ok.w 3 [(3, .slice v0 z0.length q0), (4, iv k0), (5, .int .u8 e4), (8, .slice v0 z0.length q0), (9, iv ((intsOf xs).length : Int)), (10, iv k0), (20, .bool ((decide (e4 ≥ 65)) && (decide (e4 ≤ 90))))] (fun hR5 => ?_) ?_
    ·refine Ok.a 17 (decide (e4 ≥ 65)) rfl (fun hc6 => ?_) (fun hc6 => ?_)
     ·skip
      refine Ok.b 3 [3, 4, 5, 8, 9, 10] [(20, .bool (decide (e4 ≤ 90)))] ?_
      refine Ok.v 20 rfl (show (.bool (decide (e4 ≤ 90)) : Value) = .bool ((decide (e4 ≥ 65)) && (decide (e4 ≤ 90))) from congrArg Value.bool (mand_t hc6)) (Ok.b 0 [3, 4, 5, 8, 9, 10] [(20, .bool ((decide (e4 ≥ 65)) && (decide (e4 ≤ 90))))] ?_)
      exact hR5
     skip
     refine Ok.b 3 [3, 4, 5, 8, 9, 10] [(20, .bool false)] ?_
     refine Ok.v 20 rfl (show (.bool false : Value) = .bool ((decide (e4 ≥ 65)) && (decide (e4 ≤ 90))) from congrArg Value.bool (mand_f hc6)) (Ok.b 0 [3, 4, 5, 8, 9, 10] [(20, .bool ((decide (e4 ≥ 65)) && (decide (e4 ≤ 90))))] ?_)
     exact hR5
    refine Ok.nt ((Ok.cn hF rfl (fun hc7 => ?_) (fun hc7 => ?_)))
    ·replace hF := hF.1 hc7
     refine Ok.r (Ok.b 4 [3, 8, 9, 10] [(21, .slice v0 z0.length q0), (22, iv k0), (24, .int .u8 (IntKind.wrap .u8 (e4 + 32)))] ?_)
     refine Ok.op rfl (OpOk.indexB (q := k0) (el := e4) 0 rfl hLyownb1_0l9 rfl rfl Tryz.underlying23 kr h04 he4 rfl fun hc8 => ?_)
     refine Ok.op rfl (OpOk.storeB (q := Int.toNat k0) (el' := IntKind.wrap .u8 (e4 + 32)) 0 rfl hLyownb1_0l9 hc8 rfl rfl kr fun xs9 hL9 => ?_)
     rw [show z0.length = (z0.set (Int.toNat k0) (IntKind.wrap .u8 (e4 + 32))).length from (List.length_set ..).symm]
     refine Ok.j (Ok.kn (Ok.t ?_))
     subst hg4
     refine Ok.v 3 rfl (show (.slice v0 (z0.set (Int.toNat k0) (IntKind.wrap .u8 ((z0.getD (Int.toNat k0) default) + 32))).length q0 : Value) = .slice v0 (slwV2 k0 z0).length q0 from congrArg (fun l : List Int => Value.slice v0 l.length q0) ((if_t hc7).symm)) ?_
     refine Ok.v 8 rfl (show (.slice v0 (z0.set (Int.toNat k0) (IntKind.wrap .u8 ((z0.getD (Int.toNat k0) default) + 32))).length q0 : Value) = .slice v0 (slwV2 k0 z0).length q0 from congrArg (fun l : List Int => Value.slice v0 l.length q0) ((if_t hc7).symm)) ?_
     refine Ok.heapEq (H' := [.ownb (.slice v0 (slwV2 k0 z0).length q0) 5 (slwV2 k0 z0).length xs9]) (econs (congrArg (fun l : List Int => Ent.ownb (.slice v0 l.length q0) 5  l.length xs9) ((if_t hc7).symm)) rfl) ?_
     exact fun a W hA hW => ⟨gl9, (Gext.r w0 gl9), v0, q0, xs9, (Eq.mp (congrArg (fun l : List Int => RepL gl9 yb xs9 l) ((if_t hc7).symm)) hL9), hA.sub kr, hW, hF⟩
    replace hF := hF.2 hc7
    refine Ok.k (Ok.kn (Ok.t ?_))
    subst hg4
    refine Ok.v 3 rfl (show (.slice v0 z0.length q0 : Value) = .slice v0 (slwV2 k0 z0).length q0 from congrArg (fun l : List Int => Value.slice v0 l.length q0) ((if_f hc7).symm)) ?_
    refine Ok.v 8 rfl (show (.slice v0 z0.length q0 : Value) = .slice v0 (slwV2 k0 z0).length q0 from congrArg (fun l : List Int => Value.slice v0 l.length q0) ((if_f hc7).symm)) ?_
    refine Ok.heapEq (H' := [.ownb (.slice v0 (slwV2 k0 z0).length q0) 5 (slwV2 k0 z0).length xsyownb1_0l9]) (econs (congrArg (fun l : List Int => Ent.ownb (.slice v0 l.length q0) 5  l.length xsyownb1_0l9) ((if_f hc7).symm)) rfl) ?_
    exact fun a W hA hW => ⟨gl9, (Gext.r w0 gl9), v0, q0, xsyownb1_0l9, (Eq.mp (congrArg (fun l : List Int => RepL gl9 yb xsyownb1_0l9 l) ((if_f hc7).symm)) hLyownb1_0l9), hA.sub kr, hW, hF⟩
   clear hF
   rintro a W ⟨x0, hxj16, y0, u0, xsyownb1_0j16, hLyownb1_0j16, hA, hW, hF⟩
   refine (?_ : Ok _ _ _ _ _ _) a W hA hW
   clear hA hW
   refine Ok.r (Ok.b 2 [3, 8, 9] [(10, iv (w6 (k0 + 1)))] ?_)
   refine Ok.j (Ok.t ?_)
   exact fun a W hA hW => ⟨k9, Nat.lt_succ_self _, x0, (g0.trans hxj16), w6 (k0 + 1), y0, u0, (slwV2 k0 z0), xsyownb1_0j16, hLyownb1_0j16, hA.sub kr, hW, hF⟩
  replace hF := hF.2 hc2
  refine Ok.x (Ok.thenE (Ok.thenE (Ok.blockHit (Ok.t (Ok.sr ((Ok.B 1 [(27, .slice v0 z0.length q0)] kr (Ok.op rfl (OpOk.s (v := sv (bytesOf z0)) (Yields.strOfB 0 kr rfl rfl hLyownb1_0l9 Tryz.underlying23 Tryz.underlying9 Tryz.underlying5) rfl rfl (Ok.B 1 [(2, sv (bytesOf z0))] kr (Ok.nt ((Ok.ret ?_)))))))))))))
  exact Ok.p (vs := [sv (bytesOf z0)]) [] [] dc rfl (.inl rfl) rfl (.cons (.tmp rfl) .nil) g0 ⟨(bytesOf z0), rfl, rfl, hF⟩
theorem slw_step {xs : Bs} {i : Nat} (h : i < xs.length) : slwV2 (i : Int) (intsOf (lowAt xs i)) = intsOf (lowAt xs (i + 1)) := by
 have hl : (lowAt xs i).length = xs.length := by simp [lowAt]; omega
 have hg : (lowAt xs i).getD i 0 = xs.getD i 0 := by
  unfold lowAt
  rw [List.getD_eq_getElem?_getD, List.getElem?_append_right (by simp; omega), List.getD_eq_getElem?_getD, List.getElem?_drop]
  congr 2
  simp; omega
 have hs : (lowAt xs i).set i (lowB (xs.getD i 0)) = lowAt xs (i + 1) := by
  unfold lowAt
  rw [List.set_append_right _ _ (by simp; omega), take_get (0 : UInt8) h, drop_get (l := xs) (0 : UInt8) h, List.map_append, List.append_assoc]
  congr 1
  have e : i - ((xs.take i).map lowB).length = 0 := by simp; omega
  rw [e]; rfl
 have hn : (lowAt xs i).set i (xs.getD i 0) = lowAt xs i := by
  rw [← hg, List.getD_eq_getElem?_getD, List.getElem?_eq_getElem om, Option.getD_some, List.set_getElem_self]
 unfold slwV2
 rw [Int.toNat_natCast, ints_getD _ _ om, hg, ← hs]
 have := low_eq (xs.getD i 0)
 split
 ·rename_i hc
  rw [if_t hc] at this
  rw [this, ints_set]
 rename_i hc
 rw [if_neg hc] at this
 have : lowB (xs.getD i 0) = xs.getD i 0 := UInt8.toNat_inj.1 om
 rw [this, hn]
theorem slw_loop (xs : Bs) (hP : xs.length ≤ 140737488351232) (K : Bs → Prop) (hK : K (lowerS xs)) : ∀ (k i : Nat), xs.length = i + k → slwl9 xs K (k + 1) (i : Int) (intsOf (lowAt xs i)) := by
 intro k
 induction k with
 | zero =>
  intro i h
  refine ⟨fun hc => ?_, fun _ => ?_⟩
  ·have := of_decide_eq_true hc; rw [intsOf_length] at this; omega
  rw [bytesOf_intsOf, lowAt, List.take_of_length_le om, List.drop_of_length_le om, List.append_nil]
  exact hK
 | succ k ih =>
  intro i h
  refine ⟨fun _ => ?_, fun hc => ?_⟩
  ·have hl : (lowAt xs i).length = xs.length := by simp [lowAt]; omega
   have key : slwj16 (i : Int) (intsOf (lowAt xs i)) (slwl9 xs K (k + 1)) := by
    unfold slwj16
    rw [w64 om, slw_step om]
    exact ih (i + 1) om
   exact ⟨by omega, by rw [intsOf_length, hl]; omega, fun _ => key, fun _ => key⟩
  have := of_decide_eq_false hc; rw [intsOf_length] at this; omega
theorem slw_F (s : Bs) (hp : lowerP s) : slwF s (fun r => r = lowerS s) :=
 ⟨s.length + 1, slw_loop s hp (fun r => r = lowerS s) rfl s.length 0 om⟩
theorem slw_c {g : Ghost} (xs : Bs)  (hp : lowerP xs) : CallsG Tryz.prog 77 #[sv xs] g (sv (lowerS xs)) :=
 (slw_ok xs _ (slw_F xs hp)).gives (by rintro g' H' v _ ⟨r0, rfl, rfl, hK⟩; subst hK; rfl)
def hbyS (s : Bs) (c : Int) : Bool := s.any fun x => ((x.toNat : Int) == c)
theorem ib_ops {c : Int} (h : 0 ≤ c ∧ c ≤ 255) : decide (ibS [61, 126, 124, 94, 36, 42] c < 0) = !(hbyS [61, 126, 124, 94, 36, 42] c) := by
 have : ∀ n : Fin 256, decide (ibS [61, 126, 124, 94, 36, 42] (n.val : Int) < 0) = !(hbyS [61, 126, 124, 94, 36, 42] (n.val : Int)) := by decide +kernel
 have h2 := this ⟨c.toNat, by omega⟩
 rw [show ((⟨c.toNat, by omega⟩ : Fin 256).val : Int) = c by show (c.toNat : Int) = c; omega] at h2
 exact h2
theorem ib_joins {c : Int} (h : 0 ≤ c ∧ c ≤ 255) : decide (ibS [32, 62, 43, 126] c < 0) = !(hbyS [32, 62, 43, 126] c) := by
 have : ∀ n : Fin 256, decide (ibS [32, 62, 43, 126] (n.val : Int) < 0) = !(hbyS [32, 62, 43, 126] (n.val : Int)) := by decide +kernel
 have h2 := this ⟨c.toNat, by omega⟩
 rw [show ((⟨c.toNat, by omega⟩ : Fin 256).val : Int) = c by show (c.toNat : Int) = c; omega] at h2
 exact h2
end Go.Proofs.YtcnhdkhkadiohaaGreatDoor.Se
