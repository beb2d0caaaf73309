/- selector: its reader, where what it reads is right. -/
import Derived.Test.YtcnhdkhkadiohaaGreatDoorSeh
import Derived.Test.YtcnhdkhkadiohaaGreatDoorDfr
import Derived.Test.YtcnhdkhkadiohaaGreatDoorSxe
namespace Go.Proofs.YtcnhdkhkadiohaaGreatDoor.Se
open Go Go.Eng Go.RowKit Go.Shelf Go.Proofs Bld Trm Css Tk Rp Qu Me
set_option maxHeartbeats 4000000
set_option maxRecDepth 100000
set_option linter.unusedSimpArgs false
set_option linter.unusedVariables false
def pekF (xr : List KT) (K : KT → (List KT) → Prop) : Prop :=
 ((((xr.length : Int) == 0)) = true → K (0, ([] : Bs), ([] : Bs), 0) xr) ∧ ((((xr.length : Int) == 0)) = false → (0 : Int) ≤ 0 ∧ Int.toNat 0 < xr.length ∧ K (xr.getD (Int.toNat 0) default) xr)
theorem pek_ok {g : Ghost} {bxr : Nat} {axr_0 : Option Addr} {cxr_0 : Nat} (xr : List KT) (hRxr_0 : Rep g (.slice yK) [.slice axr_0 xr.length cxr_0] xr) (K : KT → (List KT) → Prop)
  (hF : pekF xr K) : CallsH Tryz.prog 72 #[pv bxr 0] g [.blk bxr (.cells #[.slice axr_0 xr.length cxr_0] 59)] (fun g' H' v => ∃ (r0 : Int × Bs × Bs × Int), ∃ (fxr : List KT), ∃ (afxr_0 : Option Addr) (cfxr_0 : Nat), v = .agg (aK r0) ∧ Rep g' (.slice yK) [.slice afxr_0 fxr.length cfxr_0] fxr ∧ H' = [.blk bxr (.cells #[.slice afxr_0 fxr.length cfxr_0] 59)] ∧ K r0 fxr) := by
 refine CallsH.enter 16 [(0, pv bxr 0)] Tryz.func72 rfl kr kr kr fun w0 => ?_
 refine Ok.sr ((Ok.op rfl (OpOk.a (z := .agg zK) (cs := zK) kr kr rfl fun bs2 => ?_)))
 refine Ok.nt ((Ok.q (Ok.sr ((Ok.B 3 [(0, pv bxr 0), (2, pv bs2 0), (5, pv bxr 0)] kr (Ok.op rfl (OpOk.s (v := .slice axr_0 xr.length cxr_0) (Yields.l 1 rfl rfl Tryz.underlying56 rfl kr) rfl rfl (Ok.b 2 [0, 2] [(8, .bool ((xr.length : Int) == 0))] ?_))))))))
 refine Ok.nt ((Ok.cn hF rfl (fun hc2 => ?_) (fun hc2 => ?_)))
 ·replace hF := hF.1 hc2
  refine Ok.sr ((Ok.b 1 [2] [(9, .agg zK)] ?_))
  refine Ok.op rfl (OpOk.sto (k := 4) (v := .agg zK) 0 zK rfl rfl rfl ?_)
  refine Ok.nt ((Ok.ret (Ok.tr ?_)))
  exact Ok.p (vs := [.agg zK]) [1] [.blk bxr (.cells #[.slice axr_0 xr.length cxr_0] 59)] dc rfl (.inl rfl) rfl (.cons (.cellAgg 0 4 zK rfl rfl Tryz.underlying78 rfl kr kr kr) .nil) (Gext.r w0 g) ⟨(0, ([] : Bs), ([] : Bs), 0), xr, axr_0, cxr_0, rfl, hRxr_0, rfl, hF⟩
 replace hF := hF.2 hc2
 refine Ok.k (Ok.t (Ok.sr ((Ok.b 3 [2] [(12, pv bxr 0)] ?_))))
 refine Ok.op rfl (OpOk.s (v := .slice axr_0 xr.length cxr_0) (Yields.l 1 rfl rfl Tryz.underlying56 rfl kr) rfl rfl ?_)
 obtain ⟨h04, h14, hF⟩ := hF
 have he4 := get_of (l := xr) (default : Int × Bs × Bs × Int) h14
 generalize hg4 : (xr.getD (Int.toNat 0) default) = e4 at he4 hF ⊢
 refine Ok.op rfl (OpOk.indexRo (e := yK) (i := 0) (el := e4) rfl rfl Tryz.underlying56 kr hRxr_0 h04 he4 rfl fun q3 o3 cs3 _ X0 hr3 => ?_)
 obtain ⟨_, _, rfl, rfl, ⟨_, _, rfl, rfl, ⟨_, _, rfl, rfl, rfl⟩⟩⟩ := hr3
 replace X0 : At g q3 o3 (vK e4) := X0
 refine Ok.op rfl (OpOk.s (v := .agg (aK e4)) (Yields.loadAggRo 0 4 (aK e4) X0 kr Tryz.underlying78 rfl kr kr kr) rfl rfl (Ok.op rfl (OpOk.sto (k := 4) (v := .agg (aK e4)) 0 (aK e4) rfl rfl rfl ?_)))
 refine Ok.nt ((Ok.ret ?_))
 exact Ok.p (vs := [.agg (aK e4)]) [1] [.blk bxr (.cells #[.slice axr_0 xr.length cxr_0] 59)] dc rfl (.inl rfl) rfl (.cons (.cellAgg 0 4 (aK e4) rfl rfl Tryz.underlying78 rfl kr kr kr) .nil) (Gext.r w0 g) ⟨e4, xr, axr_0, cxr_0, rfl, hRxr_0, rfl, hF⟩
abbrev Rd := List Tok
def pekS (r : Rd) : Tok × Rd := (match r with | [] => (0, [], [], 0) | t :: _ => t, r)
theorem pek_F (r : Rd) : pekF r (fun a b => (a, b) = pekS r) := by
 cases r with
 | nil => exact ⟨fun _ => rfl, fun h => (by cases h)⟩
 | cons t r => exact ⟨fun h => absurd (eq_of_beq h) (by rw [List.length_cons]; omega), fun _ => ⟨by decide, by rw [List.length_cons]; show 0 < _; omega, rfl⟩⟩
theorem pek_c {g : Ghost} {bxr : Nat} {axr_0 : Option Addr} {cxr_0 : Nat} (xr : List KT) (hRxr_0 : Rep g (.slice yK) [.slice axr_0 xr.length cxr_0] xr)  : CallsH Tryz.prog 72 #[pv bxr 0] g [.blk bxr (.cells #[.slice axr_0 xr.length cxr_0] 59)] (fun g' H' v => ∃ (afxr_0 : Option Addr) (cfxr_0 : Nat), v = .agg (aK (pekS xr).1) ∧ Rep g' (.slice yK) [.slice afxr_0 ((pekS xr).2).length cfxr_0] (pekS xr).2 ∧ H' = [.blk bxr (.cells #[.slice afxr_0 ((pekS xr).2).length cfxr_0] 59)]) :=
 (pek_ok xr hRxr_0 _ (pek_F xr)).mono (by rintro g' H' v _ ⟨r0, fxr, afxr_0, cfxr_0, rfl, hRfxr_0, rfl, hK⟩; obtain ⟨rfl, rfl⟩ : r0 = (pekS xr).1 ∧ fxr = (pekS xr).2 := ⟨congrArg (fun z => z.1) hK, congrArg (fun z => z.2) hK⟩; exact ⟨afxr_0, cfxr_0, rfl, hRfxr_0, rfl⟩)
def gapj11 (xr : List KT) (K : Bool → (List KT) → Prop) (z0 : Int) (ybxr_0l9 : List KT) (C9 : Int → Bs → Bs → Int → (List KT) → Prop) : Prop :=
 ((((z0 == 8) || (z0 == 9))) = true → (0 : Int) ≤ 1 ∧ (1 : Int) ≤ (ybxr_0l9.length : Int) ∧ (ybxr_0l9.length : Int) ≤ (ybxr_0l9.length : Int) ∧ C9 (pekS (ybxr_0l9.drop (Int.toNat 1))).1.1 (pekS (ybxr_0l9.drop (Int.toNat 1))).1.2.1 (pekS (ybxr_0l9.drop (Int.toNat 1))).1.2.2.1 (pekS (ybxr_0l9.drop (Int.toNat 1))).1.2.2.2 (pekS (ybxr_0l9.drop (Int.toNat 1))).2) ∧ ((((z0 == 8) || (z0 == 9))) = false → K (decide ((ybxr_0l9.length : Int) < (xr.length : Int))) ybxr_0l9)
def gapl9b (xr : List KT) (K : Bool → (List KT) → Prop) (z0 : Int) (v0 : Bs) (q0 : Bs) (k0 : Int) (ybxr_0l9 : List KT) (C9 : Int → Bs → Bs → Int → (List KT) → Prop) : Prop :=
 (((z0 == 8)) = true → gapj11 xr K z0 ybxr_0l9 C9) ∧ (((z0 == 8)) = false → gapj11 xr K z0 ybxr_0l9 C9)
def gapl9 (xr : List KT) (K : Bool → (List KT) → Prop) : Nat → Int → Bs → Bs → Int → (List KT) → Prop
 | 0, _, _, _, _, _ => False
 | k + 1, z0, v0, q0, k0, ybxr_0l9 => gapl9b xr K z0 v0 q0 k0 ybxr_0l9 (gapl9 xr K k)
def gapF (xr : List KT) (K : Bool → (List KT) → Prop) : Prop :=
 ∃ k, gapl9 xr K k (pekS xr).1.1 (pekS xr).1.2.1 (pekS xr).1.2.2.1 (pekS xr).1.2.2.2 (pekS xr).2
theorem gap_ok {g : Ghost} {bxr : Nat} {axr_0 : Option Addr} {cxr_0 : Nat} (xr : List KT) (hRxr_0 : Rep g (.slice yK) [.slice axr_0 xr.length cxr_0] xr) (K : Bool → (List KT) → Prop)
  (hF : gapF xr K) : CallsH Tryz.prog 44 #[pv bxr 0] g [.blk bxr (.cells #[.slice axr_0 xr.length cxr_0] 59)] (fun g' H' v => ∃ (r0 : Bool), ∃ (fxr : List KT), ∃ (afxr_0 : Option Addr) (cfxr_0 : Nat), v = .bool r0 ∧ Rep g' (.slice yK) [.slice afxr_0 fxr.length cfxr_0] fxr ∧ H' = [.blk bxr (.cells #[.slice afxr_0 fxr.length cfxr_0] 59)] ∧ K r0 fxr) := by
 refine CallsH.enter 38 [(0, pv bxr 0)] Tryz.func44 rfl kr kr kr fun w0 => ?_
 refine Ok.sr ((Ok.B 1 [(0, pv bxr 0)] kr (Ok.nt ((Ok.sr ((Ok.b 3 [0] [(7, pv bxr 0)] ?_)))))))
 refine Ok.op rfl (OpOk.s (v := .slice axr_0 xr.length cxr_0) (Yields.l 0 rfl rfl Tryz.underlying56 rfl kr) rfl rfl (Ok.b 2 [0] [(3, iv (xr.length : Int))] ?_))
 refine Ok.nt ((Ok.q (Ok.sr ((Ok.b 1 [0, 3] [(10, pv bxr 0)] ?_)))))
 refine Ok.op rfl (OpOk.callH [_] _ enr rfl (pek_c xr hRxr_0) rfl fun g1 _ _ hx1 hV1 => ?_)
 obtain ⟨Q0, K0, rfl, h0, rfl⟩ := hV1
 refine Ok.op rfl (OpOk.a (z := .agg zK) (cs := zK) kr kr rfl fun bs4 => ?_)
 refine Ok.op rfl (OpOk.sto (k := 4) (v := .agg (aK (pekS xr).1)) 0 (aK (pekS xr).1) rfl rfl rfl ?_)
 refine Ok.nt ((Ok.block ?_))
 obtain ⟨k, hF⟩ := hF
 refine Ok.L (fun k a W => ∃ gl9 : Ghost, Gext w0 g1 gl9 ∧ ∃ (x0 : Nat) (z0 : Int) (v0 : Bs) (q0 : Bs) (k0 : Int) (aybxr_0l9 : Option Addr) (cybxr_0l9 : Nat) (ybxr_0l9 : List KT), Rep gl9 (.slice yK) [.slice aybxr_0l9 ybxr_0l9.length cybxr_0l9] ybxr_0l9 ∧ StA 38 [(0, pv bxr 0), (3, iv (xr.length : Int)), (4, pv x0 0)] a ∧ StW w0 [.blk x0 (.cells #[iv z0, sv v0, sv q0, iv k0] 78), .blk bxr (.cells #[.slice aybxr_0l9 ybxr_0l9.length cybxr_0l9] 59)] gl9 W ∧ gapl9 xr K k z0 v0 q0 k0 ybxr_0l9) k ?_ ?_
 ·
  exact fun a W hA hW => ⟨g1, (Gext.r w0 g1), bs4, (pekS xr).1.1, (pekS xr).1.2.1, (pekS xr).1.2.2.1, (pekS xr).1.2.2.2, Q0, K0, (pekS xr).2, h0, hA.sub kr, hW, hF⟩
 clear hF
 rintro k9 a W ⟨gl9, I0, x0, z0, v0, q0, k0, aybxr_0l9, cybxr_0l9, ybxr_0l9, hRybxr_0l9, hA, hW, hF⟩
 cases k9 with
 | zero => exact (hF : False).elim
 | succ k9 =>
  refine (?_ : Ok _ _ _ _ _ _) a W hA hW
  clear hA hW
  refine Ok.q (Ok.cut (fun a W => ∃ S0 : Ghost, Gext w0 gl9 S0 ∧ StA 38 [(0, pv bxr 0), (3, iv (xr.length : Int)), (4, pv x0 0), (19, .bool ((z0 == 8) || (z0 == 9)))] a ∧ StW w0 [.blk x0 (.cells #[iv z0, sv v0, sv q0, iv k0] 78), .blk bxr (.cells #[.slice aybxr_0l9 ybxr_0l9.length cybxr_0l9] 59)] S0 W ∧ gapj11 xr K z0 ybxr_0l9 (gapl9 xr K k9)) ?_ ?_)
  ·
   refine Ok.r (Ok.b 1 [0, 3, 4] [(12, pv x0 0)] ?_)
   refine Ok.op rfl (OpOk.s (v := iv z0) (Yields.l 0 rfl rfl Tryz.underlying3 rfl kr) rfl rfl (Ok.b 2 [0, 3, 4] [(15, .bool (z0 == 8))] ?_))
   refine Ok.a 15 ((z0 == 8)) rfl (fun hc7 => ?_) (fun hc7 => ?_)
   ·replace hF := hF.1 hc7
    refine Ok.b 4 [0, 3, 4] [(19, .bool true)] ?_
    refine Ok.nt ((Ok.v 19 rfl (show (.bool true : Value) = .bool ((z0 == 8) || (z0 == 9)) from congrArg (Value.bool) (mor_t hc7)) ?_))
    exact fun a W hA hW => ⟨gl9, (Gext.r w0 gl9), hA.sub kr, hW, hF⟩
   replace hF := hF.2 hc7
   refine Ok.b 1 [0, 3, 4] [(15, .bool false), (16, pv x0 0)] ?_
   refine Ok.y (j := 3) (d := 15) (want := false) (b := false) rfl kr kr rfl (OpOk.s (v := iv z0) (Yields.l 0 rfl rfl Tryz.underlying3 rfl kr) rfl rfl (Ok.b 2 [0, 3, 4] [(19, .bool (z0 == 9))] ?_))
   refine Ok.nt ((Ok.v 19 rfl (show (.bool (z0 == 9) : Value) = .bool ((z0 == 8) || (z0 == 9)) from congrArg (Value.bool) (mor_f hc7)) ?_))
   exact fun a W hA hW => ⟨gl9, (Gext.r w0 gl9), hA.sub kr, hW, hF⟩
  clear hF
  rintro a W ⟨S0, p0, hA, hW, hF⟩
  refine (?_ : Ok _ _ _ _ _ _) a W hA hW
  clear hA hW
  replace hRybxr_0l9 := hRybxr_0l9.mono p0.1
  refine Ok.cn hF rfl (fun hc3 => ?_) (fun hc3 => ?_)
  ·replace hF := hF.1 hc3
   refine Ok.k (Ok.t (Ok.q (Ok.block (Ok.r (Ok.b 4 [0, 3, 4] [(22, pv bxr 0), (25, pv bxr 0)] ?_)))))
   refine Ok.op rfl (OpOk.s (v := .slice aybxr_0l9 ybxr_0l9.length cybxr_0l9) (Yields.l 1 rfl rfl Tryz.underlying56 rfl kr) rfl rfl ?_)
   obtain ⟨h04, h14, h24, hF⟩ := hF
   refine Ok.op rfl (OpOk.sliceRo (e := yK) (l := 1) (h := (ybxr_0l9.length : Int)) rfl Tryz.underlying56 kr (.inl ⟨_, _, rfl, rfl⟩) (.inr ⟨rfl, rfl⟩) hRybxr_0l9 h04 h14 h24 rfl (ybxr_0l9.drop (Int.toNat 1)) (by rw [show ((ybxr_0l9.length : Int)).toNat = ybxr_0l9.length from Int.toNat_natCast _, List.take_length]) fun a4 c4 hR4 => ?_)
   refine Ok.b 2 [0, 3, 4] [(27, .slice a4 (ybxr_0l9.drop (Int.toNat 1)).length c4), (29, pv bxr 0)] ?_
   refine Ok.op rfl (OpOk.sto (k := 1) (v := .slice a4 (ybxr_0l9.drop (Int.toNat 1)).length c4) 1 #[.slice a4 (ybxr_0l9.drop (Int.toNat 1)).length c4] rfl rfl rfl ?_)
   refine Ok.j (Ok.kn (Ok.t (Ok.q (Ok.sr ((Ok.op rfl (OpOk.s (v := .agg #[iv z0, sv v0, sv q0, iv k0]) (Yields.loadAgg 0 4 #[iv z0, sv v0, sv q0, iv k0] rfl rfl Tryz.underlying78 rfl kr kr kr) rfl rfl (Ok.nt ((Ok.r (Ok.op rfl (OpOk.a (z := .agg zK) (cs := zK) kr kr rfl fun bs4 => ?_))))))))))))
   refine Ok.op rfl (OpOk.sto (k := 4) (v := .agg #[iv z0, sv v0, sv q0, iv k0]) 0 #[iv z0, sv v0, sv q0, iv k0] rfl rfl rfl ?_)
   refine Ok.nt ((Ok.r (Ok.b 1 [0, 3] [(4, pv bs4 0), (20, pv bxr 0)] ?_)))
   refine Ok.e [2, 0, 1] [.blk bxr (.cells #[.slice a4 (ybxr_0l9.drop (Int.toNat 1)).length c4] 59), .blk bs4 (.cells #[iv z0, sv v0, sv q0, iv k0] 78), .blk x0 (.cells #[iv z0, sv v0, sv q0, iv k0] 78)] dc rfl (Ok.op rfl (OpOk.callH [_] _ enr rfl (pek_c (ybxr_0l9.drop (Int.toNat 1)) hR4) rfl fun g6 _ _ hx6 hV6 => ?_))
   obtain ⟨a6_0, c6_0, rfl, hR6_0, rfl⟩ := hV6
   refine Ok.op rfl (OpOk.sto (k := 4) (v := .agg #[iv (pekS (ybxr_0l9.drop (Int.toNat 1))).1.1, sv ((pekS (ybxr_0l9.drop (Int.toNat 1))).1.2.1), sv ((pekS (ybxr_0l9.drop (Int.toNat 1))).1.2.2.1), iv (pekS (ybxr_0l9.drop (Int.toNat 1))).1.2.2.2]) 1 #[iv (pekS (ybxr_0l9.drop (Int.toNat 1))).1.1, sv ((pekS (ybxr_0l9.drop (Int.toNat 1))).1.2.1), sv ((pekS (ybxr_0l9.drop (Int.toNat 1))).1.2.2.1), iv (pekS (ybxr_0l9.drop (Int.toNat 1))).1.2.2.2] rfl rfl rfl ?_)
   refine Ok.j (Ok.t ?_)
   exact fun a W hA hW => ⟨k9, Nat.lt_succ_self _, g6, ((I0.trans p0).trans hx6), bs4, (pekS (ybxr_0l9.drop (Int.toNat 1))).1.1, (pekS (ybxr_0l9.drop (Int.toNat 1))).1.2.1, (pekS (ybxr_0l9.drop (Int.toNat 1))).1.2.2.1, (pekS (ybxr_0l9.drop (Int.toNat 1))).1.2.2.2, a6_0, c6_0, (pekS (ybxr_0l9.drop (Int.toNat 1))).2, hR6_0, hA.sub kr, hW.pick [1, 0] _ dc rfl, hF⟩
  replace hF := hF.2 hc3
  refine Ok.x (Ok.thenE (Ok.thenE (Ok.blockHit (Ok.t (Ok.sr ((Ok.b 3 [3] [(33, pv bxr 0)] ?_)))))))
  refine Ok.op rfl (OpOk.s (v := .slice aybxr_0l9 ybxr_0l9.length cybxr_0l9) (Yields.l 1 rfl rfl Tryz.underlying56 rfl kr) rfl rfl (Ok.B 4 [(2, .bool (decide ((ybxr_0l9.length : Int) < (xr.length : Int))))] kr (Ok.nt ((Ok.ret ?_)))))
  exact Ok.p (vs := [.bool (decide ((ybxr_0l9.length : Int) < (xr.length : Int)))]) [1] [.blk bxr (.cells #[.slice aybxr_0l9 ybxr_0l9.length cybxr_0l9] 59)] dc rfl (.inl rfl) rfl (.cons (.tmp rfl) .nil) ((hx1.trans I0).trans p0) ⟨(decide ((ybxr_0l9.length : Int) < (xr.length : Int))), ybxr_0l9, aybxr_0l9, cybxr_0l9, rfl, hRybxr_0l9, rfl, hF⟩
def silT (t : Tok) : Bool := t.1 == 8 || t.1 == 9
def gapS (r : Rd) : Bool × Rd := (decide (((r.dropWhile silT).length : Int) < (r.length : Int)), r.dropWhile silT)
theorem pek_cons (t : Tok) (r : Rd) : pekS (t :: r) = (t, t :: r) := rfl
theorem gap_loop (r : Rd) : ∀ (l : List Tok), r.dropWhile silT = l.dropWhile silT → gapl9 r (fun a b => (a, b) = gapS r) (l.length + 1) (pekS l).1.1 (pekS l).1.2.1 (pekS l).1.2.2.1 (pekS l).1.2.2.2 l := by
 intro l
 induction l with
 | nil =>
  intro h
  have key : gapj11 r (fun a b => (a, b) = gapS r) 0 [] (gapl9 r (fun a b => (a, b) = gapS r) 0) := by
   refine ⟨fun h => (by cases h), fun _ => ?_⟩
   unfold gapS; rw [h]; rfl
  exact ⟨fun h => (by cases h), fun _ => key⟩
 | cons x l ih =>
  intro h
  have key : gapj11 r (fun a b => (a, b) = gapS r) x.1 (x :: l) (gapl9 r (fun a b => (a, b) = gapS r) (l.length + 1)) := by
   refine ⟨fun hs => ⟨by omega, by rw [List.length_cons]; omega, by omega, ?_⟩, fun hs => ?_⟩
   ·rw [List.dropWhile_cons_of_pos (p := silT) (show silT x = true from hs)] at h
    exact ih h
   rw [List.dropWhile_cons_of_neg (by show ¬ (x.1 == 8 || x.1 == 9) = true; rw [hs]; simp)] at h
   unfold gapS; rw [h]
  exact ⟨fun _ => key, fun _ => key⟩
theorem gap_F (r : Rd) : gapF r (fun a b => (a, b) = gapS r) := ⟨_, gap_loop r r rfl⟩
theorem gap_c {g : Ghost} {bxr : Nat} {axr_0 : Option Addr} {cxr_0 : Nat} (xr : List KT) (hRxr_0 : Rep g (.slice yK) [.slice axr_0 xr.length cxr_0] xr)  : CallsH Tryz.prog 44 #[pv bxr 0] g [.blk bxr (.cells #[.slice axr_0 xr.length cxr_0] 59)] (fun g' H' v => ∃ (afxr_0 : Option Addr) (cfxr_0 : Nat), v = .bool (gapS xr).1 ∧ Rep g' (.slice yK) [.slice afxr_0 ((gapS xr).2).length cfxr_0] (gapS xr).2 ∧ H' = [.blk bxr (.cells #[.slice afxr_0 ((gapS xr).2).length cfxr_0] 59)]) :=
 (gap_ok xr hRxr_0 _ (gap_F xr)).mono (by rintro g' H' v _ ⟨r0, fxr, afxr_0, cfxr_0, rfl, hRfxr_0, rfl, hK⟩; obtain ⟨rfl, rfl⟩ : r0 = (gapS xr).1 ∧ fxr = (gapS xr).2 := ⟨congrArg (fun z => z.1) hK, congrArg (fun z => z.2) hK⟩; exact ⟨afxr_0, cfxr_0, rfl, hRfxr_0, rfl⟩)
def rawF (xr : List KT) (xs : Bs) (K : Bool → (List KT) → Prop) : Prop :=
 ((!((pekS xr).1.2.1 == xs)) = true → K false (pekS xr).2) ∧ ((!((pekS xr).1.2.1 == xs)) = false → (0 : Int) ≤ 1 ∧ (1 : Int) ≤ (((pekS xr).2).length : Int) ∧ (((pekS xr).2).length : Int) ≤ (((pekS xr).2).length : Int) ∧ K true (((pekS xr).2).drop (Int.toNat 1)))
theorem raw_ok {g : Ghost} {bxr : Nat} {axr_0 : Option Addr} {cxr_0 : Nat} (xr : List KT) (xs : Bs) (hRxr_0 : Rep g (.slice yK) [.slice axr_0 xr.length cxr_0] xr) (K : Bool → (List KT) → Prop)
  (hF : rawF xr xs K) : CallsH Tryz.prog 46 #[pv bxr 0, sv xs] g [.blk bxr (.cells #[.slice axr_0 xr.length cxr_0] 59)] (fun g' H' v => ∃ (r0 : Bool), ∃ (fxr : List KT), ∃ (afxr_0 : Option Addr) (cfxr_0 : Nat), v = .bool r0 ∧ Rep g' (.slice yK) [.slice afxr_0 fxr.length cfxr_0] fxr ∧ H' = [.blk bxr (.cells #[.slice afxr_0 fxr.length cfxr_0] 59)] ∧ K r0 fxr) := by
 refine CallsH.enter 18 [(0, pv bxr 0), (1, sv xs)] Tryz.func46 rfl kr kr kr fun w0 => ?_
 refine Ok.sr ((Ok.B 1 [(0, pv bxr 0), (1, sv xs)] kr (Ok.nt ((Ok.q (Ok.sr ((Ok.b 1 [0, 1] [(5, pv bxr 0)] ?_))))))))
 refine Ok.op rfl (OpOk.callH [_] _ enr rfl (pek_c xr hRxr_0) rfl fun g1 _ _ hx1 hV1 => ?_)
 obtain ⟨Q0, K0, rfl, h0, rfl⟩ := hV1
 refine Ok.b 2 [0] [(7, sv ((pekS xr).1.2.1)), (8, sv xs)] ?_
 refine Ok.op rfl (OpOk.s (v := .bool (!((pekS xr).1.2.1 == xs))) (Yields.sc (f := .neq) (a := (pekS xr).1.2.1) (b := xs) kr kr rfl) rfl rfl (Ok.nt ((Ok.cn hF rfl (fun hc2 => ?_) (fun hc2 => ?_)))))
 ·replace hF := hF.1 hc2
  refine Ok.sr ((Ok.B 1 [(4, .bool false)] kr (Ok.nt ((Ok.ret (Ok.tr ?_))))))
  exact Ok.resH (vs := [.bool false]) (.inl rfl) rfl (.cons (.tmp rfl) .nil) hx1 ⟨false, (pekS xr).2, Q0, K0, rfl, h0, rfl, hF⟩
 replace hF := hF.2 hc2
 refine Ok.k (Ok.t (Ok.sr ((Ok.B 4 [(10, pv bxr 0), (13, pv bxr 0)] kr (Ok.op rfl (OpOk.s (v := .slice Q0 ((pekS xr).2).length K0) (Yields.l 0 rfl rfl Tryz.underlying56 rfl kr) rfl rfl ?_))))))
 obtain ⟨h03, h13, h23, hF⟩ := hF
 refine Ok.op rfl (OpOk.sliceRo (e := yK) (l := 1) (h := (((pekS xr).2).length : Int)) rfl Tryz.underlying56 kr (.inl ⟨_, _, rfl, rfl⟩) (.inr ⟨rfl, rfl⟩) h0 h03 h13 h23 rfl (((pekS xr).2).drop (Int.toNat 1)) (by rw [show ((((pekS xr).2).length : Int)).toNat = ((pekS xr).2).length from Int.toNat_natCast _, List.take_length]) fun a3 c3 hR3 => ?_)
 refine Ok.B 2 [(15, .slice a3 (((pekS xr).2).drop (Int.toNat 1)).length c3), (17, pv bxr 0)] kr (Ok.op rfl (OpOk.sto (k := 1) (v := .slice a3 (((pekS xr).2).drop (Int.toNat 1)).length c3) 0 #[.slice a3 (((pekS xr).2).drop (Int.toNat 1)).length c3] rfl rfl rfl ?_))
 refine Ok.nt ((Ok.sr ((Ok.B 1 [(4, .bool true)] kr (Ok.nt ((Ok.ret ?_)))))))
 exact Ok.resH (vs := [.bool true]) (.inl rfl) rfl (.cons (.tmp rfl) .nil) hx1 ⟨true, (((pekS xr).2).drop (Int.toNat 1)), a3, c3, rfl, hR3, rfl, hF⟩
def rawP (r : Rd) (s : Bs) : Prop := s ≠ []
def rwS (r : Rd) (s : Bs) : Bool × Rd := if (!((pekS r).1.2.1 == s)) = true then (false, r) else (true, r.drop 1)
theorem raw_F (r : Rd) (s : Bs) (hp : rawP r s) : rawF r s (fun a b => (a, b) = rwS r s) := by
 refine ⟨fun h => ?_, fun h => ⟨by omega, ?_, by omega, ?_⟩⟩
 ·unfold rwS; rw [if_t h]; rfl
 ·cases r with
  | nil => exact absurd (by simpa [pekS] using h : [] = s).symm hp
  | cons x l => show (1 : Int) ≤ ((x :: l).length : Int); rw [List.length_cons]; omega
 unfold rwS; rw [if_f h]; rfl
theorem raw_c {g : Ghost} {bxr : Nat} {axr_0 : Option Addr} {cxr_0 : Nat} (xr : List KT) (xs : Bs) (hRxr_0 : Rep g (.slice yK) [.slice axr_0 xr.length cxr_0] xr)  (hp : rawP xr xs) : CallsH Tryz.prog 46 #[pv bxr 0, sv xs] g [.blk bxr (.cells #[.slice axr_0 xr.length cxr_0] 59)] (fun g' H' v => ∃ (afxr_0 : Option Addr) (cfxr_0 : Nat), v = .bool (rwS xr xs).1 ∧ Rep g' (.slice yK) [.slice afxr_0 ((rwS xr xs).2).length cfxr_0] (rwS xr xs).2 ∧ H' = [.blk bxr (.cells #[.slice afxr_0 ((rwS xr xs).2).length cfxr_0] 59)]) :=
 (raw_ok xr xs hRxr_0 _ (raw_F xr xs hp)).mono (by rintro g' H' v _ ⟨r0, fxr, afxr_0, cfxr_0, rfl, hRfxr_0, rfl, hK⟩; obtain ⟨rfl, rfl⟩ : r0 = (rwS xr xs).1 ∧ fxr = (rwS xr xs).2 := ⟨congrArg (fun z => z.1) hK, congrArg (fun z => z.2) hK⟩; exact ⟨afxr_0, cfxr_0, rfl, hRfxr_0, rfl⟩)
def atrV0 (xr : List KT) : List KT :=
 (if (((((pekS (rwS (((pekS xr).2).drop (Int.toNat 1)) ([93] : Bs)).2).1.2.1).getD (Int.toNat 0) 0).toNat : Int) != 61) = true then (rwS (((pekS (rwS (((pekS xr).2).drop (Int.toNat 1)) ([93] : Bs)).2).2).drop (Int.toNat 1)) ([61] : Bs)).2 else (((pekS (rwS (((pekS xr).2).drop (Int.toNat 1)) ([93] : Bs)).2).2).drop (Int.toNat 1)))
def atrV1 (xr : List KT) : Int :=
 ((((pekS (rwS (((pekS xr).2).drop (Int.toNat 1)) ([93] : Bs)).2).1.2.1).getD (Int.toNat 0) 0).toNat : Int)
def atrj29 (xr : List KT) (K : (TS) → (List KT) → Prop) : Prop :=
 rawP (((pekS (atrV0 xr)).2).drop (Int.toNat 1)) ([93] : Bs) ∧ ((!((rwS (((pekS (atrV0 xr)).2).drop (Int.toNat 1)) ([93] : Bs)).1)) = true → False) ∧ ((!((rwS (((pekS (atrV0 xr)).2).drop (Int.toNat 1)) ([93] : Bs)).1)) = false → K (Tst.mk (5, (lowerS (pekS xr).1.2.2.1), (atrV1 xr), (pekS (atrV0 xr)).1.2.2.1, 0, 0) ([])) (rwS (((pekS (atrV0 xr)).2).drop (Int.toNat 1)) ([93] : Bs)).2)
def atrj19 (xr : List KT) (K : (TS) → (List KT) → Prop) : Prop :=
 ((((pekS (atrV0 xr)).1.1 == 0)) = true → False) ∧ ((((pekS (atrV0 xr)).1.1 == 0)) = false → (0 : Int) ≤ 1 ∧ (1 : Int) ≤ (((pekS (atrV0 xr)).2).length : Int) ∧ (((pekS (atrV0 xr)).2).length : Int) ≤ (((pekS (atrV0 xr)).2).length : Int) ∧ ((((pekS (atrV0 xr)).1.1 != 5)) = true → ((((pekS (atrV0 xr)).1.1 == 1)) = true → ([] : Bs).length + ((pekS (atrV0 xr)).1.2.2.1).length ≤ maxLen ∧ ((((pekS (atrV0 xr)).1.2.1 == (([] : Bs) ++ (pekS (atrV0 xr)).1.2.2.1))) = true → cutP (pekS (atrV0 xr)).1.2.2.1 ∧ ((!(plainS (pekS (atrV0 xr)).1.2.2.1)) = true → False) ∧ ((!(plainS (pekS (atrV0 xr)).1.2.2.1)) = false → atrj29 xr K)) ∧ ((((pekS (atrV0 xr)).1.2.1 == (([] : Bs) ++ (pekS (atrV0 xr)).1.2.2.1))) = false → False)) ∧ ((((pekS (atrV0 xr)).1.1 == 1)) = false → False)) ∧ ((((pekS (atrV0 xr)).1.1 != 5)) = false → atrj29 xr K))
def atrF (xr : List KT) (K : (TS) → (List KT) → Prop) : Prop :=
 ((((pekS xr).1.1 == 0)) = true → False) ∧ ((((pekS xr).1.1 == 0)) = false → (0 : Int) ≤ 1 ∧ (1 : Int) ≤ (((pekS xr).2).length : Int) ∧ (((pekS xr).2).length : Int) ≤ (((pekS xr).2).length : Int) ∧ ((((pekS xr).1.1 == 1)) = true → ([] : Bs).length + ((pekS xr).1.2.2.1).length ≤ maxLen ∧ ((((pekS xr).1.2.1 == (([] : Bs) ++ (pekS xr).1.2.2.1))) = true → cutP (pekS xr).1.2.2.1 ∧ ((!(plainS (pekS xr).1.2.2.1)) = true → False) ∧ ((!(plainS (pekS xr).1.2.2.1)) = false → lowerP (pekS xr).1.2.2.1 ∧ rawP (((pekS xr).2).drop (Int.toNat 1)) ([93] : Bs) ∧ ((rwS (((pekS xr).2).drop (Int.toNat 1)) ([93] : Bs)).1 = true → K (Tst.mk (5, (lowerS (pekS xr).1.2.2.1), 0, ([] : Bs), 0, 0) ([])) (rwS (((pekS xr).2).drop (Int.toNat 1)) ([93] : Bs)).2) ∧ ((rwS (((pekS xr).2).drop (Int.toNat 1)) ([93] : Bs)).1 = false → ((((pekS (rwS (((pekS xr).2).drop (Int.toNat 1)) ([93] : Bs)).2).1.1 == 0)) = true → False) ∧ ((((pekS (rwS (((pekS xr).2).drop (Int.toNat 1)) ([93] : Bs)).2).1.1 == 0)) = false → (0 : Int) ≤ 1 ∧ (1 : Int) ≤ (((pekS (rwS (((pekS xr).2).drop (Int.toNat 1)) ([93] : Bs)).2).2).length : Int) ∧ (((pekS (rwS (((pekS xr).2).drop (Int.toNat 1)) ([93] : Bs)).2).2).length : Int) ≤ (((pekS (rwS (((pekS xr).2).drop (Int.toNat 1)) ([93] : Bs)).2).2).length : Int) ∧ ((!((pekS (rwS (((pekS xr).2).drop (Int.toNat 1)) ([93] : Bs)).2).1.1 == 12)) = true → False) ∧ ((!((pekS (rwS (((pekS xr).2).drop (Int.toNat 1)) ([93] : Bs)).2).1.1 == 12)) = false → (0 : Int) ≤ 0 ∧ Int.toNat 0 < ((pekS (rwS (((pekS xr).2).drop (Int.toNat 1)) ([93] : Bs)).2).1.2.1).length ∧ (((((((pekS (rwS (((pekS xr).2).drop (Int.toNat 1)) ([93] : Bs)).2).1.2.1).getD (Int.toNat 0) 0).toNat : Int) != 61)) = true → rawP (((pekS (rwS (((pekS xr).2).drop (Int.toNat 1)) ([93] : Bs)).2).2).drop (Int.toNat 1)) ([61] : Bs) ∧ ((!((rwS (((pekS (rwS (((pekS xr).2).drop (Int.toNat 1)) ([93] : Bs)).2).2).drop (Int.toNat 1)) ([61] : Bs)).1)) = true → False) ∧ ((!((rwS (((pekS (rwS (((pekS xr).2).drop (Int.toNat 1)) ([93] : Bs)).2).2).drop (Int.toNat 1)) ([61] : Bs)).1)) = false → atrj19 xr K)) ∧ (((((((pekS (rwS (((pekS xr).2).drop (Int.toNat 1)) ([93] : Bs)).2).1.2.1).getD (Int.toNat 0) 0).toNat : Int) != 61)) = false → atrj19 xr K)))))) ∧ ((((pekS xr).1.2.1 == (([] : Bs) ++ (pekS xr).1.2.2.1))) = false → False)) ∧ ((((pekS xr).1.1 == 1)) = false → False))
theorem atr_ok {g : Ghost} {bxr : Nat} {axr_0 : Option Addr} {cxr_0 : Nat} (xr : List KT) (hRxr_0 : Rep g (.slice yK) [.slice axr_0 xr.length cxr_0] xr) (hG0 : SomeInt g 0) (K : (TS) → (List KT) → Prop)
  (hF : atrF xr K) : CallsH Tryz.prog 116 #[pv bxr 0] g [.blk bxr (.cells #[.slice axr_0 xr.length cxr_0] 59)] (fun g' H' v => ∃ (r0 : TS), ∃ (fxr : List KT), ∃ (b0 : Option Addr) (c0 : Nat), ∃ (afxr_0 : Option Addr) (cfxr_0 : Nat), v = .agg (aL r0.lab b0 r0.kids.length c0) ∧ Rep g' (.slice yP) [.slice b0 r0.kids.length c0] r0.kids ∧ Rep g' (.slice yK) [.slice afxr_0 fxr.length cfxr_0] fxr ∧ H' = [.blk bxr (.cells #[.slice afxr_0 fxr.length cfxr_0] 59)] ∧ K r0 fxr) := by
 refine CallsH.enter 52 [(0, pv bxr 0)] Tryz.func116 rfl kr kr kr fun w0 => ?_
 refine Ok.sr ((Ok.op rfl (OpOk.a (z := .agg #[iv 0, sv ([] : Bs), .int .u8 0, sv ([] : Bs), iv 0, iv 0, .slice none 0 0]) (cs := #[iv 0, sv ([] : Bs), .int .u8 0, sv ([] : Bs), iv 0, iv 0, .slice none 0 0]) kr kr rfl fun bs2 => ?_)))
 refine Ok.nt ((Ok.sr ((Ok.B 1 [(0, pv bxr 0), (2, pv bs2 0), (7, pv bxr 0)] kr (Ok.op rfl (OpOk.i (args := #[pv bxr 0]) 20 [(0, pv bxr 0)] enr Tryz.func74 rfl rfl rfl rfl (Ok.sr ((Ok.op rfl (OpOk.a (z := .agg zK) (cs := zK) kr kr rfl fun s0 => ?_))))))))))
 refine Ok.nt ((Ok.sr ((Ok.b 1 [0] [(2, pv s0 0), (4, pv bxr 0)] ?_))))
 refine Ok.e [2, 0, 1] [.blk bxr (.cells #[.slice axr_0 xr.length cxr_0] 59), .blk s0 (.cells zK 78), .blk bs2 (.cells #[iv 0, sv ([] : Bs), .int .u8 0, sv ([] : Bs), iv 0, iv 0, .slice none 0 0] 48)] dc rfl (Ok.op rfl (OpOk.callH [_] _ enr rfl (pek_c xr hRxr_0) rfl fun g3 _ _ hx3 hV3 => ?_))
 obtain ⟨a3_0, c3_0, rfl, hR3_0, rfl⟩ := hV3
 replace hG0 := hG0.mono hx3.1
 refine Ok.op rfl (OpOk.a (z := .agg zK) (cs := zK) kr kr rfl fun d0 => ?_)
 refine Ok.op rfl (OpOk.sto (k := 4) (v := .agg (aK (pekS xr).1)) 0 (aK (pekS xr).1) rfl rfl rfl ?_)
 refine Ok.nt ((Ok.q (Ok.sr ((Ok.B 1 [(0, pv bxr 0), (2, pv s0 0), (3, pv d0 0), (6, pv d0 0)] kr (Ok.op rfl (OpOk.s (v := iv (pekS xr).1.1) (Yields.l 0 rfl rfl Tryz.underlying3 rfl kr) rfl rfl (Ok.b 1 [0, 2, 3] [(8, .bool ((pekS xr).1.1 == 0))] ?_))))))))
 refine Ok.nt ((Ok.cn hF rfl (fun hc5 => ?_) (fun hc5 => ?_)))
 ·replace hF := hF.1 hc5
  exact False.elim hF
 replace hF := hF.2 hc5
 refine Ok.k (Ok.t (Ok.sr ((Ok.b 4 [2, 3] [(11, pv bxr 0), (14, pv bxr 0)] ?_))))
 refine Ok.op rfl (OpOk.s (v := .slice a3_0 ((pekS xr).2).length c3_0) (Yields.l 1 rfl rfl Tryz.underlying56 rfl kr) rfl rfl ?_)
 obtain ⟨h06, h16, h26, hF⟩ := hF
 refine Ok.op rfl (OpOk.sliceRo (e := yK) (l := 1) (h := (((pekS xr).2).length : Int)) rfl Tryz.underlying56 kr (.inl ⟨_, _, rfl, rfl⟩) (.inr ⟨rfl, rfl⟩) hR3_0 h06 h16 h26 rfl (((pekS xr).2).drop (Int.toNat 1)) (by rw [show ((((pekS xr).2).length : Int)).toNat = ((pekS xr).2).length from Int.toNat_natCast _, List.take_length]) fun a6 c6 hR6 => ?_)
 refine Ok.b 2 [2, 3] [(16, .slice a6 (((pekS xr).2).drop (Int.toNat 1)).length c6), (18, pv bxr 0)] ?_
 refine Ok.op rfl (OpOk.sto (k := 1) (v := .slice a6 (((pekS xr).2).drop (Int.toNat 1)).length c6) 1 #[.slice a6 (((pekS xr).2).drop (Int.toNat 1)).length c6] rfl rfl rfl ?_)
 refine Ok.nt ((Ok.sr ((Ok.op rfl (OpOk.s (v := .agg (aK (pekS xr).1)) (Yields.loadAgg 0 4 (aK (pekS xr).1) rfl rfl Tryz.underlying78 rfl kr kr kr) rfl rfl (Ok.op rfl (OpOk.sto (k := 4) (v := .agg (aK (pekS xr).1)) 2 (aK (pekS xr).1) rfl rfl rfl ?_)))))))
 refine Ok.nt ((Ok.ret (Ok.back (vs := [.agg (aK (pekS xr).1)]) (.inl rfl) rfl (.cons (.cellAgg 2 4 (aK (pekS xr).1) rfl rfl Tryz.underlying78 rfl kr kr kr) .nil) rfl (Ok.op rfl (OpOk.a (z := .agg zK) (cs := zK) kr kr rfl fun bs3 => ?_)))))
 refine Ok.op rfl (OpOk.sto (k := 4) (v := .agg (aK (pekS xr).1)) 0 (aK (pekS xr).1) rfl rfl rfl ?_)
 refine Ok.nt ((Ok.sr ((Ok.B 1 [(0, pv bxr 0), (2, pv bs2 0), (3, pv bs3 0), (9, pv bxr 0)] kr (Ok.op rfl (OpOk.s (v := .agg (aK (pekS xr).1)) (Yields.loadAgg 0 4 (aK (pekS xr).1) rfl rfl Tryz.underlying78 rfl kr kr kr) rfl rfl (Ok.op rfl (OpOk.i (args := #[pv bxr 0, .agg (aK (pekS xr).1), iv 1, sv ([] : Bs)]) 31 [(0, pv bxr 0), (1, .agg (aK (pekS xr).1)), (2, iv 1), (3, sv ([] : Bs))] enr Tryz.func115 rfl rfl rfl rfl (Ok.sr ((Ok.op rfl (OpOk.box (v := .agg (aK (pekS xr).1)) (cs := (aK (pekS xr).1)) rfl kr rfl fun y0 => ?_))))))))))))
 refine Ok.b 1 [0] [(2, iv 1), (3, sv ([] : Bs)), (5, pv y0 0)] ?_
 refine Ok.nt ((Ok.sr ((Ok.b 2 [2, 3, 5] [(9, pv bxr 0), (10, pv y0 0)] ?_))))
 refine Ok.op rfl (OpOk.s (v := iv (pekS xr).1.1) (Yields.l 0 rfl rfl Tryz.underlying3 rfl kr) rfl rfl (Ok.b 3 [3, 5, 9] [(14, .bool ((pekS xr).1.1 == 1))] ?_))
 refine Ok.a 14 (((pekS xr).1.1 == 1)) rfl (fun hc9 => ?_) (fun hc9 => ?_)
 ·replace hF := hF.1 hc9
  refine Ok.b 1 [3, 5, 9] [(14, .bool true), (15, pv y0 1)] ?_
  refine Ok.y (j := 5) (d := 14) (want := true) (b := true) rfl kr kr rfl (OpOk.s (v := sv ((pekS xr).1.2.1)) (Yields.l 0 rfl rfl Tryz.underlying9 rfl kr) rfl rfl (Ok.b 2 [5, 9, 14] [(16, sv ((pekS xr).1.2.1)), (17, sv ([] : Bs)), (18, pv y0 2)] ?_))
  refine Ok.y (j := 5) (d := 14) (want := true) (b := true) rfl kr kr rfl (OpOk.s (v := sv ((pekS xr).1.2.2.1)) (Yields.l 0 rfl rfl Tryz.underlying9 rfl kr) rfl rfl ?_)
  obtain ⟨hv, hF⟩ := hF
  refine Ok.y (j := 5) (d := 14) (want := true) (b := true) rfl kr kr rfl (OpOk.s (v := sv (([] : Bs) ++ (pekS xr).1.2.2.1)) (Yields.sa rfl rfl hv) rfl rfl (Ok.y (j := 5) (d := 14) (want := true) (b := true) rfl kr kr rfl (OpOk.s (v := .bool ((pekS xr).1.2.1 == (([] : Bs) ++ (pekS xr).1.2.2.1))) (Yields.sc (f := .eql) (a := (pekS xr).1.2.1) (b := (([] : Bs) ++ (pekS xr).1.2.2.1)) kr kr rfl) rfl rfl (Ok.b 2 [5, 9] [(23, .bool ((pekS xr).1.2.1 == (([] : Bs) ++ (pekS xr).1.2.2.1)))] ?_))))
  refine Ok.a 23 (((pekS xr).1.2.1 == (([] : Bs) ++ (pekS xr).1.2.2.1))) rfl (fun B0 => ?_) (fun B0 => ?_)
  ·replace hF := hF.1 B0
   refine Ok.b 1 [5, 9] [(23, .bool true), (24, pv y0 2)] ?_
   refine Ok.y (j := 14) (d := 23) (want := true) (b := true) rfl kr kr rfl (OpOk.s (v := sv ((pekS xr).1.2.2.1)) (Yields.l 0 rfl rfl Tryz.underlying9 rfl kr) rfl rfl ?_)
   obtain ⟨hp11, hF⟩ := hF
   refine Ok.y (j := 14) (d := 23) (want := true) (b := true) rfl kr kr rfl (OpOk.f enr (fun W hW => snm_c (pekS xr).1.2.2.1 (hG0.mono hW.sees) hp11) rfl ?_)
   refine Ok.b 1 [5, 9] [(27, .bool (plainS (pekS xr).1.2.2.1))] ?_
   refine Ok.op rfl (OpOk.i (args := #[pv bxr 0, .bool (plainS (pekS xr).1.2.2.1)]) 8 [(0, pv bxr 0), (1, .bool (plainS (pekS xr).1.2.2.1))] enr Tryz.func47 rfl rfl rfl rfl (Ok.sr ((Ok.B 2 [(5, .bool (!(plainS (pekS xr).1.2.2.1)))] kr (Ok.nt ((Ok.cn hF rfl (fun C0 => ?_) (fun C0 => ?_))))))))
   ·replace hF := hF.1 C0
    exact False.elim hF
   replace hF := hF.2 C0
   refine Ok.k (Ok.back (vs := []) (.inr rfl) rfl .nil rfl (Ok.nt ((Ok.sr ((Ok.B 1 [(29, pv y0 2)] kr (Ok.op rfl (OpOk.s (v := sv ((pekS xr).1.2.2.1)) (Yields.l 0 rfl rfl Tryz.underlying9 rfl kr) rfl rfl (Ok.B 1 [(8, sv ((pekS xr).1.2.2.1))] kr (Ok.nt ((Ok.ret (Ok.back (vs := [sv ((pekS xr).1.2.2.1)]) (.inl rfl) rfl (.cons (.tmp rfl) .nil) rfl ?_)))))))))))))
   obtain ⟨hp13, hF⟩ := hF
   refine Ok.op rfl (OpOk.f enr (fun W hW => slw_c (pekS xr).1.2.2.1 hp13) rfl ?_)
   refine Ok.B 1 [(0, pv bxr 0), (2, pv bs2 0), (13, .agg #[iv 5, sv (lowerS (pekS xr).1.2.2.1), .int .u8 0, sv ([] : Bs), iv 0, iv 0, .slice none 0 0])] kr (Ok.op rfl (OpOk.a (z := .agg #[iv 0, sv ([] : Bs), .int .u8 0, sv ([] : Bs), iv 0, iv 0, .slice none 0 0]) (cs := #[iv 0, sv ([] : Bs), .int .u8 0, sv ([] : Bs), iv 0, iv 0, .slice none 0 0]) kr kr rfl fun bs4 => ?_))
   refine Ok.op rfl (OpOk.sto (k := 7) (v := .agg #[iv 5, sv (lowerS (pekS xr).1.2.2.1), .int .u8 0, sv ([] : Bs), iv 0, iv 0, .slice none 0 0]) 0 #[iv 5, sv (lowerS (pekS xr).1.2.2.1), .int .u8 0, sv ([] : Bs), iv 0, iv 0, .slice none 0 0] rfl rfl rfl ?_)
   refine Ok.nt ((Ok.q (Ok.sr ((Ok.b 1 [0, 2] [(4, pv bs4 0), (14, pv bxr 0)] ?_)))))
   obtain ⟨hp15, hF⟩ := hF
   refine Ok.e [4, 0, 1, 2, 3, 5, 6] [.blk bxr (.cells #[.slice a6 (((pekS xr).2).drop (Int.toNat 1)).length c6] 59), .blk bs4 (.cells #[iv 5, sv (lowerS (pekS xr).1.2.2.1), .int .u8 0, sv ([] : Bs), iv 0, iv 0, .slice none 0 0] 48), .blk y0 (.cells (aK (pekS xr).1) 78), .blk bs3 (.cells (aK (pekS xr).1) 78), .blk d0 (.cells (aK (pekS xr).1) 78), .blk s0 (.cells (aK (pekS xr).1) 78), .blk bs2 (.cells #[iv 0, sv ([] : Bs), .int .u8 0, sv ([] : Bs), iv 0, iv 0, .slice none 0 0] 48)] dc rfl (Ok.op rfl (OpOk.callH [_] _ enr rfl (raw_c (((pekS xr).2).drop (Int.toNat 1)) ([93] : Bs) hR6 hp15) rfl fun g16 _ _ D0 hV16 => ?_))
   obtain ⟨t0, a0, rfl, i0, rfl⟩ := hV16
   replace hG0 := hG0.mono D0.1
   refine Ok.nt ((Ok.cn hF rfl (fun E0 => ?_) (fun E0 => ?_)))
   ·replace hF := hF.1 E0
    refine Ok.sr ((Ok.op rfl (OpOk.s (v := .agg #[iv 5, sv (lowerS (pekS xr).1.2.2.1), .int .u8 0, sv ([] : Bs), iv 0, iv 0, .slice none 0 0]) (Yields.loadAgg 1 7 #[iv 5, sv (lowerS (pekS xr).1.2.2.1), .int .u8 0, sv ([] : Bs), iv 0, iv 0, .slice none 0 0] rfl rfl Tryz.underlying48 rfl kr kr kr) rfl rfl (Ok.op rfl (OpOk.sto (k := 7) (v := .agg #[iv 5, sv (lowerS (pekS xr).1.2.2.1), .int .u8 0, sv ([] : Bs), iv 0, iv 0, .slice none 0 0]) 6 #[iv 5, sv (lowerS (pekS xr).1.2.2.1), .int .u8 0, sv ([] : Bs), iv 0, iv 0, .slice none 0 0] rfl rfl rfl ?_)))))
    refine Ok.nt ((Ok.ret (Ok.tr ?_)))
    exact Ok.p (vs := [.agg #[iv 5, sv (lowerS (pekS xr).1.2.2.1), .int .u8 0, sv ([] : Bs), iv 0, iv 0, .slice none 0 0]]) [0] [.blk bxr (.cells #[.slice t0 ((rwS (((pekS xr).2).drop (Int.toNat 1)) ([93] : Bs)).2).length a0] 59)] dc rfl (.inl rfl) rfl (.cons (.cellAgg 6 7 #[iv 5, sv (lowerS (pekS xr).1.2.2.1), .int .u8 0, sv ([] : Bs), iv 0, iv 0, .slice none 0 0] rfl rfl Tryz.underlying48 rfl kr kr kr) .nil) (hx3.trans D0) ⟨(Tst.mk (5, (lowerS (pekS xr).1.2.2.1), 0, ([] : Bs), 0, 0) ([])), (rwS (((pekS xr).2).drop (Int.toNat 1)) ([93] : Bs)).2, none, 0, t0, a0, rfl, Rep.nil, i0, rfl, hF⟩
   replace hF := hF.2 E0
   refine Ok.k (Ok.t (Ok.sr ((Ok.B 1 [(0, pv bxr 0), (2, pv bs2 0), (4, pv bs4 0), (17, pv bxr 0)] kr (Ok.op rfl (OpOk.i (args := #[pv bxr 0]) 20 [(0, pv bxr 0)] enr Tryz.func74 rfl rfl rfl rfl (Ok.sr ((Ok.op rfl (OpOk.a (z := .agg zK) (cs := zK) kr kr rfl fun u0 => ?_))))))))))
   refine Ok.nt ((Ok.sr ((Ok.b 1 [0] [(2, pv u0 0), (4, pv bxr 0)] ?_))))
   refine Ok.e [1, 0, 2, 3, 4, 5, 6, 7] [.blk bxr (.cells #[.slice t0 ((rwS (((pekS xr).2).drop (Int.toNat 1)) ([93] : Bs)).2).length a0] 59), .blk u0 (.cells zK 78), .blk bs4 (.cells #[iv 5, sv (lowerS (pekS xr).1.2.2.1), .int .u8 0, sv ([] : Bs), iv 0, iv 0, .slice none 0 0] 48), .blk y0 (.cells (aK (pekS xr).1) 78), .blk bs3 (.cells (aK (pekS xr).1) 78), .blk d0 (.cells (aK (pekS xr).1) 78), .blk s0 (.cells (aK (pekS xr).1) 78), .blk bs2 (.cells #[iv 0, sv ([] : Bs), .int .u8 0, sv ([] : Bs), iv 0, iv 0, .slice none 0 0] 48)] dc rfl (Ok.op rfl (OpOk.callH [_] _ enr rfl (pek_c (rwS (((pekS xr).2).drop (Int.toNat 1)) ([93] : Bs)).2 i0) rfl fun g19 _ _ z1 hV19 => ?_))
   obtain ⟨a19_0, c19_0, rfl, hR19_0, rfl⟩ := hV19
   replace hG0 := hG0.mono z1.1
   refine Ok.op rfl (OpOk.a (z := .agg zK) (cs := zK) kr kr rfl fun e0 => ?_)
   refine Ok.op rfl (OpOk.sto (k := 4) (v := .agg #[iv (pekS (rwS (((pekS xr).2).drop (Int.toNat 1)) ([93] : Bs)).2).1.1, sv ((pekS (rwS (((pekS xr).2).drop (Int.toNat 1)) ([93] : Bs)).2).1.2.1), sv ((pekS (rwS (((pekS xr).2).drop (Int.toNat 1)) ([93] : Bs)).2).1.2.2.1), iv (pekS (rwS (((pekS xr).2).drop (Int.toNat 1)) ([93] : Bs)).2).1.2.2.2]) 0 #[iv (pekS (rwS (((pekS xr).2).drop (Int.toNat 1)) ([93] : Bs)).2).1.1, sv ((pekS (rwS (((pekS xr).2).drop (Int.toNat 1)) ([93] : Bs)).2).1.2.1), sv ((pekS (rwS (((pekS xr).2).drop (Int.toNat 1)) ([93] : Bs)).2).1.2.2.1), iv (pekS (rwS (((pekS xr).2).drop (Int.toNat 1)) ([93] : Bs)).2).1.2.2.2] rfl rfl rfl ?_)
   refine Ok.nt ((Ok.q (Ok.sr ((Ok.B 1 [(0, pv bxr 0), (2, pv u0 0), (3, pv e0 0), (6, pv e0 0)] kr (Ok.op rfl (OpOk.s (v := iv (pekS (rwS (((pekS xr).2).drop (Int.toNat 1)) ([93] : Bs)).2).1.1) (Yields.l 0 rfl rfl Tryz.underlying3 rfl kr) rfl rfl (Ok.b 1 [0, 2, 3] [(8, .bool ((pekS (rwS (((pekS xr).2).drop (Int.toNat 1)) ([93] : Bs)).2).1.1 == 0))] ?_))))))))
   refine Ok.nt ((Ok.cn hF rfl (fun F0 => ?_) (fun F0 => ?_)))
   ·replace hF := hF.1 F0
    exact False.elim hF
   replace hF := hF.2 F0
   refine Ok.k (Ok.t (Ok.sr ((Ok.b 4 [2, 3] [(11, pv bxr 0), (14, pv bxr 0)] ?_))))
   refine Ok.op rfl (OpOk.s (v := .slice a19_0 ((pekS (rwS (((pekS xr).2).drop (Int.toNat 1)) ([93] : Bs)).2).2).length c19_0) (Yields.l 1 rfl rfl Tryz.underlying56 rfl kr) rfl rfl ?_)
   obtain ⟨h022, h122, h222, hF⟩ := hF
   refine Ok.op rfl (OpOk.sliceRo (e := yK) (l := 1) (h := (((pekS (rwS (((pekS xr).2).drop (Int.toNat 1)) ([93] : Bs)).2).2).length : Int)) rfl Tryz.underlying56 kr (.inl ⟨_, _, rfl, rfl⟩) (.inr ⟨rfl, rfl⟩) hR19_0 h022 h122 h222 rfl (((pekS (rwS (((pekS xr).2).drop (Int.toNat 1)) ([93] : Bs)).2).2).drop (Int.toNat 1)) (by rw [show ((((pekS (rwS (((pekS xr).2).drop (Int.toNat 1)) ([93] : Bs)).2).2).length : Int)).toNat = ((pekS (rwS (((pekS xr).2).drop (Int.toNat 1)) ([93] : Bs)).2).2).length from Int.toNat_natCast _, List.take_length]) fun a22 c22 v1 => ?_)
   refine Ok.b 2 [2, 3] [(16, .slice a22 (((pekS (rwS (((pekS xr).2).drop (Int.toNat 1)) ([93] : Bs)).2).2).drop (Int.toNat 1)).length c22), (18, pv bxr 0)] ?_
   refine Ok.op rfl (OpOk.sto (k := 1) (v := .slice a22 (((pekS (rwS (((pekS xr).2).drop (Int.toNat 1)) ([93] : Bs)).2).2).drop (Int.toNat 1)).length c22) 1 #[.slice a22 (((pekS (rwS (((pekS xr).2).drop (Int.toNat 1)) ([93] : Bs)).2).2).drop (Int.toNat 1)).length c22] rfl rfl rfl ?_)
   refine Ok.nt ((Ok.sr ((Ok.op rfl (OpOk.s (v := .agg #[iv (pekS (rwS (((pekS xr).2).drop (Int.toNat 1)) ([93] : Bs)).2).1.1, sv ((pekS (rwS (((pekS xr).2).drop (Int.toNat 1)) ([93] : Bs)).2).1.2.1), sv ((pekS (rwS (((pekS xr).2).drop (Int.toNat 1)) ([93] : Bs)).2).1.2.2.1), iv (pekS (rwS (((pekS xr).2).drop (Int.toNat 1)) ([93] : Bs)).2).1.2.2.2]) (Yields.loadAgg 0 4 #[iv (pekS (rwS (((pekS xr).2).drop (Int.toNat 1)) ([93] : Bs)).2).1.1, sv ((pekS (rwS (((pekS xr).2).drop (Int.toNat 1)) ([93] : Bs)).2).1.2.1), sv ((pekS (rwS (((pekS xr).2).drop (Int.toNat 1)) ([93] : Bs)).2).1.2.2.1), iv (pekS (rwS (((pekS xr).2).drop (Int.toNat 1)) ([93] : Bs)).2).1.2.2.2] rfl rfl Tryz.underlying78 rfl kr kr kr) rfl rfl (Ok.op rfl (OpOk.sto (k := 4) (v := .agg #[iv (pekS (rwS (((pekS xr).2).drop (Int.toNat 1)) ([93] : Bs)).2).1.1, sv ((pekS (rwS (((pekS xr).2).drop (Int.toNat 1)) ([93] : Bs)).2).1.2.1), sv ((pekS (rwS (((pekS xr).2).drop (Int.toNat 1)) ([93] : Bs)).2).1.2.2.1), iv (pekS (rwS (((pekS xr).2).drop (Int.toNat 1)) ([93] : Bs)).2).1.2.2.2]) 2 #[iv (pekS (rwS (((pekS xr).2).drop (Int.toNat 1)) ([93] : Bs)).2).1.1, sv ((pekS (rwS (((pekS xr).2).drop (Int.toNat 1)) ([93] : Bs)).2).1.2.1), sv ((pekS (rwS (((pekS xr).2).drop (Int.toNat 1)) ([93] : Bs)).2).1.2.2.1), iv (pekS (rwS (((pekS xr).2).drop (Int.toNat 1)) ([93] : Bs)).2).1.2.2.2] rfl rfl rfl ?_)))))))
   refine Ok.nt ((Ok.ret (Ok.back (vs := [.agg #[iv (pekS (rwS (((pekS xr).2).drop (Int.toNat 1)) ([93] : Bs)).2).1.1, sv ((pekS (rwS (((pekS xr).2).drop (Int.toNat 1)) ([93] : Bs)).2).1.2.1), sv ((pekS (rwS (((pekS xr).2).drop (Int.toNat 1)) ([93] : Bs)).2).1.2.2.1), iv (pekS (rwS (((pekS xr).2).drop (Int.toNat 1)) ([93] : Bs)).2).1.2.2.2]]) (.inl rfl) rfl (.cons (.cellAgg 2 4 #[iv (pekS (rwS (((pekS xr).2).drop (Int.toNat 1)) ([93] : Bs)).2).1.1, sv ((pekS (rwS (((pekS xr).2).drop (Int.toNat 1)) ([93] : Bs)).2).1.2.1), sv ((pekS (rwS (((pekS xr).2).drop (Int.toNat 1)) ([93] : Bs)).2).1.2.2.1), iv (pekS (rwS (((pekS xr).2).drop (Int.toNat 1)) ([93] : Bs)).2).1.2.2.2] rfl rfl Tryz.underlying78 rfl kr kr kr) .nil) rfl (Ok.op rfl (OpOk.a (z := .agg zK) (cs := zK) kr kr rfl fun bs5 => ?_)))))
   refine Ok.op rfl (OpOk.sto (k := 4) (v := .agg #[iv (pekS (rwS (((pekS xr).2).drop (Int.toNat 1)) ([93] : Bs)).2).1.1, sv ((pekS (rwS (((pekS xr).2).drop (Int.toNat 1)) ([93] : Bs)).2).1.2.1), sv ((pekS (rwS (((pekS xr).2).drop (Int.toNat 1)) ([93] : Bs)).2).1.2.2.1), iv (pekS (rwS (((pekS xr).2).drop (Int.toNat 1)) ([93] : Bs)).2).1.2.2.2]) 0 #[iv (pekS (rwS (((pekS xr).2).drop (Int.toNat 1)) ([93] : Bs)).2).1.1, sv ((pekS (rwS (((pekS xr).2).drop (Int.toNat 1)) ([93] : Bs)).2).1.2.1), sv ((pekS (rwS (((pekS xr).2).drop (Int.toNat 1)) ([93] : Bs)).2).1.2.2.1), iv (pekS (rwS (((pekS xr).2).drop (Int.toNat 1)) ([93] : Bs)).2).1.2.2.2] rfl rfl rfl ?_)
   refine Ok.nt ((Ok.sr ((Ok.B 2 [(0, pv bxr 0), (2, pv bs2 0), (4, pv bs4 0), (5, pv bs5 0), (19, pv bxr 0), (20, pv bs5 0)] kr (Ok.op rfl (OpOk.s (v := iv (pekS (rwS (((pekS xr).2).drop (Int.toNat 1)) ([93] : Bs)).2).1.1) (Yields.l 0 rfl rfl Tryz.underlying3 rfl kr) rfl rfl (Ok.b 1 [0, 2, 4, 5, 19] [(22, .bool ((pekS (rwS (((pekS xr).2).drop (Int.toNat 1)) ([93] : Bs)).2).1.1 == 12))] ?_)))))))
   refine Ok.op rfl (OpOk.i (args := #[pv bxr 0, .bool ((pekS (rwS (((pekS xr).2).drop (Int.toNat 1)) ([93] : Bs)).2).1.1 == 12)]) 8 [(0, pv bxr 0), (1, .bool ((pekS (rwS (((pekS xr).2).drop (Int.toNat 1)) ([93] : Bs)).2).1.1 == 12))] enr Tryz.func47 rfl rfl rfl rfl (Ok.sr ((Ok.B 2 [(5, .bool (!((pekS (rwS (((pekS xr).2).drop (Int.toNat 1)) ([93] : Bs)).2).1.1 == 12)))] kr (Ok.nt ((Ok.cn hF rfl (fun G0 => ?_) (fun G0 => ?_))))))))
   ·replace hF := hF.1 G0
    exact False.elim hF
   replace hF := hF.2 G0
   refine Ok.k (Ok.back (vs := []) (.inr rfl) rfl .nil rfl (Ok.nt ((Ok.cut (fun a W => ∃ Y0 : Ghost, Gext w0 g19 Y0 ∧ ∃ (aybxr_0j19 : Option Addr) (cybxr_0j19 : Nat), Rep Y0 (.slice yK) [.slice aybxr_0j19 (atrV0 xr).length cybxr_0j19] (atrV0 xr) ∧ StA 52 [(0, pv bxr 0), (2, pv bs2 0), (4, pv bs4 0)] a ∧ StW w0 [.blk bxr (.cells #[.slice aybxr_0j19 (atrV0 xr).length cybxr_0j19] 59), .blk bs4 (.cells #[iv 5, sv (lowerS (pekS xr).1.2.2.1), .int .u8 (atrV1 xr), sv ([] : Bs), iv 0, iv 0, .slice none 0 0] 48), .blk bs2 (.cells #[iv 0, sv ([] : Bs), .int .u8 0, sv ([] : Bs), iv 0, iv 0, .slice none 0 0] 48)] Y0 W ∧ atrj19 xr K) ?_ ?_))))
   ·
    refine Ok.sr ((Ok.B 1 [(0, pv bxr 0), (2, pv bs2 0), (4, pv bs4 0), (24, pv bs5 1)] kr (Ok.op rfl (OpOk.s (v := sv ((pekS (rwS (((pekS xr).2).drop (Int.toNat 1)) ([93] : Bs)).2).1.2.1)) (Yields.l 0 rfl rfl Tryz.underlying9 rfl kr) rfl rfl ?_))))
    obtain ⟨h040, h140, hF⟩ := hF
    have q1 := get_of (l := (pekS (rwS (((pekS xr).2).drop (Int.toNat 1)) ([93] : Bs)).2).1.2.1) (0 : UInt8) h140
    generalize k1 : (((pekS (rwS (((pekS xr).2).drop (Int.toNat 1)) ([93] : Bs)).2).1.2.1).getD (Int.toNat 0) 0) = e40 at q1 hF ⊢
    refine Ok.op rfl (OpOk.s (v := .int .u8 (e40.toNat : Int)) (Yields.ix (k := .i64) (i := 0) (s := (pekS (rwS (((pekS xr).2).drop (Int.toNat 1)) ([93] : Bs)).2).1.2.1) (b := e40) kr kr Tryz.underlying9 h040 q1) rfl rfl (Ok.b 1 [0, 2, 4] [(26, .int .u8 (e40.toNat : Int)), (27, pv bs4 2)] ?_))
    refine Ok.op rfl (OpOk.sto (k := 1) (v := .int .u8 (e40.toNat : Int)) 4 #[iv 5, sv (lowerS (pekS xr).1.2.2.1), .int .u8 (e40.toNat : Int), sv ([] : Bs), iv 0, iv 0, .slice none 0 0] rfl rfl rfl ?_)
    refine Ok.nt ((Ok.sr ((Ok.b 1 [0, 2, 4] [(28, pv bs4 2)] ?_))))
    refine Ok.op rfl (OpOk.s (v := .int .u8 (e40.toNat : Int)) (Yields.l 4 rfl rfl Tryz.underlying5 rfl kr) rfl rfl (Ok.b 1 [0, 2, 4] [(30, .bool ((e40.toNat : Int) != 61))] ?_))
    refine Ok.nt ((Ok.cn hF rfl (fun f0 => ?_) (fun f0 => ?_)))
    ·replace hF := hF.1 f0
     refine Ok.r (Ok.b 2 [0, 2, 4] [(31, pv bxr 0), (32, pv bxr 0)] ?_)
     obtain ⟨hp42, hF⟩ := hF
     refine Ok.e [2, 0, 1, 3, 4, 5, 6, 7, 8, 9] [.blk bxr (.cells #[.slice a22 (((pekS (rwS (((pekS xr).2).drop (Int.toNat 1)) ([93] : Bs)).2).2).drop (Int.toNat 1)).length c22] 59), .blk bs5 (.cells #[iv (pekS (rwS (((pekS xr).2).drop (Int.toNat 1)) ([93] : Bs)).2).1.1, sv ((pekS (rwS (((pekS xr).2).drop (Int.toNat 1)) ([93] : Bs)).2).1.2.1), sv ((pekS (rwS (((pekS xr).2).drop (Int.toNat 1)) ([93] : Bs)).2).1.2.2.1), iv (pekS (rwS (((pekS xr).2).drop (Int.toNat 1)) ([93] : Bs)).2).1.2.2.2] 78), .blk e0 (.cells #[iv (pekS (rwS (((pekS xr).2).drop (Int.toNat 1)) ([93] : Bs)).2).1.1, sv ((pekS (rwS (((pekS xr).2).drop (Int.toNat 1)) ([93] : Bs)).2).1.2.1), sv ((pekS (rwS (((pekS xr).2).drop (Int.toNat 1)) ([93] : Bs)).2).1.2.2.1), iv (pekS (rwS (((pekS xr).2).drop (Int.toNat 1)) ([93] : Bs)).2).1.2.2.2] 78), .blk u0 (.cells #[iv (pekS (rwS (((pekS xr).2).drop (Int.toNat 1)) ([93] : Bs)).2).1.1, sv ((pekS (rwS (((pekS xr).2).drop (Int.toNat 1)) ([93] : Bs)).2).1.2.1), sv ((pekS (rwS (((pekS xr).2).drop (Int.toNat 1)) ([93] : Bs)).2).1.2.2.1), iv (pekS (rwS (((pekS xr).2).drop (Int.toNat 1)) ([93] : Bs)).2).1.2.2.2] 78), .blk bs4 (.cells #[iv 5, sv (lowerS (pekS xr).1.2.2.1), .int .u8 (e40.toNat : Int), sv ([] : Bs), iv 0, iv 0, .slice none 0 0] 48), .blk y0 (.cells (aK (pekS xr).1) 78), .blk bs3 (.cells (aK (pekS xr).1) 78), .blk d0 (.cells (aK (pekS xr).1) 78), .blk s0 (.cells (aK (pekS xr).1) 78), .blk bs2 (.cells #[iv 0, sv ([] : Bs), .int .u8 0, sv ([] : Bs), iv 0, iv 0, .slice none 0 0] 48)] dc rfl (Ok.op rfl (OpOk.callH [_] _ enr rfl (raw_c (((pekS (rwS (((pekS xr).2).drop (Int.toNat 1)) ([93] : Bs)).2).2).drop (Int.toNat 1)) ([61] : Bs) v1 hp42) rfl fun g43 _ _ y1 hV43 => ?_))
     obtain ⟨m0, o0, rfl, hR43_0, rfl⟩ := hV43
     replace hG0 := hG0.mono y1.1
     refine Ok.op rfl (OpOk.i (args := #[pv bxr 0, .bool (rwS (((pekS (rwS (((pekS xr).2).drop (Int.toNat 1)) ([93] : Bs)).2).2).drop (Int.toNat 1)) ([61] : Bs)).1]) 8 [(0, pv bxr 0), (1, .bool (rwS (((pekS (rwS (((pekS xr).2).drop (Int.toNat 1)) ([93] : Bs)).2).2).drop (Int.toNat 1)) ([61] : Bs)).1)] enr Tryz.func47 rfl rfl rfl rfl (Ok.sr ((Ok.B 2 [(5, .bool (!((rwS (((pekS (rwS (((pekS xr).2).drop (Int.toNat 1)) ([93] : Bs)).2).2).drop (Int.toNat 1)) ([61] : Bs)).1)))] kr (Ok.nt ((Ok.cn hF rfl (fun H0 => ?_) (fun H0 => ?_))))))))
     ·replace hF := hF.1 H0
      exact False.elim hF
     replace hF := hF.2 H0
     refine Ok.k (Ok.back (vs := []) (.inr rfl) rfl .nil rfl (Ok.j (Ok.t ?_)))
     subst k1
     refine Ok.heapEq (H' := [.blk bxr (.cells #[.slice m0 (atrV0 xr).length o0] 59), .blk bs5 (.cells #[iv (pekS (rwS (((pekS xr).2).drop (Int.toNat 1)) ([93] : Bs)).2).1.1, sv ((pekS (rwS (((pekS xr).2).drop (Int.toNat 1)) ([93] : Bs)).2).1.2.1), sv ((pekS (rwS (((pekS xr).2).drop (Int.toNat 1)) ([93] : Bs)).2).1.2.2.1), iv (pekS (rwS (((pekS xr).2).drop (Int.toNat 1)) ([93] : Bs)).2).1.2.2.2] 78), .blk e0 (.cells #[iv (pekS (rwS (((pekS xr).2).drop (Int.toNat 1)) ([93] : Bs)).2).1.1, sv ((pekS (rwS (((pekS xr).2).drop (Int.toNat 1)) ([93] : Bs)).2).1.2.1), sv ((pekS (rwS (((pekS xr).2).drop (Int.toNat 1)) ([93] : Bs)).2).1.2.2.1), iv (pekS (rwS (((pekS xr).2).drop (Int.toNat 1)) ([93] : Bs)).2).1.2.2.2] 78), .blk u0 (.cells #[iv (pekS (rwS (((pekS xr).2).drop (Int.toNat 1)) ([93] : Bs)).2).1.1, sv ((pekS (rwS (((pekS xr).2).drop (Int.toNat 1)) ([93] : Bs)).2).1.2.1), sv ((pekS (rwS (((pekS xr).2).drop (Int.toNat 1)) ([93] : Bs)).2).1.2.2.1), iv (pekS (rwS (((pekS xr).2).drop (Int.toNat 1)) ([93] : Bs)).2).1.2.2.2] 78), .blk bs4 (.cells #[iv 5, sv (lowerS (pekS xr).1.2.2.1), .int .u8 ((((pekS (rwS (((pekS xr).2).drop (Int.toNat 1)) ([93] : Bs)).2).1.2.1).getD (Int.toNat 0) 0).toNat : Int), sv ([] : Bs), iv 0, iv 0, .slice none 0 0] 48), .blk y0 (.cells (aK (pekS xr).1) 78), .blk bs3 (.cells (aK (pekS xr).1) 78), .blk d0 (.cells (aK (pekS xr).1) 78), .blk s0 (.cells (aK (pekS xr).1) 78), .blk bs2 (.cells #[iv 0, sv ([] : Bs), .int .u8 0, sv ([] : Bs), iv 0, iv 0, .slice none 0 0] 48)]) (econs (congrArg (fun l : List Value => Ent.blk bxr (.cells ⟨l⟩ 59)) (lcons (congrArg (fun l : List KT => Value.slice m0 l.length o0) ((if_t f0).symm)) rfl)) (econs (rfl) (econs (rfl) (econs (rfl) (econs (rfl) (econs (rfl) (econs (rfl) (econs (rfl) (econs (rfl) (econs (rfl) rfl)))))))))) ?_
     exact fun a W hA hW => ⟨g43, y1, m0, o0, (Eq.mp (congrArg (fun l : List KT => Rep g43 (.slice yK) [.slice m0 l.length o0] l) ((if_t f0).symm)) hR43_0), hA.sub kr, hW.sub (.cons_cons _ (.cons _ (.cons _ (.cons _ (.cons_cons _ (.cons _ (.cons _ (.cons _ (.cons _ (.cons_cons _ .slnil)))))))))), hF⟩
    replace hF := hF.2 f0
    refine Ok.k (Ok.t ?_)
    subst k1
    refine Ok.heapEq (H' := [.blk bs5 (.cells #[iv (pekS (rwS (((pekS xr).2).drop (Int.toNat 1)) ([93] : Bs)).2).1.1, sv ((pekS (rwS (((pekS xr).2).drop (Int.toNat 1)) ([93] : Bs)).2).1.2.1), sv ((pekS (rwS (((pekS xr).2).drop (Int.toNat 1)) ([93] : Bs)).2).1.2.2.1), iv (pekS (rwS (((pekS xr).2).drop (Int.toNat 1)) ([93] : Bs)).2).1.2.2.2] 78), .blk e0 (.cells #[iv (pekS (rwS (((pekS xr).2).drop (Int.toNat 1)) ([93] : Bs)).2).1.1, sv ((pekS (rwS (((pekS xr).2).drop (Int.toNat 1)) ([93] : Bs)).2).1.2.1), sv ((pekS (rwS (((pekS xr).2).drop (Int.toNat 1)) ([93] : Bs)).2).1.2.2.1), iv (pekS (rwS (((pekS xr).2).drop (Int.toNat 1)) ([93] : Bs)).2).1.2.2.2] 78), .blk bxr (.cells #[.slice a22 (atrV0 xr).length c22] 59), .blk u0 (.cells #[iv (pekS (rwS (((pekS xr).2).drop (Int.toNat 1)) ([93] : Bs)).2).1.1, sv ((pekS (rwS (((pekS xr).2).drop (Int.toNat 1)) ([93] : Bs)).2).1.2.1), sv ((pekS (rwS (((pekS xr).2).drop (Int.toNat 1)) ([93] : Bs)).2).1.2.2.1), iv (pekS (rwS (((pekS xr).2).drop (Int.toNat 1)) ([93] : Bs)).2).1.2.2.2] 78), .blk bs4 (.cells #[iv 5, sv (lowerS (pekS xr).1.2.2.1), .int .u8 ((((pekS (rwS (((pekS xr).2).drop (Int.toNat 1)) ([93] : Bs)).2).1.2.1).getD (Int.toNat 0) 0).toNat : Int), sv ([] : Bs), iv 0, iv 0, .slice none 0 0] 48), .blk y0 (.cells (aK (pekS xr).1) 78), .blk bs3 (.cells (aK (pekS xr).1) 78), .blk d0 (.cells (aK (pekS xr).1) 78), .blk s0 (.cells (aK (pekS xr).1) 78), .blk bs2 (.cells #[iv 0, sv ([] : Bs), .int .u8 0, sv ([] : Bs), iv 0, iv 0, .slice none 0 0] 48)]) (econs (rfl) (econs (rfl) (econs (congrArg (fun l : List Value => Ent.blk bxr (.cells ⟨l⟩ 59)) (lcons (congrArg (fun l : List KT => Value.slice a22 l.length c22) ((if_f f0).symm)) rfl)) (econs (rfl) (econs (rfl) (econs (rfl) (econs (rfl) (econs (rfl) (econs (rfl) (econs (rfl) rfl)))))))))) ?_
    exact fun a W hA hW => ⟨g19, (Gext.r w0 g19), a22, c22, (Eq.mp (congrArg (fun l : List KT => Rep g19 (.slice yK) [.slice a22 l.length c22] l) ((if_f f0).symm)) v1), hA.sub kr, hW.sub (.cons _ (.cons _ (.cons_cons _ (.cons _ (.cons_cons _ (.cons _ (.cons _ (.cons _ (.cons _ (.cons_cons _ .slnil)))))))))), hF⟩
   clear hF
   rintro a W ⟨Y0, U0, aybxr_0j19, cybxr_0j19, hRybxr_0j19, hA, hW, hF⟩
   refine (?_ : Ok _ _ _ _ _ _) a W hA hW
   clear hA hW
   replace hG0 := hG0.mono U0.1
   refine Ok.sr ((Ok.b 1 [0, 2, 4] [(35, pv bxr 0)] ?_))
   refine Ok.op rfl (OpOk.i (args := #[pv bxr 0]) 20 [(0, pv bxr 0)] enr Tryz.func74 rfl rfl rfl rfl (Ok.sr ((Ok.op rfl (OpOk.a (z := .agg zK) (cs := zK) kr kr rfl fun g0 => ?_)))))
   refine Ok.nt ((Ok.sr ((Ok.b 1 [0] [(2, pv g0 0), (4, pv bxr 0)] ?_))))
   refine Ok.e [1, 0, 2, 3] [.blk bxr (.cells #[.slice aybxr_0j19 (atrV0 xr).length cybxr_0j19] 59), .blk g0 (.cells zK 78), .blk bs4 (.cells #[iv 5, sv (lowerS (pekS xr).1.2.2.1), .int .u8 (atrV1 xr), sv ([] : Bs), iv 0, iv 0, .slice none 0 0] 48), .blk bs2 (.cells #[iv 0, sv ([] : Bs), .int .u8 0, sv ([] : Bs), iv 0, iv 0, .slice none 0 0] 48)] dc rfl (Ok.op rfl (OpOk.callH [_] _ enr rfl (pek_c (atrV0 xr) hRybxr_0j19) rfl fun g26 _ _ u1 hV26 => ?_))
   obtain ⟨a26_0, c26_0, rfl, hR26_0, rfl⟩ := hV26
   replace hG0 := hG0.mono u1.1
   refine Ok.op rfl (OpOk.a (z := .agg zK) (cs := zK) kr kr rfl fun Z0 => ?_)
   refine Ok.op rfl (OpOk.sto (k := 4) (v := .agg (aK (pekS (atrV0 xr)).1)) 0 (aK (pekS (atrV0 xr)).1) rfl rfl rfl ?_)
   refine Ok.nt ((Ok.q (Ok.sr ((Ok.B 1 [(0, pv bxr 0), (2, pv g0 0), (3, pv Z0 0), (6, pv Z0 0)] kr (Ok.op rfl (OpOk.s (v := iv (pekS (atrV0 xr)).1.1) (Yields.l 0 rfl rfl Tryz.underlying3 rfl kr) rfl rfl (Ok.b 1 [0, 2, 3] [(8, .bool ((pekS (atrV0 xr)).1.1 == 0))] ?_))))))))
   refine Ok.nt ((Ok.cn hF rfl (fun M0 => ?_) (fun M0 => ?_)))
   ·replace hF := hF.1 M0
    exact False.elim hF
   replace hF := hF.2 M0
   refine Ok.k (Ok.t (Ok.sr ((Ok.b 4 [2, 3] [(11, pv bxr 0), (14, pv bxr 0)] ?_))))
   refine Ok.op rfl (OpOk.s (v := .slice a26_0 ((pekS (atrV0 xr)).2).length c26_0) (Yields.l 1 rfl rfl Tryz.underlying56 rfl kr) rfl rfl ?_)
   obtain ⟨h029, h129, h229, hF⟩ := hF
   refine Ok.op rfl (OpOk.sliceRo (e := yK) (l := 1) (h := (((pekS (atrV0 xr)).2).length : Int)) rfl Tryz.underlying56 kr (.inl ⟨_, _, rfl, rfl⟩) (.inr ⟨rfl, rfl⟩) hR26_0 h029 h129 h229 rfl (((pekS (atrV0 xr)).2).drop (Int.toNat 1)) (by rw [show ((((pekS (atrV0 xr)).2).length : Int)).toNat = ((pekS (atrV0 xr)).2).length from Int.toNat_natCast _, List.take_length]) fun a29 c29 N0 => ?_)
   refine Ok.b 2 [2, 3] [(16, .slice a29 (((pekS (atrV0 xr)).2).drop (Int.toNat 1)).length c29), (18, pv bxr 0)] ?_
   refine Ok.op rfl (OpOk.sto (k := 1) (v := .slice a29 (((pekS (atrV0 xr)).2).drop (Int.toNat 1)).length c29) 1 #[.slice a29 (((pekS (atrV0 xr)).2).drop (Int.toNat 1)).length c29] rfl rfl rfl ?_)
   refine Ok.nt ((Ok.sr ((Ok.op rfl (OpOk.s (v := .agg (aK (pekS (atrV0 xr)).1)) (Yields.loadAgg 0 4 (aK (pekS (atrV0 xr)).1) rfl rfl Tryz.underlying78 rfl kr kr kr) rfl rfl (Ok.op rfl (OpOk.sto (k := 4) (v := .agg (aK (pekS (atrV0 xr)).1)) 2 (aK (pekS (atrV0 xr)).1) rfl rfl rfl ?_)))))))
   refine Ok.nt ((Ok.ret (Ok.back (vs := [.agg (aK (pekS (atrV0 xr)).1)]) (.inl rfl) rfl (.cons (.cellAgg 2 4 (aK (pekS (atrV0 xr)).1) rfl rfl Tryz.underlying78 rfl kr kr kr) .nil) rfl (Ok.op rfl (OpOk.a (z := .agg zK) (cs := zK) kr kr rfl fun bs6 => ?_)))))
   refine Ok.op rfl (OpOk.sto (k := 4) (v := .agg (aK (pekS (atrV0 xr)).1)) 0 (aK (pekS (atrV0 xr)).1) rfl rfl rfl ?_)
   refine Ok.nt ((Ok.cut (fun a W => ∃ O0 : Ghost, Gext w0 g26 O0 ∧ StA 52 [(0, pv bxr 0), (2, pv bs2 0), (4, pv bs4 0)] a ∧ StW w0 [.blk bxr (.cells #[.slice a29 (((pekS (atrV0 xr)).2).drop (Int.toNat 1)).length c29] 59), .blk bs4 (.cells #[iv 5, sv (lowerS (pekS xr).1.2.2.1), .int .u8 (atrV1 xr), sv ((pekS (atrV0 xr)).1.2.2.1), iv 0, iv 0, .slice none 0 0] 48), .blk bs2 (.cells #[iv 0, sv ([] : Bs), .int .u8 0, sv ([] : Bs), iv 0, iv 0, .slice none 0 0] 48)] O0 W ∧ atrj29 xr K) ?_ ?_))
   ·
    refine Ok.sr ((Ok.B 1 [(0, pv bxr 0), (2, pv bs2 0), (4, pv bs4 0), (6, pv bs6 0), (37, pv bs6 2)] kr (Ok.op rfl (OpOk.s (v := sv ((pekS (atrV0 xr)).1.2.2.1)) (Yields.l 0 rfl rfl Tryz.underlying9 rfl kr) rfl rfl (Ok.b 1 [0, 2, 4, 6] [(38, sv ((pekS (atrV0 xr)).1.2.2.1)), (39, pv bs4 3)] ?_)))))
    refine Ok.op rfl (OpOk.sto (k := 1) (v := sv ((pekS (atrV0 xr)).1.2.2.1)) 4 #[iv 5, sv (lowerS (pekS xr).1.2.2.1), .int .u8 (atrV1 xr), sv ((pekS (atrV0 xr)).1.2.2.1), iv 0, iv 0, .slice none 0 0] rfl rfl rfl ?_)
    refine Ok.nt ((Ok.sr ((Ok.b 1 [0, 2, 4, 6] [(40, pv bs6 0)] ?_))))
    refine Ok.op rfl (OpOk.s (v := iv (pekS (atrV0 xr)).1.1) (Yields.l 0 rfl rfl Tryz.underlying3 rfl kr) rfl rfl (Ok.b 1 [0, 2, 4, 6] [(42, .bool ((pekS (atrV0 xr)).1.1 != 5))] ?_))
    refine Ok.nt ((Ok.cn hF rfl (fun P0 => ?_) (fun P0 => ?_)))
    ·replace hF := hF.1 P0
     refine Ok.r (Ok.b 1 [0, 2, 4, 6] [(43, pv bxr 0)] ?_)
     refine Ok.op rfl (OpOk.s (v := .agg (aK (pekS (atrV0 xr)).1)) (Yields.loadAgg 0 4 (aK (pekS (atrV0 xr)).1) rfl rfl Tryz.underlying78 rfl kr kr kr) rfl rfl (Ok.op rfl (OpOk.i (args := #[pv bxr 0, .agg (aK (pekS (atrV0 xr)).1), iv 1, sv ([] : Bs)]) 31 [(0, pv bxr 0), (1, .agg (aK (pekS (atrV0 xr)).1)), (2, iv 1), (3, sv ([] : Bs))] enr Tryz.func115 rfl rfl rfl rfl (Ok.sr ((Ok.op rfl (OpOk.box (v := .agg (aK (pekS (atrV0 xr)).1)) (cs := (aK (pekS (atrV0 xr)).1)) rfl kr rfl fun j0 => ?_)))))))
     refine Ok.b 1 [0] [(2, iv 1), (3, sv ([] : Bs)), (5, pv j0 0)] ?_
     refine Ok.nt ((Ok.sr ((Ok.b 2 [2, 3, 5] [(9, pv bxr 0), (10, pv j0 0)] ?_))))
     refine Ok.op rfl (OpOk.s (v := iv (pekS (atrV0 xr)).1.1) (Yields.l 0 rfl rfl Tryz.underlying3 rfl kr) rfl rfl (Ok.b 3 [3, 5, 9] [(14, .bool ((pekS (atrV0 xr)).1.1 == 1))] ?_))
     refine Ok.a 14 (((pekS (atrV0 xr)).1.1 == 1)) rfl (fun R0 => ?_) (fun R0 => ?_)
     ·replace hF := hF.1 R0
      refine Ok.b 1 [3, 5, 9] [(14, .bool true), (15, pv j0 1)] ?_
      refine Ok.y (j := 5) (d := 14) (want := true) (b := true) rfl kr kr rfl (OpOk.s (v := sv ((pekS (atrV0 xr)).1.2.1)) (Yields.l 0 rfl rfl Tryz.underlying9 rfl kr) rfl rfl (Ok.b 2 [5, 9, 14] [(16, sv ((pekS (atrV0 xr)).1.2.1)), (17, sv ([] : Bs)), (18, pv j0 2)] ?_))
      refine Ok.y (j := 5) (d := 14) (want := true) (b := true) rfl kr kr rfl (OpOk.s (v := sv ((pekS (atrV0 xr)).1.2.2.1)) (Yields.l 0 rfl rfl Tryz.underlying9 rfl kr) rfl rfl ?_)
      obtain ⟨hv, hF⟩ := hF
      refine Ok.y (j := 5) (d := 14) (want := true) (b := true) rfl kr kr rfl (OpOk.s (v := sv (([] : Bs) ++ (pekS (atrV0 xr)).1.2.2.1)) (Yields.sa rfl rfl hv) rfl rfl (Ok.y (j := 5) (d := 14) (want := true) (b := true) rfl kr kr rfl (OpOk.s (v := .bool ((pekS (atrV0 xr)).1.2.1 == (([] : Bs) ++ (pekS (atrV0 xr)).1.2.2.1))) (Yields.sc (f := .eql) (a := (pekS (atrV0 xr)).1.2.1) (b := (([] : Bs) ++ (pekS (atrV0 xr)).1.2.2.1)) kr kr rfl) rfl rfl (Ok.b 2 [5, 9] [(23, .bool ((pekS (atrV0 xr)).1.2.1 == (([] : Bs) ++ (pekS (atrV0 xr)).1.2.2.1)))] ?_))))
      refine Ok.a 23 (((pekS (atrV0 xr)).1.2.1 == (([] : Bs) ++ (pekS (atrV0 xr)).1.2.2.1))) rfl (fun T0 => ?_) (fun T0 => ?_)
      ·replace hF := hF.1 T0
       refine Ok.b 1 [5, 9] [(23, .bool true), (24, pv j0 2)] ?_
       refine Ok.y (j := 14) (d := 23) (want := true) (b := true) rfl kr kr rfl (OpOk.s (v := sv ((pekS (atrV0 xr)).1.2.2.1)) (Yields.l 0 rfl rfl Tryz.underlying9 rfl kr) rfl rfl ?_)
       obtain ⟨hp38, hF⟩ := hF
       refine Ok.y (j := 14) (d := 23) (want := true) (b := true) rfl kr kr rfl (OpOk.f enr (fun W hW => snm_c (pekS (atrV0 xr)).1.2.2.1 (hG0.mono hW.sees) hp38) rfl ?_)
       refine Ok.b 1 [5, 9] [(27, .bool (plainS (pekS (atrV0 xr)).1.2.2.1))] ?_
       refine Ok.op rfl (OpOk.i (args := #[pv bxr 0, .bool (plainS (pekS (atrV0 xr)).1.2.2.1)]) 8 [(0, pv bxr 0), (1, .bool (plainS (pekS (atrV0 xr)).1.2.2.1))] enr Tryz.func47 rfl rfl rfl rfl (Ok.sr ((Ok.B 2 [(5, .bool (!(plainS (pekS (atrV0 xr)).1.2.2.1)))] kr (Ok.nt ((Ok.cn hF rfl (fun L0 => ?_) (fun L0 => ?_))))))))
       ·replace hF := hF.1 L0
        exact False.elim hF
       replace hF := hF.2 L0
       refine Ok.k (Ok.back (vs := []) (.inr rfl) rfl .nil rfl (Ok.nt ((Ok.sr ((Ok.B 1 [(29, pv j0 2)] kr (Ok.op rfl (OpOk.s (v := sv ((pekS (atrV0 xr)).1.2.2.1)) (Yields.l 0 rfl rfl Tryz.underlying9 rfl kr) rfl rfl (Ok.B 1 [(8, sv ((pekS (atrV0 xr)).1.2.2.1))] kr (Ok.nt ((Ok.ret (Ok.back (vs := [sv ((pekS (atrV0 xr)).1.2.2.1)]) (.inl rfl) rfl (.cons (.tmp rfl) .nil) rfl (Ok.B 1 [(0, pv bxr 0), (2, pv bs2 0), (4, pv bs4 0), (45, sv ((pekS (atrV0 xr)).1.2.2.1)), (46, pv bs4 3)] kr (Ok.op rfl (OpOk.sto (k := 1) (v := sv ((pekS (atrV0 xr)).1.2.2.1)) 5 #[iv 5, sv (lowerS (pekS xr).1.2.2.1), .int .u8 (atrV1 xr), sv ((pekS (atrV0 xr)).1.2.2.1), iv 0, iv 0, .slice none 0 0] rfl rfl rfl ?_))))))))))))))))
       refine Ok.j (Ok.t ?_)
       exact fun a W hA hW => ⟨g26, (Gext.r w0 g26), hA.sub kr, hW.sub (.cons _ (.cons _ (.cons _ (.cons_cons _ (.cons _ (.cons_cons _ (.cons_cons _ .slnil))))))), hF⟩
      replace hF := hF.2 T0
      refine Ok.b 4 [5, 9] [(27, .bool false)] ?_
      refine Ok.op rfl (OpOk.i (args := #[pv bxr 0, .bool false]) 8 [(0, pv bxr 0), (1, .bool false)] enr Tryz.func47 rfl rfl rfl rfl (Ok.sr ((Ok.B 2 [(5, .bool true)] kr (Ok.nt ((Ok.c (b := true) rfl (fun _ => ?_) (fun h => by cases h))))))))
      exact False.elim hF
     replace hF := hF.2 R0
     refine Ok.b 13 [5, 9] [(27, .bool false)] ?_
     refine Ok.op rfl (OpOk.i (args := #[pv bxr 0, .bool false]) 8 [(0, pv bxr 0), (1, .bool false)] enr Tryz.func47 rfl rfl rfl rfl (Ok.sr ((Ok.B 2 [(5, .bool true)] kr (Ok.nt ((Ok.c (b := true) rfl (fun _ => ?_) (fun h => by cases h))))))))
     exact False.elim hF
    replace hF := hF.2 P0
    refine Ok.k (Ok.t ?_)
    exact fun a W hA hW => ⟨g26, (Gext.r w0 g26), hA.sub kr, hW.sub (.cons _ (.cons _ (.cons_cons _ (.cons _ (.cons_cons _ (.cons_cons _ .slnil)))))), hF⟩
   clear hF
   rintro a W ⟨O0, V0, hA, hW, hF⟩
   refine (?_ : Ok _ _ _ _ _ _) a W hA hW
   clear hA hW
   replace N0 := N0.mono V0.1
   replace hG0 := hG0.mono V0.1
   refine Ok.sr ((Ok.b 2 [2, 4] [(47, pv bxr 0), (48, pv bxr 0)] ?_))
   obtain ⟨hp31, hF⟩ := hF
   refine Ok.op rfl (OpOk.callH [_] _ enr rfl (raw_c (((pekS (atrV0 xr)).2).drop (Int.toNat 1)) ([93] : Bs) N0 hp31) rfl fun g32 _ _ j1 hV32 => ?_)
   obtain ⟨J0, W0, rfl, hR32_0, rfl⟩ := hV32
   replace hG0 := hG0.mono j1.1
   refine Ok.op rfl (OpOk.i (args := #[pv bxr 0, .bool (rwS (((pekS (atrV0 xr)).2).drop (Int.toNat 1)) ([93] : Bs)).1]) 8 [(0, pv bxr 0), (1, .bool (rwS (((pekS (atrV0 xr)).2).drop (Int.toNat 1)) ([93] : Bs)).1)] enr Tryz.func47 rfl rfl rfl rfl (Ok.sr ((Ok.B 2 [(5, .bool (!((rwS (((pekS (atrV0 xr)).2).drop (Int.toNat 1)) ([93] : Bs)).1)))] kr (Ok.nt ((Ok.cn hF rfl (fun A0 => ?_) (fun A0 => ?_))))))))
   ·replace hF := hF.1 A0
    exact False.elim hF
   replace hF := hF.2 A0
   refine Ok.k (Ok.back (vs := []) (.inr rfl) rfl .nil rfl (Ok.nt ((Ok.sr ((Ok.op rfl (OpOk.s (v := .agg #[iv 5, sv (lowerS (pekS xr).1.2.2.1), .int .u8 (atrV1 xr), sv ((pekS (atrV0 xr)).1.2.2.1), iv 0, iv 0, .slice none 0 0]) (Yields.loadAgg 1 7 #[iv 5, sv (lowerS (pekS xr).1.2.2.1), .int .u8 (atrV1 xr), sv ((pekS (atrV0 xr)).1.2.2.1), iv 0, iv 0, .slice none 0 0] rfl rfl Tryz.underlying48 rfl kr kr kr) rfl rfl (Ok.op rfl (OpOk.sto (k := 7) (v := .agg #[iv 5, sv (lowerS (pekS xr).1.2.2.1), .int .u8 (atrV1 xr), sv ((pekS (atrV0 xr)).1.2.2.1), iv 0, iv 0, .slice none 0 0]) 2 #[iv 5, sv (lowerS (pekS xr).1.2.2.1), .int .u8 (atrV1 xr), sv ((pekS (atrV0 xr)).1.2.2.1), iv 0, iv 0, .slice none 0 0] rfl rfl rfl ?_)))))))))
   refine Ok.nt ((Ok.ret ?_))
   exact Ok.p (vs := [.agg #[iv 5, sv (lowerS (pekS xr).1.2.2.1), .int .u8 (atrV1 xr), sv ((pekS (atrV0 xr)).1.2.2.1), iv 0, iv 0, .slice none 0 0]]) [0] [.blk bxr (.cells #[.slice J0 ((rwS (((pekS (atrV0 xr)).2).drop (Int.toNat 1)) ([93] : Bs)).2).length W0] 59)] dc rfl (.inl rfl) rfl (.cons (.cellAgg 2 7 #[iv 5, sv (lowerS (pekS xr).1.2.2.1), .int .u8 (atrV1 xr), sv ((pekS (atrV0 xr)).1.2.2.1), iv 0, iv 0, .slice none 0 0] rfl rfl Tryz.underlying48 rfl kr kr kr) .nil) ((((((hx3.trans D0).trans z1).trans U0).trans u1).trans V0).trans j1) ⟨(Tst.mk (5, (lowerS (pekS xr).1.2.2.1), (atrV1 xr), (pekS (atrV0 xr)).1.2.2.1, 0, 0) ([])), (rwS (((pekS (atrV0 xr)).2).drop (Int.toNat 1)) ([93] : Bs)).2, none, 0, J0, W0, rfl, Rep.nil, hR32_0, rfl, hF⟩
  replace hF := hF.2 B0
  refine Ok.b 4 [5, 9] [(27, .bool false)] ?_
  refine Ok.op rfl (OpOk.i (args := #[pv bxr 0, .bool false]) 8 [(0, pv bxr 0), (1, .bool false)] enr Tryz.func47 rfl rfl rfl rfl (Ok.sr ((Ok.B 2 [(5, .bool true)] kr (Ok.nt ((Ok.c (b := true) rfl (fun _ => ?_) (fun h => by cases h))))))))
  exact False.elim hF
 replace hF := hF.2 hc9
 refine Ok.b 13 [5, 9] [(27, .bool false)] ?_
 refine Ok.op rfl (OpOk.i (args := #[pv bxr 0, .bool false]) 8 [(0, pv bxr 0), (1, .bool false)] enr Tryz.func47 rfl rfl rfl rfl (Ok.sr ((Ok.B 2 [(5, .bool true)] kr (Ok.nt ((Ok.c (b := true) rfl (fun _ => ?_) (fun h => by cases h))))))))
 exact False.elim hF
def nameOk (n : Bs) : Prop := plainS n = true ∧ n.length ≤ 1000
theorem nameOk.cut {n : Bs} (h : nameOk n) : cutP n := by have := h.2; show n.length < 4294967281; omega
theorem nameOk.lo {n : Bs} (h : nameOk n) : lowerP n := by have := h.2; show n.length ≤ 140737488351232; omega
theorem nameOk.ml {n : Bs} (h : nameOk n) : n.length ≤ maxLen := by have := h.2; show n.length ≤ 9223372036854775807; omega
def atrR : Rd → Ts × Rd
 | (_, n, _, _) :: (11, _, _, _) :: rest => (.mk (5, n, 0, [], 0, 0) [], rest)
 | (_, n, _, _) :: (_, [c], _, _) :: (5, _, v, _) :: _ :: rest => (.mk (5, n, (c.toNat : Int), v, 0, 0) [], rest)
 | (_, n, _, _) :: (_, [c], _, _) :: _ :: (_, _, v, _) :: _ :: rest => (.mk (5, n, (c.toNat : Int), v, 0, 0) [], rest)
 | r => (.mk (0, [], 0, [], 0, 0) [], r)
def opOk (z : Int) : Prop := z = 61 ∨ z = 126 ∨ z = 124 ∨ z = 94 ∨ z = 36 ∨ z = 42
def atrP (r : Rd) : Prop := ∃ n rest, nameOk n ∧ lowerS n = n ∧ (r = wd n :: (11, [93], [], 0) :: rest ∨ ∃ z v, opOk z ∧ r = wd n :: (opT z ++ (5, dqS v, v, 0) :: (11, [93], [], 0) :: rest))
theorem atr_F (r : Rd) (hp : atrP r) : atrF r (fun a b => (a, b) = atrR r) := by
 obtain ⟨n, rest, hn, hlo, h⟩ := hp
 have h1 := hn.1
 have hc := hn.cut
 have hl := hn.lo
 have hm := hn.ml
 have n0 : ¬ (n = []) := fun e => by rw [e] at h1; exact absurd h1 dc
 rcases h with rfl | ⟨z, v, hz, rfl⟩
 ·simp [atrF, pekS, rwS, rawP, h1, hlo, hc, hl, hm, atrR]
  omega
 rcases hz with rfl | rfl | rfl | rfl | rfl | rfl
 all_goals simp [atrF, atrj19, atrj29, atrV0, atrV1, opT, byteB, pekS, rwS, rawP, h1, hlo, hc, hl, hm, atrR]
 all_goals omega
theorem atr_c {g : Ghost} {bxr : Nat} {axr_0 : Option Addr} {cxr_0 : Nat} (xr : List KT) (hRxr_0 : Rep g (.slice yK) [.slice axr_0 xr.length cxr_0] xr) (hG0 : SomeInt g 0)  (hp : atrP xr) : CallsH Tryz.prog 116 #[pv bxr 0] g [.blk bxr (.cells #[.slice axr_0 xr.length cxr_0] 59)] (fun g' H' v => ∃ (b0 : Option Addr) (c0 : Nat), ∃ (afxr_0 : Option Addr) (cfxr_0 : Nat), v = .agg #[iv ((atrR xr).1).lab.1, sv (((atrR xr).1).lab.2.1), .int .u8 ((atrR xr).1).lab.2.2.1, sv (((atrR xr).1).lab.2.2.2.1), iv ((atrR xr).1).lab.2.2.2.2.1, iv ((atrR xr).1).lab.2.2.2.2.2, .slice b0 ((atrR xr).1).kids.length c0] ∧ Rep g' (.slice yP) [.slice b0 ((atrR xr).1).kids.length c0] ((atrR xr).1).kids ∧ Rep g' (.slice yK) [.slice afxr_0 ((atrR xr).2).length cfxr_0] (atrR xr).2 ∧ H' = [.blk bxr (.cells #[.slice afxr_0 ((atrR xr).2).length cfxr_0] 59)]) :=
 (atr_ok xr hRxr_0 hG0 _ (atr_F xr hp)).mono (by rintro g' H' v _ ⟨r0, fxr, b0, c0, afxr_0, cfxr_0, rfl, hRr0_0, hRfxr_0, rfl, hK⟩; obtain ⟨rfl, rfl⟩ : r0 = (atrR xr).1 ∧ fxr = (atrR xr).2 := ⟨congrArg (fun z => z.1) hK, congrArg (fun z => z.2) hK⟩; exact ⟨b0, c0, afxr_0, cfxr_0, rfl, hRr0_0, hRfxr_0, rfl⟩)
end Go.Proofs.YtcnhdkhkadiohaaGreatDoor.Se
