/- selector: its reader, where what it reads is right. -/
import Derived.Test.YtcnhdkhkadiohaaGreatDoorSeh
import Derived.Test.YtcnhdkhkadiohaaGreatDoorDfr
namespace Go.Proofs.YtcnhdkhkadiohaaGreatDoor.Se
open Go Go.Eng Go.RowKit Go.Shelf Go.Proofs Bld Trm Css Tk
set_option maxHeartbeats 4000000
set_option maxRecDepth 100000
set_option linter.unusedSimpArgs false
set_option linter.unusedVariables false
def pekF (xr : List KT) (K : KT → (List KT) → Prop) : Prop :=
 ((((xr.length : Int) == 0)) = true → K (0, ([] : Bs), ([] : Bs), 0) xr) ∧ ((((xr.length : Int) == 0)) = false → (0 : Int) ≤ 0 ∧ Int.toNat 0 < xr.length ∧ K (xr.getD (Int.toNat 0) default) xr)
theorem pek_ok {g : Ghost} {bxr : Nat} {axr_0 : Option Addr} {cxr_0 : Nat} (xr : List KT) (hRxr_0 : Rep g (.slice yK) [.slice axr_0 xr.length cxr_0] xr) (K : KT → (List KT) → Prop)
  (hF : pekF xr K) : CallsH Tryz.prog 72 #[pv bxr 0] g [.blk bxr (.cells #[.slice axr_0 xr.length cxr_0] 59)] (fun g' H' v => ∃ (r0 : Int × Bs × Bs × Int), ∃ (fxr : List KT), ∃ (afxr_0 : Option Addr) (cfxr_0 : Nat), v = .agg (aK r0) ∧ Rep g' (.slice yK) [.slice afxr_0 fxr.length cfxr_0] fxr ∧ H' = [.blk bxr (.cells #[.slice afxr_0 fxr.length cfxr_0] 59)] ∧ K r0 fxr) := by
 refine CallsH.enter 16 [(0, pv bxr 0)] Tryz.func72 rfl kr kr kr fun w0 => ?_
 refine Ok.sr ((Ok.op rfl (OpOk.a (z := .agg zK) (cs := zK) kr kr rfl fun bs2 => ?_)))
 refine Ok.nt ((Ok.q (Ok.sr ((Ok.B 3 [(0, pv bxr 0), (2, pv bs2 0), (5, pv bxr 0)] kr (Ok.op rfl (OpOk.s (v := .slice axr_0 xr.length cxr_0) (Yields.l 1 rfl rfl Tryz.underlying56 rfl kr) rfl rfl (Ok.b 2 [0, 2] [(8, .bool ((xr.length : Int) == 0))] ?_))))))))
 refine Ok.nt ((Ok.cn hF rfl (fun hc2 => ?_) (fun hc2 => ?_)))
 ·replace hF := hF.1 hc2
  refine Ok.sr ((Ok.b 1 [2] [(9, .agg zK)] ?_))
  refine Ok.op rfl (OpOk.sto (k := 4) (v := .agg zK) 0 zK rfl rfl rfl ?_)
  refine Ok.nt ((Ok.ret (Ok.tr ?_)))
  exact Ok.p (vs := [.agg zK]) [1] [.blk bxr (.cells #[.slice axr_0 xr.length cxr_0] 59)] dc rfl (.inl rfl) rfl (.cons (.cellAgg 0 4 zK rfl rfl Tryz.underlying78 rfl kr kr kr) .nil) (Gext.r w0 g) ⟨(0, ([] : Bs), ([] : Bs), 0), xr, axr_0, cxr_0, rfl, hRxr_0, rfl, hF⟩
 replace hF := hF.2 hc2
 refine Ok.k (Ok.t (Ok.sr ((Ok.b 3 [2] [(12, pv bxr 0)] ?_))))
 refine Ok.op rfl (OpOk.s (v := .slice axr_0 xr.length cxr_0) (Yields.l 1 rfl rfl Tryz.underlying56 rfl kr) rfl rfl ?_)
 obtain ⟨h04, h14, hF⟩ := hF
 have he4 := get_of (l := xr) (default : Int × Bs × Bs × Int) h14
 generalize hg4 : (xr.getD (Int.toNat 0) default) = e4 at he4 hF ⊢
 refine Ok.op rfl (OpOk.indexRo (e := yK) (i := 0) (el := e4) rfl rfl Tryz.underlying56 kr hRxr_0 h04 he4 rfl fun q3 o3 cs3 _ a2 hr3 => ?_)
 obtain ⟨_, _, rfl, rfl, ⟨_, _, rfl, rfl, ⟨_, _, rfl, rfl, rfl⟩⟩⟩ := hr3
 replace a2 : At g q3 o3 (vK e4) := a2
 refine Ok.op rfl (OpOk.s (v := .agg (aK e4)) (Yields.loadAggRo 0 4 (aK e4) a2 kr Tryz.underlying78 rfl kr kr kr) rfl rfl (Ok.op rfl (OpOk.sto (k := 4) (v := .agg (aK e4)) 0 (aK e4) rfl rfl rfl ?_)))
 refine Ok.nt ((Ok.ret ?_))
 exact Ok.p (vs := [.agg (aK e4)]) [1] [.blk bxr (.cells #[.slice axr_0 xr.length cxr_0] 59)] dc rfl (.inl rfl) rfl (.cons (.cellAgg 0 4 (aK e4) rfl rfl Tryz.underlying78 rfl kr kr kr) .nil) (Gext.r w0 g) ⟨e4, xr, axr_0, cxr_0, rfl, hRxr_0, rfl, hF⟩
abbrev Rd := List Tok
def pekS (r : Rd) : Tok × Rd := (match r with | [] => (0, [], [], 0) | t :: _ => t, r)
theorem pek_F (r : Rd) : pekF r (fun a b => (a, b) = pekS r) := by
 cases r with
 | nil => exact ⟨fun _ => rfl, fun h => (by cases h)⟩
 | cons t r => exact ⟨fun h => absurd (eq_of_beq h) (by rw [List.length_cons]; omega), fun _ => ⟨by decide, by rw [List.length_cons]; show 0 < _; omega, rfl⟩⟩
theorem pek_c {g : Ghost} {bxr : Nat} {axr_0 : Option Addr} {cxr_0 : Nat} (xr : List KT) (hRxr_0 : Rep g (.slice yK) [.slice axr_0 xr.length cxr_0] xr)  : CallsH Tryz.prog 72 #[pv bxr 0] g [.blk bxr (.cells #[.slice axr_0 xr.length cxr_0] 59)] (fun g' H' v => ∃ (afxr_0 : Option Addr) (cfxr_0 : Nat), v = .agg (aK (pekS xr).1) ∧ Rep g' (.slice yK) [.slice afxr_0 ((pekS xr).2).length cfxr_0] (pekS xr).2 ∧ H' = [.blk bxr (.cells #[.slice afxr_0 ((pekS xr).2).length cfxr_0] 59)]) :=
 (pek_ok xr hRxr_0 _ (pek_F xr)).mono (by rintro g' H' v _ ⟨r0, fxr, afxr_0, cfxr_0, rfl, hRfxr_0, rfl, hK⟩; obtain ⟨rfl, rfl⟩ : r0 = (pekS xr).1 ∧ fxr = (pekS xr).2 := ⟨congrArg (fun z => z.1) hK, congrArg (fun z => z.2) hK⟩; exact ⟨afxr_0, cfxr_0, rfl, hRfxr_0, rfl⟩)
def gapj11 (xr : List KT) (K : Bool → (List KT) → Prop) (q0 : Int) (ybxr_0l9 : List KT) (C9 : Int → Bs → Bs → Int → (List KT) → Prop) : Prop :=
 ((((q0 == 8) || (q0 == 9))) = true → (0 : Int) ≤ 1 ∧ (1 : Int) ≤ (ybxr_0l9.length : Int) ∧ (ybxr_0l9.length : Int) ≤ (ybxr_0l9.length : Int) ∧ C9 (pekS (ybxr_0l9.drop (Int.toNat 1))).1.1 (pekS (ybxr_0l9.drop (Int.toNat 1))).1.2.1 (pekS (ybxr_0l9.drop (Int.toNat 1))).1.2.2.1 (pekS (ybxr_0l9.drop (Int.toNat 1))).1.2.2.2 (pekS (ybxr_0l9.drop (Int.toNat 1))).2) ∧ ((((q0 == 8) || (q0 == 9))) = false → K (decide ((ybxr_0l9.length : Int) < (xr.length : Int))) ybxr_0l9)
def gapl9b (xr : List KT) (K : Bool → (List KT) → Prop) (q0 : Int) (x0 : Bs) (j0 : Bs) (u0 : Int) (ybxr_0l9 : List KT) (C9 : Int → Bs → Bs → Int → (List KT) → Prop) : Prop :=
 (((q0 == 8)) = true → gapj11 xr K q0 ybxr_0l9 C9) ∧ (((q0 == 8)) = false → gapj11 xr K q0 ybxr_0l9 C9)
def gapl9 (xr : List KT) (K : Bool → (List KT) → Prop) : Nat → Int → Bs → Bs → Int → (List KT) → Prop
 | 0, _, _, _, _, _ => False
 | k + 1, q0, x0, j0, u0, ybxr_0l9 => gapl9b xr K q0 x0 j0 u0 ybxr_0l9 (gapl9 xr K k)
def gapF (xr : List KT) (K : Bool → (List KT) → Prop) : Prop :=
 ∃ k, gapl9 xr K k (pekS xr).1.1 (pekS xr).1.2.1 (pekS xr).1.2.2.1 (pekS xr).1.2.2.2 (pekS xr).2
theorem gap_ok {g : Ghost} {bxr : Nat} {axr_0 : Option Addr} {cxr_0 : Nat} (xr : List KT) (hRxr_0 : Rep g (.slice yK) [.slice axr_0 xr.length cxr_0] xr) (K : Bool → (List KT) → Prop)
  (hF : gapF xr K) : CallsH Tryz.prog 44 #[pv bxr 0] g [.blk bxr (.cells #[.slice axr_0 xr.length cxr_0] 59)] (fun g' H' v => ∃ (r0 : Bool), ∃ (fxr : List KT), ∃ (afxr_0 : Option Addr) (cfxr_0 : Nat), v = .bool r0 ∧ Rep g' (.slice yK) [.slice afxr_0 fxr.length cfxr_0] fxr ∧ H' = [.blk bxr (.cells #[.slice afxr_0 fxr.length cfxr_0] 59)] ∧ K r0 fxr) := by
 refine CallsH.enter 38 [(0, pv bxr 0)] Tryz.func44 rfl kr kr kr fun w0 => ?_
 refine Ok.sr ((Ok.B 1 [(0, pv bxr 0)] kr (Ok.nt ((Ok.sr ((Ok.b 3 [0] [(7, pv bxr 0)] ?_)))))))
 refine Ok.op rfl (OpOk.s (v := .slice axr_0 xr.length cxr_0) (Yields.l 0 rfl rfl Tryz.underlying56 rfl kr) rfl rfl (Ok.b 2 [0] [(3, iv (xr.length : Int))] ?_))
 refine Ok.nt ((Ok.q (Ok.sr ((Ok.b 1 [0, 3] [(10, pv bxr 0)] ?_)))))
 refine Ok.op rfl (OpOk.callH [_] _ enr rfl (pek_c xr hRxr_0) rfl fun g1 _ _ hx1 hV1 => ?_)
 obtain ⟨c2, d2, rfl, W1, rfl⟩ := hV1
 refine Ok.op rfl (OpOk.a (z := .agg zK) (cs := zK) kr kr rfl fun bs4 => ?_)
 refine Ok.op rfl (OpOk.sto (k := 4) (v := .agg (aK (pekS xr).1)) 0 (aK (pekS xr).1) rfl rfl rfl ?_)
 refine Ok.nt ((Ok.block ?_))
 obtain ⟨k, hF⟩ := hF
 refine Ok.L (fun k a W => ∃ gl9 : Ghost, Gext w0 g1 gl9 ∧ ∃ (S0 : Nat) (q0 : Int) (x0 : Bs) (j0 : Bs) (u0 : Int) (aybxr_0l9 : Option Addr) (cybxr_0l9 : Nat) (ybxr_0l9 : List KT), Rep gl9 (.slice yK) [.slice aybxr_0l9 ybxr_0l9.length cybxr_0l9] ybxr_0l9 ∧ StA 38 [(0, pv bxr 0), (3, iv (xr.length : Int)), (4, pv S0 0)] a ∧ StW w0 [.blk S0 (.cells #[iv q0, sv x0, sv j0, iv u0] 78), .blk bxr (.cells #[.slice aybxr_0l9 ybxr_0l9.length cybxr_0l9] 59)] gl9 W ∧ gapl9 xr K k q0 x0 j0 u0 ybxr_0l9) k ?_ ?_
 ·
  exact fun a W hA hW => ⟨g1, (Gext.r w0 g1), bs4, (pekS xr).1.1, (pekS xr).1.2.1, (pekS xr).1.2.2.1, (pekS xr).1.2.2.2, c2, d2, (pekS xr).2, W1, hA.sub kr, hW, hF⟩
 clear hF
 rintro k9 a W ⟨gl9, C1, S0, q0, x0, j0, u0, aybxr_0l9, cybxr_0l9, ybxr_0l9, hRybxr_0l9, hA, hW, hF⟩
 cases k9 with
 | zero => exact (hF : False).elim
 | succ k9 =>
  refine (?_ : Ok _ _ _ _ _ _) a W hA hW
  clear hA hW
  refine Ok.q (Ok.cut (fun a W => ∃ i2 : Ghost, Gext w0 gl9 i2 ∧ StA 38 [(0, pv bxr 0), (3, iv (xr.length : Int)), (4, pv S0 0), (19, .bool ((q0 == 8) || (q0 == 9)))] a ∧ StW w0 [.blk S0 (.cells #[iv q0, sv x0, sv j0, iv u0] 78), .blk bxr (.cells #[.slice aybxr_0l9 ybxr_0l9.length cybxr_0l9] 59)] i2 W ∧ gapj11 xr K q0 ybxr_0l9 (gapl9 xr K k9)) ?_ ?_)
  ·
   refine Ok.r (Ok.b 1 [0, 3, 4] [(12, pv S0 0)] ?_)
   refine Ok.op rfl (OpOk.s (v := iv q0) (Yields.l 0 rfl rfl Tryz.underlying3 rfl kr) rfl rfl (Ok.b 2 [0, 3, 4] [(15, .bool (q0 == 8))] ?_))
   refine Ok.a 15 ((q0 == 8)) rfl (fun hc7 => ?_) (fun hc7 => ?_)
   ·replace hF := hF.1 hc7
    refine Ok.b 4 [0, 3, 4] [(19, .bool true)] ?_
    refine Ok.nt ((Ok.v 19 rfl (show (.bool true : Value) = .bool ((q0 == 8) || (q0 == 9)) from congrArg (Value.bool) (mor_t hc7)) ?_))
    exact fun a W hA hW => ⟨gl9, (Gext.r w0 gl9), hA.sub kr, hW, hF⟩
   replace hF := hF.2 hc7
   refine Ok.b 1 [0, 3, 4] [(15, .bool false), (16, pv S0 0)] ?_
   refine Ok.y (j := 3) (d := 15) (want := false) (b := false) rfl kr kr rfl (OpOk.s (v := iv q0) (Yields.l 0 rfl rfl Tryz.underlying3 rfl kr) rfl rfl (Ok.b 2 [0, 3, 4] [(19, .bool (q0 == 9))] ?_))
   refine Ok.nt ((Ok.v 19 rfl (show (.bool (q0 == 9) : Value) = .bool ((q0 == 8) || (q0 == 9)) from congrArg (Value.bool) (mor_f hc7)) ?_))
   exact fun a W hA hW => ⟨gl9, (Gext.r w0 gl9), hA.sub kr, hW, hF⟩
  clear hF
  rintro a W ⟨i2, N1, hA, hW, hF⟩
  refine (?_ : Ok _ _ _ _ _ _) a W hA hW
  clear hA hW
  replace hRybxr_0l9 := hRybxr_0l9.mono N1.1
  refine Ok.cn hF rfl (fun hc3 => ?_) (fun hc3 => ?_)
  ·replace hF := hF.1 hc3
   refine Ok.k (Ok.t (Ok.q (Ok.block (Ok.r (Ok.b 4 [0, 3, 4] [(22, pv bxr 0), (25, pv bxr 0)] ?_)))))
   refine Ok.op rfl (OpOk.s (v := .slice aybxr_0l9 ybxr_0l9.length cybxr_0l9) (Yields.l 1 rfl rfl Tryz.underlying56 rfl kr) rfl rfl ?_)
   obtain ⟨h04, h14, h24, hF⟩ := hF
   refine Ok.op rfl (OpOk.sliceRo (e := yK) (l := 1) (h := (ybxr_0l9.length : Int)) rfl Tryz.underlying56 kr (.inl ⟨_, _, rfl, rfl⟩) (.inr ⟨rfl, rfl⟩) hRybxr_0l9 h04 h14 h24 rfl (ybxr_0l9.drop (Int.toNat 1)) (by rw [show ((ybxr_0l9.length : Int)).toNat = ybxr_0l9.length from Int.toNat_natCast _, List.take_length]) fun a4 c4 hR4 => ?_)
   refine Ok.b 2 [0, 3, 4] [(27, .slice a4 (ybxr_0l9.drop (Int.toNat 1)).length c4), (29, pv bxr 0)] ?_
   refine Ok.op rfl (OpOk.sto (k := 1) (v := .slice a4 (ybxr_0l9.drop (Int.toNat 1)).length c4) 1 #[.slice a4 (ybxr_0l9.drop (Int.toNat 1)).length c4] rfl rfl rfl ?_)
   refine Ok.j (Ok.kn (Ok.t (Ok.q (Ok.sr ((Ok.op rfl (OpOk.s (v := .agg #[iv q0, sv x0, sv j0, iv u0]) (Yields.loadAgg 0 4 #[iv q0, sv x0, sv j0, iv u0] rfl rfl Tryz.underlying78 rfl kr kr kr) rfl rfl (Ok.nt ((Ok.r (Ok.op rfl (OpOk.a (z := .agg zK) (cs := zK) kr kr rfl fun bs4 => ?_))))))))))))
   refine Ok.op rfl (OpOk.sto (k := 4) (v := .agg #[iv q0, sv x0, sv j0, iv u0]) 0 #[iv q0, sv x0, sv j0, iv u0] rfl rfl rfl ?_)
   refine Ok.nt ((Ok.r (Ok.b 1 [0, 3] [(4, pv bs4 0), (20, pv bxr 0)] ?_)))
   refine Ok.e [2, 0, 1] [.blk bxr (.cells #[.slice a4 (ybxr_0l9.drop (Int.toNat 1)).length c4] 59), .blk bs4 (.cells #[iv q0, sv x0, sv j0, iv u0] 78), .blk S0 (.cells #[iv q0, sv x0, sv j0, iv u0] 78)] dc rfl (Ok.op rfl (OpOk.callH [_] _ enr rfl (pek_c (ybxr_0l9.drop (Int.toNat 1)) hR4) rfl fun g6 _ _ hx6 hV6 => ?_))
   obtain ⟨D1, E1, rfl, r2, rfl⟩ := hV6
   refine Ok.op rfl (OpOk.sto (k := 4) (v := .agg #[iv (pekS (ybxr_0l9.drop (Int.toNat 1))).1.1, sv ((pekS (ybxr_0l9.drop (Int.toNat 1))).1.2.1), sv ((pekS (ybxr_0l9.drop (Int.toNat 1))).1.2.2.1), iv (pekS (ybxr_0l9.drop (Int.toNat 1))).1.2.2.2]) 1 #[iv (pekS (ybxr_0l9.drop (Int.toNat 1))).1.1, sv ((pekS (ybxr_0l9.drop (Int.toNat 1))).1.2.1), sv ((pekS (ybxr_0l9.drop (Int.toNat 1))).1.2.2.1), iv (pekS (ybxr_0l9.drop (Int.toNat 1))).1.2.2.2] rfl rfl rfl ?_)
   refine Ok.j (Ok.t ?_)
   exact fun a W hA hW => ⟨k9, Nat.lt_succ_self _, g6, ((C1.trans N1).trans hx6), bs4, (pekS (ybxr_0l9.drop (Int.toNat 1))).1.1, (pekS (ybxr_0l9.drop (Int.toNat 1))).1.2.1, (pekS (ybxr_0l9.drop (Int.toNat 1))).1.2.2.1, (pekS (ybxr_0l9.drop (Int.toNat 1))).1.2.2.2, D1, E1, (pekS (ybxr_0l9.drop (Int.toNat 1))).2, r2, hA.sub kr, hW.pick [1, 0] _ dc rfl, hF⟩
  replace hF := hF.2 hc3
  refine Ok.x (Ok.thenE (Ok.thenE (Ok.blockHit (Ok.t (Ok.sr ((Ok.b 3 [3] [(33, pv bxr 0)] ?_)))))))
  refine Ok.op rfl (OpOk.s (v := .slice aybxr_0l9 ybxr_0l9.length cybxr_0l9) (Yields.l 1 rfl rfl Tryz.underlying56 rfl kr) rfl rfl (Ok.B 4 [(2, .bool (decide ((ybxr_0l9.length : Int) < (xr.length : Int))))] kr (Ok.nt ((Ok.ret ?_)))))
  exact Ok.p (vs := [.bool (decide ((ybxr_0l9.length : Int) < (xr.length : Int)))]) [1] [.blk bxr (.cells #[.slice aybxr_0l9 ybxr_0l9.length cybxr_0l9] 59)] dc rfl (.inl rfl) rfl (.cons (.tmp rfl) .nil) ((hx1.trans C1).trans N1) ⟨(decide ((ybxr_0l9.length : Int) < (xr.length : Int))), ybxr_0l9, aybxr_0l9, cybxr_0l9, rfl, hRybxr_0l9, rfl, hF⟩
def silT (t : Tok) : Bool := t.1 == 8 || t.1 == 9
def gapS (r : Rd) : Bool × Rd := (decide (((r.dropWhile silT).length : Int) < (r.length : Int)), r.dropWhile silT)
theorem gap_loop (r : Rd) : ∀ (l : List Tok), r.dropWhile silT = l.dropWhile silT → gapl9 r (fun a b => (a, b) = gapS r) (l.length + 1) (pekS l).1.1 (pekS l).1.2.1 (pekS l).1.2.2.1 (pekS l).1.2.2.2 l := by
 intro l
 induction l with
 | nil =>
  intro h
  have key : gapj11 r (fun a b => (a, b) = gapS r) 0 [] (gapl9 r (fun a b => (a, b) = gapS r) 0) := by
   refine ⟨fun h => (by cases h), fun _ => ?_⟩
   unfold gapS; rw [h]; rfl
  exact ⟨fun h => (by cases h), fun _ => key⟩
 | cons x l ih =>
  intro h
  have key : gapj11 r (fun a b => (a, b) = gapS r) x.1 (x :: l) (gapl9 r (fun a b => (a, b) = gapS r) (l.length + 1)) := by
   refine ⟨fun hs => ⟨by omega, by rw [List.length_cons]; omega, by omega, ?_⟩, fun hs => ?_⟩
   ·rw [List.dropWhile_cons_of_pos (p := silT) (show silT x = true from hs)] at h
    exact ih h
   rw [List.dropWhile_cons_of_neg (by show ¬ (x.1 == 8 || x.1 == 9) = true; rw [hs]; simp)] at h
   unfold gapS; rw [h]
  exact ⟨fun _ => key, fun _ => key⟩
theorem gap_F (r : Rd) : gapF r (fun a b => (a, b) = gapS r) := ⟨_, gap_loop r r rfl⟩
theorem gap_c {g : Ghost} {bxr : Nat} {axr_0 : Option Addr} {cxr_0 : Nat} (xr : List KT) (hRxr_0 : Rep g (.slice yK) [.slice axr_0 xr.length cxr_0] xr)  : CallsH Tryz.prog 44 #[pv bxr 0] g [.blk bxr (.cells #[.slice axr_0 xr.length cxr_0] 59)] (fun g' H' v => ∃ (afxr_0 : Option Addr) (cfxr_0 : Nat), v = .bool (gapS xr).1 ∧ Rep g' (.slice yK) [.slice afxr_0 ((gapS xr).2).length cfxr_0] (gapS xr).2 ∧ H' = [.blk bxr (.cells #[.slice afxr_0 ((gapS xr).2).length cfxr_0] 59)]) :=
 (gap_ok xr hRxr_0 _ (gap_F xr)).mono (by rintro g' H' v _ ⟨r0, fxr, afxr_0, cfxr_0, rfl, hRfxr_0, rfl, hK⟩; obtain ⟨rfl, rfl⟩ : r0 = (gapS xr).1 ∧ fxr = (gapS xr).2 := ⟨congrArg (fun z => z.1) hK, congrArg (fun z => z.2) hK⟩; exact ⟨afxr_0, cfxr_0, rfl, hRfxr_0, rfl⟩)
def rawF (xr : List KT) (xs : Bs) (K : Bool → (List KT) → Prop) : Prop :=
 ((!((pekS xr).1.2.1 == xs)) = true → K false (pekS xr).2) ∧ ((!((pekS xr).1.2.1 == xs)) = false → (0 : Int) ≤ 1 ∧ (1 : Int) ≤ (((pekS xr).2).length : Int) ∧ (((pekS xr).2).length : Int) ≤ (((pekS xr).2).length : Int) ∧ K true (((pekS xr).2).drop (Int.toNat 1)))
theorem raw_ok {g : Ghost} {bxr : Nat} {axr_0 : Option Addr} {cxr_0 : Nat} (xr : List KT) (xs : Bs) (hRxr_0 : Rep g (.slice yK) [.slice axr_0 xr.length cxr_0] xr) (K : Bool → (List KT) → Prop)
  (hF : rawF xr xs K) : CallsH Tryz.prog 46 #[pv bxr 0, sv xs] g [.blk bxr (.cells #[.slice axr_0 xr.length cxr_0] 59)] (fun g' H' v => ∃ (r0 : Bool), ∃ (fxr : List KT), ∃ (afxr_0 : Option Addr) (cfxr_0 : Nat), v = .bool r0 ∧ Rep g' (.slice yK) [.slice afxr_0 fxr.length cfxr_0] fxr ∧ H' = [.blk bxr (.cells #[.slice afxr_0 fxr.length cfxr_0] 59)] ∧ K r0 fxr) := by
 refine CallsH.enter 18 [(0, pv bxr 0), (1, sv xs)] Tryz.func46 rfl kr kr kr fun w0 => ?_
 refine Ok.sr ((Ok.B 1 [(0, pv bxr 0), (1, sv xs)] kr (Ok.nt ((Ok.q (Ok.sr ((Ok.b 1 [0, 1] [(5, pv bxr 0)] ?_))))))))
 refine Ok.op rfl (OpOk.callH [_] _ enr rfl (pek_c xr hRxr_0) rfl fun g1 _ _ hx1 hV1 => ?_)
 obtain ⟨c2, d2, rfl, W1, rfl⟩ := hV1
 refine Ok.b 2 [0] [(7, sv ((pekS xr).1.2.1)), (8, sv xs)] ?_
 refine Ok.op rfl (OpOk.s (v := .bool (!((pekS xr).1.2.1 == xs))) (Yields.sc (f := .neq) (a := (pekS xr).1.2.1) (b := xs) kr kr rfl) rfl rfl (Ok.nt ((Ok.cn hF rfl (fun hc2 => ?_) (fun hc2 => ?_)))))
 ·replace hF := hF.1 hc2
  refine Ok.sr ((Ok.B 1 [(4, .bool false)] kr (Ok.nt ((Ok.ret (Ok.tr ?_))))))
  exact Ok.resH (vs := [.bool false]) (.inl rfl) rfl (.cons (.tmp rfl) .nil) hx1 ⟨false, (pekS xr).2, c2, d2, rfl, W1, rfl, hF⟩
 replace hF := hF.2 hc2
 refine Ok.k (Ok.t (Ok.sr ((Ok.B 4 [(10, pv bxr 0), (13, pv bxr 0)] kr (Ok.op rfl (OpOk.s (v := .slice c2 ((pekS xr).2).length d2) (Yields.l 0 rfl rfl Tryz.underlying56 rfl kr) rfl rfl ?_))))))
 obtain ⟨h03, h13, h23, hF⟩ := hF
 refine Ok.op rfl (OpOk.sliceRo (e := yK) (l := 1) (h := (((pekS xr).2).length : Int)) rfl Tryz.underlying56 kr (.inl ⟨_, _, rfl, rfl⟩) (.inr ⟨rfl, rfl⟩) W1 h03 h13 h23 rfl (((pekS xr).2).drop (Int.toNat 1)) (by rw [show ((((pekS xr).2).length : Int)).toNat = ((pekS xr).2).length from Int.toNat_natCast _, List.take_length]) fun a3 c3 hR3 => ?_)
 refine Ok.B 2 [(15, .slice a3 (((pekS xr).2).drop (Int.toNat 1)).length c3), (17, pv bxr 0)] kr (Ok.op rfl (OpOk.sto (k := 1) (v := .slice a3 (((pekS xr).2).drop (Int.toNat 1)).length c3) 0 #[.slice a3 (((pekS xr).2).drop (Int.toNat 1)).length c3] rfl rfl rfl ?_))
 refine Ok.nt ((Ok.sr ((Ok.B 1 [(4, .bool true)] kr (Ok.nt ((Ok.ret ?_)))))))
 exact Ok.resH (vs := [.bool true]) (.inl rfl) rfl (.cons (.tmp rfl) .nil) hx1 ⟨true, (((pekS xr).2).drop (Int.toNat 1)), a3, c3, rfl, hR3, rfl, hF⟩
def rawP (r : Rd) (s : Bs) : Prop := s ≠ []
def rwS (r : Rd) (s : Bs) : Bool × Rd := if (!((pekS r).1.2.1 == s)) = true then (false, r) else (true, r.drop 1)
theorem raw_F (r : Rd) (s : Bs) (hp : rawP r s) : rawF r s (fun a b => (a, b) = rwS r s) := by
 refine ⟨fun h => ?_, fun h => ⟨by omega, ?_, by omega, ?_⟩⟩
 ·unfold rwS; rw [if_t h]; rfl
 ·cases r with
  | nil => exact absurd (by simpa [pekS] using h : [] = s).symm hp
  | cons x l => show (1 : Int) ≤ ((x :: l).length : Int); rw [List.length_cons]; omega
 unfold rwS; rw [if_f h]; rfl
theorem raw_c {g : Ghost} {bxr : Nat} {axr_0 : Option Addr} {cxr_0 : Nat} (xr : List KT) (xs : Bs) (hRxr_0 : Rep g (.slice yK) [.slice axr_0 xr.length cxr_0] xr)  (hp : rawP xr xs) : CallsH Tryz.prog 46 #[pv bxr 0, sv xs] g [.blk bxr (.cells #[.slice axr_0 xr.length cxr_0] 59)] (fun g' H' v => ∃ (afxr_0 : Option Addr) (cfxr_0 : Nat), v = .bool (rwS xr xs).1 ∧ Rep g' (.slice yK) [.slice afxr_0 ((rwS xr xs).2).length cfxr_0] (rwS xr xs).2 ∧ H' = [.blk bxr (.cells #[.slice afxr_0 ((rwS xr xs).2).length cfxr_0] 59)]) :=
 (raw_ok xr xs hRxr_0 _ (raw_F xr xs hp)).mono (by rintro g' H' v _ ⟨r0, fxr, afxr_0, cfxr_0, rfl, hRfxr_0, rfl, hK⟩; obtain ⟨rfl, rfl⟩ : r0 = (rwS xr xs).1 ∧ fxr = (rwS xr xs).2 := ⟨congrArg (fun z => z.1) hK, congrArg (fun z => z.2) hK⟩; exact ⟨afxr_0, cfxr_0, rfl, hRfxr_0, rfl⟩)
def oneF (xr : List KT) (K : (TS) → Bool → (List KT) → Prop) : Prop :=
 ((((pekS xr).1.2.1 == ([42] : Bs))) = true → False) ∧ ((((pekS xr).1.2.1 == ([42] : Bs))) = false → ((((pekS xr).1.1 == 1)) = true → ((((pekS (pekS xr).2).1.1 == 0)) = true → False) ∧ ((((pekS (pekS xr).2).1.1 == 0)) = false → (0 : Int) ≤ 1 ∧ (1 : Int) ≤ (((pekS (pekS xr).2).2).length : Int) ∧ (((pekS (pekS xr).2).2).length : Int) ≤ (((pekS (pekS xr).2).2).length : Int) ∧ ((((pekS (pekS xr).2).1.1 == 1)) = true → ([] : Bs).length + ((pekS (pekS xr).2).1.2.2.1).length ≤ maxLen ∧ ((((pekS (pekS xr).2).1.2.1 == (([] : Bs) ++ (pekS (pekS xr).2).1.2.2.1))) = true → cutP (pekS (pekS xr).2).1.2.2.1 ∧ ((!(plainS (pekS (pekS xr).2).1.2.2.1)) = true → False) ∧ ((!(plainS (pekS (pekS xr).2).1.2.2.1)) = false → lowerP (pekS (pekS xr).2).1.2.2.1 ∧ K (Tst.mk (2, (lowerS (pekS (pekS xr).2).1.2.2.1), 0, ([] : Bs), 0, 0) ([])) true (((pekS (pekS xr).2).2).drop (Int.toNat 1)))) ∧ ((((pekS (pekS xr).2).1.2.1 == (([] : Bs) ++ (pekS (pekS xr).2).1.2.2.1))) = false → False)) ∧ ((((pekS (pekS xr).2).1.1 == 1)) = false → False))) ∧ ((((pekS xr).1.1 == 1)) = false → ((((pekS xr).1.1 == 4)) = true → False) ∧ ((((pekS xr).1.1 == 4)) = false → ((((pekS xr).1.2.1 == ([46] : Bs))) = true → ((((pekS (pekS xr).2).1.1 == 0)) = true → False) ∧ ((((pekS (pekS xr).2).1.1 == 0)) = false → (0 : Int) ≤ 1 ∧ (1 : Int) ≤ (((pekS (pekS xr).2).2).length : Int) ∧ (((pekS (pekS xr).2).2).length : Int) ≤ (((pekS (pekS xr).2).2).length : Int) ∧ ((((pekS (((pekS (pekS xr).2).2).drop (Int.toNat 1))).1.1 == 0)) = true → False) ∧ ((((pekS (((pekS (pekS xr).2).2).drop (Int.toNat 1))).1.1 == 0)) = false → (0 : Int) ≤ 1 ∧ (1 : Int) ≤ (((pekS (((pekS (pekS xr).2).2).drop (Int.toNat 1))).2).length : Int) ∧ (((pekS (((pekS (pekS xr).2).2).drop (Int.toNat 1))).2).length : Int) ≤ (((pekS (((pekS (pekS xr).2).2).drop (Int.toNat 1))).2).length : Int) ∧ ((((pekS (((pekS (pekS xr).2).2).drop (Int.toNat 1))).1.1 == 1)) = true → ([] : Bs).length + ((pekS (((pekS (pekS xr).2).2).drop (Int.toNat 1))).1.2.2.1).length ≤ maxLen ∧ ((((pekS (((pekS (pekS xr).2).2).drop (Int.toNat 1))).1.2.1 == (([] : Bs) ++ (pekS (((pekS (pekS xr).2).2).drop (Int.toNat 1))).1.2.2.1))) = true → cutP (pekS (((pekS (pekS xr).2).2).drop (Int.toNat 1))).1.2.2.1 ∧ ((!(plainS (pekS (((pekS (pekS xr).2).2).drop (Int.toNat 1))).1.2.2.1)) = true → False) ∧ ((!(plainS (pekS (((pekS (pekS xr).2).2).drop (Int.toNat 1))).1.2.2.1)) = false → K (Tst.mk (4, (pekS (((pekS (pekS xr).2).2).drop (Int.toNat 1))).1.2.2.1, 0, ([] : Bs), 0, 0) ([])) true (((pekS (((pekS (pekS xr).2).2).drop (Int.toNat 1))).2).drop (Int.toNat 1)))) ∧ ((((pekS (((pekS (pekS xr).2).2).drop (Int.toNat 1))).1.2.1 == (([] : Bs) ++ (pekS (((pekS (pekS xr).2).2).drop (Int.toNat 1))).1.2.2.1))) = false → False)) ∧ ((((pekS (((pekS (pekS xr).2).2).drop (Int.toNat 1))).1.1 == 1)) = false → False)))) ∧ ((((pekS xr).1.2.1 == ([46] : Bs))) = false → ((((pekS xr).1.2.1 == ([91] : Bs))) = true → False) ∧ ((((pekS xr).1.2.1 == ([91] : Bs))) = false → ((((pekS xr).1.2.1 == ([58] : Bs))) = true → False) ∧ ((((pekS xr).1.2.1 == ([58] : Bs))) = false → K (Tst.mk (0, ([] : Bs), 0, ([] : Bs), 0, 0) ([])) false (pekS xr).2))))))
theorem one_ok {g : Ghost} {bxr : Nat} {axr_0 : Option Addr} {cxr_0 : Nat} (xr : List KT) (hRxr_0 : Rep g (.slice yK) [.slice axr_0 xr.length cxr_0] xr) (hG0 : SomeInt g 0) (K : (TS) → Bool → (List KT) → Prop)
  (hF : oneF xr K) : CallsH Tryz.prog 101 #[pv bxr 0] g [.blk bxr (.cells #[.slice axr_0 xr.length cxr_0] 59)] (fun g' H' v => ∃ (r0 : TS), ∃ (r1 : Bool), ∃ (fxr : List KT), ∃ (Z0 : Option Addr) (V0 : Nat), ∃ (afxr_0 : Option Addr) (cfxr_0 : Nat), v = .tuple #[.agg (aL r0.lab Z0 r0.kids.length V0), .bool r1] ∧ Rep g' (.slice yP) [.slice Z0 r0.kids.length V0] r0.kids ∧ Rep g' (.slice yK) [.slice afxr_0 fxr.length cfxr_0] fxr ∧ H' = [.blk bxr (.cells #[.slice afxr_0 fxr.length cfxr_0] 59)] ∧ K r0 r1 fxr) := by
 refine CallsH.enter 61 [(0, pv bxr 0)] Tryz.func101 rfl kr kr kr fun w0 => ?_
 refine Ok.sr ((Ok.op rfl (OpOk.a (z := .agg #[iv 0, sv ([] : Bs), .int .u8 0, sv ([] : Bs), iv 0, iv 0, .slice none 0 0]) (cs := #[iv 0, sv ([] : Bs), .int .u8 0, sv ([] : Bs), iv 0, iv 0, .slice none 0 0]) kr kr rfl fun bs2 => ?_)))
 refine Ok.B 1 [(0, pv bxr 0), (2, pv bs2 0)] kr (Ok.nt ((Ok.q (Ok.sr ((Ok.b 1 [0, 2] [(5, pv bxr 0)] ?_))))))
 refine Ok.e [1, 0] [.blk bxr (.cells #[.slice axr_0 xr.length cxr_0] 59), .blk bs2 (.cells #[iv 0, sv ([] : Bs), .int .u8 0, sv ([] : Bs), iv 0, iv 0, .slice none 0 0] 48)] dc rfl (Ok.op rfl (OpOk.callH [_] _ enr rfl (pek_c xr hRxr_0) rfl fun g2 _ _ hx2 hV2 => ?_))
 obtain ⟨k1, y1, rfl, P0, rfl⟩ := hV2
 replace hG0 := hG0.mono hx2.1
 refine Ok.op rfl (OpOk.a (z := .agg zK) (cs := zK) kr kr rfl fun bs4 => ?_)
 refine Ok.op rfl (OpOk.sto (k := 4) (v := .agg (aK (pekS xr).1)) 0 (aK (pekS xr).1) rfl rfl rfl ?_)
 refine Ok.nt ((Ok.block (Ok.sr ((Ok.B 1 [(0, pv bxr 0), (2, pv bs2 0), (4, pv bs4 0), (8, pv bs4 1)] kr (Ok.op rfl (OpOk.s (v := sv ((pekS xr).1.2.1)) (Yields.l 0 rfl rfl Tryz.underlying9 rfl kr) rfl rfl (Ok.op rfl (OpOk.s (v := .bool ((pekS xr).1.2.1 == ([42] : Bs))) (Yields.sc (f := .eql) (a := (pekS xr).1.2.1) (b := ([42] : Bs)) kr kr rfl) rfl rfl (Ok.b 1 [0, 2, 4] [(7, .bool ((pekS xr).1.2.1 == ([42] : Bs)))] ?_))))))))))
 refine Ok.nt ((Ok.cn hF rfl (fun hc4 => ?_) (fun hc4 => ?_)))
 ·replace hF := hF.1 hc4
  exact False.elim hF
 replace hF := hF.2 hc4
 refine Ok.sr ((Ok.b 1 [0, 2, 4] [(15, pv bs4 0)] ?_))
 refine Ok.op rfl (OpOk.s (v := iv (pekS xr).1.1) (Yields.l 0 rfl rfl Tryz.underlying3 rfl kr) rfl rfl (Ok.b 2 [0, 2, 4] [(14, .bool ((pekS xr).1.1 == 1))] ?_))
 refine Ok.nt ((Ok.cn hF rfl (fun hc5 => ?_) (fun hc5 => ?_)))
 ·replace hF := hF.1 hc5
  refine Ok.sr ((Ok.b 2 [2] [(18, pv bxr 0), (19, pv bxr 0)] ?_))
  refine Ok.op rfl (OpOk.i (args := #[pv bxr 0]) 20 [(0, pv bxr 0)] enr Tryz.func74 rfl rfl rfl rfl (Ok.sr ((Ok.op rfl (OpOk.a (z := .agg zK) (cs := zK) kr kr rfl fun o1 => ?_)))))
  refine Ok.nt ((Ok.sr ((Ok.B 1 [(0, pv bxr 0), (2, pv o1 0), (4, pv bxr 0)] kr (Ok.e [2, 0, 1, 3] [.blk bxr (.cells #[.slice k1 ((pekS xr).2).length y1] 59), .blk o1 (.cells zK 78), .blk bs4 (.cells (aK (pekS xr).1) 78), .blk bs2 (.cells #[iv 0, sv ([] : Bs), .int .u8 0, sv ([] : Bs), iv 0, iv 0, .slice none 0 0] 48)] dc rfl (Ok.op rfl (OpOk.callH [_] _ enr rfl (pek_c (pekS xr).2 P0) rfl fun g7 _ _ hx7 hV7 => ?_)))))))
  obtain ⟨M2, N2, rfl, O1, rfl⟩ := hV7
  replace hG0 := hG0.mono hx7.1
  refine Ok.op rfl (OpOk.a (z := .agg zK) (cs := zK) kr kr rfl fun P1 => ?_)
  refine Ok.op rfl (OpOk.sto (k := 4) (v := .agg (aK (pekS (pekS xr).2).1)) 0 (aK (pekS (pekS xr).2).1) rfl rfl rfl ?_)
  refine Ok.nt ((Ok.q (Ok.sr ((Ok.B 1 [(0, pv bxr 0), (2, pv o1 0), (3, pv P1 0), (6, pv P1 0)] kr (Ok.op rfl (OpOk.s (v := iv (pekS (pekS xr).2).1.1) (Yields.l 0 rfl rfl Tryz.underlying3 rfl kr) rfl rfl (Ok.b 1 [0, 2, 3] [(8, .bool ((pekS (pekS xr).2).1.1 == 0))] ?_))))))))
  refine Ok.nt ((Ok.cn hF rfl (fun hc9 => ?_) (fun hc9 => ?_)))
  ·replace hF := hF.1 hc9
   exact False.elim hF
  replace hF := hF.2 hc9
  refine Ok.k (Ok.t (Ok.sr ((Ok.b 4 [2, 3] [(11, pv bxr 0), (14, pv bxr 0)] ?_))))
  refine Ok.op rfl (OpOk.s (v := .slice M2 ((pekS (pekS xr).2).2).length N2) (Yields.l 1 rfl rfl Tryz.underlying56 rfl kr) rfl rfl ?_)
  obtain ⟨h010, h110, h210, hF⟩ := hF
  refine Ok.op rfl (OpOk.sliceRo (e := yK) (l := 1) (h := (((pekS (pekS xr).2).2).length : Int)) rfl Tryz.underlying56 kr (.inl ⟨_, _, rfl, rfl⟩) (.inr ⟨rfl, rfl⟩) O1 h010 h110 h210 rfl (((pekS (pekS xr).2).2).drop (Int.toNat 1)) (by rw [show ((((pekS (pekS xr).2).2).length : Int)).toNat = ((pekS (pekS xr).2).2).length from Int.toNat_natCast _, List.take_length]) fun a10 c10 hR10 => ?_)
  refine Ok.b 2 [2, 3] [(16, .slice a10 (((pekS (pekS xr).2).2).drop (Int.toNat 1)).length c10), (18, pv bxr 0)] ?_
  refine Ok.op rfl (OpOk.sto (k := 1) (v := .slice a10 (((pekS (pekS xr).2).2).drop (Int.toNat 1)).length c10) 1 #[.slice a10 (((pekS (pekS xr).2).2).drop (Int.toNat 1)).length c10] rfl rfl rfl ?_)
  refine Ok.nt ((Ok.sr ((Ok.op rfl (OpOk.s (v := .agg (aK (pekS (pekS xr).2).1)) (Yields.loadAgg 0 4 (aK (pekS (pekS xr).2).1) rfl rfl Tryz.underlying78 rfl kr kr kr) rfl rfl (Ok.op rfl (OpOk.sto (k := 4) (v := .agg (aK (pekS (pekS xr).2).1)) 2 (aK (pekS (pekS xr).2).1) rfl rfl rfl ?_)))))))
  refine Ok.nt ((Ok.ret (Ok.back (vs := [.agg (aK (pekS (pekS xr).2).1)]) (.inl rfl) rfl (.cons (.cellAgg 2 4 (aK (pekS (pekS xr).2).1) rfl rfl Tryz.underlying78 rfl kr kr kr) .nil) rfl (Ok.op rfl (OpOk.i (args := #[pv bxr 0, .agg (aK (pekS (pekS xr).2).1), iv 1, sv ([] : Bs)]) 31 [(0, pv bxr 0), (1, .agg (aK (pekS (pekS xr).2).1)), (2, iv 1), (3, sv ([] : Bs))] enr Tryz.func115 rfl rfl rfl rfl (Ok.sr ((Ok.op rfl (OpOk.box (v := .agg (aK (pekS (pekS xr).2).1)) (cs := (aK (pekS (pekS xr).2).1)) rfl kr rfl fun N0 => ?_)))))))))
  refine Ok.B 1 [(0, pv bxr 0), (2, iv 1), (3, sv ([] : Bs)), (5, pv N0 0)] kr (Ok.nt ((Ok.sr ((Ok.b 2 [2, 3, 5] [(9, pv bxr 0), (10, pv N0 0)] ?_)))))
  refine Ok.op rfl (OpOk.s (v := iv (pekS (pekS xr).2).1.1) (Yields.l 0 rfl rfl Tryz.underlying3 rfl kr) rfl rfl (Ok.b 3 [3, 5, 9] [(14, .bool ((pekS (pekS xr).2).1.1 == 1))] ?_))
  refine Ok.a 14 (((pekS (pekS xr).2).1.1 == 1)) rfl (fun p1 => ?_) (fun p1 => ?_)
  ·replace hF := hF.1 p1
   refine Ok.b 1 [3, 5, 9] [(14, .bool true), (15, pv N0 1)] ?_
   refine Ok.y (j := 5) (d := 14) (want := true) (b := true) rfl kr kr rfl (OpOk.s (v := sv ((pekS (pekS xr).2).1.2.1)) (Yields.l 0 rfl rfl Tryz.underlying9 rfl kr) rfl rfl (Ok.b 2 [5, 9, 14] [(16, sv ((pekS (pekS xr).2).1.2.1)), (17, sv ([] : Bs)), (18, pv N0 2)] ?_))
   refine Ok.y (j := 5) (d := 14) (want := true) (b := true) rfl kr kr rfl (OpOk.s (v := sv ((pekS (pekS xr).2).1.2.2.1)) (Yields.l 0 rfl rfl Tryz.underlying9 rfl kr) rfl rfl ?_)
   obtain ⟨hv, hF⟩ := hF
   refine Ok.y (j := 5) (d := 14) (want := true) (b := true) rfl kr kr rfl (OpOk.s (v := sv (([] : Bs) ++ (pekS (pekS xr).2).1.2.2.1)) (Yields.sa rfl rfl hv) rfl rfl (Ok.y (j := 5) (d := 14) (want := true) (b := true) rfl kr kr rfl (OpOk.s (v := .bool ((pekS (pekS xr).2).1.2.1 == (([] : Bs) ++ (pekS (pekS xr).2).1.2.2.1))) (Yields.sc (f := .eql) (a := (pekS (pekS xr).2).1.2.1) (b := (([] : Bs) ++ (pekS (pekS xr).2).1.2.2.1)) kr kr rfl) rfl rfl (Ok.b 2 [5, 9] [(23, .bool ((pekS (pekS xr).2).1.2.1 == (([] : Bs) ++ (pekS (pekS xr).2).1.2.2.1)))] ?_))))
   refine Ok.a 23 (((pekS (pekS xr).2).1.2.1 == (([] : Bs) ++ (pekS (pekS xr).2).1.2.2.1))) rfl (fun Z2 => ?_) (fun Z2 => ?_)
   ·replace hF := hF.1 Z2
    refine Ok.b 1 [5, 9] [(23, .bool true), (24, pv N0 2)] ?_
    refine Ok.y (j := 14) (d := 23) (want := true) (b := true) rfl kr kr rfl (OpOk.s (v := sv ((pekS (pekS xr).2).1.2.2.1)) (Yields.l 0 rfl rfl Tryz.underlying9 rfl kr) rfl rfl ?_)
    obtain ⟨V2, hF⟩ := hF
    refine Ok.y (j := 14) (d := 23) (want := true) (b := true) rfl kr kr rfl (OpOk.f enr (fun W hW => snm_c (pekS (pekS xr).2).1.2.2.1 (hG0.mono hW.sees) V2) rfl ?_)
    refine Ok.b 1 [5, 9] [(27, .bool (plainS (pekS (pekS xr).2).1.2.2.1))] ?_
    refine Ok.op rfl (OpOk.i (args := #[pv bxr 0, .bool (plainS (pekS (pekS xr).2).1.2.2.1)]) 8 [(0, pv bxr 0), (1, .bool (plainS (pekS (pekS xr).2).1.2.2.1))] enr Tryz.func47 rfl rfl rfl rfl (Ok.sr ((Ok.B 2 [(5, .bool (!(plainS (pekS (pekS xr).2).1.2.2.1)))] kr (Ok.nt ((Ok.cn hF rfl (fun Q2 => ?_) (fun Q2 => ?_))))))))
    ·replace hF := hF.1 Q2
     exact False.elim hF
    replace hF := hF.2 Q2
    refine Ok.k (Ok.back (vs := []) (.inr rfl) rfl .nil rfl (Ok.nt ((Ok.sr ((Ok.B 1 [(29, pv N0 2)] kr (Ok.op rfl (OpOk.s (v := sv ((pekS (pekS xr).2).1.2.2.1)) (Yields.l 0 rfl rfl Tryz.underlying9 rfl kr) rfl rfl (Ok.B 1 [(8, sv ((pekS (pekS xr).2).1.2.2.1))] kr (Ok.nt ((Ok.ret (Ok.back (vs := [sv ((pekS (pekS xr).2).1.2.2.1)]) (.inl rfl) rfl (.cons (.tmp rfl) .nil) rfl ?_)))))))))))))
    obtain ⟨hp16, hF⟩ := hF
    refine Ok.op rfl (OpOk.f enr (fun W hW => slw_c (pekS (pekS xr).2).1.2.2.1 hp16) rfl ?_)
    refine Ok.B 1 [(2, pv bs2 0), (23, .agg #[iv 2, sv (lowerS (pekS (pekS xr).2).1.2.2.1), .int .u8 0, sv ([] : Bs), iv 0, iv 0, .slice none 0 0])] kr (Ok.op rfl (OpOk.sto (k := 7) (v := .agg #[iv 2, sv (lowerS (pekS (pekS xr).2).1.2.2.1), .int .u8 0, sv ([] : Bs), iv 0, iv 0, .slice none 0 0]) 5 #[iv 2, sv (lowerS (pekS (pekS xr).2).1.2.2.1), .int .u8 0, sv ([] : Bs), iv 0, iv 0, .slice none 0 0] rfl rfl rfl ?_))
    refine Ok.b 1 [2] [(3, .bool true)] ?_
    refine Ok.nt ((Ok.ret (Ok.kr (Ok.tr ?_))))
    exact Ok.p (vs := [.agg #[iv 2, sv (lowerS (pekS (pekS xr).2).1.2.2.1), .int .u8 0, sv ([] : Bs), iv 0, iv 0, .slice none 0 0], .bool true]) [2] [.blk bxr (.cells #[.slice a10 (((pekS (pekS xr).2).2).drop (Int.toNat 1)).length c10] 59)] dc rfl (.inl rfl) rfl (.cons (.cellAgg 5 7 #[iv 2, sv (lowerS (pekS (pekS xr).2).1.2.2.1), .int .u8 0, sv ([] : Bs), iv 0, iv 0, .slice none 0 0] rfl rfl Tryz.underlying48 rfl kr kr kr) (.cons (.tmp rfl) .nil)) (hx2.trans hx7) ⟨(Tst.mk (2, (lowerS (pekS (pekS xr).2).1.2.2.1), 0, ([] : Bs), 0, 0) ([])), true, (((pekS (pekS xr).2).2).drop (Int.toNat 1)), none, 0, a10, c10, rfl, Rep.nil, hR10, rfl, hF⟩
   replace hF := hF.2 Z2
   refine Ok.b 4 [5, 9] [(27, .bool false)] ?_
   refine Ok.op rfl (OpOk.i (args := #[pv bxr 0, .bool false]) 8 [(0, pv bxr 0), (1, .bool false)] enr Tryz.func47 rfl rfl rfl rfl (Ok.sr ((Ok.B 2 [(5, .bool true)] kr (Ok.nt ((Ok.c (b := true) rfl (fun _ => ?_) (fun h => by cases h))))))))
   exact False.elim hF
  replace hF := hF.2 p1
  refine Ok.b 13 [5, 9] [(27, .bool false)] ?_
  refine Ok.op rfl (OpOk.i (args := #[pv bxr 0, .bool false]) 8 [(0, pv bxr 0), (1, .bool false)] enr Tryz.func47 rfl rfl rfl rfl (Ok.sr ((Ok.B 2 [(5, .bool true)] kr (Ok.nt ((Ok.c (b := true) rfl (fun _ => ?_) (fun h => by cases h))))))))
  exact False.elim hF
 replace hF := hF.2 hc5
 refine Ok.sr ((Ok.b 1 [0, 2, 4] [(25, pv bs4 0)] ?_))
 refine Ok.op rfl (OpOk.s (v := iv (pekS xr).1.1) (Yields.l 0 rfl rfl Tryz.underlying3 rfl kr) rfl rfl (Ok.b 2 [0, 2, 4] [(24, .bool ((pekS xr).1.1 == 4))] ?_))
 refine Ok.nt ((Ok.cn hF rfl (fun K2 => ?_) (fun K2 => ?_)))
 ·replace hF := hF.1 K2
  exact False.elim hF
 replace hF := hF.2 K2
 refine Ok.sr ((Ok.b 1 [0, 2, 4] [(34, pv bs4 1)] ?_))
 refine Ok.op rfl (OpOk.s (v := sv ((pekS xr).1.2.1)) (Yields.l 0 rfl rfl Tryz.underlying9 rfl kr) rfl rfl (Ok.op rfl (OpOk.s (v := .bool ((pekS xr).1.2.1 == ([46] : Bs))) (Yields.sc (f := .eql) (a := (pekS xr).1.2.1) (b := ([46] : Bs)) kr kr rfl) rfl rfl (Ok.b 1 [0, 2, 4] [(33, .bool ((pekS xr).1.2.1 == ([46] : Bs)))] ?_))))
 refine Ok.nt ((Ok.cn hF rfl (fun C0 => ?_) (fun C0 => ?_)))
 ·replace hF := hF.1 C0
  refine Ok.sr ((Ok.b 1 [0, 2] [(37, pv bxr 0)] ?_))
  refine Ok.op rfl (OpOk.i (args := #[pv bxr 0]) 20 [(0, pv bxr 0)] enr Tryz.func74 rfl rfl rfl rfl (Ok.sr ((Ok.op rfl (OpOk.a (z := .agg zK) (cs := zK) kr kr rfl fun b1 => ?_)))))
  refine Ok.nt ((Ok.sr ((Ok.b 1 [0] [(2, pv b1 0), (4, pv bxr 0)] ?_))))
  refine Ok.e [2, 0, 1, 3] [.blk bxr (.cells #[.slice k1 ((pekS xr).2).length y1] 59), .blk b1 (.cells zK 78), .blk bs4 (.cells (aK (pekS xr).1) 78), .blk bs2 (.cells #[iv 0, sv ([] : Bs), .int .u8 0, sv ([] : Bs), iv 0, iv 0, .slice none 0 0] 48)] dc rfl (Ok.op rfl (OpOk.callH [_] _ enr rfl (pek_c (pekS xr).2 P0) rfl fun g20 _ _ c1 Y2 => ?_))
  obtain ⟨T1, L1, rfl, t1, rfl⟩ := Y2
  replace hG0 := hG0.mono c1.1
  refine Ok.op rfl (OpOk.a (z := .agg zK) (cs := zK) kr kr rfl fun a1 => ?_)
  refine Ok.op rfl (OpOk.sto (k := 4) (v := .agg (aK (pekS (pekS xr).2).1)) 0 (aK (pekS (pekS xr).2).1) rfl rfl rfl ?_)
  refine Ok.nt ((Ok.q (Ok.sr ((Ok.B 1 [(0, pv bxr 0), (2, pv b1 0), (3, pv a1 0), (6, pv a1 0)] kr (Ok.op rfl (OpOk.s (v := iv (pekS (pekS xr).2).1.1) (Yields.l 0 rfl rfl Tryz.underlying3 rfl kr) rfl rfl (Ok.b 1 [0, 2, 3] [(8, .bool ((pekS (pekS xr).2).1.1 == 0))] ?_))))))))
  refine Ok.nt ((Ok.cn hF rfl (fun i1 => ?_) (fun i1 => ?_)))
  ·replace hF := hF.1 i1
   exact False.elim hF
  replace hF := hF.2 i1
  refine Ok.k (Ok.t (Ok.sr ((Ok.b 4 [2, 3] [(11, pv bxr 0), (14, pv bxr 0)] ?_))))
  refine Ok.op rfl (OpOk.s (v := .slice T1 ((pekS (pekS xr).2).2).length L1) (Yields.l 1 rfl rfl Tryz.underlying56 rfl kr) rfl rfl ?_)
  obtain ⟨U2, J2, W2, hF⟩ := hF
  refine Ok.op rfl (OpOk.sliceRo (e := yK) (l := 1) (h := (((pekS (pekS xr).2).2).length : Int)) rfl Tryz.underlying56 kr (.inl ⟨_, _, rfl, rfl⟩) (.inr ⟨rfl, rfl⟩) t1 U2 J2 W2 rfl (((pekS (pekS xr).2).2).drop (Int.toNat 1)) (by rw [show ((((pekS (pekS xr).2).2).length : Int)).toNat = ((pekS (pekS xr).2).2).length from Int.toNat_natCast _, List.take_length]) fun a23 c23 X2 => ?_)
  refine Ok.b 2 [2, 3] [(16, .slice a23 (((pekS (pekS xr).2).2).drop (Int.toNat 1)).length c23), (18, pv bxr 0)] ?_
  refine Ok.op rfl (OpOk.sto (k := 1) (v := .slice a23 (((pekS (pekS xr).2).2).drop (Int.toNat 1)).length c23) 1 #[.slice a23 (((pekS (pekS xr).2).2).drop (Int.toNat 1)).length c23] rfl rfl rfl ?_)
  refine Ok.nt ((Ok.sr ((Ok.op rfl (OpOk.s (v := .agg (aK (pekS (pekS xr).2).1)) (Yields.loadAgg 0 4 (aK (pekS (pekS xr).2).1) rfl rfl Tryz.underlying78 rfl kr kr kr) rfl rfl (Ok.op rfl (OpOk.sto (k := 4) (v := .agg (aK (pekS (pekS xr).2).1)) 2 (aK (pekS (pekS xr).2).1) rfl rfl rfl ?_)))))))
  refine Ok.nt ((Ok.ret (Ok.back (vs := [.agg (aK (pekS (pekS xr).2).1)]) (.inl rfl) rfl (.cons (.cellAgg 2 4 (aK (pekS (pekS xr).2).1) rfl rfl Tryz.underlying78 rfl kr kr kr) .nil) rfl (Ok.nt ((Ok.sr ((Ok.B 2 [(2, pv bs2 0), (39, pv bxr 0), (40, pv bxr 0)] kr (Ok.op rfl (OpOk.i (args := #[pv bxr 0]) 20 [(0, pv bxr 0)] enr Tryz.func74 rfl rfl rfl rfl (Ok.sr ((Ok.op rfl (OpOk.a (z := .agg zK) (cs := zK) kr kr rfl fun Z1 => ?_))))))))))))))
  refine Ok.nt ((Ok.sr ((Ok.B 1 [(0, pv bxr 0), (2, pv Z1 0), (4, pv bxr 0)] kr (Ok.e [2, 0, 1, 3, 4, 5] [.blk bxr (.cells #[.slice a23 (((pekS (pekS xr).2).2).drop (Int.toNat 1)).length c23] 59), .blk Z1 (.cells zK 78), .blk a1 (.cells (aK (pekS (pekS xr).2).1) 78), .blk b1 (.cells (aK (pekS (pekS xr).2).1) 78), .blk bs4 (.cells (aK (pekS xr).1) 78), .blk bs2 (.cells #[iv 0, sv ([] : Bs), .int .u8 0, sv ([] : Bs), iv 0, iv 0, .slice none 0 0] 48)] dc rfl (Ok.op rfl (OpOk.callH [_] _ enr rfl (pek_c (((pekS (pekS xr).2).2).drop (Int.toNat 1)) X2) rfl fun g25 _ _ O2 hV25 => ?_)))))))
  obtain ⟨a25_0, c25_0, rfl, hR25_0, rfl⟩ := hV25
  replace hG0 := hG0.mono O2.1
  refine Ok.op rfl (OpOk.a (z := .agg zK) (cs := zK) kr kr rfl fun A1 => ?_)
  refine Ok.op rfl (OpOk.sto (k := 4) (v := .agg #[iv (pekS (((pekS (pekS xr).2).2).drop (Int.toNat 1))).1.1, sv ((pekS (((pekS (pekS xr).2).2).drop (Int.toNat 1))).1.2.1), sv ((pekS (((pekS (pekS xr).2).2).drop (Int.toNat 1))).1.2.2.1), iv (pekS (((pekS (pekS xr).2).2).drop (Int.toNat 1))).1.2.2.2]) 0 #[iv (pekS (((pekS (pekS xr).2).2).drop (Int.toNat 1))).1.1, sv ((pekS (((pekS (pekS xr).2).2).drop (Int.toNat 1))).1.2.1), sv ((pekS (((pekS (pekS xr).2).2).drop (Int.toNat 1))).1.2.2.1), iv (pekS (((pekS (pekS xr).2).2).drop (Int.toNat 1))).1.2.2.2] rfl rfl rfl ?_)
  refine Ok.nt ((Ok.q (Ok.sr ((Ok.B 1 [(0, pv bxr 0), (2, pv Z1 0), (3, pv A1 0), (6, pv A1 0)] kr (Ok.op rfl (OpOk.s (v := iv (pekS (((pekS (pekS xr).2).2).drop (Int.toNat 1))).1.1) (Yields.l 0 rfl rfl Tryz.underlying3 rfl kr) rfl rfl (Ok.b 1 [0, 2, 3] [(8, .bool ((pekS (((pekS (pekS xr).2).2).drop (Int.toNat 1))).1.1 == 0))] ?_))))))))
  refine Ok.nt ((Ok.cn hF rfl (fun S2 => ?_) (fun S2 => ?_)))
  ·replace hF := hF.1 S2
   exact False.elim hF
  replace hF := hF.2 S2
  refine Ok.k (Ok.t (Ok.sr ((Ok.b 4 [2, 3] [(11, pv bxr 0), (14, pv bxr 0)] ?_))))
  refine Ok.op rfl (OpOk.s (v := .slice a25_0 ((pekS (((pekS (pekS xr).2).2).drop (Int.toNat 1))).2).length c25_0) (Yields.l 1 rfl rfl Tryz.underlying56 rfl kr) rfl rfl ?_)
  obtain ⟨h028, h128, h228, hF⟩ := hF
  refine Ok.op rfl (OpOk.sliceRo (e := yK) (l := 1) (h := (((pekS (((pekS (pekS xr).2).2).drop (Int.toNat 1))).2).length : Int)) rfl Tryz.underlying56 kr (.inl ⟨_, _, rfl, rfl⟩) (.inr ⟨rfl, rfl⟩) hR25_0 h028 h128 h228 rfl (((pekS (((pekS (pekS xr).2).2).drop (Int.toNat 1))).2).drop (Int.toNat 1)) (by rw [show ((((pekS (((pekS (pekS xr).2).2).drop (Int.toNat 1))).2).length : Int)).toNat = ((pekS (((pekS (pekS xr).2).2).drop (Int.toNat 1))).2).length from Int.toNat_natCast _, List.take_length]) fun a28 c28 hR28 => ?_)
  refine Ok.b 2 [2, 3] [(16, .slice a28 (((pekS (((pekS (pekS xr).2).2).drop (Int.toNat 1))).2).drop (Int.toNat 1)).length c28), (18, pv bxr 0)] ?_
  refine Ok.op rfl (OpOk.sto (k := 1) (v := .slice a28 (((pekS (((pekS (pekS xr).2).2).drop (Int.toNat 1))).2).drop (Int.toNat 1)).length c28) 1 #[.slice a28 (((pekS (((pekS (pekS xr).2).2).drop (Int.toNat 1))).2).drop (Int.toNat 1)).length c28] rfl rfl rfl ?_)
  refine Ok.nt ((Ok.sr ((Ok.op rfl (OpOk.s (v := .agg #[iv (pekS (((pekS (pekS xr).2).2).drop (Int.toNat 1))).1.1, sv ((pekS (((pekS (pekS xr).2).2).drop (Int.toNat 1))).1.2.1), sv ((pekS (((pekS (pekS xr).2).2).drop (Int.toNat 1))).1.2.2.1), iv (pekS (((pekS (pekS xr).2).2).drop (Int.toNat 1))).1.2.2.2]) (Yields.loadAgg 0 4 #[iv (pekS (((pekS (pekS xr).2).2).drop (Int.toNat 1))).1.1, sv ((pekS (((pekS (pekS xr).2).2).drop (Int.toNat 1))).1.2.1), sv ((pekS (((pekS (pekS xr).2).2).drop (Int.toNat 1))).1.2.2.1), iv (pekS (((pekS (pekS xr).2).2).drop (Int.toNat 1))).1.2.2.2] rfl rfl Tryz.underlying78 rfl kr kr kr) rfl rfl (Ok.op rfl (OpOk.sto (k := 4) (v := .agg #[iv (pekS (((pekS (pekS xr).2).2).drop (Int.toNat 1))).1.1, sv ((pekS (((pekS (pekS xr).2).2).drop (Int.toNat 1))).1.2.1), sv ((pekS (((pekS (pekS xr).2).2).drop (Int.toNat 1))).1.2.2.1), iv (pekS (((pekS (pekS xr).2).2).drop (Int.toNat 1))).1.2.2.2]) 2 #[iv (pekS (((pekS (pekS xr).2).2).drop (Int.toNat 1))).1.1, sv ((pekS (((pekS (pekS xr).2).2).drop (Int.toNat 1))).1.2.1), sv ((pekS (((pekS (pekS xr).2).2).drop (Int.toNat 1))).1.2.2.1), iv (pekS (((pekS (pekS xr).2).2).drop (Int.toNat 1))).1.2.2.2] rfl rfl rfl ?_)))))))
  refine Ok.nt ((Ok.ret (Ok.back (vs := [.agg #[iv (pekS (((pekS (pekS xr).2).2).drop (Int.toNat 1))).1.1, sv ((pekS (((pekS (pekS xr).2).2).drop (Int.toNat 1))).1.2.1), sv ((pekS (((pekS (pekS xr).2).2).drop (Int.toNat 1))).1.2.2.1), iv (pekS (((pekS (pekS xr).2).2).drop (Int.toNat 1))).1.2.2.2]]) (.inl rfl) rfl (.cons (.cellAgg 2 4 #[iv (pekS (((pekS (pekS xr).2).2).drop (Int.toNat 1))).1.1, sv ((pekS (((pekS (pekS xr).2).2).drop (Int.toNat 1))).1.2.1), sv ((pekS (((pekS (pekS xr).2).2).drop (Int.toNat 1))).1.2.2.1), iv (pekS (((pekS (pekS xr).2).2).drop (Int.toNat 1))).1.2.2.2] rfl rfl Tryz.underlying78 rfl kr kr kr) .nil) rfl (Ok.op rfl (OpOk.i (args := #[pv bxr 0, .agg #[iv (pekS (((pekS (pekS xr).2).2).drop (Int.toNat 1))).1.1, sv ((pekS (((pekS (pekS xr).2).2).drop (Int.toNat 1))).1.2.1), sv ((pekS (((pekS (pekS xr).2).2).drop (Int.toNat 1))).1.2.2.1), iv (pekS (((pekS (pekS xr).2).2).drop (Int.toNat 1))).1.2.2.2], iv 1, sv ([] : Bs)]) 31 [(0, pv bxr 0), (1, .agg #[iv (pekS (((pekS (pekS xr).2).2).drop (Int.toNat 1))).1.1, sv ((pekS (((pekS (pekS xr).2).2).drop (Int.toNat 1))).1.2.1), sv ((pekS (((pekS (pekS xr).2).2).drop (Int.toNat 1))).1.2.2.1), iv (pekS (((pekS (pekS xr).2).2).drop (Int.toNat 1))).1.2.2.2]), (2, iv 1), (3, sv ([] : Bs))] enr Tryz.func115 rfl rfl rfl rfl (Ok.sr ((Ok.op rfl (OpOk.box (v := .agg #[iv (pekS (((pekS (pekS xr).2).2).drop (Int.toNat 1))).1.1, sv ((pekS (((pekS (pekS xr).2).2).drop (Int.toNat 1))).1.2.1), sv ((pekS (((pekS (pekS xr).2).2).drop (Int.toNat 1))).1.2.2.1), iv (pekS (((pekS (pekS xr).2).2).drop (Int.toNat 1))).1.2.2.2]) (cs := #[iv (pekS (((pekS (pekS xr).2).2).drop (Int.toNat 1))).1.1, sv ((pekS (((pekS (pekS xr).2).2).drop (Int.toNat 1))).1.2.1), sv ((pekS (((pekS (pekS xr).2).2).drop (Int.toNat 1))).1.2.2.1), iv (pekS (((pekS (pekS xr).2).2).drop (Int.toNat 1))).1.2.2.2]) rfl kr rfl fun O0 => ?_)))))))))
  refine Ok.B 1 [(0, pv bxr 0), (2, iv 1), (3, sv ([] : Bs)), (5, pv O0 0)] kr (Ok.nt ((Ok.sr ((Ok.b 2 [2, 3, 5] [(9, pv bxr 0), (10, pv O0 0)] ?_)))))
  refine Ok.op rfl (OpOk.s (v := iv (pekS (((pekS (pekS xr).2).2).drop (Int.toNat 1))).1.1) (Yields.l 0 rfl rfl Tryz.underlying3 rfl kr) rfl rfl (Ok.b 3 [3, 5, 9] [(14, .bool ((pekS (((pekS (pekS xr).2).2).drop (Int.toNat 1))).1.1 == 1))] ?_))
  refine Ok.a 14 (((pekS (((pekS (pekS xr).2).2).drop (Int.toNat 1))).1.1 == 1)) rfl (fun B2 => ?_) (fun B2 => ?_)
  ·replace hF := hF.1 B2
   refine Ok.b 1 [3, 5, 9] [(14, .bool true), (15, pv O0 1)] ?_
   refine Ok.y (j := 5) (d := 14) (want := true) (b := true) rfl kr kr rfl (OpOk.s (v := sv ((pekS (((pekS (pekS xr).2).2).drop (Int.toNat 1))).1.2.1)) (Yields.l 0 rfl rfl Tryz.underlying9 rfl kr) rfl rfl (Ok.b 2 [5, 9, 14] [(16, sv ((pekS (((pekS (pekS xr).2).2).drop (Int.toNat 1))).1.2.1)), (17, sv ([] : Bs)), (18, pv O0 2)] ?_))
   refine Ok.y (j := 5) (d := 14) (want := true) (b := true) rfl kr kr rfl (OpOk.s (v := sv ((pekS (((pekS (pekS xr).2).2).drop (Int.toNat 1))).1.2.2.1)) (Yields.l 0 rfl rfl Tryz.underlying9 rfl kr) rfl rfl ?_)
   obtain ⟨hv, hF⟩ := hF
   refine Ok.y (j := 5) (d := 14) (want := true) (b := true) rfl kr kr rfl (OpOk.s (v := sv (([] : Bs) ++ (pekS (((pekS (pekS xr).2).2).drop (Int.toNat 1))).1.2.2.1)) (Yields.sa rfl rfl hv) rfl rfl (Ok.y (j := 5) (d := 14) (want := true) (b := true) rfl kr kr rfl (OpOk.s (v := .bool ((pekS (((pekS (pekS xr).2).2).drop (Int.toNat 1))).1.2.1 == (([] : Bs) ++ (pekS (((pekS (pekS xr).2).2).drop (Int.toNat 1))).1.2.2.1))) (Yields.sc (f := .eql) (a := (pekS (((pekS (pekS xr).2).2).drop (Int.toNat 1))).1.2.1) (b := (([] : Bs) ++ (pekS (((pekS (pekS xr).2).2).drop (Int.toNat 1))).1.2.2.1)) kr kr rfl) rfl rfl (Ok.b 2 [5, 9] [(23, .bool ((pekS (((pekS (pekS xr).2).2).drop (Int.toNat 1))).1.2.1 == (([] : Bs) ++ (pekS (((pekS (pekS xr).2).2).drop (Int.toNat 1))).1.2.2.1)))] ?_))))
   refine Ok.a 23 (((pekS (((pekS (pekS xr).2).2).drop (Int.toNat 1))).1.2.1 == (([] : Bs) ++ (pekS (((pekS (pekS xr).2).2).drop (Int.toNat 1))).1.2.2.1))) rfl (fun C2 => ?_) (fun C2 => ?_)
   ·replace hF := hF.1 C2
    refine Ok.b 1 [5, 9] [(23, .bool true), (24, pv O0 2)] ?_
    refine Ok.y (j := 14) (d := 23) (want := true) (b := true) rfl kr kr rfl (OpOk.s (v := sv ((pekS (((pekS (pekS xr).2).2).drop (Int.toNat 1))).1.2.2.1)) (Yields.l 0 rfl rfl Tryz.underlying9 rfl kr) rfl rfl ?_)
    obtain ⟨hp32, hF⟩ := hF
    refine Ok.y (j := 14) (d := 23) (want := true) (b := true) rfl kr kr rfl (OpOk.f enr (fun W hW => snm_c (pekS (((pekS (pekS xr).2).2).drop (Int.toNat 1))).1.2.2.1 (hG0.mono hW.sees) hp32) rfl ?_)
    refine Ok.b 1 [5, 9] [(27, .bool (plainS (pekS (((pekS (pekS xr).2).2).drop (Int.toNat 1))).1.2.2.1))] ?_
    refine Ok.op rfl (OpOk.i (args := #[pv bxr 0, .bool (plainS (pekS (((pekS (pekS xr).2).2).drop (Int.toNat 1))).1.2.2.1)]) 8 [(0, pv bxr 0), (1, .bool (plainS (pekS (((pekS (pekS xr).2).2).drop (Int.toNat 1))).1.2.2.1))] enr Tryz.func47 rfl rfl rfl rfl (Ok.sr ((Ok.B 2 [(5, .bool (!(plainS (pekS (((pekS (pekS xr).2).2).drop (Int.toNat 1))).1.2.2.1)))] kr (Ok.nt ((Ok.cn hF rfl (fun z1 => ?_) (fun z1 => ?_))))))))
    ·replace hF := hF.1 z1
     exact False.elim hF
    replace hF := hF.2 z1
    refine Ok.k (Ok.back (vs := []) (.inr rfl) rfl .nil rfl (Ok.nt ((Ok.sr ((Ok.B 1 [(29, pv O0 2)] kr (Ok.op rfl (OpOk.s (v := sv ((pekS (((pekS (pekS xr).2).2).drop (Int.toNat 1))).1.2.2.1)) (Yields.l 0 rfl rfl Tryz.underlying9 rfl kr) rfl rfl (Ok.B 1 [(8, sv ((pekS (((pekS (pekS xr).2).2).drop (Int.toNat 1))).1.2.2.1))] kr (Ok.nt ((Ok.ret (Ok.back (vs := [sv ((pekS (((pekS (pekS xr).2).2).drop (Int.toNat 1))).1.2.2.1)]) (.inl rfl) rfl (.cons (.tmp rfl) .nil) rfl (Ok.B 1 [(2, pv bs2 0), (43, .agg #[iv 4, sv ((pekS (((pekS (pekS xr).2).2).drop (Int.toNat 1))).1.2.2.1), .int .u8 0, sv ([] : Bs), iv 0, iv 0, .slice none 0 0])] kr (Ok.op rfl (OpOk.sto (k := 7) (v := .agg #[iv 4, sv ((pekS (((pekS (pekS xr).2).2).drop (Int.toNat 1))).1.2.2.1), .int .u8 0, sv ([] : Bs), iv 0, iv 0, .slice none 0 0]) 7 #[iv 4, sv ((pekS (((pekS (pekS xr).2).2).drop (Int.toNat 1))).1.2.2.1), .int .u8 0, sv ([] : Bs), iv 0, iv 0, .slice none 0 0] rfl rfl rfl ?_))))))))))))))))
    refine Ok.b 1 [2] [(3, .bool true)] ?_
    refine Ok.nt ((Ok.ret (Ok.kr (Ok.tr ?_))))
    exact Ok.p (vs := [.agg #[iv 4, sv ((pekS (((pekS (pekS xr).2).2).drop (Int.toNat 1))).1.2.2.1), .int .u8 0, sv ([] : Bs), iv 0, iv 0, .slice none 0 0], .bool true]) [2] [.blk bxr (.cells #[.slice a28 (((pekS (((pekS (pekS xr).2).2).drop (Int.toNat 1))).2).drop (Int.toNat 1)).length c28] 59)] dc rfl (.inl rfl) rfl (.cons (.cellAgg 7 7 #[iv 4, sv ((pekS (((pekS (pekS xr).2).2).drop (Int.toNat 1))).1.2.2.1), .int .u8 0, sv ([] : Bs), iv 0, iv 0, .slice none 0 0] rfl rfl Tryz.underlying48 rfl kr kr kr) (.cons (.tmp rfl) .nil)) ((hx2.trans c1).trans O2) ⟨(Tst.mk (4, (pekS (((pekS (pekS xr).2).2).drop (Int.toNat 1))).1.2.2.1, 0, ([] : Bs), 0, 0) ([])), true, (((pekS (((pekS (pekS xr).2).2).drop (Int.toNat 1))).2).drop (Int.toNat 1)), none, 0, a28, c28, rfl, Rep.nil, hR28, rfl, hF⟩
   replace hF := hF.2 C2
   refine Ok.b 4 [5, 9] [(27, .bool false)] ?_
   refine Ok.op rfl (OpOk.i (args := #[pv bxr 0, .bool false]) 8 [(0, pv bxr 0), (1, .bool false)] enr Tryz.func47 rfl rfl rfl rfl (Ok.sr ((Ok.B 2 [(5, .bool true)] kr (Ok.nt ((Ok.c (b := true) rfl (fun _ => ?_) (fun h => by cases h))))))))
   exact False.elim hF
  replace hF := hF.2 B2
  refine Ok.b 13 [5, 9] [(27, .bool false)] ?_
  refine Ok.op rfl (OpOk.i (args := #[pv bxr 0, .bool false]) 8 [(0, pv bxr 0), (1, .bool false)] enr Tryz.func47 rfl rfl rfl rfl (Ok.sr ((Ok.B 2 [(5, .bool true)] kr (Ok.nt ((Ok.c (b := true) rfl (fun _ => ?_) (fun h => by cases h))))))))
  exact False.elim hF
 replace hF := hF.2 C0
 refine Ok.sr ((Ok.b 1 [0, 2, 4] [(45, pv bs4 1)] ?_))
 refine Ok.op rfl (OpOk.s (v := sv ((pekS xr).1.2.1)) (Yields.l 0 rfl rfl Tryz.underlying9 rfl kr) rfl rfl (Ok.op rfl (OpOk.s (v := .bool ((pekS xr).1.2.1 == ([91] : Bs))) (Yields.sc (f := .eql) (a := (pekS xr).1.2.1) (b := ([91] : Bs)) kr kr rfl) rfl rfl (Ok.b 1 [0, 2, 4] [(44, .bool ((pekS xr).1.2.1 == ([91] : Bs)))] ?_))))
 refine Ok.nt ((Ok.cn hF rfl (fun u1 => ?_) (fun u1 => ?_)))
 ·replace hF := hF.1 u1
  exact False.elim hF
 replace hF := hF.2 u1
 refine Ok.sr ((Ok.b 1 [0, 2] [(53, pv bs4 1)] ?_))
 refine Ok.op rfl (OpOk.s (v := sv ((pekS xr).1.2.1)) (Yields.l 0 rfl rfl Tryz.underlying9 rfl kr) rfl rfl (Ok.op rfl (OpOk.s (v := .bool ((pekS xr).1.2.1 == ([58] : Bs))) (Yields.sc (f := .eql) (a := (pekS xr).1.2.1) (b := ([58] : Bs)) kr kr rfl) rfl rfl (Ok.b 1 [0, 2] [(52, .bool ((pekS xr).1.2.1 == ([58] : Bs)))] ?_))))
 refine Ok.nt ((Ok.cn hF rfl (fun d1 => ?_) (fun d1 => ?_)))
 ·replace hF := hF.1 d1
  exact False.elim hF
 replace hF := hF.2 d1
 refine Ok.k (Ok.kn (Ok.t (Ok.sr ((Ok.b 1 [2] [(60, .agg #[iv 0, sv ([] : Bs), .int .u8 0, sv ([] : Bs), iv 0, iv 0, .slice none 0 0])] ?_)))))
 refine Ok.op rfl (OpOk.sto (k := 7) (v := .agg #[iv 0, sv ([] : Bs), .int .u8 0, sv ([] : Bs), iv 0, iv 0, .slice none 0 0]) 2 #[iv 0, sv ([] : Bs), .int .u8 0, sv ([] : Bs), iv 0, iv 0, .slice none 0 0] rfl rfl rfl ?_)
 refine Ok.b 1 [2] [(3, .bool false)] ?_
 refine Ok.nt ((Ok.ret ?_))
 exact Ok.p (vs := [.agg #[iv 0, sv ([] : Bs), .int .u8 0, sv ([] : Bs), iv 0, iv 0, .slice none 0 0], .bool false]) [1] [.blk bxr (.cells #[.slice k1 ((pekS xr).2).length y1] 59)] dc rfl (.inl rfl) rfl (.cons (.cellAgg 2 7 #[iv 0, sv ([] : Bs), .int .u8 0, sv ([] : Bs), iv 0, iv 0, .slice none 0 0] rfl rfl Tryz.underlying48 rfl kr kr kr) (.cons (.tmp rfl) .nil)) hx2 ⟨(Tst.mk (0, ([] : Bs), 0, ([] : Bs), 0, 0) ([])), false, (pekS xr).2, none, 0, k1, y1, rfl, Rep.nil, P0, rfl, hF⟩
def kA : Tok := (1, [97], [97], 0)
def kS : Tok := (8, [32], [], 0)
def kG : Tok := (12, [62], [], 0)
def kD : Tok := (12, [46], [], 0)
def kB : Tok := (1, [98], [98], 0)
def R0 : Rd := [kA, kS, kG, kS, kD, kB]
def R1 : Rd := [kS, kG, kS, kD, kB]
def R3 : Rd := [kD, kB]
def tA : Ts := .mk (2, [97], 0, [], 0, 0) []
def tB : Ts := .mk (4, [98], 0, [], 0, 0) []
def tN : Ts := .mk (0, [], 0, [], 0, 0) []
def oneP (r : Rd) : Prop := r = R0 ∨ r = R1 ∨ r = R3 ∨ r = []
def oneR (r : Rd) : Ts × Bool × Rd := if r = R0 then (tA, true, R1) else if r = R3 then (tB, true, []) else (tN, false, r)
theorem pa : plainS [97] = true := by decide +kernel
theorem pb : plainS [98] = true := by decide +kernel
theorem one_F (r : Rd) (hp : oneP r) : oneF r (fun a b c => (a, b, c) = oneR r) := by
 rcases hp with rfl | rfl | rfl | rfl
 ·exact ⟨fun h => absurd h dk, fun _ => ⟨fun _ => ⟨fun h => absurd h dk, fun _ => ⟨by decide, by decide +kernel, by decide +kernel, fun _ => ⟨by decide +kernel, fun _ => ⟨by unfold cutP; decide +kernel, fun h => absurd h (by rw [show plainS (pekS (pekS R0).2).1.2.2.1 = true from pa]; decide), fun _ => ⟨by unfold lowerP; decide +kernel, by show _ = _; kernel_rfl⟩⟩, fun h => absurd h dk⟩, fun h => absurd h dk⟩⟩, fun h => absurd h dk⟩⟩
 ·exact ⟨fun h => absurd h dk, fun _ => ⟨fun h => absurd h dk, fun _ => ⟨fun h => absurd h dk, fun _ => ⟨fun h => absurd h dk, fun _ => ⟨fun h => absurd h dk, fun _ => ⟨fun h => absurd h dk, fun _ => by show _ = _; kernel_rfl⟩⟩⟩⟩⟩⟩
 ·exact ⟨fun h => absurd h dk, fun _ => ⟨fun h => absurd h dk, fun _ => ⟨fun h => absurd h dk, fun _ => ⟨fun _ => ⟨fun h => absurd h dk, fun _ => ⟨by decide, by decide +kernel, by decide +kernel, fun h => absurd h dk, fun _ => ⟨by decide, by decide +kernel, by decide +kernel, fun _ => ⟨by decide +kernel, fun _ => ⟨by unfold cutP; decide +kernel, fun h => absurd h (by rw [show plainS (pekS (((pekS (pekS R3).2).2).drop (Int.toNat 1))).1.2.2.1 = true from pb]; decide), fun _ => by show _ = _; kernel_rfl⟩, fun h => absurd h dk⟩, fun h => absurd h dk⟩⟩⟩, fun h => absurd h dk⟩⟩⟩⟩
 exact ⟨fun h => absurd h dk, fun _ => ⟨fun h => absurd h dk, fun _ => ⟨fun h => absurd h dk, fun _ => ⟨fun h => absurd h dk, fun _ => ⟨fun h => absurd h dk, fun _ => ⟨fun h => absurd h dk, fun _ => by show _ = _; kernel_rfl⟩⟩⟩⟩⟩⟩
theorem one_c {g : Ghost} {bxr : Nat} {axr_0 : Option Addr} {cxr_0 : Nat} (xr : List KT) (hRxr_0 : Rep g (.slice yK) [.slice axr_0 xr.length cxr_0] xr) (hG0 : SomeInt g 0)  (hp : oneP xr) : CallsH Tryz.prog 101 #[pv bxr 0] g [.blk bxr (.cells #[.slice axr_0 xr.length cxr_0] 59)] (fun g' H' v => ∃ (Z0 : Option Addr) (V0 : Nat), ∃ (afxr_0 : Option Addr) (cfxr_0 : Nat), v = .tuple #[.agg #[iv ((oneR xr).1).lab.1, sv (((oneR xr).1).lab.2.1), .int .u8 ((oneR xr).1).lab.2.2.1, sv (((oneR xr).1).lab.2.2.2.1), iv ((oneR xr).1).lab.2.2.2.2.1, iv ((oneR xr).1).lab.2.2.2.2.2, .slice Z0 ((oneR xr).1).kids.length V0], .bool (oneR xr).2.1] ∧ Rep g' (.slice yP) [.slice Z0 ((oneR xr).1).kids.length V0] ((oneR xr).1).kids ∧ Rep g' (.slice yK) [.slice afxr_0 ((oneR xr).2.2).length cfxr_0] (oneR xr).2.2 ∧ H' = [.blk bxr (.cells #[.slice afxr_0 ((oneR xr).2.2).length cfxr_0] 59)]) :=
 (one_ok xr hRxr_0 hG0 _ (one_F xr hp)).mono (by rintro g' H' v _ ⟨r0, r1, fxr, Z0, V0, afxr_0, cfxr_0, rfl, B0, hRfxr_0, rfl, hK⟩; obtain ⟨rfl, rfl, rfl⟩ : r0 = (oneR xr).1 ∧ r1 = (oneR xr).2.1 ∧ fxr = (oneR xr).2.2 := ⟨congrArg (fun z => z.1) hK, congrArg (fun z => z.2.1) hK, congrArg (fun z => z.2.2) hK⟩; exact ⟨Z0, V0, afxr_0, cfxr_0, rfl, B0, hRfxr_0, rfl⟩)
def stpl9b (K : (List TS) → (List KT) → Prop) (j1 : Bool) (q0 : Int) (x0 : Bs) (j0 : Int) (u0 : Bs) (s0 : Int) (b0 : Int) (e0 : List PH) (ybxr_0l9 : List KT) (g0 : List TS) (C9 : Bool → Int → Bs → Int → Bs → Int → Int → (List PH) → (List KT) → (List TS) → Prop) : Prop :=
 ((j1) = true → (g0 ++ ([(Tst.mk (q0, x0, j0, u0, s0, b0) e0)] : List TS)).length ≤ 1599289640401 ∧ oneP ybxr_0l9 ∧ C9 (oneR ybxr_0l9).2.1 (((oneR ybxr_0l9).1).lab.1) (((oneR ybxr_0l9).1).lab.2.1) (((oneR ybxr_0l9).1).lab.2.2.1) (((oneR ybxr_0l9).1).lab.2.2.2.1) (((oneR ybxr_0l9).1).lab.2.2.2.2.1) (((oneR ybxr_0l9).1).lab.2.2.2.2.2) (((oneR ybxr_0l9).1).kids) (oneR ybxr_0l9).2.2 (g0 ++ ([(Tst.mk (q0, x0, j0, u0, s0, b0) e0)] : List TS))) ∧ ((j1) = false → ((!(decide ((g0.length : Int) > 0))) = true → False) ∧ ((!(decide ((g0.length : Int) > 0))) = false → K g0 ybxr_0l9))
def stpl9 (K : (List TS) → (List KT) → Prop) : Nat → Bool → Int → Bs → Int → Bs → Int → Int → (List PH) → (List KT) → (List TS) → Prop
 | 0, _, _, _, _, _, _, _, _, _, _ => False
 | k + 1, j1, q0, x0, j0, u0, s0, b0, e0, ybxr_0l9, g0 => stpl9b K j1 q0 x0 j0 u0 s0 b0 e0 ybxr_0l9 g0 (stpl9 K k)
def stpF (xr : List KT) (K : (List TS) → (List KT) → Prop) : Prop :=
 oneP xr ∧ ∃ k, stpl9 K k (oneR xr).2.1 (((oneR xr).1).lab.1) (((oneR xr).1).lab.2.1) (((oneR xr).1).lab.2.2.1) (((oneR xr).1).lab.2.2.2.1) (((oneR xr).1).lab.2.2.2.2.1) (((oneR xr).1).lab.2.2.2.2.2) (((oneR xr).1).kids) (oneR xr).2.2 ([] : List TS)
theorem stp_ok {g : Ghost} {bxr : Nat} {axr_0 : Option Addr} {cxr_0 : Nat} (xr : List KT) (hRxr_0 : Rep g (.slice yK) [.slice axr_0 xr.length cxr_0] xr) (hG0 : SomeInt g 0) (K : (List TS) → (List KT) → Prop)
  (hF : stpF xr K) : CallsH Tryz.prog 73 #[pv bxr 0] g [.blk bxr (.cells #[.slice axr_0 xr.length cxr_0] 59)] (fun g' H' v => ∃ (r0 : List TS), ∃ (fxr : List KT), ∃ (Z0 : Option Addr) (V0 : Nat), ∃ (afxr_0 : Option Addr) (cfxr_0 : Nat), v = .slice Z0 r0.length V0 ∧ Rep g' (.slice yS) [.slice Z0 r0.length V0] r0 ∧ Rep g' (.slice yK) [.slice afxr_0 fxr.length cfxr_0] fxr ∧ H' = [.blk bxr (.cells #[.slice afxr_0 fxr.length cfxr_0] 59)] ∧ K r0 fxr) := by
 refine CallsH.enter 28 [(0, pv bxr 0)] Tryz.func73 rfl kr kr kr fun w0 => ?_
 refine Ok.sr ((Ok.B 1 [(0, pv bxr 0)] kr (Ok.nt ((Ok.sr ((Ok.b 1 [0] [(3, .slice none 0 0)] ?_)))))))
 have hL1 : RepL g yS [] [] := rfl
 refine Ok.ownNil 48 7 (Ok.nt ((Ok.q (Ok.sr ((Ok.b 1 [0] [(3, .slice none ([] : List TS).length 0), (7, pv bxr 0)] ?_))))))
 obtain ⟨hp2, hF⟩ := hF
 refine Ok.e [1, 0] [.blk bxr (.cells #[.slice axr_0 xr.length cxr_0] 59), .own (.slice none ([] : List TS).length 0) 48 7 ([] : List TS).length ([])] dc rfl (Ok.op rfl (OpOk.callH [_] _ enr rfl (one_c xr hRxr_0 hG0 hp2) rfl fun g3 _ _ hx3 hV3 => ?_))
 obtain ⟨e2, f2, a3_2, c3_2, rfl, hR3_0, hR3_2, rfl⟩ := hV3
 replace hL1 := hL1.mono hx3.1
 replace hG0 := hG0.mono hx3.1
 refine Ok.B 3 [(0, pv bxr 0), (3, .slice none ([] : List TS).length 0), (9, .agg #[iv (((oneR xr).1).lab.1), sv (((oneR xr).1).lab.2.1), .int .u8 (((oneR xr).1).lab.2.2.1), sv (((oneR xr).1).lab.2.2.2.1), iv (((oneR xr).1).lab.2.2.2.2.1), iv (((oneR xr).1).lab.2.2.2.2.2), .slice e2 (((oneR xr).1).kids).length f2]), (10, .bool (oneR xr).2.1)] kr (Ok.op rfl (OpOk.a (z := .agg #[iv 0, sv ([] : Bs), .int .u8 0, sv ([] : Bs), iv 0, iv 0, .slice none 0 0]) (cs := #[iv 0, sv ([] : Bs), .int .u8 0, sv ([] : Bs), iv 0, iv 0, .slice none 0 0]) kr kr rfl fun bs4 => ?_))
 refine Ok.op rfl (OpOk.sto (k := 7) (v := .agg #[iv (((oneR xr).1).lab.1), sv (((oneR xr).1).lab.2.1), .int .u8 (((oneR xr).1).lab.2.2.1), sv (((oneR xr).1).lab.2.2.2.1), iv (((oneR xr).1).lab.2.2.2.2.1), iv (((oneR xr).1).lab.2.2.2.2.2), .slice e2 (((oneR xr).1).kids).length f2]) 0 #[iv (((oneR xr).1).lab.1), sv (((oneR xr).1).lab.2.1), .int .u8 (((oneR xr).1).lab.2.2.1), sv (((oneR xr).1).lab.2.2.2.1), iv (((oneR xr).1).lab.2.2.2.2.1), iv (((oneR xr).1).lab.2.2.2.2.2), .slice e2 (((oneR xr).1).kids).length f2] rfl rfl rfl ?_)
 refine Ok.b 1 [0, 3] [(4, pv bs4 0), (5, .bool (oneR xr).2.1)] ?_
 refine Ok.nt ((Ok.block ?_))
 obtain ⟨k, hF⟩ := hF
 refine Ok.L (fun k a W => ∃ gl9 : Ghost, Gext w0 g3 gl9 ∧ ∃ (S0 : Nat) (j1 : Bool) (q0 : Int) (x0 : Bs) (j0 : Int) (u0 : Bs) (s0 : Int) (b0 : Int) (p0 : Option Addr) (t0 : Nat) (e0 : List PH) (aybxr_0l9 : Option Addr) (cybxr_0l9 : Nat) (ybxr_0l9 : List KT) (Q0 : Option Addr) (K0 : Nat) (g0 : List TS) (D0 : List Value), Rep gl9 (.slice yP) [.slice p0 e0.length t0] e0 ∧ Rep gl9 (.slice yK) [.slice aybxr_0l9 ybxr_0l9.length cybxr_0l9] ybxr_0l9 ∧ RepL gl9 yS D0 g0 ∧ StA 28 [(0, pv bxr 0), (3, .slice Q0 g0.length K0), (4, pv S0 0), (5, .bool j1)] a ∧ StW w0 [.blk S0 (.cells #[iv q0, sv x0, .int .u8 j0, sv u0, iv s0, iv b0, .slice p0 e0.length t0] 48), .blk bxr (.cells #[.slice aybxr_0l9 ybxr_0l9.length cybxr_0l9] 59), .own (.slice Q0 g0.length K0) 48 7 g0.length D0] gl9 W ∧ stpl9 K k j1 q0 x0 j0 u0 s0 b0 e0 ybxr_0l9 g0) k ?_ ?_
 ·
  exact fun a W hA hW => ⟨g3, (Gext.r w0 g3), bs4, (oneR xr).2.1, ((oneR xr).1).lab.1, ((oneR xr).1).lab.2.1, ((oneR xr).1).lab.2.2.1, ((oneR xr).1).lab.2.2.2.1, ((oneR xr).1).lab.2.2.2.2.1, ((oneR xr).1).lab.2.2.2.2.2, e2, f2, ((oneR xr).1).kids, a3_2, c3_2, (oneR xr).2.2, none, 0, ([] : List TS), [], hR3_0, hR3_2, hL1, hA.sub kr, hW, hF⟩
 clear hF
 rintro k9 a W ⟨gl9, C1, S0, j1, q0, x0, j0, u0, s0, b0, p0, t0, e0, aybxr_0l9, cybxr_0l9, ybxr_0l9, Q0, K0, g0, D0, Y0, hRybxr_0l9, T0, hA, hW, hF⟩
 cases k9 with
 | zero => exact (hF : False).elim
 | succ k9 =>
  refine (?_ : Ok _ _ _ _ _ _) a W hA hW
  clear hA hW
  replace hG0 := hG0.mono C1.1
  refine Ok.q (Ok.sr ((Ok.b 1 [0, 3, 4] [(11, .bool j1)] ?_)))
  refine Ok.nt ((Ok.cn hF rfl (fun hc5 => ?_) (fun hc5 => ?_)))
  ·replace hF := hF.1 hc5
   refine Ok.k (Ok.t (Ok.q (Ok.block (Ok.r (Ok.b 1 [0, 4] [(17, .slice Q0 g0.length K0)] ?_)))))
   refine Ok.op rfl (OpOk.s (v := .agg #[iv q0, sv x0, .int .u8 j0, sv u0, iv s0, iv b0, .slice p0 e0.length t0]) (Yields.loadAgg 0 7 #[iv q0, sv x0, .int .u8 j0, sv u0, iv s0, iv b0, .slice p0 e0.length t0] rfl rfl Tryz.underlying48 rfl kr kr kr) rfl rfl ?_)
   have hL6 : RepL gl9 yS ([iv q0, sv x0, .int .u8 j0, sv u0, iv s0, iv b0, .slice p0 e0.length t0] : List Value) ([(Tst.mk (q0, x0, j0, u0, s0, b0) e0)] : List TS) := (RepL.consN (c := [iv q0, sv x0, .int .u8 j0, sv u0, iv s0, iv b0, .slice p0 e0.length t0]) (Rep.tst.2 ⟨[iv q0, sv x0, .int .u8 j0, sv u0, iv s0, iv b0], [.slice p0 e0.length t0], rfl, ⟨[iv q0], [sv x0, .int .u8 j0, sv u0, iv s0, iv b0], rfl, rfl, ⟨[sv x0], [.int .u8 j0, sv u0, iv s0, iv b0], rfl, rfl, ⟨[.int .u8 j0], [sv u0, iv s0, iv b0], rfl, rfl, ⟨[sv u0], [iv s0, iv b0], rfl, rfl, ⟨[iv s0], [iv b0], rfl, rfl, rfl⟩⟩⟩⟩⟩, Y0⟩) rfl)
   refine Ok.op rfl (OpOk.lit (E := 48) yS ([(Tst.mk (q0, x0, j0, u0, s0, b0) e0)] : List TS) ([iv q0, sv x0, .int .u8 j0, sv u0, iv s0, iv b0, .slice p0 e0.length t0] : List Value) kr kr rfl kr hL6 rfl fun b6 => ?_)
   obtain ⟨hb7, hF⟩ := hF
   refine Ok.op rfl (OpOk.append' (e := yS) 88 1599289640401 3 0 rfl rfl rfl rfl T0 hL6 Tryz.underlying41 kr kr kr hb7 rfl fun a7 c7 xs7 hL7 => ?_)
   refine Ok.b 1 [0, 4] [(3, .slice a7 (g0 ++ ([(Tst.mk (q0, x0, j0, u0, s0, b0) e0)] : List TS)).length c7)] ?_
   refine Ok.j (Ok.kn (Ok.t (Ok.q (Ok.sr ((Ok.op rfl (OpOk.s (v := .agg #[iv q0, sv x0, .int .u8 j0, sv u0, iv s0, iv b0, .slice p0 e0.length t0]) (Yields.loadAgg 1 7 #[iv q0, sv x0, .int .u8 j0, sv u0, iv s0, iv b0, .slice p0 e0.length t0] rfl rfl Tryz.underlying48 rfl kr kr kr) rfl rfl (Ok.nt ((Ok.r (Ok.op rfl (OpOk.a (z := .agg #[iv 0, sv ([] : Bs), .int .u8 0, sv ([] : Bs), iv 0, iv 0, .slice none 0 0]) (cs := #[iv 0, sv ([] : Bs), .int .u8 0, sv ([] : Bs), iv 0, iv 0, .slice none 0 0]) kr kr rfl fun bs4 => ?_))))))))))))
   refine Ok.op rfl (OpOk.sto (k := 7) (v := .agg #[iv q0, sv x0, .int .u8 j0, sv u0, iv s0, iv b0, .slice p0 e0.length t0]) 0 #[iv q0, sv x0, .int .u8 j0, sv u0, iv s0, iv b0, .slice p0 e0.length t0] rfl rfl rfl ?_)
   refine Ok.nt ((Ok.r (Ok.b 1 [0, 3] [(4, pv bs4 0), (13, pv bxr 0)] ?_)))
   obtain ⟨hp9, hF⟩ := hF
   refine Ok.e [3, 0, 1, 2, 4] [.blk bxr (.cells #[.slice aybxr_0l9 ybxr_0l9.length cybxr_0l9] 59), .blk bs4 (.cells #[iv q0, sv x0, .int .u8 j0, sv u0, iv s0, iv b0, .slice p0 e0.length t0] 48), .own (.slice (some ⟨b6, 0, none⟩) ([(Tst.mk (q0, x0, j0, u0, s0, b0) e0)] : List TS).length 1) 48 7 ([(Tst.mk (q0, x0, j0, u0, s0, b0) e0)] : List TS).length ([iv q0, sv x0, .int .u8 j0, sv u0, iv s0, iv b0, .slice p0 e0.length t0] : List Value), .blk S0 (.cells #[iv q0, sv x0, .int .u8 j0, sv u0, iv s0, iv b0, .slice p0 e0.length t0] 48), .own (.slice a7 (g0 ++ ([(Tst.mk (q0, x0, j0, u0, s0, b0) e0)] : List TS)).length c7) 48 7 (g0 ++ ([(Tst.mk (q0, x0, j0, u0, s0, b0) e0)] : List TS)).length xs7] dc rfl (Ok.op rfl (OpOk.callH [_] _ enr rfl (one_c ybxr_0l9 hRybxr_0l9 hG0 hp9) rfl fun g10 _ _ I1 hV10 => ?_))
   obtain ⟨X1, S1, a10_2, c10_2, rfl, hR10_0, hR10_2, rfl⟩ := hV10
   replace hL7 := hL7.mono I1.1
   replace Y0 := Y0.mono I1.1
   replace hL6 := hL6.mono I1.1
   replace hG0 := hG0.mono I1.1
   refine Ok.B 3 [(0, pv bxr 0), (3, .slice a7 (g0 ++ ([(Tst.mk (q0, x0, j0, u0, s0, b0) e0)] : List TS)).length c7), (4, pv bs4 0), (15, .agg #[iv (((oneR ybxr_0l9).1).lab.1), sv (((oneR ybxr_0l9).1).lab.2.1), .int .u8 (((oneR ybxr_0l9).1).lab.2.2.1), sv (((oneR ybxr_0l9).1).lab.2.2.2.1), iv (((oneR ybxr_0l9).1).lab.2.2.2.2.1), iv (((oneR ybxr_0l9).1).lab.2.2.2.2.2), .slice X1 (((oneR ybxr_0l9).1).kids).length S1]), (16, .bool (oneR ybxr_0l9).2.1)] kr (Ok.op rfl (OpOk.sto (k := 7) (v := .agg #[iv (((oneR ybxr_0l9).1).lab.1), sv (((oneR ybxr_0l9).1).lab.2.1), .int .u8 (((oneR ybxr_0l9).1).lab.2.2.1), sv (((oneR ybxr_0l9).1).lab.2.2.2.1), iv (((oneR ybxr_0l9).1).lab.2.2.2.2.1), iv (((oneR ybxr_0l9).1).lab.2.2.2.2.2), .slice X1 (((oneR ybxr_0l9).1).kids).length S1]) 1 #[iv (((oneR ybxr_0l9).1).lab.1), sv (((oneR ybxr_0l9).1).lab.2.1), .int .u8 (((oneR ybxr_0l9).1).lab.2.2.1), sv (((oneR ybxr_0l9).1).lab.2.2.2.1), iv (((oneR ybxr_0l9).1).lab.2.2.2.2.1), iv (((oneR ybxr_0l9).1).lab.2.2.2.2.2), .slice X1 (((oneR ybxr_0l9).1).kids).length S1] rfl rfl rfl ?_))
   refine Ok.b 1 [0, 3, 4] [(5, .bool (oneR ybxr_0l9).2.1)] ?_
   refine Ok.j (Ok.t ?_)
   exact fun a W hA hW => ⟨k9, Nat.lt_succ_self _, g10, (C1.trans I1), bs4, (oneR ybxr_0l9).2.1, ((oneR ybxr_0l9).1).lab.1, ((oneR ybxr_0l9).1).lab.2.1, ((oneR ybxr_0l9).1).lab.2.2.1, ((oneR ybxr_0l9).1).lab.2.2.2.1, ((oneR ybxr_0l9).1).lab.2.2.2.2.1, ((oneR ybxr_0l9).1).lab.2.2.2.2.2, X1, S1, ((oneR ybxr_0l9).1).kids, a10_2, c10_2, (oneR ybxr_0l9).2.2, a7, c7, (g0 ++ ([(Tst.mk (q0, x0, j0, u0, s0, b0) e0)] : List TS)), xs7, hR10_0, hR10_2, hL7, hA.sub kr, hW.pick [1, 0, 4] _ dc rfl, hF⟩
  replace hF := hF.2 hc5
  refine Ok.x (Ok.thenE (Ok.thenE (Ok.blockHit (Ok.t (Ok.sr ((Ok.b 4 [3] [(22, pv bxr 0), (25, .bool (decide ((g0.length : Int) > 0)))] ?_)))))))
  refine Ok.op rfl (OpOk.i (args := #[pv bxr 0, .bool (decide ((g0.length : Int) > 0))]) 8 [(0, pv bxr 0), (1, .bool (decide ((g0.length : Int) > 0)))] enr Tryz.func47 rfl rfl rfl rfl (Ok.sr ((Ok.B 2 [(5, .bool (!(decide ((g0.length : Int) > 0))))] kr (Ok.nt ((Ok.cn hF rfl (fun V1 => ?_) (fun V1 => ?_))))))))
  ·replace hF := hF.1 V1
   exact False.elim hF
  replace hF := hF.2 V1
  refine Ok.k (Ok.back (vs := []) (.inr rfl) rfl .nil rfl (Ok.nt ((Ok.sr ((Ok.B 2 [(2, .slice Q0 g0.length K0)] kr (Ok.nt ((Ok.ret (Ok.frz 2 rfl T0 fun g12 A0 hRf12 => ?_))))))))))
  replace Y0 := Y0.mono A0.1
  replace hRybxr_0l9 := hRybxr_0l9.mono A0.1
  replace hG0 := hG0.mono A0.1
  exact Ok.p (vs := [.slice Q0 g0.length K0]) [1] [.blk bxr (.cells #[.slice aybxr_0l9 ybxr_0l9.length cybxr_0l9] 59)] dc rfl (.inl rfl) rfl (.cons (.tmp rfl) .nil) ((hx3.trans C1).trans A0) ⟨g0, ybxr_0l9, Q0, K0, aybxr_0l9, cybxr_0l9, rfl, hRf12, hRybxr_0l9, rfl, hF⟩
def stpP (r : Rd) : Prop := r = R0 ∨ r = R3
def stpR (r : Rd) : List Ts × Rd := if r = R0 then ([tA], R1) else ([tB], [])
theorem stp_F (r : Rd) (hp : stpP r) : stpF r (fun a b => (a, b) = stpR r) := by
 rcases hp with rfl | rfl
 ·refine ⟨.inl rfl, 2, fun _ => ⟨by decide +kernel, .inr (.inl kr), ?_⟩, fun h => absurd h dk⟩
  exact ⟨fun h => absurd h dk, fun _ => ⟨fun h => absurd h dk, fun _ => by show _ = _; kernel_rfl⟩⟩
 refine ⟨.inr (.inr (.inl rfl)), 2, fun _ => ⟨by decide +kernel, .inr (.inr (.inr kr)), ?_⟩, fun h => absurd h dk⟩
 exact ⟨fun h => absurd h dk, fun _ => ⟨fun h => absurd h dk, fun _ => by show _ = _; kernel_rfl⟩⟩
theorem stp_c {g : Ghost} {bxr : Nat} {axr_0 : Option Addr} {cxr_0 : Nat} (xr : List KT) (hRxr_0 : Rep g (.slice yK) [.slice axr_0 xr.length cxr_0] xr) (hG0 : SomeInt g 0)  (hp : stpP xr) : CallsH Tryz.prog 73 #[pv bxr 0] g [.blk bxr (.cells #[.slice axr_0 xr.length cxr_0] 59)] (fun g' H' v => ∃ (Z0 : Option Addr) (V0 : Nat), ∃ (afxr_0 : Option Addr) (cfxr_0 : Nat), v = .slice Z0 ((stpR xr).1).length V0 ∧ Rep g' (.slice yS) [.slice Z0 ((stpR xr).1).length V0] (stpR xr).1 ∧ Rep g' (.slice yK) [.slice afxr_0 ((stpR xr).2).length cfxr_0] (stpR xr).2 ∧ H' = [.blk bxr (.cells #[.slice afxr_0 ((stpR xr).2).length cfxr_0] 59)]) :=
 (stp_ok xr hRxr_0 hG0 _ (stp_F xr hp)).mono (by rintro g' H' v _ ⟨r0, fxr, Z0, V0, afxr_0, cfxr_0, rfl, B0, hRfxr_0, rfl, hK⟩; obtain ⟨rfl, rfl⟩ : r0 = (stpR xr).1 ∧ fxr = (stpR xr).2 := ⟨congrArg (fun z => z.1) hK, congrArg (fun z => z.2) hK⟩; exact ⟨Z0, V0, afxr_0, cfxr_0, rfl, B0, hRfxr_0, rfl⟩)
def pthV4 (ybxr_0l6 : List KT) : Bool :=
 (((pekS (gapS ybxr_0l6).2).1.2.1 == ([62] : Bs)) || (((pekS (gapS ybxr_0l6).2).1.2.1 == ([43] : Bs)) || ((pekS (gapS ybxr_0l6).2).1.2.1 == ([126] : Bs))))
def pthV5 (ybxr_0l6 : List KT) : Bool :=
 ((gapS ybxr_0l6).1 && (((pekS (gapS ybxr_0l6).2).1.1 != 0) && ((!((pekS (gapS ybxr_0l6).2).1.2.1 == ([44] : Bs))) && (!((pekS (gapS ybxr_0l6).2).1.2.1 == ([41] : Bs))))))
def pthV6 (ybxr_0l6 : List KT) : List KT :=
 (if (pthV4 ybxr_0l6) = true then (gapS (((pekS (pekS (gapS ybxr_0l6).2).2).2).drop (Int.toNat 1))).2 else (pekS (gapS ybxr_0l6).2).2)
def pthV7 (z0 : List Int) (ybxr_0l6 : List KT) : List Int :=
 (if (pthV4 ybxr_0l6) = true then (z0 ++ ([((((pekS (gapS ybxr_0l6).2).1.2.1).getD (Int.toNat 0) 0).toNat : Int)] : List Int)) else (z0 ++ ([32] : List Int)))
def pthj12 (z0 : List Int) (v0 : List (List TS)) (ybxr_0l6 : List KT) (C6 : (List Int) → (List (List TS)) → (List KT) → Prop) : Prop :=
 stpP (pthV6 ybxr_0l6) ∧ (v0 ++ ([(stpR (pthV6 ybxr_0l6)).1] : List (List TS))).length ≤ 5864062014805 ∧ C6 (pthV7 z0 ybxr_0l6) (v0 ++ ([(stpR (pthV6 ybxr_0l6)).1] : List (List TS))) (stpR (pthV6 ybxr_0l6)).2
def pthj22 (K : (PH) → (List KT) → Prop) (z0 : List Int) (v0 : List (List TS)) (ybxr_0l6 : List KT) (C6 : (List Int) → (List (List TS)) → (List KT) → Prop) : Prop :=
 (((pthV5 ybxr_0l6)) = true → (z0 ++ ([32] : List Int)).length ≤ 140737488355328 ∧ pthj12 z0 v0 ybxr_0l6 C6) ∧ (((pthV5 ybxr_0l6)) = false → K (v0, z0) (pekS (gapS ybxr_0l6).2).2)
def pthj14 (K : (PH) → (List KT) → Prop) (z0 : List Int) (v0 : List (List TS)) (ybxr_0l6 : List KT) (C6 : (List Int) → (List (List TS)) → (List KT) → Prop) : Prop :=
 (((pthV4 ybxr_0l6)) = true → ((((pekS (pekS (gapS ybxr_0l6).2).2).1.1 == 0)) = true → False) ∧ ((((pekS (pekS (gapS ybxr_0l6).2).2).1.1 == 0)) = false → (0 : Int) ≤ 1 ∧ (1 : Int) ≤ (((pekS (pekS (gapS ybxr_0l6).2).2).2).length : Int) ∧ (((pekS (pekS (gapS ybxr_0l6).2).2).2).length : Int) ≤ (((pekS (pekS (gapS ybxr_0l6).2).2).2).length : Int) ∧ (0 : Int) ≤ 0 ∧ Int.toNat 0 < ((pekS (gapS ybxr_0l6).2).1.2.1).length ∧ (z0 ++ ([((((pekS (gapS ybxr_0l6).2).1.2.1).getD (Int.toNat 0) 0).toNat : Int)] : List Int)).length ≤ 140737488355328 ∧ pthj12 z0 v0 ybxr_0l6 C6)) ∧ (((pthV4 ybxr_0l6)) = false → ((gapS ybxr_0l6).1 = true → ((((pekS (gapS ybxr_0l6).2).1.1 != 0)) = true → ((!((pekS (gapS ybxr_0l6).2).1.2.1 == ([44] : Bs))) = true → pthj22 K z0 v0 ybxr_0l6 C6) ∧ ((!((pekS (gapS ybxr_0l6).2).1.2.1 == ([44] : Bs))) = false → pthj22 K z0 v0 ybxr_0l6 C6)) ∧ ((((pekS (gapS ybxr_0l6).2).1.1 != 0)) = false → pthj22 K z0 v0 ybxr_0l6 C6)) ∧ ((gapS ybxr_0l6).1 = false → pthj22 K z0 v0 ybxr_0l6 C6))
def pthl6b (K : (PH) → (List KT) → Prop) (z0 : List Int) (v0 : List (List TS)) (ybxr_0l6 : List KT) (C6 : (List Int) → (List (List TS)) → (List KT) → Prop) : Prop :=
 ((((pekS (gapS ybxr_0l6).2).1.2.1 == ([62] : Bs))) = true → pthj14 K z0 v0 ybxr_0l6 C6) ∧ ((((pekS (gapS ybxr_0l6).2).1.2.1 == ([62] : Bs))) = false → ((((pekS (gapS ybxr_0l6).2).1.2.1 == ([43] : Bs))) = true → pthj14 K z0 v0 ybxr_0l6 C6) ∧ ((((pekS (gapS ybxr_0l6).2).1.2.1 == ([43] : Bs))) = false → pthj14 K z0 v0 ybxr_0l6 C6))
def pthl6 (K : (PH) → (List KT) → Prop) : Nat → (List Int) → (List (List TS)) → (List KT) → Prop
 | 0, _, _, _ => False
 | k + 1, z0, v0, ybxr_0l6 => pthl6b K z0 v0 ybxr_0l6 (pthl6 K k)
def pthF (xr : List KT) (K : (PH) → (List KT) → Prop) : Prop :=
 stpP xr ∧ ∃ k, pthl6 K k ([] : List Int) ([(stpR xr).1] : List (List TS)) (stpR xr).2
theorem pth_ok {g : Ghost} {bxr : Nat} {axr_0 : Option Addr} {cxr_0 : Nat} (xr : List KT) (hRxr_0 : Rep g (.slice yK) [.slice axr_0 xr.length cxr_0] xr) (hG0 : SomeInt g 0) (K : (PH) → (List KT) → Prop)
  (hF : pthF xr K) : CallsH Tryz.prog 45 #[pv bxr 0] g [.blk bxr (.cells #[.slice axr_0 xr.length cxr_0] 59)] (fun g' H' v => ∃ (r0 : PH), ∃ (fxr : List KT), ∃ (Z0 : Option Addr) (V0 : Nat), ∃ (v1 : Option Addr) (q1 : Nat), ∃ (afxr_0 : Option Addr) (cfxr_0 : Nat), v = .agg #[.slice Z0 r0.1.length V0, .slice v1 r0.2.length q1] ∧ Rep g' (.slice (.slice yS)) [.slice Z0 r0.1.length V0] r0.1 ∧ Rep g' (.slice yb) [.slice v1 r0.2.length q1] r0.2 ∧ Rep g' (.slice yK) [.slice afxr_0 fxr.length cfxr_0] fxr ∧ H' = [.blk bxr (.cells #[.slice afxr_0 fxr.length cfxr_0] 59)] ∧ K r0 fxr) := by
 refine CallsH.enter 70 [(0, pv bxr 0)] Tryz.func45 rfl kr kr kr fun w0 => ?_
 refine Ok.q (Ok.r ?_)
 have hL1 : RepL g (.slice yS) [] [] := rfl
 refine Ok.ownNil 41 1 ?_
 have hL2 : RepL g yb [] [] := rfl
 refine Ok.ownNil 5 1 (Ok.op rfl (OpOk.a (z := .agg #[.slice none ([] : List (List TS)).length 0, .slice none ([] : List Int).length 0]) (cs := #[.slice none ([] : List (List TS)).length 0, .slice none ([] : List Int).length 0]) kr kr rfl fun bs2 => ?_))
 refine Ok.nt ((Ok.sr ((Ok.B 1 [(0, pv bxr 0), (2, pv bs2 0), (6, pv bxr 0)] kr ?_))))
 obtain ⟨hp4, hF⟩ := hF
 refine Ok.e [3, 0, 1, 2] [.blk bxr (.cells #[.slice axr_0 xr.length cxr_0] 59), .blk bs2 (.cells #[.slice none ([] : List (List TS)).length 0, .slice none ([] : List Int).length 0] 25), .own (.slice none ([] : List Int).length 0) 5 1 ([] : List Int).length ([]), .own (.slice none ([] : List (List TS)).length 0) 41 1 ([] : List (List TS)).length ([])] dc rfl (Ok.op rfl (OpOk.callH [_] _ enr rfl (stp_c xr hRxr_0 hG0 hp4) rfl fun g5 _ _ hx5 hV5 => ?_))
 obtain ⟨e1, f1, a5_2, c5_2, rfl, z2, hR5_2, rfl⟩ := hV5
 replace hL1 := hL1.mono hx5.1
 replace hL2 := hL2.mono hx5.1
 replace hG0 := hG0.mono hx5.1
 have hL6 : RepL g5 (.slice yS) ([.slice e1 ((stpR xr).1).length f1] : List Value) ([(stpR xr).1] : List (List TS)) := (RepL.consN (c := [.slice e1 ((stpR xr).1).length f1]) z2 rfl)
 refine Ok.op rfl (OpOk.lit (E := 41) (.slice yS) ([(stpR xr).1] : List (List TS)) ([.slice e1 ((stpR xr).1).length f1] : List Value) kr kr rfl kr hL6 rfl fun b6 => ?_)
 refine Ok.B 1 [(0, pv bxr 0), (2, pv bs2 0), (9, .agg #[.slice (some ⟨b6, 0, none⟩) ([(stpR xr).1] : List (List TS)).length 1, .slice none 0 0])] kr ?_
 have hL7 : RepL g5 (.slice yS) [] [] := rfl
 refine Ok.ownNil 41 1 ?_
 have hL8 : RepL g5 yb [] [] := rfl
 refine Ok.ownNil 5 1 (Ok.op rfl (OpOk.a (z := .agg #[.slice none ([] : List (List TS)).length 0, .slice none ([] : List Int).length 0]) (cs := #[.slice none ([] : List (List TS)).length 0, .slice none ([] : List Int).length 0]) kr kr rfl fun bs3 => ?_))
 have hL10 : RepL g5 yb [] [] := rfl
 refine Ok.ownNil 5 1 (Ok.op rfl (OpOk.sto (k := 2) (v := .agg #[.slice (some ⟨b6, 0, none⟩) ([(stpR xr).1] : List (List TS)).length 1, .slice none ([] : List Int).length 0]) 1 #[.slice (some ⟨b6, 0, none⟩) ([(stpR xr).1] : List (List TS)).length 1, .slice none ([] : List Int).length 0] rfl rfl rfl ?_))
 refine Ok.nt ((Ok.block ?_))
 obtain ⟨k, hF⟩ := hF
 refine Ok.L (fun k a W => ∃ gl6 : Ghost, Gext w0 g5 gl6 ∧ ∃ (c0 : Option Addr) (d0 : Nat) (z0 : List Int) (i0 : List Value) (k0 : Option Addr) (y0 : Nat) (v0 : List (List TS)) (f0 : List Value) (aybxr_0l6 : Option Addr) (cybxr_0l6 : Nat) (ybxr_0l6 : List KT), RepL gl6 yb i0 z0 ∧ RepL gl6 (.slice yS) f0 v0 ∧ Rep gl6 (.slice yK) [.slice aybxr_0l6 ybxr_0l6.length cybxr_0l6] ybxr_0l6 ∧ StA 70 [(0, pv bxr 0), (2, pv bs2 0), (3, pv bs3 0)] a ∧ StW w0 [.own (.slice c0 z0.length d0) 5 1 z0.length i0, .blk bs3 (.cells #[.slice k0 v0.length y0, .slice c0 z0.length d0] 25), .own (.slice k0 v0.length y0) 41 1 v0.length f0, .blk bxr (.cells #[.slice aybxr_0l6 ybxr_0l6.length cybxr_0l6] 59), .blk bs2 (.cells #[.slice none ([] : List (List TS)).length 0, .slice none ([] : List Int).length 0] 25), .own (.slice none ([] : List Int).length 0) 5 1 ([] : List Int).length ([]), .own (.slice none ([] : List (List TS)).length 0) 41 1 ([] : List (List TS)).length ([])] gl6 W ∧ pthl6 K k z0 v0 ybxr_0l6) k ?_ ?_
 ·
  exact fun a W hA hW => ⟨g5, (Gext.r w0 g5), none, 0, ([] : List Int), [], (some ⟨b6, 0, none⟩), 1, ([(stpR xr).1] : List (List TS)), ([.slice e1 ((stpR xr).1).length f1] : List Value), a5_2, c5_2, (stpR xr).2, hL10, hL6, hR5_2, hA.sub kr, hW.sub (.cons_cons _ (.cons_cons _ (.cons _ (.cons _ (.cons_cons _ (.cons_cons _ (.cons_cons _ (.cons_cons _ (.cons_cons _ .slnil))))))))), hF⟩
 clear hF
 rintro k6 a W ⟨gl6, x1, c0, d0, z0, i0, k0, y0, v0, f0, aybxr_0l6, cybxr_0l6, ybxr_0l6, h0, m0, hRybxr_0l6, hA, hW, hF⟩
 cases k6 with
 | zero => exact (hF : False).elim
 | succ k6 =>
  refine (?_ : Ok _ _ _ _ _ _) a W hA hW
  clear hA hW
  replace hL1 := hL1.mono x1.1
  replace hL2 := hL2.mono x1.1
  replace hG0 := hG0.mono x1.1
  refine Ok.block (Ok.sr ((Ok.b 1 [0, 2, 3] [(10, pv bxr 0)] ?_)))
  refine Ok.e [3, 0, 1, 2, 4, 5, 6] [.blk bxr (.cells #[.slice aybxr_0l6 ybxr_0l6.length cybxr_0l6] 59), .own (.slice c0 z0.length d0) 5 1 z0.length i0, .blk bs3 (.cells #[.slice k0 v0.length y0, .slice c0 z0.length d0] 25), .own (.slice k0 v0.length y0) 41 1 v0.length f0, .blk bs2 (.cells #[.slice none ([] : List (List TS)).length 0, .slice none ([] : List Int).length 0] 25), .own (.slice none ([] : List Int).length 0) 5 1 ([] : List Int).length ([]), .own (.slice none ([] : List (List TS)).length 0) 41 1 ([] : List (List TS)).length ([])] dc rfl (Ok.op rfl (OpOk.callH [_] _ enr rfl (gap_c ybxr_0l6 hRybxr_0l6) rfl fun g11 _ _ Q1 hV11 => ?_))
  obtain ⟨a11_0, c11_0, rfl, hR11_0, rfl⟩ := hV11
  replace h0 := h0.mono Q1.1
  replace m0 := m0.mono Q1.1
  replace hL1 := hL1.mono Q1.1
  replace hL2 := hL2.mono Q1.1
  replace hG0 := hG0.mono Q1.1
  refine Ok.B 1 [(0, pv bxr 0), (2, pv bs2 0), (3, pv bs3 0), (4, .bool (gapS ybxr_0l6).1)] kr (Ok.nt ((Ok.sr ((Ok.b 1 [0, 2, 3, 4] [(12, pv bxr 0)] ?_)))))
  refine Ok.op rfl (OpOk.callH [_] _ enr rfl (pek_c (gapS ybxr_0l6).2 hR11_0) rfl fun g12 _ _ A0 hV12 => ?_)
  obtain ⟨G0, H0, rfl, J0, rfl⟩ := hV12
  replace h0 := h0.mono A0.1
  replace m0 := m0.mono A0.1
  replace hL1 := hL1.mono A0.1
  replace hL2 := hL2.mono A0.1
  replace hG0 := hG0.mono A0.1
  refine Ok.op rfl (OpOk.a (z := .agg zK) (cs := zK) kr kr rfl fun bs5 => ?_)
  refine Ok.op rfl (OpOk.sto (k := 4) (v := .agg (aK (pekS (gapS ybxr_0l6).2).1)) 0 (aK (pekS (gapS ybxr_0l6).2).1) rfl rfl rfl ?_)
  refine Ok.nt ((Ok.cut (fun a W => ∃ v2 : Ghost, Gext w0 g12 v2 ∧ ∃ (aybxr_0j12 : Option Addr) (cybxr_0j12 : Nat) (n0 : Option Addr) (o0 : Nat) (a0 : List Value), Rep v2 (.slice yK) [.slice aybxr_0j12 (pthV6 ybxr_0l6).length cybxr_0j12] (pthV6 ybxr_0l6) ∧ RepL v2 yb a0 (pthV7 z0 ybxr_0l6) ∧ StA 70 [(0, pv bxr 0), (2, pv bs2 0), (3, pv bs3 0)] a ∧ StW w0 [.blk bxr (.cells #[.slice aybxr_0j12 (pthV6 ybxr_0l6).length cybxr_0j12] 59), .own (.slice n0 (pthV7 z0 ybxr_0l6).length o0) 5 1 (pthV7 z0 ybxr_0l6).length a0, .blk bs3 (.cells #[.slice k0 v0.length y0, .slice n0 (pthV7 z0 ybxr_0l6).length o0] 25), .own (.slice k0 v0.length y0) 41 1 v0.length f0, .blk bs2 (.cells #[.slice none ([] : List (List TS)).length 0, .slice none ([] : List Int).length 0] 25), .own (.slice none ([] : List Int).length 0) 5 1 ([] : List Int).length ([]), .own (.slice none ([] : List (List TS)).length 0) 41 1 ([] : List (List TS)).length ([])] v2 W ∧ pthj12 z0 v0 ybxr_0l6 (pthl6 K k6)) ?_ ?_))
  ·
   refine Ok.block (Ok.cut (fun a W => ∃ I0 : Ghost, Gext w0 g12 I0 ∧ StA 70 [(0, pv bxr 0), (2, pv bs2 0), (3, pv bs3 0), (4, .bool (gapS ybxr_0l6).1), (5, pv bs5 0), (15, .bool (pthV4 ybxr_0l6))] a ∧ StW w0 [.blk bs5 (.cells (aK (pekS (gapS ybxr_0l6).2).1) 78), .blk bxr (.cells #[.slice G0 ((pekS (gapS ybxr_0l6).2).2).length H0] 59), .own (.slice c0 z0.length d0) 5 1 z0.length i0, .blk bs3 (.cells #[.slice k0 v0.length y0, .slice c0 z0.length d0] 25), .own (.slice k0 v0.length y0) 41 1 v0.length f0, .blk bs2 (.cells #[.slice none ([] : List (List TS)).length 0, .slice none ([] : List Int).length 0] 25), .own (.slice none ([] : List Int).length 0) 5 1 ([] : List Int).length ([]), .own (.slice none ([] : List (List TS)).length 0) 41 1 ([] : List (List TS)).length ([])] I0 W ∧ pthj14 K z0 v0 ybxr_0l6 (pthl6 K k6)) ?_ ?_)
   ·
    refine Ok.r (Ok.b 1 [0, 2, 3, 4] [(5, pv bs5 0), (16, pv bs5 1)] ?_)
    refine Ok.op rfl (OpOk.s (v := sv ((pekS (gapS ybxr_0l6).2).1.2.1)) (Yields.l 0 rfl rfl Tryz.underlying9 rfl kr) rfl rfl (Ok.op rfl (OpOk.s (v := .bool ((pekS (gapS ybxr_0l6).2).1.2.1 == ([62] : Bs))) (Yields.sc (f := .eql) (a := (pekS (gapS ybxr_0l6).2).1.2.1) (b := ([62] : Bs)) kr kr rfl) rfl rfl (Ok.b 1 [0, 2, 3, 4, 5] [(19, .bool ((pekS (gapS ybxr_0l6).2).1.2.1 == ([62] : Bs)))] ?_))))
    refine Ok.a 19 (((pekS (gapS ybxr_0l6).2).1.2.1 == ([62] : Bs))) rfl (fun F1 => ?_) (fun F1 => ?_)
    ·replace hF := hF.1 F1
     refine Ok.b 10 [0, 2, 3, 4, 5] [(15, .bool true)] ?_
     refine Ok.nt ((Ok.v 15 rfl (show (.bool true : Value) = .bool (pthV4 ybxr_0l6) from congrArg (Value.bool) (mor_t F1)) ?_))
     exact fun a W hA hW => ⟨g12, (Gext.r w0 g12), hA.sub kr, hW, hF⟩
    replace hF := hF.2 F1
    refine Ok.b 1 [0, 2, 3, 4, 5] [(19, .bool false), (20, pv bs5 1)] ?_
    refine Ok.y (j := 3) (d := 19) (want := false) (b := false) rfl kr kr rfl (OpOk.s (v := sv ((pekS (gapS ybxr_0l6).2).1.2.1)) (Yields.l 0 rfl rfl Tryz.underlying9 rfl kr) rfl rfl (Ok.y (j := 3) (d := 19) (want := false) (b := false) rfl kr kr rfl (OpOk.s (v := .bool ((pekS (gapS ybxr_0l6).2).1.2.1 == ([43] : Bs))) (Yields.sc (f := .eql) (a := (pekS (gapS ybxr_0l6).2).1.2.1) (b := ([43] : Bs)) kr kr rfl) rfl rfl (Ok.b 2 [0, 2, 3, 4, 5] [(24, .bool ((pekS (gapS ybxr_0l6).2).1.2.1 == ([43] : Bs)))] ?_))))
    refine Ok.a 24 (((pekS (gapS ybxr_0l6).2).1.2.1 == ([43] : Bs))) rfl (fun q2 => ?_) (fun q2 => ?_)
    ·replace hF := hF.1 q2
     refine Ok.b 5 [0, 2, 3, 4, 5] [(15, .bool true)] ?_
     refine Ok.nt ((Ok.v 15 rfl (show (.bool true : Value) = .bool (pthV4 ybxr_0l6) from congrArg (Value.bool) ((Eq.trans (mor_t q2) (mor_f F1)))) ?_))
     exact fun a W hA hW => ⟨g12, (Gext.r w0 g12), hA.sub kr, hW, hF⟩
    replace hF := hF.2 q2
    refine Ok.b 1 [0, 2, 3, 4, 5] [(24, .bool false), (25, pv bs5 1)] ?_
    refine Ok.y (j := 8) (d := 24) (want := false) (b := false) rfl kr kr rfl (OpOk.s (v := sv ((pekS (gapS ybxr_0l6).2).1.2.1)) (Yields.l 0 rfl rfl Tryz.underlying9 rfl kr) rfl rfl (Ok.y (j := 8) (d := 24) (want := false) (b := false) rfl kr kr rfl (OpOk.s (v := .bool ((pekS (gapS ybxr_0l6).2).1.2.1 == ([126] : Bs))) (Yields.sc (f := .eql) (a := (pekS (gapS ybxr_0l6).2).1.2.1) (b := ([126] : Bs)) kr kr rfl) rfl rfl (Ok.b 2 [0, 2, 3, 4, 5] [(15, .bool ((pekS (gapS ybxr_0l6).2).1.2.1 == ([126] : Bs)))] ?_))))
    refine Ok.nt ((Ok.v 15 rfl (show (.bool ((pekS (gapS ybxr_0l6).2).1.2.1 == ([126] : Bs)) : Value) = .bool (pthV4 ybxr_0l6) from congrArg (Value.bool) ((Eq.trans (mor_f q2) (mor_f F1)))) ?_))
    exact fun a W hA hW => ⟨g12, (Gext.r w0 g12), hA.sub kr, hW, hF⟩
   clear hF
   rintro a W ⟨I0, M0, hA, hW, hF⟩
   refine (?_ : Ok _ _ _ _ _ _) a W hA hW
   clear hA hW
   replace J0 := J0.mono M0.1
   replace h0 := h0.mono M0.1
   replace m0 := m0.mono M0.1
   replace hL1 := hL1.mono M0.1
   replace hL2 := hL2.mono M0.1
   replace hG0 := hG0.mono M0.1
   refine Ok.cn hF rfl (fun C0 => ?_) (fun C0 => ?_)
   ·replace hF := hF.1 C0
    refine Ok.sr ((Ok.b 1 [0, 2, 3, 5] [(29, pv bxr 0)] ?_))
    refine Ok.op rfl (OpOk.i (args := #[pv bxr 0]) 20 [(0, pv bxr 0)] enr Tryz.func74 rfl rfl rfl rfl (Ok.sr ((Ok.op rfl (OpOk.a (z := .agg zK) (cs := zK) kr kr rfl fun U0 => ?_)))))
    refine Ok.nt ((Ok.sr ((Ok.b 1 [0] [(2, pv U0 0), (4, pv bxr 0)] ?_))))
    refine Ok.e [2, 0, 1, 3, 4, 5, 6, 7, 8] [.blk bxr (.cells #[.slice G0 ((pekS (gapS ybxr_0l6).2).2).length H0] 59), .blk U0 (.cells zK 78), .blk bs5 (.cells (aK (pekS (gapS ybxr_0l6).2).1) 78), .own (.slice c0 z0.length d0) 5 1 z0.length i0, .blk bs3 (.cells #[.slice k0 v0.length y0, .slice c0 z0.length d0] 25), .own (.slice k0 v0.length y0) 41 1 v0.length f0, .blk bs2 (.cells #[.slice none ([] : List (List TS)).length 0, .slice none ([] : List Int).length 0] 25), .own (.slice none ([] : List Int).length 0) 5 1 ([] : List Int).length ([]), .own (.slice none ([] : List (List TS)).length 0) 41 1 ([] : List (List TS)).length ([])] dc rfl (Ok.op rfl (OpOk.callH [_] _ enr rfl (pek_c (pekS (gapS ybxr_0l6).2).2 J0) rfl fun g20 _ _ c1 Y2 => ?_))
    obtain ⟨T1, L1, rfl, t1, rfl⟩ := Y2
    replace h0 := h0.mono c1.1
    replace m0 := m0.mono c1.1
    replace hL1 := hL1.mono c1.1
    replace hL2 := hL2.mono c1.1
    replace hG0 := hG0.mono c1.1
    refine Ok.op rfl (OpOk.a (z := .agg zK) (cs := zK) kr kr rfl fun W0 => ?_)
    refine Ok.op rfl (OpOk.sto (k := 4) (v := .agg #[iv (pekS (pekS (gapS ybxr_0l6).2).2).1.1, sv ((pekS (pekS (gapS ybxr_0l6).2).2).1.2.1), sv ((pekS (pekS (gapS ybxr_0l6).2).2).1.2.2.1), iv (pekS (pekS (gapS ybxr_0l6).2).2).1.2.2.2]) 0 #[iv (pekS (pekS (gapS ybxr_0l6).2).2).1.1, sv ((pekS (pekS (gapS ybxr_0l6).2).2).1.2.1), sv ((pekS (pekS (gapS ybxr_0l6).2).2).1.2.2.1), iv (pekS (pekS (gapS ybxr_0l6).2).2).1.2.2.2] rfl rfl rfl ?_)
    refine Ok.nt ((Ok.q (Ok.sr ((Ok.B 1 [(0, pv bxr 0), (2, pv U0 0), (3, pv W0 0), (6, pv W0 0)] kr (Ok.op rfl (OpOk.s (v := iv (pekS (pekS (gapS ybxr_0l6).2).2).1.1) (Yields.l 0 rfl rfl Tryz.underlying3 rfl kr) rfl rfl (Ok.b 1 [0, 2, 3] [(8, .bool ((pekS (pekS (gapS ybxr_0l6).2).2).1.1 == 0))] ?_))))))))
    refine Ok.nt ((Ok.cn hF rfl (fun i1 => ?_) (fun i1 => ?_)))
    ·replace hF := hF.1 i1
     exact False.elim hF
    replace hF := hF.2 i1
    refine Ok.k (Ok.t (Ok.sr ((Ok.b 4 [2, 3] [(11, pv bxr 0), (14, pv bxr 0)] ?_))))
    refine Ok.op rfl (OpOk.s (v := .slice T1 ((pekS (pekS (gapS ybxr_0l6).2).2).2).length L1) (Yields.l 1 rfl rfl Tryz.underlying56 rfl kr) rfl rfl ?_)
    obtain ⟨U2, J2, W2, hF⟩ := hF
    refine Ok.op rfl (OpOk.sliceRo (e := yK) (l := 1) (h := (((pekS (pekS (gapS ybxr_0l6).2).2).2).length : Int)) rfl Tryz.underlying56 kr (.inl ⟨_, _, rfl, rfl⟩) (.inr ⟨rfl, rfl⟩) t1 U2 J2 W2 rfl (((pekS (pekS (gapS ybxr_0l6).2).2).2).drop (Int.toNat 1)) (by rw [show ((((pekS (pekS (gapS ybxr_0l6).2).2).2).length : Int)).toNat = ((pekS (pekS (gapS ybxr_0l6).2).2).2).length from Int.toNat_natCast _, List.take_length]) fun a23 c23 X2 => ?_)
    refine Ok.b 2 [2, 3] [(16, .slice a23 (((pekS (pekS (gapS ybxr_0l6).2).2).2).drop (Int.toNat 1)).length c23), (18, pv bxr 0)] ?_
    refine Ok.op rfl (OpOk.sto (k := 1) (v := .slice a23 (((pekS (pekS (gapS ybxr_0l6).2).2).2).drop (Int.toNat 1)).length c23) 1 #[.slice a23 (((pekS (pekS (gapS ybxr_0l6).2).2).2).drop (Int.toNat 1)).length c23] rfl rfl rfl ?_)
    refine Ok.nt ((Ok.sr ((Ok.op rfl (OpOk.s (v := .agg #[iv (pekS (pekS (gapS ybxr_0l6).2).2).1.1, sv ((pekS (pekS (gapS ybxr_0l6).2).2).1.2.1), sv ((pekS (pekS (gapS ybxr_0l6).2).2).1.2.2.1), iv (pekS (pekS (gapS ybxr_0l6).2).2).1.2.2.2]) (Yields.loadAgg 0 4 #[iv (pekS (pekS (gapS ybxr_0l6).2).2).1.1, sv ((pekS (pekS (gapS ybxr_0l6).2).2).1.2.1), sv ((pekS (pekS (gapS ybxr_0l6).2).2).1.2.2.1), iv (pekS (pekS (gapS ybxr_0l6).2).2).1.2.2.2] rfl rfl Tryz.underlying78 rfl kr kr kr) rfl rfl (Ok.op rfl (OpOk.sto (k := 4) (v := .agg #[iv (pekS (pekS (gapS ybxr_0l6).2).2).1.1, sv ((pekS (pekS (gapS ybxr_0l6).2).2).1.2.1), sv ((pekS (pekS (gapS ybxr_0l6).2).2).1.2.2.1), iv (pekS (pekS (gapS ybxr_0l6).2).2).1.2.2.2]) 2 #[iv (pekS (pekS (gapS ybxr_0l6).2).2).1.1, sv ((pekS (pekS (gapS ybxr_0l6).2).2).1.2.1), sv ((pekS (pekS (gapS ybxr_0l6).2).2).1.2.2.1), iv (pekS (pekS (gapS ybxr_0l6).2).2).1.2.2.2] rfl rfl rfl ?_)))))))
    refine Ok.nt ((Ok.ret (Ok.back (vs := [.agg #[iv (pekS (pekS (gapS ybxr_0l6).2).2).1.1, sv ((pekS (pekS (gapS ybxr_0l6).2).2).1.2.1), sv ((pekS (pekS (gapS ybxr_0l6).2).2).1.2.2.1), iv (pekS (pekS (gapS ybxr_0l6).2).2).1.2.2.2]]) (.inl rfl) rfl (.cons (.cellAgg 2 4 #[iv (pekS (pekS (gapS ybxr_0l6).2).2).1.1, sv ((pekS (pekS (gapS ybxr_0l6).2).2).1.2.1), sv ((pekS (pekS (gapS ybxr_0l6).2).2).1.2.2.1), iv (pekS (pekS (gapS ybxr_0l6).2).2).1.2.2.2] rfl rfl Tryz.underlying78 rfl kr kr kr) .nil) rfl (Ok.nt ((Ok.sr ((Ok.B 1 [(0, pv bxr 0), (2, pv bs2 0), (3, pv bs3 0), (5, pv bs5 0), (31, pv bxr 0)] kr (Ok.e [1, 0, 2, 3, 4, 5, 6, 7, 8, 9] [.blk bxr (.cells #[.slice a23 (((pekS (pekS (gapS ybxr_0l6).2).2).2).drop (Int.toNat 1)).length c23] 59), .blk W0 (.cells #[iv (pekS (pekS (gapS ybxr_0l6).2).2).1.1, sv ((pekS (pekS (gapS ybxr_0l6).2).2).1.2.1), sv ((pekS (pekS (gapS ybxr_0l6).2).2).1.2.2.1), iv (pekS (pekS (gapS ybxr_0l6).2).2).1.2.2.2] 78), .blk U0 (.cells #[iv (pekS (pekS (gapS ybxr_0l6).2).2).1.1, sv ((pekS (pekS (gapS ybxr_0l6).2).2).1.2.1), sv ((pekS (pekS (gapS ybxr_0l6).2).2).1.2.2.1), iv (pekS (pekS (gapS ybxr_0l6).2).2).1.2.2.2] 78), .blk bs5 (.cells (aK (pekS (gapS ybxr_0l6).2).1) 78), .own (.slice c0 z0.length d0) 5 1 z0.length i0, .blk bs3 (.cells #[.slice k0 v0.length y0, .slice c0 z0.length d0] 25), .own (.slice k0 v0.length y0) 41 1 v0.length f0, .blk bs2 (.cells #[.slice none ([] : List (List TS)).length 0, .slice none ([] : List Int).length 0] 25), .own (.slice none ([] : List Int).length 0) 5 1 ([] : List Int).length ([]), .own (.slice none ([] : List (List TS)).length 0) 41 1 ([] : List (List TS)).length ([])] dc rfl (Ok.op rfl (OpOk.callH [_] _ enr rfl (gap_c (((pekS (pekS (gapS ybxr_0l6).2).2).2).drop (Int.toNat 1)) X2) rfl fun g24 _ _ G1 hV24 => ?_)))))))))))
    obtain ⟨E0, F0, rfl, hR24_0, rfl⟩ := hV24
    replace h0 := h0.mono G1.1
    replace m0 := m0.mono G1.1
    replace hL1 := hL1.mono G1.1
    replace hL2 := hL2.mono G1.1
    replace hG0 := hG0.mono G1.1
    refine Ok.nt ((Ok.mix [0, 1, 3, 4] [5] [.blk bxr (.cells #[.slice E0 ((gapS (((pekS (pekS (gapS ybxr_0l6).2).2).2).drop (Int.toNat 1))).2).length F0] 59), .blk W0 (.cells #[iv (pekS (pekS (gapS ybxr_0l6).2).2).1.1, sv ((pekS (pekS (gapS ybxr_0l6).2).2).1.2.1), sv ((pekS (pekS (gapS ybxr_0l6).2).2).1.2.2.1), iv (pekS (pekS (gapS ybxr_0l6).2).2).1.2.2.2] 78), .blk U0 (.cells #[iv (pekS (pekS (gapS ybxr_0l6).2).2).1.1, sv ((pekS (pekS (gapS ybxr_0l6).2).2).1.2.1), sv ((pekS (pekS (gapS ybxr_0l6).2).2).1.2.2.1), iv (pekS (pekS (gapS ybxr_0l6).2).2).1.2.2.2] 78), .blk bs5 (.cells (aK (pekS (gapS ybxr_0l6).2).1) 78), .own (.slice k0 v0.length y0) 41 1 v0.length f0, .blk bs2 (.cells #[.slice none ([] : List (List TS)).length 0, .slice none ([] : List Int).length 0] 25), .own (.slice none ([] : List Int).length 0) 5 1 ([] : List Int).length ([]), .own (.slice none ([] : List (List TS)).length 0) 41 1 ([] : List (List TS)).length ([])] [(0, true), (1, true), (2, true), (3, true), (4, true), (5, false), (6, false), (7, true), (8, false)] kr kr (.cons_cons _ (.cons_cons _ (.cons_cons _ (.cons_cons _ (.cons _ (.cons _ (.cons_cons _ (.cons_cons _ (.cons_cons _ (.cons_cons _ .slnil)))))))))) (OkM.B 1 [(0, pv bxr 0), (2, pv bs2 0), (3, pv bs3 0), (5, pv bs5 0), (33, pv bs3 1)] kr (OkM.h rfl rfl (show _ = [.blk bxr (.cells #[.slice E0 ((gapS (((pekS (pekS (gapS ybxr_0l6).2).2).2).drop (Int.toNat 1))).2).length F0] 59), .blk W0 (.cells #[iv (pekS (pekS (gapS ybxr_0l6).2).2).1.1, sv ((pekS (pekS (gapS ybxr_0l6).2).2).1.2.1), sv ((pekS (pekS (gapS ybxr_0l6).2).2).1.2.2.1), iv (pekS (pekS (gapS ybxr_0l6).2).2).1.2.2.2] 78), .blk U0 (.cells #[iv (pekS (pekS (gapS ybxr_0l6).2).2).1.1, sv ((pekS (pekS (gapS ybxr_0l6).2).2).1.2.1), sv ((pekS (pekS (gapS ybxr_0l6).2).2).1.2.2.1), iv (pekS (pekS (gapS ybxr_0l6).2).2).1.2.2.2] 78), .blk bs5 (.cells (aK (pekS (gapS ybxr_0l6).2).1) 78), .own (.slice c0 z0.length d0) 5 1 z0.length i0, .blk bs3 (.cells #[.slice k0 v0.length y0, .slice c0 z0.length d0] 25), .own (.slice k0 v0.length y0) 41 1 v0.length f0, .blk bs2 (.cells #[.slice none ([] : List (List TS)).length 0, .slice none ([] : List Int).length 0] 25), .own (.slice none ([] : List Int).length 0) 5 1 ([] : List Int).length ([]), .own (.slice none ([] : List (List TS)).length 0) 41 1 ([] : List (List TS)).length ([])] from rfl) (OpQ.s (v := .slice c0 z0.length d0) (Yields.l 5 rfl rfl Tryz.underlying23 rfl kr) rfl rfl (OkM.b 1 [0, 2, 3] [(34, .slice c0 z0.length d0), (35, pv bs5 1)] ?_))))))
    refine OkM.h rfl rfl (show _ = [.blk bxr (.cells #[.slice E0 ((gapS (((pekS (pekS (gapS ybxr_0l6).2).2).2).drop (Int.toNat 1))).2).length F0] 59), .blk W0 (.cells #[iv (pekS (pekS (gapS ybxr_0l6).2).2).1.1, sv ((pekS (pekS (gapS ybxr_0l6).2).2).1.2.1), sv ((pekS (pekS (gapS ybxr_0l6).2).2).1.2.2.1), iv (pekS (pekS (gapS ybxr_0l6).2).2).1.2.2.2] 78), .blk U0 (.cells #[iv (pekS (pekS (gapS ybxr_0l6).2).2).1.1, sv ((pekS (pekS (gapS ybxr_0l6).2).2).1.2.1), sv ((pekS (pekS (gapS ybxr_0l6).2).2).1.2.2.1), iv (pekS (pekS (gapS ybxr_0l6).2).2).1.2.2.2] 78), .blk bs5 (.cells (aK (pekS (gapS ybxr_0l6).2).1) 78), .own (.slice c0 z0.length d0) 5 1 z0.length i0, .blk bs3 (.cells #[.slice k0 v0.length y0, .slice c0 z0.length d0] 25), .own (.slice k0 v0.length y0) 41 1 v0.length f0, .blk bs2 (.cells #[.slice none ([] : List (List TS)).length 0, .slice none ([] : List Int).length 0] 25), .own (.slice none ([] : List Int).length 0) 5 1 ([] : List Int).length ([]), .own (.slice none ([] : List (List TS)).length 0) 41 1 ([] : List (List TS)).length ([])] from rfl) (OpQ.s (v := sv ((pekS (gapS ybxr_0l6).2).1.2.1)) (Yields.l 3 rfl rfl Tryz.underlying9 rfl kr) rfl rfl ?_)
    obtain ⟨h025, h125, hF⟩ := hF
    have P2 := get_of (l := (pekS (gapS ybxr_0l6).2).1.2.1) (0 : UInt8) h125
    generalize hg25 : (((pekS (gapS ybxr_0l6).2).1.2.1).getD (Int.toNat 0) 0) = e25 at P2 hF ⊢
    refine OkM.h rfl rfl (show _ = [.blk bxr (.cells #[.slice E0 ((gapS (((pekS (pekS (gapS ybxr_0l6).2).2).2).drop (Int.toNat 1))).2).length F0] 59), .blk W0 (.cells #[iv (pekS (pekS (gapS ybxr_0l6).2).2).1.1, sv ((pekS (pekS (gapS ybxr_0l6).2).2).1.2.1), sv ((pekS (pekS (gapS ybxr_0l6).2).2).1.2.2.1), iv (pekS (pekS (gapS ybxr_0l6).2).2).1.2.2.2] 78), .blk U0 (.cells #[iv (pekS (pekS (gapS ybxr_0l6).2).2).1.1, sv ((pekS (pekS (gapS ybxr_0l6).2).2).1.2.1), sv ((pekS (pekS (gapS ybxr_0l6).2).2).1.2.2.1), iv (pekS (pekS (gapS ybxr_0l6).2).2).1.2.2.2] 78), .blk bs5 (.cells (aK (pekS (gapS ybxr_0l6).2).1) 78), .own (.slice c0 z0.length d0) 5 1 z0.length i0, .blk bs3 (.cells #[.slice k0 v0.length y0, .slice c0 z0.length d0] 25), .own (.slice k0 v0.length y0) 41 1 v0.length f0, .blk bs2 (.cells #[.slice none ([] : List (List TS)).length 0, .slice none ([] : List Int).length 0] 25), .own (.slice none ([] : List Int).length 0) 5 1 ([] : List Int).length ([]), .own (.slice none ([] : List (List TS)).length 0) 41 1 ([] : List (List TS)).length ([])] from rfl) (OpQ.s (v := .int .u8 (e25.toNat : Int)) (Yields.ix (k := .i64) (i := 0) (s := (pekS (gapS ybxr_0l6).2).1.2.1) (b := e25) kr kr Tryz.underlying9 h025 P2) rfl rfl ?_)
    have R2 : RepL g24 yb ([.int .u8 (e25.toNat : Int)] : List Value) ([(e25.toNat : Int)] : List Int) := (RepL.consN (c := [.int .u8 (e25.toNat : Int)]) rfl rfl)
    refine OkM.t rfl rfl (OpOk.lit (E := 5) yb ([(e25.toNat : Int)] : List Int) ([.int .u8 (e25.toNat : Int)] : List Value) kr kr rfl kr R2 rfl fun b26 => ?_)
    refine OkM.l (i := 5) (show _ = [.blk bxr (.cells #[.slice E0 ((gapS (((pekS (pekS (gapS ybxr_0l6).2).2).2).drop (Int.toNat 1))).2).length F0] 59), .blk W0 (.cells #[iv (pekS (pekS (gapS ybxr_0l6).2).2).1.1, sv ((pekS (pekS (gapS ybxr_0l6).2).2).1.2.1), sv ((pekS (pekS (gapS ybxr_0l6).2).2).1.2.2.1), iv (pekS (pekS (gapS ybxr_0l6).2).2).1.2.2.2] 78), .blk U0 (.cells #[iv (pekS (pekS (gapS ybxr_0l6).2).2).1.1, sv ((pekS (pekS (gapS ybxr_0l6).2).2).1.2.1), sv ((pekS (pekS (gapS ybxr_0l6).2).2).1.2.2.1), iv (pekS (pekS (gapS ybxr_0l6).2).2).1.2.2.2] 78), .blk bs5 (.cells (aK (pekS (gapS ybxr_0l6).2).1) 78), .own (.slice c0 z0.length d0) 5 1 z0.length i0, .blk bs3 (.cells #[.slice k0 v0.length y0, .slice c0 z0.length d0] 25), .own (.slice k0 v0.length y0) 41 1 v0.length f0, .blk bs2 (.cells #[.slice none ([] : List (List TS)).length 0, .slice none ([] : List Int).length 0] 25), .own (.slice none ([] : List Int).length 0) 5 1 ([] : List Int).length ([]), .own (.slice none ([] : List (List TS)).length 0) 41 1 ([] : List (List TS)).length ([])] from rfl) (Gle.refl _) (.cons _ (.cons_cons _ (.cons_cons _ (.cons_cons _ (.cons_cons _ (.cons_cons _ (.cons_cons _ (.cons_cons _ (.cons_cons _ (.cons_cons _ (.cons_cons _ .slnil))))))))))) ?_
    obtain ⟨hb27, hF⟩ := hF
    refine OkM.t rfl rfl (OpOk.append' (e := .int .u8) 1 140737488355328 5 0 rfl rfl rfl rfl h0 R2 Tryz.underlying23 kr kr kr hb27 rfl fun a27 c27 h2 hL27 => ?_)
    refine OkM.l (i := 6) (show _ = [.blk bxr (.cells #[.slice E0 ((gapS (((pekS (pekS (gapS ybxr_0l6).2).2).2).drop (Int.toNat 1))).2).length F0] 59), .blk W0 (.cells #[iv (pekS (pekS (gapS ybxr_0l6).2).2).1.1, sv ((pekS (pekS (gapS ybxr_0l6).2).2).1.2.1), sv ((pekS (pekS (gapS ybxr_0l6).2).2).1.2.2.1), iv (pekS (pekS (gapS ybxr_0l6).2).2).1.2.2.2] 78), .blk U0 (.cells #[iv (pekS (pekS (gapS ybxr_0l6).2).2).1.1, sv ((pekS (pekS (gapS ybxr_0l6).2).2).1.2.1), sv ((pekS (pekS (gapS ybxr_0l6).2).2).1.2.2.1), iv (pekS (pekS (gapS ybxr_0l6).2).2).1.2.2.2] 78), .blk bs5 (.cells (aK (pekS (gapS ybxr_0l6).2).1) 78), .own (.slice k0 v0.length y0) 41 1 v0.length f0, .blk bs2 (.cells #[.slice none ([] : List (List TS)).length 0, .slice none ([] : List Int).length 0] 25), .own (.slice none ([] : List Int).length 0) 5 1 ([] : List Int).length ([]), .own (.slice none ([] : List (List TS)).length 0) 41 1 ([] : List (List TS)).length ([])] from rfl) (Gle.refl _) (.cons _ (.cons_cons _ (.cons_cons _ (.cons_cons _ (.cons_cons _ (.cons _ (.cons _ (.cons_cons _ (.cons_cons _ (.cons_cons _ (.cons_cons _ .slnil))))))))))) (OkM.b 1 [0, 2, 3] [(39, .slice a27 (z0 ++ ([(e25.toNat : Int)] : List Int)).length c27), (40, pv bs3 1)] ?_)
    refine OkM.t rfl rfl (OpOk.sto (k := 1) (v := .slice a27 (z0 ++ ([(e25.toNat : Int)] : List Int)).length c27) 6 #[.slice k0 v0.length y0, .slice a27 (z0 ++ ([(e25.toNat : Int)] : List Int)).length c27] rfl rfl rfl ?_)
    refine OkM.l (i := 8) (show _ = [.blk bxr (.cells #[.slice E0 ((gapS (((pekS (pekS (gapS ybxr_0l6).2).2).2).drop (Int.toNat 1))).2).length F0] 59), .blk W0 (.cells #[iv (pekS (pekS (gapS ybxr_0l6).2).2).1.1, sv ((pekS (pekS (gapS ybxr_0l6).2).2).1.2.1), sv ((pekS (pekS (gapS ybxr_0l6).2).2).1.2.2.1), iv (pekS (pekS (gapS ybxr_0l6).2).2).1.2.2.2] 78), .blk U0 (.cells #[iv (pekS (pekS (gapS ybxr_0l6).2).2).1.1, sv ((pekS (pekS (gapS ybxr_0l6).2).2).1.2.1), sv ((pekS (pekS (gapS ybxr_0l6).2).2).1.2.2.1), iv (pekS (pekS (gapS ybxr_0l6).2).2).1.2.2.2] 78), .blk bs5 (.cells (aK (pekS (gapS ybxr_0l6).2).1) 78), .own (.slice k0 v0.length y0) 41 1 v0.length f0, .blk bs2 (.cells #[.slice none ([] : List (List TS)).length 0, .slice none ([] : List Int).length 0] 25), .own (.slice none ([] : List Int).length 0) 5 1 ([] : List Int).length ([]), .own (.slice none ([] : List (List TS)).length 0) 41 1 ([] : List (List TS)).length ([])] from rfl) (Gle.refl _) (.cons _ (.cons_cons _ (.cons_cons _ (.cons_cons _ (.cons_cons _ (.cons _ (.cons _ (.cons_cons _ (.cons_cons _ (.cons_cons _ (.cons_cons _ .slnil))))))))))) (OkM.nil (Ok.kn (Ok.t ?_)))
    subst hg25
    refine Ok.heapEq (H' := [.own (.slice (some ⟨b26, 0, none⟩) ([((((pekS (gapS ybxr_0l6).2).1.2.1).getD (Int.toNat 0) 0).toNat : Int)] : List Int).length 1) 5 1 ([((((pekS (gapS ybxr_0l6).2).1.2.1).getD (Int.toNat 0) 0).toNat : Int)] : List Int).length ([.int .u8 ((((pekS (gapS ybxr_0l6).2).1.2.1).getD (Int.toNat 0) 0).toNat : Int)] : List Value), .blk bxr (.cells #[.slice E0 (pthV6 ybxr_0l6).length F0] 59), .blk W0 (.cells #[iv (pekS (pekS (gapS ybxr_0l6).2).2).1.1, sv ((pekS (pekS (gapS ybxr_0l6).2).2).1.2.1), sv ((pekS (pekS (gapS ybxr_0l6).2).2).1.2.2.1), iv (pekS (pekS (gapS ybxr_0l6).2).2).1.2.2.2] 78), .blk U0 (.cells #[iv (pekS (pekS (gapS ybxr_0l6).2).2).1.1, sv ((pekS (pekS (gapS ybxr_0l6).2).2).1.2.1), sv ((pekS (pekS (gapS ybxr_0l6).2).2).1.2.2.1), iv (pekS (pekS (gapS ybxr_0l6).2).2).1.2.2.2] 78), .blk bs5 (.cells (aK (pekS (gapS ybxr_0l6).2).1) 78), .own (.slice a27 (pthV7 z0 ybxr_0l6).length c27) 5 1 (pthV7 z0 ybxr_0l6).length h2, .blk bs3 (.cells #[.slice k0 v0.length y0, .slice a27 (pthV7 z0 ybxr_0l6).length c27] 25), .own (.slice k0 v0.length y0) 41 1 v0.length f0, .blk bs2 (.cells #[.slice none ([] : List (List TS)).length 0, .slice none ([] : List Int).length 0] 25), .own (.slice none ([] : List Int).length 0) 5 1 ([] : List Int).length ([]), .own (.slice none ([] : List (List TS)).length 0) 41 1 ([] : List (List TS)).length ([])]) (econs (rfl) (econs (congrArg (fun l : List Value => Ent.blk bxr (.cells ⟨l⟩ 59)) (lcons (congrArg (fun l : List KT => Value.slice E0 l.length F0) ((if_t C0).symm)) rfl)) (econs (rfl) (econs (rfl) (econs (rfl) (econs (congrArg (fun l : List Int => Ent.own (.slice a27 l.length c27) 5 1 l.length h2) ((if_t C0).symm)) (econs (congrArg (fun l : List Value => Ent.blk bs3 (.cells ⟨l⟩ 25)) (lcons (rfl) (lcons (congrArg (fun l : List Int => Value.slice a27 l.length c27) ((if_t C0).symm)) rfl))) (econs (rfl) (econs (rfl) (econs (rfl) (econs (rfl) rfl))))))))))) ?_
    exact fun a W hA hW => ⟨g24, ((M0.trans c1).trans G1), E0, F0, a27, c27, h2, (Eq.mp (congrArg (fun l : List KT => Rep g24 (.slice yK) [.slice E0 l.length F0] l) ((if_t C0).symm)) hR24_0), (Eq.mp (congrArg (fun l : List Int => RepL g24 yb h2 l) ((if_t C0).symm)) hL27), hA.sub kr, hW.sub (.cons _ (.cons_cons _ (.cons _ (.cons _ (.cons _ (.cons_cons _ (.cons_cons _ (.cons_cons _ (.cons_cons _ (.cons_cons _ (.cons_cons _ .slnil))))))))))), hF⟩
   replace hF := hF.2 C0
   refine Ok.cut (fun a W => ∃ K1 : Ghost, Gext w0 I0 K1 ∧ StA 70 [(0, pv bxr 0), (2, pv bs2 0), (3, pv bs3 0), (41, .bool (pthV5 ybxr_0l6))] a ∧ StW w0 [.blk bxr (.cells #[.slice G0 ((pekS (gapS ybxr_0l6).2).2).length H0] 59), .own (.slice c0 z0.length d0) 5 1 z0.length i0, .blk bs3 (.cells #[.slice k0 v0.length y0, .slice c0 z0.length d0] 25), .own (.slice k0 v0.length y0) 41 1 v0.length f0, .blk bs2 (.cells #[.slice none ([] : List (List TS)).length 0, .slice none ([] : List Int).length 0] 25), .own (.slice none ([] : List Int).length 0) 5 1 ([] : List Int).length ([]), .own (.slice none ([] : List (List TS)).length 0) 41 1 ([] : List (List TS)).length ([])] K1 W ∧ pthj22 K z0 v0 ybxr_0l6 (pthl6 K k6)) ?_ ?_
   ·
    refine Ok.r (Ok.b 2 [0, 2, 3, 5] [(43, .bool (gapS ybxr_0l6).1)] ?_)
    refine Ok.a 43 (gapS ybxr_0l6).1 rfl (fun z1 => ?_) (fun z1 => ?_)
    ·replace hF := hF.1 z1
     refine Ok.b 1 [0, 2, 3, 5] [(43, .bool true), (44, pv bs5 0)] ?_
     refine Ok.y (j := 1) (d := 43) (want := true) (b := true) rfl kr kr rfl (OpOk.s (v := iv (pekS (gapS ybxr_0l6).2).1.1) (Yields.l 0 rfl rfl Tryz.underlying3 rfl kr) rfl rfl (Ok.b 3 [0, 2, 3, 5] [(48, .bool ((pekS (gapS ybxr_0l6).2).1.1 != 0))] ?_))
     refine Ok.a 48 (((pekS (gapS ybxr_0l6).2).1.1 != 0)) rfl (fun u1 => ?_) (fun u1 => ?_)
     ·replace hF := hF.1 u1
      refine Ok.b 1 [0, 2, 3, 5] [(48, .bool true), (49, pv bs5 1)] ?_
      refine Ok.y (j := 6) (d := 48) (want := true) (b := true) rfl kr kr rfl (OpOk.s (v := sv ((pekS (gapS ybxr_0l6).2).1.2.1)) (Yields.l 0 rfl rfl Tryz.underlying9 rfl kr) rfl rfl (Ok.y (j := 6) (d := 48) (want := true) (b := true) rfl kr kr rfl (OpOk.s (v := .bool (!((pekS (gapS ybxr_0l6).2).1.2.1 == ([44] : Bs)))) (Yields.sc (f := .neq) (a := (pekS (gapS ybxr_0l6).2).1.2.1) (b := ([44] : Bs)) kr kr rfl) rfl rfl (Ok.b 2 [0, 2, 3, 5] [(53, .bool (!((pekS (gapS ybxr_0l6).2).1.2.1 == ([44] : Bs))))] ?_))))
      refine Ok.a 53 (!((pekS (gapS ybxr_0l6).2).1.2.1 == ([44] : Bs))) rfl (fun d1 => ?_) (fun d1 => ?_)
      ·replace hF := hF.1 d1
       refine Ok.b 1 [0, 2, 3] [(53, .bool true), (54, pv bs5 1)] ?_
       refine Ok.y (j := 11) (d := 53) (want := true) (b := true) rfl kr kr rfl (OpOk.s (v := sv ((pekS (gapS ybxr_0l6).2).1.2.1)) (Yields.l 0 rfl rfl Tryz.underlying9 rfl kr) rfl rfl (Ok.y (j := 11) (d := 53) (want := true) (b := true) rfl kr kr rfl (OpOk.s (v := .bool (!((pekS (gapS ybxr_0l6).2).1.2.1 == ([41] : Bs)))) (Yields.sc (f := .neq) (a := (pekS (gapS ybxr_0l6).2).1.2.1) (b := ([41] : Bs)) kr kr rfl) rfl rfl (Ok.b 2 [0, 2, 3] [(41, .bool (!((pekS (gapS ybxr_0l6).2).1.2.1 == ([41] : Bs))))] ?_))))
       refine Ok.nt ((Ok.v 41 rfl (show (.bool (!((pekS (gapS ybxr_0l6).2).1.2.1 == ([41] : Bs))) : Value) = .bool (pthV5 ybxr_0l6) from congrArg (Value.bool) ((Eq.trans ((Eq.trans (mand_t d1) (mand_t u1))) (mand_t z1)))) ?_))
       exact fun a W hA hW => ⟨I0, (Gext.r w0 I0), hA.sub kr, hW.sub (.cons _ (.cons_cons _ (.cons_cons _ (.cons_cons _ (.cons_cons _ (.cons_cons _ (.cons_cons _ (.cons_cons _ .slnil)))))))), hF⟩
      replace hF := hF.2 d1
      refine Ok.b 5 [0, 2, 3] [(41, .bool false)] ?_
      refine Ok.nt ((Ok.v 41 rfl (show (.bool false : Value) = .bool (pthV5 ybxr_0l6) from congrArg (Value.bool) ((Eq.trans ((Eq.trans (mand_f d1) (mand_t u1))) (mand_t z1)))) ?_))
      exact fun a W hA hW => ⟨I0, (Gext.r w0 I0), hA.sub kr, hW.sub (.cons _ (.cons_cons _ (.cons_cons _ (.cons_cons _ (.cons_cons _ (.cons_cons _ (.cons_cons _ (.cons_cons _ .slnil)))))))), hF⟩
     replace hF := hF.2 u1
     refine Ok.b 10 [0, 2, 3] [(41, .bool false)] ?_
     refine Ok.nt ((Ok.v 41 rfl (show (.bool false : Value) = .bool (pthV5 ybxr_0l6) from congrArg (Value.bool) ((Eq.trans (mand_f u1) (mand_t z1)))) ?_))
     exact fun a W hA hW => ⟨I0, (Gext.r w0 I0), hA.sub kr, hW.sub (.cons _ (.cons_cons _ (.cons_cons _ (.cons_cons _ (.cons_cons _ (.cons_cons _ (.cons_cons _ (.cons_cons _ .slnil)))))))), hF⟩
    replace hF := hF.2 z1
    refine Ok.b 15 [0, 2, 3] [(41, .bool false)] ?_
    refine Ok.nt ((Ok.v 41 rfl (show (.bool false : Value) = .bool (pthV5 ybxr_0l6) from congrArg (Value.bool) (mand_f z1)) ?_))
    exact fun a W hA hW => ⟨I0, (Gext.r w0 I0), hA.sub kr, hW.sub (.cons _ (.cons_cons _ (.cons_cons _ (.cons_cons _ (.cons_cons _ (.cons_cons _ (.cons_cons _ (.cons_cons _ .slnil)))))))), hF⟩
   clear hF
   rintro a W ⟨K1, L0, hA, hW, hF⟩
   refine (?_ : Ok _ _ _ _ _ _) a W hA hW
   clear hA hW
   replace J0 := J0.mono L0.1
   replace h0 := h0.mono L0.1
   replace m0 := m0.mono L0.1
   replace hL1 := hL1.mono L0.1
   replace hL2 := hL2.mono L0.1
   replace hG0 := hG0.mono L0.1
   refine Ok.cn hF rfl (fun D2 => ?_) (fun D2 => ?_)
   ·replace hF := hF.1 D2
    refine Ok.r (Ok.b 1 [0, 2, 3] [(58, pv bs3 1)] ?_)
    refine Ok.op rfl (OpOk.s (v := .slice c0 z0.length d0) (Yields.l 2 rfl rfl Tryz.underlying23 rfl kr) rfl rfl ?_)
    have T2 : RepL K1 yb ([.int .u8 32] : List Value) ([32] : List Int) := (RepL.consN (c := [.int .u8 32]) rfl rfl)
    refine Ok.op rfl (OpOk.lit (E := 5) yb ([32] : List Int) ([.int .u8 32] : List Value) kr kr rfl kr T2 rfl fun b29 => ?_)
    obtain ⟨hb30, hF⟩ := hF
    refine Ok.op rfl (OpOk.append' (e := .int .u8) 1 140737488355328 2 0 rfl rfl rfl rfl h0 T2 Tryz.underlying23 kr kr kr hb30 rfl fun a30 c30 m2 hL30 => ?_)
    refine Ok.b 1 [0, 2, 3] [(61, .slice a30 (z0 ++ ([32] : List Int)).length c30), (62, pv bs3 1)] ?_
    refine Ok.op rfl (OpOk.sto (k := 1) (v := .slice a30 (z0 ++ ([32] : List Int)).length c30) 3 #[.slice k0 v0.length y0, .slice a30 (z0 ++ ([32] : List Int)).length c30] rfl rfl rfl ?_)
    refine Ok.j (Ok.kn (Ok.t (Ok.heapEq (H' := [.own (.slice (some ⟨b29, 0, none⟩) ([32] : List Int).length 1) 5 1 ([32] : List Int).length ([.int .u8 32] : List Value), .blk bxr (.cells #[.slice G0 (pthV6 ybxr_0l6).length H0] 59), .own (.slice a30 (pthV7 z0 ybxr_0l6).length c30) 5 1 (pthV7 z0 ybxr_0l6).length m2, .blk bs3 (.cells #[.slice k0 v0.length y0, .slice a30 (pthV7 z0 ybxr_0l6).length c30] 25), .own (.slice k0 v0.length y0) 41 1 v0.length f0, .blk bs2 (.cells #[.slice none ([] : List (List TS)).length 0, .slice none ([] : List Int).length 0] 25), .own (.slice none ([] : List Int).length 0) 5 1 ([] : List Int).length ([]), .own (.slice none ([] : List (List TS)).length 0) 41 1 ([] : List (List TS)).length ([])]) (econs (rfl) (econs (congrArg (fun l : List Value => Ent.blk bxr (.cells ⟨l⟩ 59)) (lcons (congrArg (fun l : List KT => Value.slice G0 l.length H0) ((if_f C0).symm)) rfl)) (econs (congrArg (fun l : List Int => Ent.own (.slice a30 l.length c30) 5 1 l.length m2) ((if_f C0).symm)) (econs (congrArg (fun l : List Value => Ent.blk bs3 (.cells ⟨l⟩ 25)) (lcons (rfl) (lcons (congrArg (fun l : List Int => Value.slice a30 l.length c30) ((if_f C0).symm)) rfl))) (econs (rfl) (econs (rfl) (econs (rfl) (econs (rfl) rfl)))))))) ?_)))
    exact fun a W hA hW => ⟨K1, (M0.trans L0), G0, H0, a30, c30, m2, (Eq.mp (congrArg (fun l : List KT => Rep K1 (.slice yK) [.slice G0 l.length H0] l) ((if_f C0).symm)) J0), (Eq.mp (congrArg (fun l : List Int => RepL K1 yb m2 l) ((if_f C0).symm)) hL30), hA.sub kr, hW.sub (.cons _ (.cons_cons _ (.cons_cons _ (.cons_cons _ (.cons_cons _ (.cons_cons _ (.cons_cons _ (.cons_cons _ .slnil)))))))), hF⟩
   replace hF := hF.2 D2
   refine Ok.sr ((Ok.op rfl (OpOk.s (v := .agg #[.slice k0 v0.length y0, .slice c0 z0.length d0]) (Yields.loadAgg 2 2 #[.slice k0 v0.length y0, .slice c0 z0.length d0] rfl rfl Tryz.underlying25 rfl kr kr kr) rfl rfl (Ok.op rfl (OpOk.sto (k := 2) (v := .agg #[.slice k0 v0.length y0, .slice c0 z0.length d0]) 4 #[.slice k0 v0.length y0, .slice c0 z0.length d0] rfl rfl rfl ?_)))))
   refine Ok.nt ((Ok.ret (Ok.kr (Ok.tr (Ok.kr (Ok.tr (Ok.kr (Ok.frz 3 rfl m0 fun g31 H1 k2 => ?_))))))))
   replace h0 := h0.mono H1.1
   replace J0 := J0.mono H1.1
   replace hL2 := hL2.mono H1.1
   replace hL1 := hL1.mono H1.1
   replace hG0 := hG0.mono H1.1
   refine Ok.frz 1 rfl h0 fun g32 M1 hRf32 => ?_
   replace k2 := k2.mono M1.1
   replace J0 := J0.mono M1.1
   replace hL2 := hL2.mono M1.1
   replace hL1 := hL1.mono M1.1
   replace hG0 := hG0.mono M1.1
   exact Ok.p (vs := [.agg #[.slice k0 v0.length y0, .slice c0 z0.length d0]]) [0] [.blk bxr (.cells #[.slice G0 ((pekS (gapS ybxr_0l6).2).2).length H0] 59)] dc rfl (.inl rfl) rfl (.cons (.cellAgg 2 2 #[.slice k0 v0.length y0, .slice c0 z0.length d0] rfl rfl Tryz.underlying25 rfl kr kr kr) .nil) (((((((hx5.trans x1).trans Q1).trans A0).trans M0).trans L0).trans H1).trans M1) ⟨(v0, z0), (pekS (gapS ybxr_0l6).2).2, k0, y0, c0, d0, G0, H0, rfl, k2, hRf32, J0, rfl, hF⟩
  clear hF
  rintro a W ⟨v2, h1, aybxr_0j12, cybxr_0j12, n0, o0, a0, hRybxr_0j12, X0, hA, hW, hF⟩
  refine (?_ : Ok _ _ _ _ _ _) a W hA hW
  clear hA hW
  replace m0 := m0.mono h1.1
  replace hL1 := hL1.mono h1.1
  replace hL2 := hL2.mono h1.1
  replace hG0 := hG0.mono h1.1
  refine Ok.mixs [0, 1, 2] [3, 4] [.own (.slice n0 (pthV7 z0 ybxr_0l6).length o0) 5 1 (pthV7 z0 ybxr_0l6).length a0, .blk bs3 (.cells #[.slice k0 v0.length y0, .slice n0 (pthV7 z0 ybxr_0l6).length o0] 25), .own (.slice k0 v0.length y0) 41 1 v0.length f0, .blk bs2 (.cells #[.slice none ([] : List (List TS)).length 0, .slice none ([] : List Int).length 0] 25), .own (.slice none ([] : List Int).length 0) 5 1 ([] : List Int).length ([]), .own (.slice none ([] : List (List TS)).length 0) 41 1 ([] : List (List TS)).length ([])] [.own (.slice n0 (pthV7 z0 ybxr_0l6).length o0) 5 1 (pthV7 z0 ybxr_0l6).length a0, .blk bs2 (.cells #[.slice none ([] : List (List TS)).length 0, .slice none ([] : List Int).length 0] 25), .own (.slice none ([] : List Int).length 0) 5 1 ([] : List Int).length ([]), .own (.slice none ([] : List (List TS)).length 0) 41 1 ([] : List (List TS)).length ([])] [(0, true), (1, true), (2, true), (3, false), (4, false), (5, false), (6, true), (7, false)] kr kr (.cons_cons _ (.cons _ (.cons _ (.cons_cons _ (.cons_cons _ (.cons_cons _ .slnil)))))) (.cons _ (.cons_cons _ (.cons_cons _ (.cons_cons _ (.cons_cons _ (.cons_cons _ (.cons_cons _ .slnil))))))) (OkM.B 1 [(0, pv bxr 0), (2, pv bs2 0), (3, pv bs3 0), (63, pv bs3 0)] kr (OkM.h rfl rfl (show _ = [.own (.slice n0 (pthV7 z0 ybxr_0l6).length o0) 5 1 (pthV7 z0 ybxr_0l6).length a0, .blk bs3 (.cells #[.slice k0 v0.length y0, .slice n0 (pthV7 z0 ybxr_0l6).length o0] 25), .own (.slice k0 v0.length y0) 41 1 v0.length f0, .blk bs2 (.cells #[.slice none ([] : List (List TS)).length 0, .slice none ([] : List Int).length 0] 25), .own (.slice none ([] : List Int).length 0) 5 1 ([] : List Int).length ([]), .own (.slice none ([] : List (List TS)).length 0) 41 1 ([] : List (List TS)).length ([])] from rfl) (OpQ.s (v := .slice k0 v0.length y0) (Yields.l 1 rfl rfl Tryz.underlying22 rfl kr) rfl rfl (OkM.b 1 [0, 2, 3] [(64, .slice k0 v0.length y0), (65, pv bxr 0)] ?_))))
  obtain ⟨V2, hF⟩ := hF
  refine OkM.t rfl rfl (OpOk.callH [_] _ enr rfl (stp_c (pthV6 ybxr_0l6) hRybxr_0j12 hG0 V2) rfl fun g15 _ _ s1 hV15 => ?_)
  obtain ⟨y2, u2, a15_2, c15_2, rfl, hR15_0, hR15_2, rfl⟩ := hV15
  replace m0 := m0.mono s1.1
  replace X0 := X0.mono s1.1
  replace hL1 := hL1.mono s1.1
  replace hL2 := hL2.mono s1.1
  replace hG0 := hG0.mono s1.1
  refine OkM.l (i := 3) (show _ = [.own (.slice n0 (pthV7 z0 ybxr_0l6).length o0) 5 1 (pthV7 z0 ybxr_0l6).length a0, .blk bs3 (.cells #[.slice k0 v0.length y0, .slice n0 (pthV7 z0 ybxr_0l6).length o0] 25), .own (.slice k0 v0.length y0) 41 1 v0.length f0, .blk bs2 (.cells #[.slice none ([] : List (List TS)).length 0, .slice none ([] : List Int).length 0] 25), .own (.slice none ([] : List Int).length 0) 5 1 ([] : List Int).length ([]), .own (.slice none ([] : List (List TS)).length 0) 41 1 ([] : List (List TS)).length ([])] from rfl) s1.1 (.cons _ (.cons_cons _ (.cons_cons _ (.cons_cons _ (.cons_cons _ (.cons_cons _ (.cons_cons _ .slnil))))))) ?_
  have L2 : RepL g15 (.slice yS) ([.slice y2 ((stpR (pthV6 ybxr_0l6)).1).length u2] : List Value) ([(stpR (pthV6 ybxr_0l6)).1] : List (List TS)) := (RepL.consN (c := [.slice y2 ((stpR (pthV6 ybxr_0l6)).1).length u2]) hR15_0 rfl)
  refine OkM.t rfl rfl (OpOk.lit (E := 41) (.slice yS) ([(stpR (pthV6 ybxr_0l6)).1] : List (List TS)) ([.slice y2 ((stpR (pthV6 ybxr_0l6)).1).length u2] : List Value) kr kr rfl kr L2 rfl fun b16 => ?_)
  refine OkM.l (i := 4) (show _ = [.own (.slice n0 (pthV7 z0 ybxr_0l6).length o0) 5 1 (pthV7 z0 ybxr_0l6).length a0, .blk bs3 (.cells #[.slice k0 v0.length y0, .slice n0 (pthV7 z0 ybxr_0l6).length o0] 25), .own (.slice k0 v0.length y0) 41 1 v0.length f0, .blk bs2 (.cells #[.slice none ([] : List (List TS)).length 0, .slice none ([] : List Int).length 0] 25), .own (.slice none ([] : List Int).length 0) 5 1 ([] : List Int).length ([]), .own (.slice none ([] : List (List TS)).length 0) 41 1 ([] : List (List TS)).length ([])] from rfl) s1.1 (.cons _ (.cons _ (.cons_cons _ (.cons_cons _ (.cons_cons _ (.cons_cons _ (.cons_cons _ (.cons_cons _ .slnil)))))))) ?_
  obtain ⟨hb17, hF⟩ := hF
  refine OkM.t rfl rfl (OpOk.append' (e := .slice yS) 24 5864062014805 4 0 rfl rfl rfl rfl m0 L2 Tryz.underlying22 kr kr kr hb17 rfl fun a17 c17 xs17 hL17 => ?_)
  refine OkM.l (i := 5) (show _ = [.own (.slice n0 (pthV7 z0 ybxr_0l6).length o0) 5 1 (pthV7 z0 ybxr_0l6).length a0, .blk bs2 (.cells #[.slice none ([] : List (List TS)).length 0, .slice none ([] : List Int).length 0] 25), .own (.slice none ([] : List Int).length 0) 5 1 ([] : List Int).length ([]), .own (.slice none ([] : List (List TS)).length 0) 41 1 ([] : List (List TS)).length ([])] from rfl) s1.1 (.cons _ (.cons _ (.cons_cons _ (.cons _ (.cons _ (.cons_cons _ (.cons_cons _ (.cons_cons _ .slnil)))))))) (OkM.b 1 [0, 2, 3] [(68, .slice a17 (v0 ++ ([(stpR (pthV6 ybxr_0l6)).1] : List (List TS))).length c17), (69, pv bs3 0)] ?_)
  refine OkM.t rfl rfl (OpOk.sto (k := 1) (v := .slice a17 (v0 ++ ([(stpR (pthV6 ybxr_0l6)).1] : List (List TS))).length c17) 3 #[.slice a17 (v0 ++ ([(stpR (pthV6 ybxr_0l6)).1] : List (List TS))).length c17, .slice n0 (pthV7 z0 ybxr_0l6).length o0] rfl rfl rfl ?_)
  refine OkM.l (i := 7) (show _ = [.own (.slice n0 (pthV7 z0 ybxr_0l6).length o0) 5 1 (pthV7 z0 ybxr_0l6).length a0, .blk bs2 (.cells #[.slice none ([] : List (List TS)).length 0, .slice none ([] : List Int).length 0] 25), .own (.slice none ([] : List Int).length 0) 5 1 ([] : List Int).length ([]), .own (.slice none ([] : List (List TS)).length 0) 41 1 ([] : List (List TS)).length ([])] from rfl) s1.1 (.cons _ (.cons _ (.cons_cons _ (.cons _ (.cons _ (.cons_cons _ (.cons_cons _ (.cons_cons _ .slnil)))))))) (OkM.nil (Ok.kn (Ok.t ?_)))
  exact fun a W hA hW => ⟨k6, Nat.lt_succ_self _, g15, ((((x1.trans Q1).trans A0).trans h1).trans s1), n0, o0, (pthV7 z0 ybxr_0l6), a0, a17, c17, (v0 ++ ([(stpR (pthV6 ybxr_0l6)).1] : List (List TS))), xs17, a15_2, c15_2, (stpR (pthV6 ybxr_0l6)).2, X0, hL17, hR15_2, hA.sub kr, hW.pick [2, 3, 4, 1, 5, 6, 7] _ dc rfl, hF⟩
def pA : Ph := ([[tA], [tB]], [62])
def pthP (r : Rd) : Prop := r = R0
def pthR (r : Rd) : Ph × Rd := (pA, [])
theorem pth_F (r : Rd) (hp : pthP r) : pthF r (fun a b => (a, b) = pthR r) := by
 obtain rfl : r = R0 := hp
 have fin : pthl6 (fun a b => (a, b) = pthR R0) 1 [62] [[tA], [tB]] [] := by
  have j22 : pthj22 (fun a b => (a, b) = pthR R0) [62] [[tA], [tB]] [] (pthl6 (fun a b => (a, b) = pthR R0) 0) := ⟨fun h => absurd h dk, fun _ => by show _ = _; kernel_rfl⟩
  have j14 : pthj14 (fun a b => (a, b) = pthR R0) [62] [[tA], [tB]] [] (pthl6 (fun a b => (a, b) = pthR R0) 0) := ⟨fun h => absurd h dk, fun _ => ⟨fun h => absurd h dk, fun _ => j22⟩⟩
  exact ⟨fun h => absurd h dk, fun _ => ⟨fun h => absurd h dk, fun _ => j14⟩⟩
 have j12 : pthj12 [] [(stpR R0).1] (stpR R0).2 (pthl6 (fun a b => (a, b) = pthR R0) 1) := ⟨.inr kr, by decide +kernel, fin⟩
 have j14 : pthj14 (fun a b => (a, b) = pthR R0) [] [(stpR R0).1] (stpR R0).2 (pthl6 (fun a b => (a, b) = pthR R0) 1) := ⟨fun _ => ⟨fun h => absurd h dk, fun _ => ⟨by decide, by decide +kernel, by decide +kernel, by decide, by decide +kernel, by decide +kernel, j12⟩⟩, fun h => absurd h dk⟩
 exact ⟨.inl rfl, 2, fun _ => j14, fun h => absurd h dk⟩
theorem pth_c {g : Ghost} {bxr : Nat} {axr_0 : Option Addr} {cxr_0 : Nat} (xr : List KT) (hRxr_0 : Rep g (.slice yK) [.slice axr_0 xr.length cxr_0] xr) (hG0 : SomeInt g 0)  (hp : pthP xr) : CallsH Tryz.prog 45 #[pv bxr 0] g [.blk bxr (.cells #[.slice axr_0 xr.length cxr_0] 59)] (fun g' H' v => ∃ (Z0 : Option Addr) (V0 : Nat), ∃ (v1 : Option Addr) (q1 : Nat), ∃ (afxr_0 : Option Addr) (cfxr_0 : Nat), v = .agg #[.slice Z0 (pthR xr).1.1.length V0, .slice v1 (pthR xr).1.2.length q1] ∧ Rep g' (.slice (.slice yS)) [.slice Z0 (pthR xr).1.1.length V0] (pthR xr).1.1 ∧ Rep g' (.slice yb) [.slice v1 (pthR xr).1.2.length q1] (pthR xr).1.2 ∧ Rep g' (.slice yK) [.slice afxr_0 ((pthR xr).2).length cfxr_0] (pthR xr).2 ∧ H' = [.blk bxr (.cells #[.slice afxr_0 ((pthR xr).2).length cfxr_0] 59)]) :=
 (pth_ok xr hRxr_0 hG0 _ (pth_F xr hp)).mono (by rintro g' H' v _ ⟨r0, fxr, Z0, V0, v1, q1, afxr_0, cfxr_0, rfl, B0, hRr0_1, hRfxr_0, rfl, hK⟩; obtain ⟨rfl, rfl⟩ : r0 = (pthR xr).1 ∧ fxr = (pthR xr).2 := ⟨congrArg (fun z => z.1) hK, congrArg (fun z => z.2) hK⟩; exact ⟨Z0, V0, v1, q1, afxr_0, cfxr_0, rfl, B0, hRr0_1, hRfxr_0, rfl⟩)
def lstl6b (xr : List KT) (xend : Bs) (K : (List PH) → (List KT) → Prop) (C6 : Prop) : Prop :=
 pthP (gapS xr).2 ∧ (([] : List PH) ++ ([(pthR (gapS xr).2).1] : List PH)).length ≤ 2932031007402 ∧ rawP (gapS (pthR (gapS xr).2).2).2 ([44] : Bs) ∧ ((rwS (gapS (pthR ((gapS xr).2)).2).2 ([44] : Bs)).1 = true → False) ∧ ((rwS (gapS (pthR ((gapS xr).2)).2).2 ([44] : Bs)).1 = false → (((xend == ([] : Bs))) = true → ((!((((rwS (gapS (pthR (gapS xr).2).2).2 ([44] : Bs)).2).length : Int) == 0)) = true → False) ∧ ((!((((rwS (gapS (pthR (gapS xr).2).2).2 ([44] : Bs)).2).length : Int) == 0)) = false → K (([] : List PH) ++ ([(pthR (gapS xr).2).1] : List PH)) (rwS (gapS (pthR ((gapS xr).2)).2).2 ([44] : Bs)).2)) ∧ (((xend == ([] : Bs))) = false → False))
def lstl6 (xr : List KT) (xend : Bs) (K : (List PH) → (List KT) → Prop) : Nat → Prop
 | 0 => False
 | k + 1 => lstl6b xr xend K (lstl6 xr xend K k)
def lstF (xr : List KT) (xend : Bs) (K : (List PH) → (List KT) → Prop) : Prop :=
 ∃ k, lstl6 xr xend K k
theorem lst_ok {g : Ghost} {bxr : Nat} {axr_0 : Option Addr} {cxr_0 : Nat} (xr : List KT) (xend : Bs) (hRxr_0 : Rep g (.slice yK) [.slice axr_0 xr.length cxr_0] xr) (hG0 : SomeInt g 0) (K : (List PH) → (List KT) → Prop)
  (hF : lstF xr xend K) : CallsH Tryz.prog 28 #[pv bxr 0, sv xend] g [.blk bxr (.cells #[.slice axr_0 xr.length cxr_0] 59)] (fun g' H' v => ∃ (r0 : List PH), ∃ (fxr : List KT), ∃ (Z0 : Option Addr) (V0 : Nat), ∃ (afxr_0 : Option Addr) (cfxr_0 : Nat), v = .slice Z0 r0.length V0 ∧ Rep g' (.slice yP) [.slice Z0 r0.length V0] r0 ∧ Rep g' (.slice yK) [.slice afxr_0 fxr.length cfxr_0] fxr ∧ H' = [.blk bxr (.cells #[.slice afxr_0 fxr.length cfxr_0] 59)] ∧ K r0 fxr) := by
 refine CallsH.enter 33 [(0, pv bxr 0), (1, sv xend)] Tryz.func28 rfl kr kr kr fun w0 => ?_
 refine Ok.sr ((Ok.B 1 [(0, pv bxr 0), (1, sv xend)] kr (Ok.nt ((Ok.sr ((Ok.b 1 [0, 1] [(5, .slice none 0 0)] ?_)))))))
 have hL1 : RepL g yP [] [] := rfl
 refine Ok.ownNil 25 2 (Ok.nt ((Ok.block ?_)))
 obtain ⟨k, hF⟩ := hF
 refine Ok.L (fun k a W => ∃ gl6 : Ghost, Gext w0 g gl6 ∧ StA 33 [(0, pv bxr 0), (1, sv xend), (5, .slice none ([] : List PH).length 0)] a ∧ StW w0 [.own (.slice none ([] : List PH).length 0) 25 2 ([] : List PH).length ([]), .blk bxr (.cells #[.slice axr_0 xr.length cxr_0] 59)] gl6 W ∧ lstl6 xr xend K k) k ?_ ?_
 ·
  exact fun a W hA hW => ⟨g, (Gext.r w0 g), hA.sub kr, hW, hF⟩
 clear hF
 rintro k6 a W ⟨gl6, x1, hA, hW, hF⟩
 cases k6 with
 | zero => exact (hF : False).elim
 | succ k6 =>
  refine (?_ : Ok _ _ _ _ _ _) a W hA hW
  clear hA hW
  replace hL1 := hL1.mono x1.1
  replace hRxr_0 := hRxr_0.mono x1.1
  replace hG0 := hG0.mono x1.1
  refine Ok.block (Ok.sr ((Ok.b 1 [0, 1, 5] [(6, pv bxr 0)] ?_)))
  refine Ok.e [1, 0] [.blk bxr (.cells #[.slice axr_0 xr.length cxr_0] 59), .own (.slice none ([] : List PH).length 0) 25 2 ([] : List PH).length ([])] dc rfl (Ok.op rfl (OpOk.callH [_] _ enr rfl (gap_c xr hRxr_0) rfl fun g2 _ _ hx2 hV2 => ?_))
  obtain ⟨k1, y1, rfl, P0, rfl⟩ := hV2
  replace hL1 := hL1.mono hx2.1
  replace hG0 := hG0.mono hx2.1
  refine Ok.nt ((Ok.sr ((Ok.B 2 [(0, pv bxr 0), (1, sv xend), (8, .slice none ([] : List PH).length 0), (9, pv bxr 0)] kr ?_))))
  obtain ⟨hp3, hF⟩ := hF
  refine Ok.op rfl (OpOk.callH [_] _ enr rfl (pth_c (gapS xr).2 P0 hG0 hp3) rfl fun g4 _ _ hx4 hV4 => ?_)
  obtain ⟨j2, x2, s2, b2, a4_4, c4_4, rfl, hR4_0, hR4_2, hR4_4, rfl⟩ := hV4
  replace hL1 := hL1.mono hx4.1
  replace hG0 := hG0.mono hx4.1
  have hL5 : RepL g4 yP ([.slice j2 ((pthR (gapS xr).2).1.1).length x2, .slice s2 ((pthR (gapS xr).2).1.2).length b2] : List Value) ([(pthR (gapS xr).2).1] : List PH) := (RepL.consN (c := [.slice j2 ((pthR (gapS xr).2).1.1).length x2, .slice s2 ((pthR (gapS xr).2).1.2).length b2]) ⟨[.slice j2 ((pthR (gapS xr).2).1.1).length x2], [.slice s2 ((pthR (gapS xr).2).1.2).length b2], rfl, hR4_0, hR4_2⟩ rfl)
  refine Ok.op rfl (OpOk.lit (E := 25) yP ([(pthR (gapS xr).2).1] : List PH) ([.slice j2 ((pthR (gapS xr).2).1.1).length x2, .slice s2 ((pthR (gapS xr).2).1.2).length b2] : List Value) kr kr rfl kr hL5 rfl fun b5 => ?_)
  obtain ⟨hb6, hF⟩ := hF
  refine Ok.op rfl (OpOk.append' (e := yP) 48 2932031007402 2 0 rfl rfl rfl rfl hL1 hL5 Tryz.underlying29 kr kr kr hb6 rfl fun a6 c6 xs6 hL6 => ?_)
  refine Ok.b 1 [0, 1] [(5, .slice a6 (([] : List PH) ++ ([(pthR (gapS xr).2).1] : List PH)).length c6)] ?_
  refine Ok.nt ((Ok.sr ((Ok.b 1 [0, 1, 5] [(13, pv bxr 0)] ?_))))
  refine Ok.e [1, 0, 2] [.blk bxr (.cells #[.slice a4_4 ((pthR (gapS xr).2).2).length c4_4] 59), .own (.slice (some ⟨b5, 0, none⟩) ([(pthR (gapS xr).2).1] : List PH).length 1) 25 2 ([(pthR (gapS xr).2).1] : List PH).length ([.slice j2 ((pthR (gapS xr).2).1.1).length x2, .slice s2 ((pthR (gapS xr).2).1.2).length b2] : List Value), .own (.slice a6 (([] : List PH) ++ ([(pthR (gapS xr).2).1] : List PH)).length c6) 25 2 (([] : List PH) ++ ([(pthR (gapS xr).2).1] : List PH)).length xs6] dc rfl (Ok.op rfl (OpOk.callH [_] _ enr rfl (gap_c (pthR (gapS xr).2).2 hR4_4) rfl fun g7 _ _ hx7 hV7 => ?_))
  obtain ⟨M2, N2, rfl, O1, rfl⟩ := hV7
  replace hL6 := hL6.mono hx7.1
  replace hL5 := hL5.mono hx7.1
  replace hG0 := hG0.mono hx7.1
  refine Ok.nt ((Ok.q (Ok.sr ((Ok.B 1 [(0, pv bxr 0), (1, sv xend), (5, .slice a6 (([] : List PH) ++ ([(pthR (gapS xr).2).1] : List PH)).length c6), (15, pv bxr 0)] kr ?_)))))
  obtain ⟨hp8, hF⟩ := hF
  refine Ok.op rfl (OpOk.callH [_] _ enr rfl (raw_c (gapS (pthR (gapS xr).2).2).2 ([44] : Bs) O1 hp8) rfl fun g9 _ _ hx9 hV9 => ?_)
  obtain ⟨Y1, U1, rfl, B1, rfl⟩ := hV9
  replace hL6 := hL6.mono hx9.1
  replace hL5 := hL5.mono hx9.1
  replace hG0 := hG0.mono hx9.1
  refine Ok.nt ((Ok.cn hF rfl (fun J1 => ?_) (fun J1 => ?_)))
  ·replace hF := hF.1 J1
   exact False.elim hF
  replace hF := hF.2 J1
  refine Ok.k (Ok.t (Ok.q (Ok.sr ((Ok.b 1 [0, 1, 5] [(17, sv xend)] ?_)))))
  refine Ok.op rfl (OpOk.s (v := .bool (xend == ([] : Bs))) (Yields.sc (f := .eql) (a := xend) (b := ([] : Bs)) kr kr rfl) rfl rfl (Ok.nt ((Ok.cn hF rfl (fun V1 => ?_) (fun V1 => ?_)))))
  ·replace hF := hF.1 V1
   refine Ok.r (Ok.b 4 [5] [(19, pv bxr 0), (22, pv bxr 0)] ?_)
   refine Ok.op rfl (OpOk.s (v := .slice Y1 ((rwS (gapS (pthR (gapS xr).2).2).2 ([44] : Bs)).2).length U1) (Yields.l 0 rfl rfl Tryz.underlying56 rfl kr) rfl rfl (Ok.b 2 [5, 19] [(25, .bool ((((rwS (gapS (pthR (gapS xr).2).2).2 ([44] : Bs)).2).length : Int) == 0))] ?_))
   refine Ok.op rfl (OpOk.i (args := #[pv bxr 0, .bool ((((rwS (gapS (pthR (gapS xr).2).2).2 ([44] : Bs)).2).length : Int) == 0)]) 8 [(0, pv bxr 0), (1, .bool ((((rwS (gapS (pthR (gapS xr).2).2).2 ([44] : Bs)).2).length : Int) == 0))] enr Tryz.func47 rfl rfl rfl rfl (Ok.sr ((Ok.B 2 [(5, .bool (!((((rwS (gapS (pthR (gapS xr).2).2).2 ([44] : Bs)).2).length : Int) == 0)))] kr (Ok.nt ((Ok.cn hF rfl (fun p1 => ?_) (fun p1 => ?_))))))))
   ·replace hF := hF.1 p1
    exact False.elim hF
   replace hF := hF.2 p1
   refine Ok.k (Ok.back (vs := []) (.inr rfl) rfl .nil rfl (Ok.nt ((Ok.sr ((Ok.B 2 [(4, .slice a6 (([] : List PH) ++ ([(pthR (gapS xr).2).1] : List PH)).length c6)] kr (Ok.nt ((Ok.ret (Ok.kr (Ok.tr (Ok.kr (Ok.frz 2 rfl hL6 fun g13 n2 hRf13 => ?_)))))))))))))
   replace B1 := B1.mono n2.1
   replace hL5 := hL5.mono n2.1
   replace hG0 := hG0.mono n2.1
   exact Ok.p (vs := [.slice a6 (([] : List PH) ++ ([(pthR (gapS xr).2).1] : List PH)).length c6]) [0] [.blk bxr (.cells #[.slice Y1 ((rwS (gapS (pthR (gapS xr).2).2).2 ([44] : Bs)).2).length U1] 59)] dc rfl (.inl rfl) rfl (.cons (.tmp rfl) .nil) (((((x1.trans hx2).trans hx4).trans hx7).trans hx9).trans n2) ⟨(([] : List PH) ++ ([(pthR (gapS xr).2).1] : List PH)), (rwS (gapS (pthR ((gapS xr).2)).2).2 ([44] : Bs)).2, a6, c6, Y1, U1, rfl, hRf13, B1, rfl, hF⟩
  replace hF := hF.2 V1
  exact False.elim hF
def lstP (r : Rd) (s : Bs) : Prop := r = R0 ∧ s = []
def lstR (r : Rd) (s : Bs) : List Ph × Rd := ([pA], [])
theorem lst_F (r : Rd) (s : Bs) (hp : lstP r s) : lstF r s (fun a b => (a, b) = lstR r s) := by
 obtain ⟨rfl, rfl⟩ := hp
 exact ⟨1, (show _ = R0 by kernel_rfl), by decide +kernel, (by intro h; cases h), fun h => absurd h dk, fun _ => ⟨fun _ => ⟨fun h => absurd h dk, fun _ => by show _ = _; kernel_rfl⟩, fun h => absurd h dk⟩⟩
theorem lst_c {g : Ghost} {bxr : Nat} {axr_0 : Option Addr} {cxr_0 : Nat} (xr : List KT) (xend : Bs) (hRxr_0 : Rep g (.slice yK) [.slice axr_0 xr.length cxr_0] xr) (hG0 : SomeInt g 0)  (hp : lstP xr xend) : CallsH Tryz.prog 28 #[pv bxr 0, sv xend] g [.blk bxr (.cells #[.slice axr_0 xr.length cxr_0] 59)] (fun g' H' v => ∃ (Z0 : Option Addr) (V0 : Nat), ∃ (afxr_0 : Option Addr) (cfxr_0 : Nat), v = .slice Z0 ((lstR xr xend).1).length V0 ∧ Rep g' (.slice yP) [.slice Z0 ((lstR xr xend).1).length V0] (lstR xr xend).1 ∧ Rep g' (.slice yK) [.slice afxr_0 ((lstR xr xend).2).length cfxr_0] (lstR xr xend).2 ∧ H' = [.blk bxr (.cells #[.slice afxr_0 ((lstR xr xend).2).length cfxr_0] 59)]) :=
 (lst_ok xr xend hRxr_0 hG0 _ (lst_F xr xend hp)).mono (by rintro g' H' v _ ⟨r0, fxr, Z0, V0, afxr_0, cfxr_0, rfl, B0, hRfxr_0, rfl, hK⟩; obtain ⟨rfl, rfl⟩ : r0 = (lstR xr xend).1 ∧ fxr = (lstR xr xend).2 := ⟨congrArg (fun z => z.1) hK, congrArg (fun z => z.2) hK⟩; exact ⟨Z0, V0, afxr_0, cfxr_0, rfl, B0, hRfxr_0, rfl⟩)
theorem idle26 (p q : Value) : Idle Tryz.prog 26 #[p, q] := by
 intro W
 refine callsD_of_wpS Tryz.func26 rfl fun c₀ cs hu => ?_
 apply wpS_seq
 apply wpS_region
 simp [wpOpsS, go_sem, recoverD, hu, Exit.thenS]
 apply wpS_seq
 apply wpS_region
 simp [wpOpsS, go_sem, Exit.thenS]
 refine wpS_cond (t := false) (by simp [Act.eval, Array.replicate]) ?_
 simp only [Bool.false_eq_true, if_false]
 refine wpS_of_wp (wp_skip ?_)
 exact ⟨rfl, .returning, by cases c₀; simp_all, .tuple #[], by simp [results, Tryz.results26], ⟨_, rfl⟩, rfl, Below.refl _ _⟩
def rdF (xs : Bs) (K : (List PH) → Int → Prop) : Prop :=
 ((decide ((xs.length : Int) > 400)) = true → K ([]) 2) ∧ ((decide ((xs.length : Int) > 400)) = false → cutP xs ∧ lstP (cutS xs) ([] : Bs) ∧ chkP (lstR (cutS xs) ([] : Bs)).1 ∧ ((((chkS (lstR (cutS xs) ([] : Bs)).1) != 0)) = true → K ([]) 4) ∧ ((((chkS (lstR (cutS xs) ([] : Bs)).1) != 0)) = false → K (lstR (cutS xs) ([] : Bs)).1 0))
theorem rd_ok {g : Ghost} (xs : Bs) (hG0 : SomeInt g 0) (K : (List PH) → Int → Prop)
  (hF : rdF xs K) : CallsH Tryz.prog 16 #[sv xs] g [] (fun g' H' v => ∃ (r0 : List PH), ∃ (r1 : Int), ∃ (Z0 : Option Addr) (V0 : Nat), v = .tuple #[.slice Z0 r0.length V0, iv r1] ∧ Rep g' (.slice yP) [.slice Z0 r0.length V0] r0 ∧ H' = [] ∧ K r0 r1) := by
 refine CallsH.enterD 19 [(0, sv xs)] Tryz.func16 rfl kr kr kr fun w0 => ?_
 refine Ok.sr ((Ok.op rfl (OpOk.a (z := .slice none 0 0) (cs := #[.slice none 0 0]) kr kr rfl fun bs2 => ?_)))
 refine Ok.op rfl (OpOk.a (z := iv 0) (cs := #[iv 0]) kr kr rfl fun bs3 => ?_)
 refine Ok.nt ((Ok.q (Ok.sr ((Ok.B 3 [(0, sv xs), (2, pv bs2 0), (3, pv bs3 0), (7, .bool (decide ((xs.length : Int) > 400)))] kr (Ok.nt ((Ok.cn hF rfl (fun hc3 => ?_) (fun hc3 => ?_)))))))))
 ·replace hF := hF.1 hc3
  refine Ok.sr ((Ok.op rfl (OpOk.sto (k := 1) (v := .slice none 0 0) 1 #[.slice none 0 0] rfl rfl rfl ?_)))
  refine Ok.op rfl (OpOk.sto (k := 1) (v := iv 2) 0 #[iv 2] rfl rfl rfl ?_)
  refine Ok.nt ((Ok.ret (Ok.tr ?_)))
  exact Ok.resD0 (vs := [.slice none 0 0, iv 2]) rfl [] [] dc rfl (.inl rfl) rfl (.cons (.cellOne 1 rfl rfl Tryz.underlying29 rfl kr) (.cons (.cellOne 0 rfl rfl Tryz.underlying27 rfl kr) .nil)) (Gext.r w0 g) ⟨([]), 2, none, 0, rfl, Rep.nil, rfl, hF⟩
 replace hF := hF.2 hc3
 refine Ok.k (Ok.t (Ok.sr ((Ok.b 1 [0, 2, 3] [(8, .func (.func 26) #[] #[pv bs2 0, pv bs3 0])] ?_))))
 refine Ok.op rfl (OpOk.defer ⟨.fn (.func 26) #[pv bs2 0, pv bs3 0], #[]⟩ kr (fun _ => by kernel_rfl) rfl ?_)
 refine Ok.nt ((Ok.sr ((Ok.b 1 [2, 3] [(9, sv xs)] ?_))))
 obtain ⟨hp4, hF⟩ := hF
 refine Ok.op rfl (OpOk.callH [] _ enr rfl (cut_c xs hG0 hp4) rfl fun g5 _ _ hx5 hV5 => ?_)
 obtain ⟨e1, f1, rfl, z2, rfl⟩ := hV5
 replace hG0 := hG0.mono hx5.1
 refine Ok.b 1 [2, 3] [(11, .agg #[.slice e1 (cutS xs).length f1])] ?_
 refine Ok.op rfl (OpOk.box (v := .agg #[.slice e1 (cutS xs).length f1]) (cs := #[.slice e1 (cutS xs).length f1]) rfl kr rfl fun A2 => ?_)
 refine Ok.b 1 [2, 3] [(4, pv A2 0)] ?_
 refine Ok.nt ((Ok.sr ((Ok.b 1 [2, 3] [(13, pv A2 0)] ?_))))
 obtain ⟨hp7, hF⟩ := hF
 refine Ok.op rfl (OpOk.callH [_] _ enr rfl (lst_c (cutS xs) ([] : Bs) z2 hG0 hp7) rfl fun g8 _ _ hx8 hV8 => ?_)
 obtain ⟨m1, n1, a8_2, c8_2, rfl, t2, hR8_2, rfl⟩ := hV8
 replace hG0 := hG0.mono hx8.1
 refine Ok.op rfl (OpOk.sto (k := 1) (v := .slice m1 ((lstR (cutS xs) ([] : Bs)).1).length n1) 2 #[.slice m1 ((lstR (cutS xs) ([] : Bs)).1).length n1] rfl rfl rfl ?_)
 refine Ok.nt ((Ok.q (Ok.sr ((Ok.op rfl (OpOk.s (v := .slice m1 ((lstR (cutS xs) ([] : Bs)).1).length n1) (Yields.l 2 rfl rfl Tryz.underlying29 rfl kr) rfl rfl ?_))))))
 obtain ⟨hp9, hF⟩ := hF
 refine Ok.op rfl (OpOk.f enr (fun W hW => chk_c (lstR (cutS xs) ([] : Bs)).1 (t2.mono hW.sees) (hG0.mono hW.sees) hp9) rfl ?_)
 refine Ok.b 1 [2, 3] [(17, .bool ((chkS (lstR (cutS xs) ([] : Bs)).1) != 0))] ?_
 refine Ok.nt ((Ok.cn hF rfl (fun J1 => ?_) (fun J1 => ?_)))
 ·replace hF := hF.1 J1
  refine Ok.sr ((Ok.op rfl (OpOk.sto (k := 1) (v := .slice none 0 0) 2 #[.slice none 0 0] rfl rfl rfl ?_)))
  refine Ok.op rfl (OpOk.sto (k := 1) (v := iv 4) 1 #[iv 4] rfl rfl rfl ?_)
  refine Ok.nt ((Ok.ret (Ok.tr ?_)))
  exact Ok.resD (vs := [.slice none 0 0, iv 4]) (args := #[pv bs2 0, pv bs3 0]) (idle26 _ _) rfl (fun _ => by kernel_rfl) [] [] dc rfl (.inl rfl) rfl (.cons (.cellOne 2 rfl rfl Tryz.underlying29 rfl kr) (.cons (.cellOne 1 rfl rfl Tryz.underlying27 rfl kr) .nil)) (hx5.trans hx8) ⟨([]), 4, none, 0, rfl, Rep.nil, rfl, hF⟩
 replace hF := hF.2 J1
 refine Ok.k (Ok.t (Ok.sr ((Ok.op rfl (OpOk.s (v := .slice m1 ((lstR (cutS xs) ([] : Bs)).1).length n1) (Yields.l 2 rfl rfl Tryz.underlying29 rfl kr) rfl rfl (Ok.op rfl (OpOk.sto (k := 1) (v := .slice m1 ((lstR (cutS xs) ([] : Bs)).1).length n1) 2 #[.slice m1 ((lstR (cutS xs) ([] : Bs)).1).length n1] rfl rfl rfl ?_)))))))
 refine Ok.op rfl (OpOk.sto (k := 1) (v := iv 0) 1 #[iv 0] rfl rfl rfl ?_)
 refine Ok.nt ((Ok.ret ?_))
 exact Ok.resD (vs := [.slice m1 ((lstR (cutS xs) ([] : Bs)).1).length n1, iv 0]) (args := #[pv bs2 0, pv bs3 0]) (idle26 _ _) rfl (fun _ => by kernel_rfl) [] [] dc rfl (.inl rfl) rfl (.cons (.cellOne 2 rfl rfl Tryz.underlying29 rfl kr) (.cons (.cellOne 1 rfl rfl Tryz.underlying27 rfl kr) .nil)) (hx5.trans hx8) ⟨(lstR (cutS xs) ([] : Bs)).1, 0, m1, n1, rfl, t2, rfl, hF⟩
def rdP (s : Bs) : Prop := s = [97, 32, 62, 32, 46, 98]
def rdR (s : Bs) : List Ph × Int := ([pA], 0)
theorem cut_known : cutS [97, 32, 62, 32, 46, 98] = R0 := by decide +kernel
theorem chk_known : chkS [pA] = 0 := by decide +kernel
theorem okB_tA : okB tA := by
 refine Tst.all_mk.2 ⟨⟨⟨by decide, by decide⟩, fun q hq => (by cases hq)⟩, fun q hq => (by cases hq)⟩
theorem okB_tB : okB tB := by
 refine Tst.all_mk.2 ⟨⟨⟨by decide, by decide⟩, fun q hq => (by cases hq)⟩, fun q hq => (by cases hq)⟩
theorem chkP_known : chkP [pA] := by
 refine ⟨by decide +kernel, fun q hq => ?_⟩
 obtain rfl := List.mem_singleton.1 hq
 refine ⟨fun z hz => ?_, fun s hs t ht => ?_⟩
 ·obtain rfl := List.mem_singleton.1 hz
  exact ⟨by decide, by decide⟩
 rcases List.mem_cons.1 hs with rfl | hs
 ·obtain rfl := List.mem_singleton.1 ht
  exact okB_tA
 obtain rfl := List.mem_singleton.1 hs
 obtain rfl := List.mem_singleton.1 ht
 exact okB_tB
theorem rd_F (s : Bs) (hp : rdP s) : rdF s (fun a c => (a, c) = rdR s) := by
 obtain rfl : s = [97, 32, 62, 32, 46, 98] := hp
 unfold rdF
 rw [cut_known]
 refine ⟨fun h => absurd h dc, fun _ => ⟨by unfold cutP; decide +kernel, ⟨rfl, rfl⟩, chkP_known, ?_⟩⟩
 show (((chkS [pA] != 0)) = true → _) ∧ (((chkS [pA] != 0)) = false → _)
 rw [chk_known]
 exact ⟨fun h => absurd h dc, fun _ => rfl⟩
theorem rd_c {g : Ghost} (xs : Bs) (hG0 : SomeInt g 0)  (hp : rdP xs) : CallsH Tryz.prog 16 #[sv xs] g [] (fun g' H' v => ∃ (Z0 : Option Addr) (V0 : Nat), v = .tuple #[.slice Z0 ((rdR xs).1).length V0, iv (rdR xs).2] ∧ Rep g' (.slice yP) [.slice Z0 ((rdR xs).1).length V0] (rdR xs).1 ∧ H' = []) :=
 (rd_ok xs hG0 _ (rd_F xs hp)).mono (by rintro g' H' v _ ⟨r0, r1, Z0, V0, rfl, B0, rfl, hK⟩; obtain ⟨rfl, rfl⟩ : r0 = (rdR xs).1 ∧ r1 = (rdR xs).2 := ⟨congrArg (fun z => z.1) hK, congrArg (fun z => z.2) hK⟩; exact ⟨Z0, V0, rfl, B0, rfl⟩)
def lsdV0 : Bool :=
 ((((rdR ([97, 32, 62, 32, 46, 98] : Bs)).2 == 0) && ((((rdR ([97, 32, 62, 32, 46, 98] : Bs)).1).length : Int) == 1)) && ((((((rdR ([97, 32, 62, 32, 46, 98] : Bs)).1).getD (Int.toNat 0) default).1.length : Int) == 2) && ((bytesOf (((rdR ([97, 32, 62, 32, 46, 98] : Bs)).1).getD (Int.toNat 0) default).2) == ([62] : Bs))))
def lsdj5 (K : Bool → Prop) : Prop :=
 K lsdV0
def lsdF (K : Bool → Prop) : Prop :=
 rdP ([97, 32, 62, 32, 46, 98] : Bs) ∧ (((((rdR ([97, 32, 62, 32, 46, 98] : Bs)).2 == 0) && ((((rdR ([97, 32, 62, 32, 46, 98] : Bs)).1).length : Int) == 1))) = true → (0 : Int) ≤ 0 ∧ Int.toNat 0 < ((rdR ([97, 32, 62, 32, 46, 98] : Bs)).1).length ∧ (((((((rdR ([97, 32, 62, 32, 46, 98] : Bs)).1).getD (Int.toNat 0) default).1.length : Int) == 2)) = true → lsdj5 K) ∧ (((((((rdR ([97, 32, 62, 32, 46, 98] : Bs)).1).getD (Int.toNat 0) default).1.length : Int) == 2)) = false → lsdj5 K)) ∧ (((((rdR ([97, 32, 62, 32, 46, 98] : Bs)).2 == 0) && ((((rdR ([97, 32, 62, 32, 46, 98] : Bs)).1).length : Int) == 1))) = false → lsdj5 K)
theorem lsd_ok {g : Ghost}  (hG0 : SomeInt g 0) (K : Bool → Prop)
  (hF : lsdF K) : CallsH Tryz.prog 7 #[] g [] (fun g' H' v => ∃ (r0 : Bool), v = .bool r0 ∧ H' = [] ∧ K r0) := by
 refine CallsH.enter 30 [] Tryz.func7 rfl kr kr kr fun w0 => ?_
 refine Ok.sr ((Ok.B 1 [] kr (Ok.nt ((Ok.q (Ok.r ?_))))))
 obtain ⟨hp1, hF⟩ := hF
 refine Ok.op rfl (OpOk.callH [] _ enr rfl (rd_c ([97, 32, 62, 32, 46, 98] : Bs) hG0 hp1) rfl fun g2 _ _ hx2 hV2 => ?_)
 obtain ⟨k1, y1, rfl, P0, rfl⟩ := hV2
 replace hG0 := hG0.mono hx2.1
 refine Ok.B 5 [(1, .slice k1 ((rdR ([97, 32, 62, 32, 46, 98] : Bs)).1).length y1), (2, iv (rdR ([97, 32, 62, 32, 46, 98] : Bs)).2)] kr (Ok.nt ((Ok.cut (fun a W => ∃ gj5 : Ghost, Gext w0 g2 gj5 ∧ StA 30 [(0, .bool lsdV0)] a ∧ StW w0 [] gj5 W ∧ lsdj5 K) ?_ ?_)))
 ·
  refine Ok.r (Ok.b 3 [1] [(9, .bool ((rdR ([97, 32, 62, 32, 46, 98] : Bs)).2 == 0))] ?_)
  refine Ok.w 4 [(1, .slice k1 ((rdR ([97, 32, 62, 32, 46, 98] : Bs)).1).length y1), (13, .bool (((rdR ([97, 32, 62, 32, 46, 98] : Bs)).2 == 0) && ((((rdR ([97, 32, 62, 32, 46, 98] : Bs)).1).length : Int) == 1)))] (fun hR3 => ?_) ?_
  ·refine Ok.a 9 (((rdR ([97, 32, 62, 32, 46, 98] : Bs)).2 == 0)) rfl (fun hc4 => ?_) (fun hc4 => ?_)
   ·skip
    refine Ok.b 4 [1] [(13, .bool ((((rdR ([97, 32, 62, 32, 46, 98] : Bs)).1).length : Int) == 1))] ?_
    refine Ok.v 13 rfl (show (.bool ((((rdR ([97, 32, 62, 32, 46, 98] : Bs)).1).length : Int) == 1) : Value) = .bool (((rdR ([97, 32, 62, 32, 46, 98] : Bs)).2 == 0) && ((((rdR ([97, 32, 62, 32, 46, 98] : Bs)).1).length : Int) == 1)) from congrArg Value.bool (mand_t hc4)) (Ok.b 0 [1] [(13, .bool (((rdR ([97, 32, 62, 32, 46, 98] : Bs)).2 == 0) && ((((rdR ([97, 32, 62, 32, 46, 98] : Bs)).1).length : Int) == 1)))] ?_)
    exact hR3
   skip
   refine Ok.b 4 [1] [(13, .bool false)] ?_
   refine Ok.v 13 rfl (show (.bool false : Value) = .bool (((rdR ([97, 32, 62, 32, 46, 98] : Bs)).2 == 0) && ((((rdR ([97, 32, 62, 32, 46, 98] : Bs)).1).length : Int) == 1)) from congrArg Value.bool (mand_f hc4)) (Ok.b 0 [1] [(13, .bool (((rdR ([97, 32, 62, 32, 46, 98] : Bs)).2 == 0) && ((((rdR ([97, 32, 62, 32, 46, 98] : Bs)).1).length : Int) == 1)))] ?_)
   exact hR3
  refine Ok.b 1 [1] [(14, .bool (((rdR ([97, 32, 62, 32, 46, 98] : Bs)).2 == 0) && ((((rdR ([97, 32, 62, 32, 46, 98] : Bs)).1).length : Int) == 1)))] ?_
  refine Ok.a 14 ((((rdR ([97, 32, 62, 32, 46, 98] : Bs)).2 == 0) && ((((rdR ([97, 32, 62, 32, 46, 98] : Bs)).1).length : Int) == 1))) rfl (fun hc5 => ?_) (fun hc5 => ?_)
  ·replace hF := hF.1 hc5
   refine Ok.b 1 [1] [(14, .bool true), (15, .slice k1 ((rdR ([97, 32, 62, 32, 46, 98] : Bs)).1).length y1)] ?_
   obtain ⟨h07, h17, hF⟩ := hF
   have he7 := get_of (l := (rdR ([97, 32, 62, 32, 46, 98] : Bs)).1) (default : PH) h17
   generalize hg7 : (((rdR ([97, 32, 62, 32, 46, 98] : Bs)).1).getD (Int.toNat 0) default) = e7 at he7 hF ⊢
   refine Ok.y (j := 7) (d := 14) (want := true) (b := true) rfl kr kr rfl (OpOk.indexRo (e := yP) (i := 0) (el := e7) rfl rfl Tryz.underlying29 kr P0 h07 he7 rfl fun q6 o6 cs6 _ E2 hr6 => ?_)
   obtain ⟨_, _, rfl, ⟨D1, E1, rfl, hm6_0, hr6_0⟩, ⟨F2, G2, rfl, hm6_1, hr6_1⟩⟩ := hr6
   have r2 : Rep g2 (.slice (.slice yS)) [.slice D1 e7.1.length E1] e7.1 := ⟨D1, E1, rfl, hm6_0, hr6_0⟩
   have hR6_1 : Rep g2 (.slice yb) [.slice F2 e7.2.length G2] e7.2 := ⟨F2, G2, rfl, hm6_1, hr6_1⟩
   replace E2 : At g2 q6 o6 [.slice D1 e7.1.length E1, .slice F2 e7.2.length G2] := E2
   refine Ok.b 1 [1, 14] [(17, pv q6 o6)] ?_
   refine Ok.y (j := 7) (d := 14) (want := true) (b := true) rfl kr kr rfl (OpOk.s (v := .slice D1 e7.1.length E1) (Yields.lr 0 E2 kr Tryz.underlying22 rfl kr) rfl rfl (Ok.b 4 [1] [(22, .bool ((e7.1.length : Int) == 2))] ?_))
   refine Ok.a 22 (((e7.1.length : Int) == 2)) rfl (fun hc8 => ?_) (fun hc8 => ?_)
   ·replace hF := hF.1 hc8
    refine Ok.B 1 [(22, .bool true), (23, .slice k1 ((rdR ([97, 32, 62, 32, 46, 98] : Bs)).1).length y1)] kr (Ok.y (j := 15) (d := 22) (want := true) (b := true) rfl kr kr rfl (OpOk.indexRo (e := yP) (i := 0) (el := e7) rfl rfl Tryz.underlying29 kr P0 h07 he7 rfl fun q9 o9 cs9 _ H2 hr9 => ?_))
    obtain ⟨_, _, rfl, ⟨Y1, U1, rfl, hm9_0, hr9_0⟩, ⟨o2, p2, rfl, hm9_1, hr9_1⟩⟩ := hr9
    have B1 : Rep g2 (.slice (.slice yS)) [.slice Y1 e7.1.length U1] e7.1 := ⟨Y1, U1, rfl, hm9_0, hr9_0⟩
    have hR9_1 : Rep g2 (.slice yb) [.slice o2 e7.2.length p2] e7.2 := ⟨o2, p2, rfl, hm9_1, hr9_1⟩
    replace H2 : At g2 q9 o9 [.slice Y1 e7.1.length U1, .slice o2 e7.2.length p2] := H2
    refine Ok.b 1 [22] [(25, .pointer (some ⟨q9, o9 + 1, none⟩))] ?_
    refine Ok.y (j := 15) (d := 22) (want := true) (b := true) rfl kr kr rfl (OpOk.s (v := .slice o2 e7.2.length p2) (Yields.lr 1 H2 kr Tryz.underlying23 rfl kr) rfl rfl (Ok.y (j := 15) (d := 22) (want := true) (b := true) rfl kr kr rfl (OpOk.s (v := sv (bytesOf e7.2)) (Yields.strOfRo kr rfl hR9_1 Tryz.underlying23 Tryz.underlying9 Tryz.underlying5) rfl rfl (Ok.y (j := 15) (d := 22) (want := true) (b := true) rfl kr kr rfl (OpOk.s (v := .bool ((bytesOf e7.2) == ([62] : Bs))) (Yields.sc (f := .eql) (a := (bytesOf e7.2)) (b := ([62] : Bs)) kr kr rfl) rfl rfl (Ok.B 2 [(0, .bool ((bytesOf e7.2) == ([62] : Bs)))] kr (Ok.j (Ok.t ?_))))))))
    subst hg7
    refine Ok.v 0 rfl (show (.bool ((bytesOf (((rdR ([97, 32, 62, 32, 46, 98] : Bs)).1).getD (Int.toNat 0) default).2) == ([62] : Bs)) : Value) = .bool lsdV0 from congrArg (Value.bool) ((Eq.trans (mand_t hc8) (mand_t hc5)))) ?_
    exact fun a W hA hW => ⟨g2, (Gext.r w0 g2), hA.sub kr, hW, hF⟩
   replace hF := hF.2 hc8
   refine Ok.B 8 [(0, .bool false)] kr (Ok.j (Ok.t ?_))
   subst hg7
   refine Ok.v 0 rfl (show (.bool false : Value) = .bool lsdV0 from congrArg (Value.bool) ((Eq.trans (mand_f hc8) (mand_t hc5)))) ?_
   exact fun a W hA hW => ⟨g2, (Gext.r w0 g2), hA.sub kr, hW, hF⟩
  replace hF := hF.2 hc5
  refine Ok.B 16 [(0, .bool false)] kr (Ok.nt ((Ok.v 0 rfl (show (.bool false : Value) = .bool lsdV0 from congrArg (Value.bool) (mand_f hc5)) ?_)))
  exact fun a W hA hW => ⟨g2, (Gext.r w0 g2), hA.sub kr, hW, hF⟩
 clear hF
 rintro a W ⟨gj5, I2, hA, hW, hF⟩
 refine (?_ : Ok _ _ _ _ _ _) a W hA hW
 clear hA hW
 replace hG0 := hG0.mono I2.1
 refine Ok.ret ?_
 exact Ok.resH (vs := [.bool lsdV0]) (.inl rfl) rfl (.cons (.tmp rfl) .nil) (hx2.trans I2) ⟨lsdV0, rfl, rfl, hF⟩
theorem lsd_F : lsdF (fun r => r = true) := by
 have j : lsdj5 (fun r => r = true) := by show lsdV0 = true; decide +kernel
 exact ⟨rfl, fun _ => ⟨by decide, by decide +kernel, fun _ => j, fun _ => j⟩, fun _ => j⟩
theorem lsd_c {g : Ghost}  (hG0 : SomeInt g 0)  : CallsG Tryz.prog 7 #[] g (.bool true) :=
 (lsd_ok  hG0 _ (lsd_F )).gives (by rintro g' H' v _ ⟨r0, rfl, rfl, hK⟩; subst hK; rfl)
end Go.Proofs.YtcnhdkhkadiohaaGreatDoor.Se
