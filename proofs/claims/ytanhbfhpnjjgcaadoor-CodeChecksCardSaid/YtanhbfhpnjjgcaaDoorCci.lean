/- Code: a program is checked, function by function. -/
import Derived.Test.YtanhbfhpnjjgcaaDoorCch
namespace Go.Proofs.YtanhbfhpnjjgcaaDoor.Cc
open Go Go.Eng Go.RowKit Fl
set_option linter.unusedVariables false
noncomputable section
def rgtR (c : CK) : CK := if frmS c = true then run (3 * c.2.1.2.2.2.length + 3) (rchS c 0 (0, [])) else c
def rgtS (c : CK) : Bool × CK := (frmS c && !(rgtR c).2.2.2.2.2, rgtR c)
def rgtP (c : CK) : Prop := (c.2.1.2.2.2.length ≤ 8000 ∧ (∀ f ∈ c.1.1, f.2.2.1.length ≤ 4611686018427387904) ∧ ∀ x ∈ c.1.2.2, x.length ≤ 4611686018427387904) ∧ c.2.2.2 = ([], [], false)
theorem frmS_code {c : CK} (h : frmS c = true) (hs : ∀ x ∈ c.1.2.2, x.length ≤ 4611686018427387904) : CodeOk c.1 c.2.1 := by
 unfold frmS at h
 rw [Bool.and_eq_true, List.all_eq_true] at h
 exact ⟨fun i hi => (insC_own (c := (c.1, c.2.1, 0, [], [], false)) (d := c) rfl rfl i).trans (h.2 i hi), hs⟩
theorem rgt_all (c : CK) (hp : rgtP c) (K : Bool → CK → Prop) : (K (rgtS c).1 (rgtS c).2 → rgtF c K) ∧ ((rgtS c).1 = true ↔ frmS c = true ∧ RightF c.1 c.2.1 c.2.2.1) := by
 obtain ⟨p, f, own, m, q, b⟩ := c
 obtain ⟨⟨h1, h2, h3⟩, h4⟩ := hp
 dsimp only at h1 h2 h3 h4
 cases h4
 have hF : frmP (p, f, own, [], [], false) := ⟨by show f.2.2.2.length ≤ _; omega, h2⟩
 unfold rgtS rgtR
 cases hf : frmS (p, f, own, [], [], false) with
 | false =>
  refine ⟨fun h => ⟨hF, fun _ => h, fun h2 => by rw [hf] at h2; cases h2⟩, ?_⟩
  simp
 | true =>
  rw [if_pos rfl]
  have hC := frmS_code hf h3
  have go : ∀ c2, rchS (p, f, own, [], [], false) 0 (0, []) = c2 → ((K (!(run (3 * f.2.2.2.length + 3) c2).2.2.2.2.2) (run (3 * f.2.2.2.length + 3) c2) → rgL K (3 * f.2.2.2.length + 3 + 1) c2) ∧ ((run (3 * f.2.2.2.length + 3) c2).2.2.2.2.2 = false ↔ RightF p f own)) := fun c2 hc => by
   have hU := uns_le f.2.2.2.length []
   rcases reach1 (p := p) (f := f) (own := own) (m := []) (q := []) (u := f.2.2.2.length) (a := 0) (s := (0, [])) ⟨fun _ _ h => (by cases h), fun _ h => (by cases h), by show 0 + _ ≤ _; omega⟩ ⟨.start, Int.le_refl _, by show (0 : Int) + _ ≤ _; omega, by show 0 + _ ≤ _; omega, rfl⟩ hU with ⟨⟨c3, hc3, hb⟩, hR⟩ | ⟨m', q', e2, I', M', a'⟩
   ·rw [hc] at hc3; subst hc3
    rw [run_end (bad_end hb)]
    exact ⟨fun h => rgL_end (bad_end hb) _ h, fun h => (by rw [hb] at h; cases h), fun h => absurd h hR⟩
   ·rw [hc] at e2; subst e2
    refine run_ok hC h1 K _ m' q' ⟨I', a', fun b t hb => ?_⟩ (by show 2 * uns f.2.2.2.length m' + q'.length ≤ 3 * f.2.2.2.length + 3; have := M'.meas; have e0 : ([] : List Int).length = 0 := rfl; omega)
    rcases M'.new b t hb with h | h
    ·cases h
    ·exact .inl h
  obtain ⟨g1, g2⟩ := go _ rfl
  refine ⟨fun h => ⟨hF, fun h2 => (by rw [hf] at h2; cases h2), fun _ => ⟨⟨Nat.zero_le _, Nat.zero_le _, fun _ _ h => by cases h⟩, _, g1 ?_⟩⟩, ?_⟩
  ·rw [Bool.true_and] at h; exact h
  ·rw [Bool.true_and, Bool.not_eq_true']
   exact ⟨fun h => ⟨rfl, g2.1 h⟩, fun h => g2.2 h.2⟩
theorem rgt_F (c : CK) (hp : rgtP c) : rgtF c (fun a b => (a, b) = rgtS c) := (rgt_all c hp _).1 rfl
theorem rgt_iff (c : CK) (hp : rgtP c) : (rgtS c).1 = true ↔ frmS c = true ∧ RightF c.1 c.2.1 c.2.2.1 := (rgt_all c hp fun _ _ => True).2
set_option linter.unusedVariables false in
theorem rgt_c {g : Ghost} {bxc : Nat} {axc_0 : Option Addr} {cxc_0 : Nat} {axc_1 : Option Addr} {cxc_1 : Nat} {axc_2 : Option Addr} {cxc_2 : Nat} {axc_3 : Option Addr} {cxc_3 : Nat} {axc_4 : Option Addr} {cxc_4 : Nat} {bmxc_8 : Nat} {esxc_8 : Array MapEntry} {ckxc_8 : Nat} {axc_5 : Option Addr} {cxc_5 : Nat} {xsxc_5 : List Value} (xc : ((List (Int × Int × List (Int) × List (Int × Int))) × (List (Int × Int × List UInt8)) × List (List (List UInt8))) × (Int × Int × List (Int) × List (Int × Int)) × Int × (List ((Int) × (Int × List (Int)))) × List (Int) × Bool) (hRxc_0 : Rep g (.slice (.pair (.int .i64) (.pair (.int .i64) (.pair (.slice (.int .i64)) (.slice (.pair (.int .i64) (.int .i64))))))) [.slice axc_0 xc.1.1.length cxc_0] xc.1.1) (hRxc_1 : Rep g (.slice (.pair (.int .i64) (.pair (.int .i64) (.str)))) [.slice axc_1 xc.1.2.1.length cxc_1] xc.1.2.1) (hRxc_2 : Rep g (.slice (.slice (.str))) [.slice axc_2 xc.1.2.2.length cxc_2] xc.1.2.2) (hRxc_3 : Rep g (.slice (.int .i64)) [.slice axc_3 xc.2.1.2.2.1.length cxc_3] xc.2.1.2.2.1) (hRxc_4 : Rep g (.slice (.pair (.int .i64) (.int .i64))) [.slice axc_4 xc.2.1.2.2.2.length cxc_4] xc.2.1.2.2.2) (hMxc_8 : RepMapA g (.pair (.int .i64) (.slice (.int .i64))) true (Value.int .i64) esxc_8 ckxc_8 xc.2.2.2.1) (hLxc_5 : RepL g (.int .i64) xsxc_5 xc.2.2.2.2.1) (hG0 : GlobL g 0 (.int .u8) DSpace)  (hp : rgtP xc) : CallsH Tryd.prog 6 #[.pointer (some ⟨bxc, 0, none⟩)] g [.blk bxc (.cells #[.slice axc_0 xc.1.1.length cxc_0, .slice axc_1 xc.1.2.1.length cxc_1, .slice axc_2 xc.1.2.2.length cxc_2, .int .i64 xc.2.1.1, .int .i64 xc.2.1.2.1, .slice axc_3 xc.2.1.2.2.1.length cxc_3, .slice axc_4 xc.2.1.2.2.2.length cxc_4, .int .i64 xc.2.2.1, .map (some bmxc_8), .slice axc_5 xc.2.2.2.2.1.length cxc_5, .bool xc.2.2.2.2.2] 37), .blk bmxc_8 (.map esxc_8 ckxc_8), .own (.slice axc_5 xc.2.2.2.2.1.length cxc_5) 3 1 xc.2.2.2.2.1.length xsxc_5] (fun g' H' v => ∃ (afxc_0 : Option Addr) (cfxc_0 : Nat), ∃ (afxc_1 : Option Addr) (cfxc_1 : Nat), ∃ (afxc_2 : Option Addr) (cfxc_2 : Nat), ∃ (afxc_3 : Option Addr) (cfxc_3 : Nat), ∃ (afxc_4 : Option Addr) (cfxc_4 : Nat), ∃ (esfxc_8 : Array MapEntry) (ckfxc_8 : Nat), ∃ (afxc_5 : Option Addr) (cfxc_5 : Nat) (xsfxc_5 : List Value), v = .bool (rgtS xc).1 ∧ Rep g' (.slice (.pair (.int .i64) (.pair (.int .i64) (.pair (.slice (.int .i64)) (.slice (.pair (.int .i64) (.int .i64))))))) [.slice afxc_0 (rgtS xc).2.1.1.length cfxc_0] (rgtS xc).2.1.1 ∧ Rep g' (.slice (.pair (.int .i64) (.pair (.int .i64) (.str)))) [.slice afxc_1 (rgtS xc).2.1.2.1.length cfxc_1] (rgtS xc).2.1.2.1 ∧ Rep g' (.slice (.slice (.str))) [.slice afxc_2 (rgtS xc).2.1.2.2.length cfxc_2] (rgtS xc).2.1.2.2 ∧ Rep g' (.slice (.int .i64)) [.slice afxc_3 (rgtS xc).2.2.1.2.2.1.length cfxc_3] (rgtS xc).2.2.1.2.2.1 ∧ Rep g' (.slice (.pair (.int .i64) (.int .i64))) [.slice afxc_4 (rgtS xc).2.2.1.2.2.2.length cfxc_4] (rgtS xc).2.2.1.2.2.2 ∧ RepMapA g' (.pair (.int .i64) (.slice (.int .i64))) true (Value.int .i64) esfxc_8 ckfxc_8 (rgtS xc).2.2.2.2.1 ∧ RepL g' (.int .i64) xsfxc_5 (rgtS xc).2.2.2.2.2.1 ∧ H' = [.blk bxc (.cells #[.slice afxc_0 (rgtS xc).2.1.1.length cfxc_0, .slice afxc_1 (rgtS xc).2.1.2.1.length cfxc_1, .slice afxc_2 (rgtS xc).2.1.2.2.length cfxc_2, .int .i64 (rgtS xc).2.2.1.1, .int .i64 (rgtS xc).2.2.1.2.1, .slice afxc_3 (rgtS xc).2.2.1.2.2.1.length cfxc_3, .slice afxc_4 (rgtS xc).2.2.1.2.2.2.length cfxc_4, .int .i64 (rgtS xc).2.2.2.1, .map (some bmxc_8), .slice afxc_5 (rgtS xc).2.2.2.2.2.1.length cfxc_5, .bool (rgtS xc).2.2.2.2.2.2] 37), .blk bmxc_8 (.map esfxc_8 ckfxc_8), .own (.slice afxc_5 (rgtS xc).2.2.2.2.2.1.length cfxc_5) 3 1 (rgtS xc).2.2.2.2.2.1.length xsfxc_5]) :=
 (rgt_ok xc hRxc_0 hRxc_1 hRxc_2 hRxc_3 hRxc_4 hMxc_8 hLxc_5 hG0 _ (rgt_F xc hp)).mono (by rintro g' H' v _ ⟨r0, fxc, afxc_0, cfxc_0, afxc_1, cfxc_1, afxc_2, cfxc_2, afxc_3, cfxc_3, afxc_4, cfxc_4, esfxc_8, ckfxc_8, afxc_5, cfxc_5, xsfxc_5, rfl, hRfxc_0, hRfxc_1, hRfxc_2, hRfxc_3, hRfxc_4, hMfxc_8, hLfxc_5, rfl, hK⟩; obtain ⟨rfl, rfl⟩ : r0 = (rgtS xc).1 ∧ fxc = (rgtS xc).2 := ⟨congrArg (fun z => z.1) hK, congrArg (fun z => z.2) hK⟩; exact ⟨afxc_0, cfxc_0, afxc_1, cfxc_1, afxc_2, cfxc_2, afxc_3, cfxc_3, afxc_4, cfxc_4, esfxc_8, ckfxc_8, afxc_5, cfxc_5, xsfxc_5, rfl, hRfxc_0, hRfxc_1, hRfxc_2, hRfxc_3, hRfxc_4, hMfxc_8, hLfxc_5, rfl⟩)
def chkV0 (xp : (List (Int × Int × List (Int) × List (Int × Int))) × (List (Int × Int × List UInt8)) × List (List (List UInt8))) : Bool :=
 ((decide ((xp.1.length : Int) > 400)) || ((decide ((xp.2.1.length : Int) > 400)) || (decide ((xp.2.2.length : Int) > 400))))
def chkV1 (e5 : Int × Int × List (Int) × List (Int × Int)) : Bool :=
 ((decide ((e5.2.2.2.length : Int) > 8000)) || (decide (e5.2.1 > 400)))
def chkV2 (xp : (List (Int × Int × List (Int) × List (Int × Int))) × (List (Int × Int × List UInt8)) × List (List (List UInt8))) : Bool :=
 (((xp.1.length : Int) == 0) || ((xp.1.getD (Int.toNat 0) default).1 != 0))
def chkj26 (K : Int → Prop) (e5 : Int × Int × List (Int) × List (Int × Int)) (x27l15 : Int) (C15 : Int → Prop) : Prop :=
 (((chkV1 e5)) = true → K 2) ∧ (((chkV1 e5)) = false → C15 (w6 (x27l15 + 1)))
def chkl46b (xp : (List (Int × Int × List (Int) × List (Int × Int))) × (List (Int × Int × List UInt8)) × List (List (List UInt8))) (K : Int → Prop) (x56l46 : Int) (C46 : Int → Prop) : Prop :=
 ((decide (x56l46 < (xp.1.length : Int))) = true → (0 : Int) ≤ x56l46 ∧ Int.toNat x56l46 < xp.1.length ∧ rgtP (xp, (xp.1.getD (Int.toNat x56l46) default), x56l46, ([] : List ((Int) × (Int × List (Int)))), ([] : List (Int)), false) ∧ ((!(rgtS (xp, (xp.1.getD (Int.toNat x56l46) default), x56l46, ([] : List ((Int) × (Int × List (Int)))), ([] : List (Int)), false)).1) = true → K 3) ∧ ((!(rgtS (xp, (xp.1.getD (Int.toNat x56l46) default), x56l46, ([] : List ((Int) × (Int × List (Int)))), ([] : List (Int)), false)).1) = false → C46 (w6 (x56l46 + 1)))) ∧ ((decide (x56l46 < (xp.1.length : Int))) = false → K 0)
def chkl46 (xp : (List (Int × Int × List (Int) × List (Int × Int))) × (List (Int × Int × List UInt8)) × List (List (List UInt8))) (K : Int → Prop) : Nat → Int → Prop
 | 0, _ => False
 | k + 1, x56l46 => chkl46b xp K x56l46 (chkl46 xp K k)
def chkj35 (xp : (List (Int × Int × List (Int) × List (Int × Int))) × (List (Int × Int × List UInt8)) × List (List (List UInt8))) (K : Int → Prop) : Prop :=
 (((chkV2 xp)) = true → K 3) ∧ (((chkV2 xp)) = false → ∃ k, chkl46 xp K k 0)
def chkl15b (xp : (List (Int × Int × List (Int) × List (Int × Int))) × (List (Int × Int × List UInt8)) × List (List (List UInt8))) (K : Int → Prop) (x27l15 : Int) (C15 : Int → Prop) : Prop :=
 ((decide (x27l15 < (xp.1.length : Int))) = true → (0 : Int) ≤ x27l15 ∧ Int.toNat x27l15 < xp.1.length ∧ ((decide (((xp.1.getD (Int.toNat x27l15) default).2.2.2.length : Int) > 8000)) = true → chkj26 K (xp.1.getD (Int.toNat x27l15) default) x27l15 C15) ∧ ((decide (((xp.1.getD (Int.toNat x27l15) default).2.2.2.length : Int) > 8000)) = false → chkj26 K (xp.1.getD (Int.toNat x27l15) default) x27l15 C15)) ∧ ((decide (x27l15 < (xp.1.length : Int))) = false → ((((xp.1.length : Int) == 0)) = true → chkj35 xp K) ∧ ((((xp.1.length : Int) == 0)) = false → (0 : Int) ≤ 0 ∧ Int.toNat 0 < xp.1.length ∧ chkj35 xp K))
def chkl15 (xp : (List (Int × Int × List (Int) × List (Int × Int))) × (List (Int × Int × List UInt8)) × List (List (List UInt8))) (K : Int → Prop) : Nat → Int → Prop
 | 0, _ => False
 | k + 1, x27l15 => chkl15b xp K x27l15 (chkl15 xp K k)
def chkj4 (xp : (List (Int × Int × List (Int) × List (Int × Int))) × (List (Int × Int × List UInt8)) × List (List (List UInt8))) (K : Int → Prop) : Prop :=
 (((chkV0 xp)) = true → K 2) ∧ (((chkV0 xp)) = false → ∃ k, chkl15 xp K k 0)
def chkF (xp : (List (Int × Int × List (Int) × List (Int × Int))) × (List (Int × Int × List UInt8)) × List (List (List UInt8))) (K : Int → Prop) : Prop :=
 ((decide ((xp.1.length : Int) > 400)) = true → chkj4 xp K) ∧ ((decide ((xp.1.length : Int) > 400)) = false → ((decide ((xp.2.1.length : Int) > 400)) = true → chkj4 xp K) ∧ ((decide ((xp.2.1.length : Int) > 400)) = false → chkj4 xp K))
set_option maxHeartbeats 4000000 in
set_option maxRecDepth 100000 in
set_option linter.unusedVariables false in
theorem chk_ok {g : Ghost} {axp_0 : Option Addr} {cxp_0 : Nat} {axp_1 : Option Addr} {cxp_1 : Nat} {axp_2 : Option Addr} {cxp_2 : Nat} (xp : (List (Int × Int × List (Int) × List (Int × Int))) × (List (Int × Int × List UInt8)) × List (List (List UInt8))) (hRxp_0 : Rep g (.slice (.pair (.int .i64) (.pair (.int .i64) (.pair (.slice (.int .i64)) (.slice (.pair (.int .i64) (.int .i64))))))) [.slice axp_0 xp.1.length cxp_0] xp.1) (hRxp_1 : Rep g (.slice (.pair (.int .i64) (.pair (.int .i64) (.str)))) [.slice axp_1 xp.2.1.length cxp_1] xp.2.1) (hRxp_2 : Rep g (.slice (.slice (.str))) [.slice axp_2 xp.2.2.length cxp_2] xp.2.2) (hG0 : GlobL g 0 (.int .u8) DSpace) (K : Int → Prop)
  (hF : chkF xp K) : CallsH Tryd.prog 4 #[.agg #[.slice axp_0 xp.1.length cxp_0, .slice axp_1 xp.2.1.length cxp_1, .slice axp_2 xp.2.2.length cxp_2]] g [] (fun g' H' v => ∃ (r0 : Int), v = .int .i64 r0 ∧ H' = [] ∧ K r0) := by
 refine CallsH.enter 71 [(0, .agg #[.slice axp_0 xp.1.length cxp_0, .slice axp_1 xp.2.1.length cxp_1, .slice axp_2 xp.2.2.length cxp_2])] Tryd.func4 rfl (by kernel_rfl) (by kernel_rfl) (by kernel_rfl) fun w0 => ?_
 refine Ok.seq ?_
 refine Ok.region ?_
 refine Ok.op rfl (OpOk.box (v := .agg #[.slice axp_0 xp.1.length cxp_0, .slice axp_1 xp.2.1.length cxp_1, .slice axp_2 xp.2.2.length cxp_2]) (cs := #[.slice axp_0 xp.1.length cxp_0, .slice axp_1 xp.2.1.length cxp_1, .slice axp_2 xp.2.2.length cxp_2]) rfl (by kernel_rfl) rfl fun bs1 => ?_)
 refine Ok.batch 1 [(1, .pointer (some ⟨bs1, 0, none⟩))] (by kernel_rfl) ?_
 refine Ok.nil ?_
 refine Ok.thenN ?_
 refine Ok.seq ?_
 refine Ok.cut (fun a W => ∃ gj4 : Ghost, Gext w0 g gj4 ∧ StA 71 [(1, .pointer (some ⟨bs1, 0, none⟩)), (23, .bool (chkV0 xp))] a ∧ StW w0 [.blk bs1 (.cells #[.slice axp_0 xp.1.length cxp_0, .slice axp_1 xp.2.1.length cxp_1, .slice axp_2 xp.2.2.length cxp_2] 26)] gj4 W ∧ chkj4 xp K) ?_ ?_
 ·
  refine Ok.region ?_
  refine Ok.batch 1 [(1, .pointer (some ⟨bs1, 0, none⟩)), (8, .pointer (some ⟨bs1, 0, none⟩))] (by kernel_rfl) ?_
  refine Ok.op rfl (OpOk.step (v := .slice axp_0 xp.1.length cxp_0) (Yields.load 0 rfl rfl Tryd.underlying22 rfl (by kernel_rfl)) rfl rfl ?_)
  refine Ok.batch 3 [(1, .pointer (some ⟨bs1, 0, none⟩)), (12, .bool (decide ((xp.1.length : Int) > 400)))] (by kernel_rfl) ?_
  refine Ok.boolAt 12 (decide ((xp.1.length : Int) > 400)) rfl (fun hc23 => ?_) (fun hc23 => ?_)
  ·replace hF := hF.1 hc23
   refine Ok.batch 11 [(1, .pointer (some ⟨bs1, 0, none⟩)), (23, .bool true)] (by kernel_rfl) ?_
   refine Ok.nil ?_
   refine Ok.thenN ?_
   refine Ok.reval 23 rfl (show (.bool true : Value) = .bool (chkV0 xp) from congrArg (Value.bool) (mor_t hc23)) ?_
   exact fun a W hA hW => ⟨g, (Gext.refl w0 g), hA.sub (by kernel_rfl), hW, hF⟩
  ·replace hF := hF.2 hc23
   refine Ok.batch 1 [(1, .pointer (some ⟨bs1, 0, none⟩)), (12, .bool false), (13, .pointer (some ⟨bs1, 1, none⟩))] (by kernel_rfl) ?_
   refine Ok.opYes (j := 4) (d := 12) (want := false) (b := false) rfl (by kernel_rfl) (by kernel_rfl) rfl (OpOk.step (v := .slice axp_1 xp.2.1.length cxp_1) (Yields.load 0 rfl rfl Tryd.underlying23 rfl (by kernel_rfl)) rfl rfl ?_)
   refine Ok.batch 4 [(1, .pointer (some ⟨bs1, 0, none⟩)), (18, .bool (decide ((xp.2.1.length : Int) > 400)))] (by kernel_rfl) ?_
   refine Ok.boolAt 18 (decide ((xp.2.1.length : Int) > 400)) rfl (fun hc24 => ?_) (fun hc24 => ?_)
   ·replace hF := hF.1 hc24
    refine Ok.batch 5 [(1, .pointer (some ⟨bs1, 0, none⟩)), (23, .bool true)] (by kernel_rfl) ?_
    refine Ok.nil ?_
    refine Ok.thenN ?_
    refine Ok.reval 23 rfl (show (.bool true : Value) = .bool (chkV0 xp) from congrArg (Value.bool) ((Eq.trans (mor_t hc24) (mor_f hc23)))) ?_
    exact fun a W hA hW => ⟨g, (Gext.refl w0 g), hA.sub (by kernel_rfl), hW, hF⟩
   ·replace hF := hF.2 hc24
    refine Ok.batch 1 [(1, .pointer (some ⟨bs1, 0, none⟩)), (18, .bool false), (19, .pointer (some ⟨bs1, 2, none⟩))] (by kernel_rfl) ?_
    refine Ok.opYes (j := 10) (d := 18) (want := false) (b := false) rfl (by kernel_rfl) (by kernel_rfl) rfl (OpOk.step (v := .slice axp_2 xp.2.2.length cxp_2) (Yields.load 0 rfl rfl Tryd.underlying24 rfl (by kernel_rfl)) rfl rfl ?_)
    refine Ok.batch 3 [(1, .pointer (some ⟨bs1, 0, none⟩)), (23, .bool (decide ((xp.2.2.length : Int) > 400)))] (by kernel_rfl) ?_
    refine Ok.nil ?_
    refine Ok.thenN ?_
    refine Ok.reval 23 rfl (show (.bool (decide ((xp.2.2.length : Int) > 400)) : Value) = .bool (chkV0 xp) from congrArg (Value.bool) ((Eq.trans (mor_f hc24) (mor_f hc23)))) ?_
    exact fun a W hA hW => ⟨g, (Gext.refl w0 g), hA.sub (by kernel_rfl), hW, hF⟩
 ·
  clear hF
  rintro a W ⟨gj4, hxj4, hA, hW, hF⟩
  refine (?_ : Ok _ _ _ _ _ _) a W hA hW
  clear hA hW
  replace hRxp_0 := hRxp_0.mono hxj4.1
  replace hRxp_1 := hRxp_1.mono hxj4.1
  replace hRxp_2 := hRxp_2.mono hxj4.1
  replace hG0 := hG0.mono hxj4.1
  refine Ok.cond (b := (chkV0 xp)) rfl (fun hc2 => ?_) (fun hc2 => ?_)
  ·replace hF := hF.1 hc2
   refine Ok.seq ?_
   refine Ok.region ?_
   refine Ok.batch 1 [(2, .int .i64 2)] (by kernel_rfl) ?_
   refine Ok.nil ?_
   refine Ok.thenN ?_
   refine Ok.ret ?_
   refine Ok.thenR ?_
   exact Ok.resP (vs := [.int .i64 2]) [] [] (by decide) rfl (.inl rfl) rfl (.cons (.tmp rfl) .nil) hxj4 ⟨2, rfl, rfl, hF⟩
  ·replace hF := hF.2 hc2
   refine Ok.skip ?_
   refine Ok.thenN ?_
   refine Ok.seq ?_
   refine Ok.seq ?_
   refine Ok.region ?_
   refine Ok.batch 1 [(1, .pointer (some ⟨bs1, 0, none⟩)), (24, .pointer (some ⟨bs1, 0, none⟩))] (by kernel_rfl) ?_
   refine Ok.op rfl (OpOk.step (v := .slice axp_0 xp.1.length cxp_0) (Yields.load 0 rfl rfl Tryd.underlying22 rfl (by kernel_rfl)) rfl rfl ?_)
   refine Ok.batch 2 [(1, .pointer (some ⟨bs1, 0, none⟩)), (25, .slice axp_0 xp.1.length cxp_0), (26, .int .i64 (xp.1.length : Int)), (27, .int .i64 0)] (by kernel_rfl) ?_
   refine Ok.nil ?_
   refine Ok.thenN ?_
   refine Ok.block ?_
   obtain ⟨k, hF⟩ := hF
   refine Ok.loop (fun k a W => ∃ gl15 : Ghost, Gext w0 gj4 gl15 ∧ ∃ (x27l15 : Int), StA 71 [(1, .pointer (some ⟨bs1, 0, none⟩)), (25, .slice axp_0 xp.1.length cxp_0), (26, .int .i64 (xp.1.length : Int)), (27, .int .i64 x27l15)] a ∧ StW w0 [.blk bs1 (.cells #[.slice axp_0 xp.1.length cxp_0, .slice axp_1 xp.2.1.length cxp_1, .slice axp_2 xp.2.2.length cxp_2] 26)] gl15 W ∧ chkl15 xp K k x27l15) k ?_ ?_
   ·
    exact fun a W hA hW => ⟨gj4, (Gext.refl w0 gj4), 0, hA.sub (by kernel_rfl), hW, hF⟩
   ·
    clear hF
    rintro k15 a W ⟨gl15, hxl15, x27l15, hA, hW, hF⟩
    cases k15 with
    | zero => exact (hF : False).elim
    | succ k15 =>
     refine (?_ : Ok _ _ _ _ _ _) a W hA hW
     clear hA hW
     replace hRxp_0 := hRxp_0.mono hxl15.1
     replace hRxp_1 := hRxp_1.mono hxl15.1
     replace hRxp_2 := hRxp_2.mono hxl15.1
     replace hG0 := hG0.mono hxl15.1
     refine Ok.seq ?_
     refine Ok.region ?_
     refine Ok.batch 1 [(1, .pointer (some ⟨bs1, 0, none⟩)), (25, .slice axp_0 xp.1.length cxp_0), (26, .int .i64 (xp.1.length : Int)), (27, .int .i64 x27l15), (28, .bool (decide (x27l15 < (xp.1.length : Int))))] (by kernel_rfl) ?_
     refine Ok.nil ?_
     refine Ok.thenN ?_
     refine Ok.seq ?_
     refine Ok.cond (b := decide (x27l15 < (xp.1.length : Int))) rfl (fun hc3 => ?_) (fun hc3 => ?_)
     ·replace hF := hF.1 hc3
      refine Ok.skip ?_
      refine Ok.thenN ?_
      refine Ok.seq ?_
      refine Ok.block ?_
      refine Ok.seq ?_
      refine Ok.region ?_
      obtain ⟨h05, h15, hF⟩ := hF
      have he5 := get_of (l := xp.1) (default : Int × Int × List (Int) × List (Int × Int)) h15
      generalize hg5 : (xp.1.getD (Int.toNat x27l15) default) = e5 at he5 hF ⊢
      refine Ok.op rfl (OpOk.indexRo (e := .pair (.int .i64) (.pair (.int .i64) (.pair (.slice (.int .i64)) (.slice (.pair (.int .i64) (.int .i64)))))) (i := x27l15) (el := e5) rfl rfl Tryd.underlying22 (by kernel_rfl) hRxp_0 h05 he5 rfl fun q4 o4 cs4 _ hat4 hr4 => ?_)
      obtain ⟨_, _, rfl, rfl, ⟨_, _, rfl, rfl, ⟨_, _, rfl, ⟨a4_2, c4_2, rfl, hm4_2, hr4_2⟩, ⟨a4_3, c4_3, rfl, hm4_3, hr4_3⟩⟩⟩⟩ := hr4
      have hR4_2 : Rep gl15 (.slice (.int .i64)) [.slice a4_2 e5.2.2.1.length c4_2] e5.2.2.1 := ⟨a4_2, c4_2, rfl, hm4_2, hr4_2⟩
      have hR4_3 : Rep gl15 (.slice (.pair (.int .i64) (.int .i64))) [.slice a4_3 e5.2.2.2.length c4_3] e5.2.2.2 := ⟨a4_3, c4_3, rfl, hm4_3, hr4_3⟩
      replace hat4 : At gl15 q4 o4 [.int .i64 e5.1, .int .i64 e5.2.1, .slice a4_2 e5.2.2.1.length c4_2, .slice a4_3 e5.2.2.2.length c4_3] := hat4
      refine Ok.op rfl (OpOk.step (v := .agg #[.int .i64 e5.1, .int .i64 e5.2.1, .slice a4_2 e5.2.2.1.length c4_2, .slice a4_3 e5.2.2.2.length c4_3]) (Yields.loadAggRo 0 4 #[.int .i64 e5.1, .int .i64 e5.2.1, .slice a4_2 e5.2.2.1.length c4_2, .slice a4_3 e5.2.2.2.length c4_3] hat4 (by kernel_rfl) Tryd.underlying33 rfl (by kernel_rfl) (by kernel_rfl) (by kernel_rfl)) rfl rfl ?_)
      refine Ok.op rfl (OpOk.alloc (z := .agg #[.int .i64 0, .int .i64 0, .slice none 0 0, .slice none 0 0]) (cs := #[.int .i64 0, .int .i64 0, .slice none 0 0, .slice none 0 0]) (by kernel_rfl) (by kernel_rfl) rfl fun bs4 => ?_)
      refine Ok.op rfl (OpOk.store (k := 4) (v := .agg #[.int .i64 e5.1, .int .i64 e5.2.1, .slice a4_2 e5.2.2.1.length c4_2, .slice a4_3 e5.2.2.2.length c4_3]) (H' := [.blk bs4 (.cells #[.int .i64 e5.1, .int .i64 e5.2.1, .slice a4_2 e5.2.2.1.length c4_2, .slice a4_3 e5.2.2.2.length c4_3] 33), .blk bs1 (.cells #[.slice axp_0 xp.1.length cxp_0, .slice axp_1 xp.2.1.length cxp_1, .slice axp_2 xp.2.2.length cxp_2] 26)]) 0 rfl rfl rfl (by kernel_rfl) (by kernel_rfl) (by kernel_rfl) (by kernel_rfl) (by kernel_rfl) ?_)
      refine Ok.nil ?_
      refine Ok.thenN ?_
      refine Ok.cut (fun a W => ∃ gj26 : Ghost, Gext w0 gl15 gj26 ∧ StA 71 [(1, .pointer (some ⟨bs1, 0, none⟩)), (25, .slice axp_0 xp.1.length cxp_0), (26, .int .i64 (xp.1.length : Int)), (27, .int .i64 x27l15), (39, .bool (chkV1 e5))] a ∧ StW w0 [.blk bs1 (.cells #[.slice axp_0 xp.1.length cxp_0, .slice axp_1 xp.2.1.length cxp_1, .slice axp_2 xp.2.2.length cxp_2] 26)] gj26 W ∧ chkj26 K e5 x27l15 (chkl15 xp K k15)) ?_ ?_
      ·
       refine Ok.region ?_
       refine Ok.batch 1 [(1, .pointer (some ⟨bs1, 0, none⟩)), (4, .pointer (some ⟨bs4, 0, none⟩)), (25, .slice axp_0 xp.1.length cxp_0), (26, .int .i64 (xp.1.length : Int)), (27, .int .i64 x27l15), (31, .pointer (some ⟨bs4, 3, none⟩))] (by kernel_rfl) ?_
       refine Ok.op rfl (OpOk.step (v := .slice a4_3 e5.2.2.2.length c4_3) (Yields.load 0 rfl rfl Tryd.underlying31 rfl (by kernel_rfl)) rfl rfl ?_)
       refine Ok.batch 3 [(1, .pointer (some ⟨bs1, 0, none⟩)), (4, .pointer (some ⟨bs4, 0, none⟩)), (25, .slice axp_0 xp.1.length cxp_0), (26, .int .i64 (xp.1.length : Int)), (27, .int .i64 x27l15), (35, .bool (decide ((e5.2.2.2.length : Int) > 8000)))] (by kernel_rfl) ?_
       refine Ok.boolAt 35 (decide ((e5.2.2.2.length : Int) > 8000)) rfl (fun hc8 => ?_) (fun hc8 => ?_)
       ·replace hF := hF.1 hc8
        refine Ok.batch 4 [(1, .pointer (some ⟨bs1, 0, none⟩)), (25, .slice axp_0 xp.1.length cxp_0), (26, .int .i64 (xp.1.length : Int)), (27, .int .i64 x27l15), (39, .bool true)] (by kernel_rfl) ?_
        refine Ok.nil ?_
        refine Ok.thenN ?_
        refine Ok.reval 39 rfl (show (.bool true : Value) = .bool (chkV1 e5) from congrArg (Value.bool) (mor_t hc8)) ?_
        exact fun a W hA hW => ⟨gl15, (Gext.refl w0 gl15), hA.sub (by kernel_rfl), hW.sub (.cons _ (.cons_cons _ .slnil)), hF⟩
       ·replace hF := hF.2 hc8
        refine Ok.batch 1 [(1, .pointer (some ⟨bs1, 0, none⟩)), (25, .slice axp_0 xp.1.length cxp_0), (26, .int .i64 (xp.1.length : Int)), (27, .int .i64 x27l15), (35, .bool false), (36, .pointer (some ⟨bs4, 1, none⟩))] (by kernel_rfl) ?_
        refine Ok.opYes (j := 4) (d := 35) (want := false) (b := false) rfl (by kernel_rfl) (by kernel_rfl) rfl (OpOk.step (v := .int .i64 e5.2.1) (Yields.load 0 rfl rfl Tryd.underlying3 rfl (by kernel_rfl)) rfl rfl ?_)
        refine Ok.batch 2 [(1, .pointer (some ⟨bs1, 0, none⟩)), (25, .slice axp_0 xp.1.length cxp_0), (26, .int .i64 (xp.1.length : Int)), (27, .int .i64 x27l15), (39, .bool (decide (e5.2.1 > 400)))] (by kernel_rfl) ?_
        refine Ok.nil ?_
        refine Ok.thenN ?_
        refine Ok.reval 39 rfl (show (.bool (decide (e5.2.1 > 400)) : Value) = .bool (chkV1 e5) from congrArg (Value.bool) (mor_f hc8)) ?_
        exact fun a W hA hW => ⟨gl15, (Gext.refl w0 gl15), hA.sub (by kernel_rfl), hW.sub (.cons _ (.cons_cons _ .slnil)), hF⟩
      ·
       clear hF
       rintro a W ⟨gj26, hxj26, hA, hW, hF⟩
       refine (?_ : Ok _ _ _ _ _ _) a W hA hW
       clear hA hW
       replace hRxp_0 := hRxp_0.mono hxj26.1
       replace hRxp_1 := hRxp_1.mono hxj26.1
       replace hRxp_2 := hRxp_2.mono hxj26.1
       replace hG0 := hG0.mono hxj26.1
       refine Ok.cond (b := (chkV1 e5)) rfl (fun hc7 => ?_) (fun hc7 => ?_)
       ·replace hF := hF.1 hc7
        refine Ok.seq ?_
        refine Ok.region ?_
        refine Ok.batch 1 [(2, .int .i64 2)] (by kernel_rfl) ?_
        refine Ok.nil ?_
        refine Ok.thenN ?_
        refine Ok.ret ?_
        refine Ok.blockR ?_
        refine Ok.thenR ?_
        refine Ok.thenR ?_
        refine Ok.blockR ?_
        refine Ok.thenR ?_
        exact Ok.resP (vs := [.int .i64 2]) [] [] (by decide) rfl (.inl rfl) rfl (.cons (.tmp rfl) .nil) ((hxj4.trans hxl15).trans hxj26) ⟨2, rfl, rfl, hF⟩
       ·replace hF := hF.2 hc7
        refine Ok.skip ?_
        refine Ok.blockN ?_
        refine Ok.thenN ?_
        refine Ok.region ?_
        refine Ok.batch 2 [(1, .pointer (some ⟨bs1, 0, none⟩)), (25, .slice axp_0 xp.1.length cxp_0), (26, .int .i64 (xp.1.length : Int)), (27, .int .i64 (w6 (x27l15 + 1)))] (by kernel_rfl) ?_
        refine Ok.nil ?_
        refine Ok.thenN ?_
        subst hg5
        exact fun a W hA hW => ⟨k15, Nat.lt_succ_self _, gj26, (hxl15.trans hxj26), w6 (x27l15 + 1), hA.sub (by kernel_rfl), hW, hF⟩
     ·replace hF := hF.2 hc3
      refine Ok.exit ?_
      refine Ok.thenE ?_
      refine Ok.thenE ?_
      refine Ok.blockHit ?_
      refine Ok.thenN ?_
      refine Ok.seq ?_
      refine Ok.cut (fun a W => ∃ gj35 : Ghost, Gext w0 gl15 gj35 ∧ StA 71 [(1, .pointer (some ⟨bs1, 0, none⟩)), (52, .bool (chkV2 xp))] a ∧ StW w0 [.blk bs1 (.cells #[.slice axp_0 xp.1.length cxp_0, .slice axp_1 xp.2.1.length cxp_1, .slice axp_2 xp.2.2.length cxp_2] 26)] gj35 W ∧ chkj35 xp K) ?_ ?_
      ·
       refine Ok.region ?_
       refine Ok.batch 1 [(1, .pointer (some ⟨bs1, 0, none⟩)), (41, .pointer (some ⟨bs1, 0, none⟩))] (by kernel_rfl) ?_
       refine Ok.op rfl (OpOk.step (v := .slice axp_0 xp.1.length cxp_0) (Yields.load 0 rfl rfl Tryd.underlying22 rfl (by kernel_rfl)) rfl rfl ?_)
       refine Ok.batch 3 [(1, .pointer (some ⟨bs1, 0, none⟩)), (45, .bool ((xp.1.length : Int) == 0))] (by kernel_rfl) ?_
       refine Ok.boolAt 45 (((xp.1.length : Int) == 0)) rfl (fun hc20 => ?_) (fun hc20 => ?_)
       ·replace hF := hF.1 hc20
        refine Ok.batch 7 [(1, .pointer (some ⟨bs1, 0, none⟩)), (52, .bool true)] (by kernel_rfl) ?_
        refine Ok.nil ?_
        refine Ok.thenN ?_
        refine Ok.reval 52 rfl (show (.bool true : Value) = .bool (chkV2 xp) from congrArg (Value.bool) (mor_t hc20)) ?_
        exact fun a W hA hW => ⟨gl15, (Gext.refl w0 gl15), hA.sub (by kernel_rfl), hW, hF⟩
       ·replace hF := hF.2 hc20
        refine Ok.batch 1 [(1, .pointer (some ⟨bs1, 0, none⟩)), (45, .bool false), (46, .pointer (some ⟨bs1, 0, none⟩))] (by kernel_rfl) ?_
        refine Ok.opYes (j := 4) (d := 45) (want := false) (b := false) rfl (by kernel_rfl) (by kernel_rfl) rfl (OpOk.step (v := .slice axp_0 xp.1.length cxp_0) (Yields.load 0 rfl rfl Tryd.underlying22 rfl (by kernel_rfl)) rfl rfl ?_)
        obtain ⟨h022, h122, hF⟩ := hF
        have he22 := get_of (l := xp.1) (default : Int × Int × List (Int) × List (Int × Int)) h122
        generalize hg22 : (xp.1.getD (Int.toNat 0) default) = e22 at he22 hF ⊢
        refine Ok.opYes (j := 4) (d := 45) (want := false) (b := false) rfl (by kernel_rfl) (by kernel_rfl) rfl (OpOk.indexRo (e := .pair (.int .i64) (.pair (.int .i64) (.pair (.slice (.int .i64)) (.slice (.pair (.int .i64) (.int .i64)))))) (i := 0) (el := e22) rfl rfl Tryd.underlying22 (by kernel_rfl) hRxp_0 h022 he22 rfl fun q21 o21 cs21 _ hat21 hr21 => ?_)
        obtain ⟨_, _, rfl, rfl, ⟨_, _, rfl, rfl, ⟨_, _, rfl, ⟨a21_2, c21_2, rfl, hm21_2, hr21_2⟩, ⟨a21_3, c21_3, rfl, hm21_3, hr21_3⟩⟩⟩⟩ := hr21
        have hR21_2 : Rep gl15 (.slice (.int .i64)) [.slice a21_2 e22.2.2.1.length c21_2] e22.2.2.1 := ⟨a21_2, c21_2, rfl, hm21_2, hr21_2⟩
        have hR21_3 : Rep gl15 (.slice (.pair (.int .i64) (.int .i64))) [.slice a21_3 e22.2.2.2.length c21_3] e22.2.2.2 := ⟨a21_3, c21_3, rfl, hm21_3, hr21_3⟩
        replace hat21 : At gl15 q21 o21 [.int .i64 e22.1, .int .i64 e22.2.1, .slice a21_2 e22.2.2.1.length c21_2, .slice a21_3 e22.2.2.2.length c21_3] := hat21
        refine Ok.batch 1 [(1, .pointer (some ⟨bs1, 0, none⟩)), (45, .bool false), (49, .pointer (some ⟨q21, o21, none⟩))] (by kernel_rfl) ?_
        refine Ok.opYes (j := 4) (d := 45) (want := false) (b := false) rfl (by kernel_rfl) (by kernel_rfl) rfl (OpOk.step (v := .int .i64 e22.1) (Yields.loadRo 0 hat21 (by kernel_rfl) Tryd.underlying3 rfl (by kernel_rfl)) rfl rfl ?_)
        refine Ok.batch 2 [(1, .pointer (some ⟨bs1, 0, none⟩)), (52, .bool (e22.1 != 0))] (by kernel_rfl) ?_
        refine Ok.nil ?_
        refine Ok.thenN ?_
        subst hg22
        refine Ok.reval 52 rfl (show (.bool ((xp.1.getD (Int.toNat 0) default).1 != 0) : Value) = .bool (chkV2 xp) from congrArg (Value.bool) (mor_f hc20)) ?_
        exact fun a W hA hW => ⟨gl15, (Gext.refl w0 gl15), hA.sub (by kernel_rfl), hW, hF⟩
      ·
       clear hF
       rintro a W ⟨gj35, hxj35, hA, hW, hF⟩
       refine (?_ : Ok _ _ _ _ _ _) a W hA hW
       clear hA hW
       replace hRxp_0 := hRxp_0.mono hxj35.1
       replace hRxp_1 := hRxp_1.mono hxj35.1
       replace hRxp_2 := hRxp_2.mono hxj35.1
       replace hG0 := hG0.mono hxj35.1
       refine Ok.cond (b := (chkV2 xp)) rfl (fun hc9 => ?_) (fun hc9 => ?_)
       ·replace hF := hF.1 hc9
        refine Ok.seq ?_
        refine Ok.region ?_
        refine Ok.batch 1 [(2, .int .i64 3)] (by kernel_rfl) ?_
        refine Ok.nil ?_
        refine Ok.thenN ?_
        refine Ok.ret ?_
        refine Ok.thenR ?_
        exact Ok.resP (vs := [.int .i64 3]) [] [] (by decide) rfl (.inl rfl) rfl (.cons (.tmp rfl) .nil) ((hxj4.trans hxl15).trans hxj35) ⟨3, rfl, rfl, hF⟩
       ·replace hF := hF.2 hc9
        refine Ok.skip ?_
        refine Ok.thenN ?_
        refine Ok.seq ?_
        refine Ok.seq ?_
        refine Ok.region ?_
        refine Ok.batch 1 [(1, .pointer (some ⟨bs1, 0, none⟩)), (53, .pointer (some ⟨bs1, 0, none⟩))] (by kernel_rfl) ?_
        refine Ok.op rfl (OpOk.step (v := .slice axp_0 xp.1.length cxp_0) (Yields.load 0 rfl rfl Tryd.underlying22 rfl (by kernel_rfl)) rfl rfl ?_)
        refine Ok.batch 2 [(1, .pointer (some ⟨bs1, 0, none⟩)), (54, .slice axp_0 xp.1.length cxp_0), (55, .int .i64 (xp.1.length : Int)), (56, .int .i64 0)] (by kernel_rfl) ?_
        refine Ok.nil ?_
        refine Ok.thenN ?_
        refine Ok.block ?_
        obtain ⟨k, hF⟩ := hF
        refine Ok.loop (fun k a W => ∃ gl46 : Ghost, Gext w0 gj35 gl46 ∧ ∃ (x56l46 : Int), StA 71 [(1, .pointer (some ⟨bs1, 0, none⟩)), (54, .slice axp_0 xp.1.length cxp_0), (55, .int .i64 (xp.1.length : Int)), (56, .int .i64 x56l46)] a ∧ StW w0 [.blk bs1 (.cells #[.slice axp_0 xp.1.length cxp_0, .slice axp_1 xp.2.1.length cxp_1, .slice axp_2 xp.2.2.length cxp_2] 26)] gl46 W ∧ chkl46 xp K k x56l46) k ?_ ?_
        ·
         exact fun a W hA hW => ⟨gj35, (Gext.refl w0 gj35), 0, hA.sub (by kernel_rfl), hW, hF⟩
        ·
         clear hF
         rintro k46 a W ⟨gl46, hxl46, x56l46, hA, hW, hF⟩
         cases k46 with
         | zero => exact (hF : False).elim
         | succ k46 =>
          refine (?_ : Ok _ _ _ _ _ _) a W hA hW
          clear hA hW
          replace hRxp_0 := hRxp_0.mono hxl46.1
          replace hRxp_1 := hRxp_1.mono hxl46.1
          replace hRxp_2 := hRxp_2.mono hxl46.1
          replace hG0 := hG0.mono hxl46.1
          refine Ok.seq ?_
          refine Ok.region ?_
          refine Ok.batch 1 [(1, .pointer (some ⟨bs1, 0, none⟩)), (54, .slice axp_0 xp.1.length cxp_0), (55, .int .i64 (xp.1.length : Int)), (56, .int .i64 x56l46), (57, .bool (decide (x56l46 < (xp.1.length : Int))))] (by kernel_rfl) ?_
          refine Ok.nil ?_
          refine Ok.thenN ?_
          refine Ok.seq ?_
          refine Ok.cond (b := decide (x56l46 < (xp.1.length : Int))) rfl (fun hc10 => ?_) (fun hc10 => ?_)
          ·replace hF := hF.1 hc10
           refine Ok.skip ?_
           refine Ok.thenN ?_
           refine Ok.seq ?_
           refine Ok.block ?_
           refine Ok.seq ?_
           refine Ok.region ?_
           refine Ok.batch 1 [(1, .pointer (some ⟨bs1, 0, none⟩)), (54, .slice axp_0 xp.1.length cxp_0), (55, .int .i64 (xp.1.length : Int)), (56, .int .i64 x56l46), (58, .int .i64 x56l46)] (by kernel_rfl) ?_
           obtain ⟨h012, h112, hF⟩ := hF
           have he12 := get_of (l := xp.1) (default : Int × Int × List (Int) × List (Int × Int)) h112
           generalize hg12 : (xp.1.getD (Int.toNat x56l46) default) = e12 at he12 hF ⊢
           refine Ok.op rfl (OpOk.indexRo (e := .pair (.int .i64) (.pair (.int .i64) (.pair (.slice (.int .i64)) (.slice (.pair (.int .i64) (.int .i64)))))) (i := x56l46) (el := e12) rfl rfl Tryd.underlying22 (by kernel_rfl) hRxp_0 h012 he12 rfl fun q11 o11 cs11 _ hat11 hr11 => ?_)
           obtain ⟨_, _, rfl, rfl, ⟨_, _, rfl, rfl, ⟨_, _, rfl, ⟨a11_2, c11_2, rfl, hm11_2, hr11_2⟩, ⟨a11_3, c11_3, rfl, hm11_3, hr11_3⟩⟩⟩⟩ := hr11
           have hR11_2 : Rep gl46 (.slice (.int .i64)) [.slice a11_2 e12.2.2.1.length c11_2] e12.2.2.1 := ⟨a11_2, c11_2, rfl, hm11_2, hr11_2⟩
           have hR11_3 : Rep gl46 (.slice (.pair (.int .i64) (.int .i64))) [.slice a11_3 e12.2.2.2.length c11_3] e12.2.2.2 := ⟨a11_3, c11_3, rfl, hm11_3, hr11_3⟩
           replace hat11 : At gl46 q11 o11 [.int .i64 e12.1, .int .i64 e12.2.1, .slice a11_2 e12.2.2.1.length c11_2, .slice a11_3 e12.2.2.2.length c11_3] := hat11
           refine Ok.op rfl (OpOk.step (v := .agg #[.int .i64 e12.1, .int .i64 e12.2.1, .slice a11_2 e12.2.2.1.length c11_2, .slice a11_3 e12.2.2.2.length c11_3]) (Yields.loadAggRo 0 4 #[.int .i64 e12.1, .int .i64 e12.2.1, .slice a11_2 e12.2.2.1.length c11_2, .slice a11_3 e12.2.2.2.length c11_3] hat11 (by kernel_rfl) Tryd.underlying33 rfl (by kernel_rfl) (by kernel_rfl) (by kernel_rfl)) rfl rfl ?_)
           refine Ok.op rfl (OpOk.alloc (z := .agg #[.int .i64 0, .int .i64 0, .slice none 0 0, .slice none 0 0]) (cs := #[.int .i64 0, .int .i64 0, .slice none 0 0, .slice none 0 0]) (by kernel_rfl) (by kernel_rfl) rfl fun bs6 => ?_)
           refine Ok.batch 1 [(1, .pointer (some ⟨bs1, 0, none⟩)), (5, .int .i64 x56l46), (6, .pointer (some ⟨bs6, 0, none⟩)), (54, .slice axp_0 xp.1.length cxp_0), (55, .int .i64 (xp.1.length : Int)), (56, .int .i64 x56l46), (60, .agg #[.int .i64 e12.1, .int .i64 e12.2.1, .slice a11_2 e12.2.2.1.length c11_2, .slice a11_3 e12.2.2.2.length c11_3])] (by kernel_rfl) ?_
           refine Ok.op rfl (OpOk.store (k := 4) (v := .agg #[.int .i64 e12.1, .int .i64 e12.2.1, .slice a11_2 e12.2.2.1.length c11_2, .slice a11_3 e12.2.2.2.length c11_3]) (H' := [.blk bs6 (.cells #[.int .i64 e12.1, .int .i64 e12.2.1, .slice a11_2 e12.2.2.1.length c11_2, .slice a11_3 e12.2.2.2.length c11_3] 33), .blk bs1 (.cells #[.slice axp_0 xp.1.length cxp_0, .slice axp_1 xp.2.1.length cxp_1, .slice axp_2 xp.2.2.length cxp_2] 26)]) 0 rfl rfl rfl (by kernel_rfl) (by kernel_rfl) (by kernel_rfl) (by kernel_rfl) (by kernel_rfl) ?_)
           refine Ok.nil ?_
           refine Ok.thenN ?_
           refine Ok.seq ?_
           refine Ok.region ?_
           refine Ok.op rfl (OpOk.step (v := .agg #[.slice axp_0 xp.1.length cxp_0, .slice axp_1 xp.2.1.length cxp_1, .slice axp_2 xp.2.2.length cxp_2]) (Yields.loadAgg 1 3 #[.slice axp_0 xp.1.length cxp_0, .slice axp_1 xp.2.1.length cxp_1, .slice axp_2 xp.2.2.length cxp_2] rfl rfl Tryd.underlying26 rfl (by kernel_rfl) (by kernel_rfl) (by kernel_rfl)) rfl rfl ?_)
           refine Ok.op rfl (OpOk.step (v := .agg #[.int .i64 e12.1, .int .i64 e12.2.1, .slice a11_2 e12.2.2.1.length c11_2, .slice a11_3 e12.2.2.2.length c11_3]) (Yields.loadAgg 0 4 #[.int .i64 e12.1, .int .i64 e12.2.1, .slice a11_2 e12.2.2.1.length c11_2, .slice a11_3 e12.2.2.2.length c11_3] rfl rfl Tryd.underlying33 rfl (by kernel_rfl) (by kernel_rfl) (by kernel_rfl)) rfl rfl ?_)
           refine Ok.batch 1 [(1, .pointer (some ⟨bs1, 0, none⟩)), (54, .slice axp_0 xp.1.length cxp_0), (55, .int .i64 (xp.1.length : Int)), (56, .int .i64 x56l46), (61, .agg #[.slice axp_0 xp.1.length cxp_0, .slice axp_1 xp.2.1.length cxp_1, .slice axp_2 xp.2.2.length cxp_2]), (62, .agg #[.int .i64 e12.1, .int .i64 e12.2.1, .slice a11_2 e12.2.2.1.length c11_2, .slice a11_3 e12.2.2.2.length c11_3]), (63, .int .i64 x56l46)] (by kernel_rfl) ?_
           refine Ok.op rfl (OpOk.makeMapA (.pair (.int .i64) (.slice (.int .i64))) true (kt := (Value.int .i64)) rfl fun b14 hM14 => ?_)
           refine Ok.batch 1 [(1, .pointer (some ⟨bs1, 0, none⟩)), (54, .slice axp_0 xp.1.length cxp_0), (55, .int .i64 (xp.1.length : Int)), (56, .int .i64 x56l46), (65, .agg #[.slice axp_0 xp.1.length cxp_0, .slice axp_1 xp.2.1.length cxp_1, .slice axp_2 xp.2.2.length cxp_2, .int .i64 e12.1, .int .i64 e12.2.1, .slice a11_2 e12.2.2.1.length c11_2, .slice a11_3 e12.2.2.2.length c11_3, .int .i64 x56l46, .map (some b14), .slice none 0 0, .bool false])] (by kernel_rfl) ?_
           have hL15 : RepL gl46 (.int .i64) [] [] := rfl
           refine Ok.ownNil 3 1 ?_
           refine Ok.op rfl (OpOk.box (v := .agg #[.slice axp_0 xp.1.length cxp_0, .slice axp_1 xp.2.1.length cxp_1, .slice axp_2 xp.2.2.length cxp_2, .int .i64 e12.1, .int .i64 e12.2.1, .slice a11_2 e12.2.2.1.length c11_2, .slice a11_3 e12.2.2.2.length c11_3, .int .i64 x56l46, .map (some b14), .slice none ([] : List (Int)).length 0, .bool false]) (cs := #[.slice axp_0 xp.1.length cxp_0, .slice axp_1 xp.2.1.length cxp_1, .slice axp_2 xp.2.2.length cxp_2, .int .i64 e12.1, .int .i64 e12.2.1, .slice a11_2 e12.2.2.1.length c11_2, .slice a11_3 e12.2.2.2.length c11_3, .int .i64 x56l46, .map (some b14), .slice none ([] : List (Int)).length 0, .bool false]) rfl (by kernel_rfl) rfl fun bs66 => ?_)
           refine Ok.batch 1 [(1, .pointer (some ⟨bs1, 0, none⟩)), (7, .pointer (some ⟨bs66, 0, none⟩)), (54, .slice axp_0 xp.1.length cxp_0), (55, .int .i64 (xp.1.length : Int)), (56, .int .i64 x56l46)] (by kernel_rfl) ?_
           refine Ok.nil ?_
           refine Ok.thenN ?_
           refine Ok.seq ?_
           refine Ok.region ?_
           refine Ok.batch 1 [(1, .pointer (some ⟨bs1, 0, none⟩)), (54, .slice axp_0 xp.1.length cxp_0), (55, .int .i64 (xp.1.length : Int)), (56, .int .i64 x56l46), (67, .pointer (some ⟨bs66, 0, none⟩))] (by kernel_rfl) ?_
           obtain ⟨hp17, hF⟩ := hF
           refine Ok.entries [0, 2, 1, 3, 4] [.blk bs66 (.cells #[.slice axp_0 xp.1.length cxp_0, .slice axp_1 xp.2.1.length cxp_1, .slice axp_2 xp.2.2.length cxp_2, .int .i64 e12.1, .int .i64 e12.2.1, .slice a11_2 e12.2.2.1.length c11_2, .slice a11_3 e12.2.2.2.length c11_3, .int .i64 x56l46, .map (some b14), .slice none ([] : List (Int)).length 0, .bool false] 37), .blk b14 (.map (#[] : Array MapEntry) 0), .own (.slice none ([] : List (Int)).length 0) 3 1 ([] : List (Int)).length ([]), .blk bs6 (.cells #[.int .i64 e12.1, .int .i64 e12.2.1, .slice a11_2 e12.2.2.1.length c11_2, .slice a11_3 e12.2.2.2.length c11_3] 33), .blk bs1 (.cells #[.slice axp_0 xp.1.length cxp_0, .slice axp_1 xp.2.1.length cxp_1, .slice axp_2 xp.2.2.length cxp_2] 26)] (by decide) rfl ?_
           refine Ok.op rfl (OpOk.callH [.blk bs66 (.cells #[.slice axp_0 xp.1.length cxp_0, .slice axp_1 xp.2.1.length cxp_1, .slice axp_2 xp.2.2.length cxp_2, .int .i64 e12.1, .int .i64 e12.2.1, .slice a11_2 e12.2.2.1.length c11_2, .slice a11_3 e12.2.2.2.length c11_3, .int .i64 x56l46, .map (some b14), .slice none ([] : List (Int)).length 0, .bool false] 37), .blk b14 (.map (#[] : Array MapEntry) 0), .own (.slice none ([] : List (Int)).length 0) 3 1 ([] : List (Int)).length ([])] [.blk bs6 (.cells #[.int .i64 e12.1, .int .i64 e12.2.1, .slice a11_2 e12.2.2.1.length c11_2, .slice a11_3 e12.2.2.2.length c11_3] 33), .blk bs1 (.cells #[.slice axp_0 xp.1.length cxp_0, .slice axp_1 xp.2.1.length cxp_1, .slice axp_2 xp.2.2.length cxp_2] 26)] (enters (by kernel_rfl) (fun _ => by kernel_rfl)) rfl (rgt_c (xp, e12, x56l46, ([] : List ((Int) × (Int × List (Int)))), ([] : List (Int)), false) hRxp_0 hRxp_1 hRxp_2 hR11_2 hR11_3 hM14 hL15 hG0 hp17) rfl fun g18 _ _ hx18 hV18 => ?_)
           obtain ⟨a18_0, c18_0, a18_2, c18_2, a18_4, c18_4, a18_6, c18_6, a18_8, c18_8, es18_10, ck18_10, a18_12, c18_12, xs18_12, rfl, hR18_0, hR18_2, hR18_4, hR18_6, hR18_8, hM18_10, hL18_12, rfl⟩ := hV18
           replace hRxp_0 := hRxp_0.mono hx18.1
           replace hR11_2 := hR11_2.mono hx18.1
           replace hR11_3 := hR11_3.mono hx18.1
           replace hRxp_1 := hRxp_1.mono hx18.1
           replace hRxp_2 := hRxp_2.mono hx18.1
           replace hG0 := hG0.mono hx18.1
           refine Ok.batch 1 [(1, .pointer (some ⟨bs1, 0, none⟩)), (54, .slice axp_0 xp.1.length cxp_0), (55, .int .i64 (xp.1.length : Int)), (56, .int .i64 x56l46), (69, .bool (!(rgtS (xp, e12, x56l46, ([] : List ((Int) × (Int × List (Int)))), ([] : List (Int)), false)).1))] (by kernel_rfl) ?_
           refine Ok.nil ?_
           refine Ok.thenN ?_
           refine Ok.cond (b := !(rgtS (xp, e12, x56l46, ([] : List ((Int) × (Int × List (Int)))), ([] : List (Int)), false)).1) rfl (fun hc19 => ?_) (fun hc19 => ?_)
           ·replace hF := hF.1 hc19
            refine Ok.seq ?_
            refine Ok.region ?_
            refine Ok.batch 1 [(2, .int .i64 3)] (by kernel_rfl) ?_
            refine Ok.nil ?_
            refine Ok.thenN ?_
            refine Ok.ret ?_
            refine Ok.blockR ?_
            refine Ok.thenR ?_
            refine Ok.thenR ?_
            refine Ok.blockR ?_
            refine Ok.thenR ?_
            exact Ok.resP (vs := [.int .i64 3]) [] [] (by decide) rfl (.inl rfl) rfl (.cons (.tmp rfl) .nil) ((((hxj4.trans hxl15).trans hxj35).trans hxl46).trans hx18) ⟨3, rfl, rfl, hF⟩
           ·replace hF := hF.2 hc19
            refine Ok.skip ?_
            refine Ok.blockN ?_
            refine Ok.thenN ?_
            refine Ok.region ?_
            refine Ok.batch 2 [(1, .pointer (some ⟨bs1, 0, none⟩)), (54, .slice axp_0 xp.1.length cxp_0), (55, .int .i64 (xp.1.length : Int)), (56, .int .i64 (w6 (x56l46 + 1)))] (by kernel_rfl) ?_
            refine Ok.nil ?_
            refine Ok.thenN ?_
            subst hg12
            exact fun a W hA hW => ⟨k46, Nat.lt_succ_self _, g18, (hxl46.trans hx18), w6 (x56l46 + 1), hA.sub (by kernel_rfl), hW.sub (.cons _ (.cons _ (.cons _ (.cons _ (.cons_cons _ .slnil))))), hF⟩
          ·replace hF := hF.2 hc10
           refine Ok.exit ?_
           refine Ok.thenE ?_
           refine Ok.thenE ?_
           refine Ok.blockHit ?_
           refine Ok.thenN ?_
           refine Ok.seq ?_
           refine Ok.region ?_
           refine Ok.batch 1 [(2, .int .i64 0)] (by kernel_rfl) ?_
           refine Ok.nil ?_
           refine Ok.thenN ?_
           refine Ok.ret ?_
           exact Ok.resP (vs := [.int .i64 0]) [] [] (by decide) rfl (.inl rfl) rfl (.cons (.tmp rfl) .nil) (((hxj4.trans hxl15).trans hxj35).trans hxl46) ⟨0, rfl, rfl, hF⟩
end
end Go.Proofs.YtanhbfhpnjjgcaaDoor.Cc
