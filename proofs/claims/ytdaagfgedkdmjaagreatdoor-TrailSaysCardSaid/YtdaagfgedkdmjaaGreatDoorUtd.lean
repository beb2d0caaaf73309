/- Addresses: Concat, beside, Resolve. -/
import Derived.Test.YtdaagfgedkdmjaaGreatDoorUtc
namespace Go.Proofs.YtdaagfgedkdmjaaGreatDoor.Ub
open Go Go.Eng Go.RowKit Go.Shelf Go.Proofs Bld Sp Ti Uc Ua Ui
set_option maxHeartbeats 4000000
set_option maxRecDepth 100000
set_option linter.unusedSimpArgs false
set_option linter.unusedVariables false
noncomputable section
def scoS (l : List (List Bs)) : List Bs := l.flatten
def scoP (l : List (List Bs)) : Prop := l.length ≤ 10 ∧ ∀ x ∈ l, x.length ≤ 10000
def scol34b (xslices : List (List Bs)) (K : (List Bs) → Prop) (x27l34 : Int) (yown6_0_0l34 : List Bs) (C34 : Int → (List Bs) → Prop) : Prop :=
 ((decide (x27l34 < (xslices.length : Int))) = true → (0 : Int) ≤ x27l34 ∧ Int.toNat x27l34 < xslices.length ∧ (yown6_0_0l34 ++ (xslices.getD (Int.toNat x27l34) default)).length ≤ 8796093022208 ∧ C34 (w6 (x27l34 + 1)) (yown6_0_0l34 ++ (xslices.getD (Int.toNat x27l34) default))) ∧ ((decide (x27l34 < (xslices.length : Int))) = false → K yown6_0_0l34)
def scol34 (xslices : List (List Bs)) (K : (List Bs) → Prop) : Nat → Int → (List Bs) → Prop
 | 0, _, _ => False
 | k + 1, x27l34, yown6_0_0l34 => scol34b xslices K x27l34 yown6_0_0l34 (scol34 xslices K k)
def scol9b (xslices : List (List Bs)) (K : (List Bs) → Prop) (x3l9 : Int) (x11l9 : Int) (C9 : Int → Int → Prop) : Prop :=
 ((decide (x11l9 < (xslices.length : Int))) = true → (0 : Int) ≤ x11l9 ∧ Int.toNat x11l9 < xslices.length ∧ ((decide ((w6 (x3l9 + ((xslices.getD (Int.toNat x11l9) default).length : Int))) < 0)) = true → False) ∧ ((decide ((w6 (x3l9 + ((xslices.getD (Int.toNat x11l9) default).length : Int))) < 0)) = false → C9 (w6 (x3l9 + ((xslices.getD (Int.toNat x11l9) default).length : Int))) (w6 (x11l9 + 1)))) ∧ ((decide (x11l9 < (xslices.length : Int))) = false → sgrP x3l9 ∧ ∃ k, scol34 xslices K k 0 (sgrS x3l9))
def scol9 (xslices : List (List Bs)) (K : (List Bs) → Prop) : Nat → Int → Int → Prop
 | 0, _, _ => False
 | k + 1, x3l9, x11l9 => scol9b xslices K x3l9 x11l9 (scol9 xslices K k)
def scoF (xslices : List (List Bs)) (K : (List Bs) → Prop) : Prop :=
 ∃ k, scol9 xslices K k 0 0
theorem sco_ok {g : Ghost} {axslices_0 : Option Addr} {cxslices_0 : Nat} (xslices : List (List Bs)) (hRxslices_0 : Rep g (.slice (.slice (.str))) [.slice axslices_0 xslices.length cxslices_0] xslices) (K : (List Bs) → Prop)
  (hF : scoF xslices K) : CallsH Tryz.prog 66 #[.slice axslices_0 xslices.length cxslices_0] g [] (fun g' H' v => ∃ (r0 : List Bs), ∃ (ar0_0 : Option Addr) (cr0_0 : Nat), v = .slice ar0_0 r0.length cr0_0 ∧ Rep g' (.slice (.str)) [.slice ar0_0 r0.length cr0_0] r0 ∧ H' = [] ∧ K r0) := by
 refine CallsH.enter 36 [(0, .slice axslices_0 xslices.length cxslices_0)] Tryz.func66 rfl (by kernel_rfl) (by kernel_rfl) (by kernel_rfl) fun w0 => ?_
 refine Ok.seq (Ok.region (Ok.batch 1 [(0, .slice axslices_0 xslices.length cxslices_0)] (by kernel_rfl) (Ok.nil (Ok.thenN (Ok.seq (Ok.region (Ok.bat 1 [0] [(3, .int .i64 0)] ?_)))))))
 refine Ok.nil (Ok.thenN (Ok.seq (Ok.seq (Ok.region (Ok.bat 3 [0, 3] [(9, .slice axslices_0 xslices.length cxslices_0), (10, .int .i64 (xslices.length : Int)), (11, .int .i64 0)] ?_)))))
 refine Ok.nil (Ok.thenN (Ok.block ?_))
 obtain ⟨k, hF⟩ := hF
 refine Ok.loop (fun k a W => ∃ gl9 : Ghost, Gext w0 g gl9 ∧ ∃ (x3l9 : Int) (x11l9 : Int), StA 36 [(0, .slice axslices_0 xslices.length cxslices_0), (3, .int .i64 x3l9), (9, .slice axslices_0 xslices.length cxslices_0), (10, .int .i64 (xslices.length : Int)), (11, .int .i64 x11l9)] a ∧ StW w0 [] gl9 W ∧ scol9 xslices K k x3l9 x11l9) k ?_ ?_
 ·
  exact fun a W hA hW => ⟨g, (Gext.refl w0 g), 0, 0, hA.sub (by kernel_rfl), hW, hF⟩
 ·
  clear hF
  rintro k9 a W ⟨gl9, hxl9, x3l9, x11l9, hA, hW, hF⟩
  cases k9 with
  | zero => exact (hF : False).elim
  | succ k9 =>
   refine (?_ : Ok _ _ _ _ _ _) a W hA hW
   clear hA hW
   replace hRxslices_0 := hRxslices_0.mono hxl9.1
   refine Ok.seq (Ok.region (Ok.bat 1 [0, 3, 9, 10, 11] [(12, .bool (decide (x11l9 < (xslices.length : Int))))] ?_))
   refine Ok.nil (Ok.thenN (Ok.seq (Ok.cond (b := decide (x11l9 < (xslices.length : Int))) rfl (fun hc1 => ?_) (fun hc1 => ?_))))
   ·replace hF := hF.1 hc1
    refine Ok.skip (Ok.thenN (Ok.seq (Ok.block (Ok.seq (Ok.region ?_)))))
    obtain ⟨h03, h13, hF⟩ := hF
    have he3 := get_of (l := xslices) (default : List Bs) h13
    generalize hg3 : (xslices.getD (Int.toNat x11l9) default) = e3 at he3 hF ⊢
    refine Ok.op rfl (OpOk.indexRo (e := .slice (.str)) (i := x11l9) (el := e3) rfl rfl Tryz.underlying113 (by kernel_rfl) hRxslices_0 h03 he3 rfl fun q2 o2 cs2 _ hat2 hr2 => ?_)
    obtain ⟨a2_0, c2_0, rfl, hm2_0, hr2_0⟩ := hr2
    have hR2_0 : Rep gl9 (.slice (.str)) [.slice a2_0 e3.length c2_0] e3 := ⟨a2_0, c2_0, rfl, hm2_0, hr2_0⟩
    replace hat2 : At gl9 q2 o2 [.slice a2_0 e3.length c2_0] := hat2
    refine Ok.op rfl (OpOk.step (v := .slice a2_0 e3.length c2_0) (Yields.loadRo 0 hat2 (by kernel_rfl) Tryz.underlying51 rfl (by kernel_rfl)) rfl rfl (Ok.bat 1 [0, 3, 9, 10, 11] [(5, .slice a2_0 e3.length c2_0)] ?_))
    refine Ok.nil (Ok.thenN (Ok.seq (Ok.region (Ok.bat 5 [0, 9, 10, 11] [(3, .int .i64 (w6 (x3l9 + (e3.length : Int))))] ?_))))
    refine Ok.nil (Ok.thenN (Ok.seq (Ok.region (Ok.bat 2 [0, 3, 9, 10, 11] [(20, .bool (decide ((w6 (x3l9 + (e3.length : Int))) < 0)))] ?_))))
    refine Ok.nil (Ok.thenN (Ok.cond (b := decide ((w6 (x3l9 + (e3.length : Int))) < 0)) rfl (fun hc4 => ?_) (fun hc4 => ?_)))
    ·replace hF := hF.1 hc4
     exact False.elim hF
    ·replace hF := hF.2 hc4
     refine Ok.skip (Ok.blockN (Ok.thenN (Ok.region (Ok.bat 2 [0, 3, 9, 10] [(11, .int .i64 (w6 (x11l9 + 1)))] ?_))))
     refine Ok.nil (Ok.thenN ?_)
     subst hg3
     exact fun a W hA hW => ⟨k9, Nat.lt_succ_self _, gl9, hxl9, w6 (x3l9 + ((xslices.getD (Int.toNat x11l9) default).length : Int)), w6 (x11l9 + 1), hA.sub (by kernel_rfl), hW, hF⟩
   ·replace hF := hF.2 hc1
    refine Ok.exit (Ok.thenE (Ok.thenE (Ok.blockHit (Ok.thenN (Ok.seq (Ok.region (Ok.bat 1 [0] [(23, .int .i64 x3l9)] ?_)))))))
    obtain ⟨hp5, hF⟩ := hF
    refine Ok.op rfl (OpOk.callH [] _ enr rfl (sgr_c x3l9 hp5) rfl fun g6 _ _ hx6 hV6 => ?_)
    obtain ⟨a6_0, c6_0, xs6_0, rfl, hL6_0, rfl⟩ := hV6
    replace hRxslices_0 := hRxslices_0.mono hx6.1
    refine Ok.bat 1 [0] [(6, .slice a6_0 (sgrS x3l9).length c6_0)] ?_
    refine Ok.nil (Ok.thenN (Ok.seq (Ok.seq (Ok.region (Ok.bat 3 [6] [(25, .slice axslices_0 xslices.length cxslices_0), (26, .int .i64 (xslices.length : Int)), (27, .int .i64 0)] ?_)))))
    refine Ok.nil (Ok.thenN (Ok.block ?_))
    obtain ⟨k, hF⟩ := hF
    refine Ok.loop (fun k a W => ∃ gl34 : Ghost, Gext w0 g6 gl34 ∧ ∃ (x27l34 : Int) (ayown6_0_0l34 : Option Addr) (cyown6_0_0l34 : Nat) (yown6_0_0l34 : List Bs) (xsyown6_0_0l34 : List Value), RepL gl34 (.str) xsyown6_0_0l34 yown6_0_0l34 ∧ StA 36 [(6, .slice ayown6_0_0l34 yown6_0_0l34.length cyown6_0_0l34), (25, .slice axslices_0 xslices.length cxslices_0), (26, .int .i64 (xslices.length : Int)), (27, .int .i64 x27l34)] a ∧ StW w0 [.own (.slice ayown6_0_0l34 yown6_0_0l34.length cyown6_0_0l34) 9 1 yown6_0_0l34.length xsyown6_0_0l34] gl34 W ∧ scol34 xslices K k x27l34 yown6_0_0l34) k ?_ ?_
    ·
     exact fun a W hA hW => ⟨g6, (Gext.refl w0 g6), 0, a6_0, c6_0, (sgrS x3l9), xs6_0, hL6_0, hA.sub (by kernel_rfl), hW, hF⟩
    ·
     clear hF
     rintro k34 a W ⟨gl34, hxl34, x27l34, ayown6_0_0l34, cyown6_0_0l34, yown6_0_0l34, xsyown6_0_0l34, hLyown6_0_0l34, hA, hW, hF⟩
     cases k34 with
     | zero => exact (hF : False).elim
     | succ k34 =>
      refine (?_ : Ok _ _ _ _ _ _) a W hA hW
      clear hA hW
      replace hRxslices_0 := hRxslices_0.mono hxl34.1
      refine Ok.seq (Ok.region (Ok.bat 1 [6, 25, 26, 27] [(28, .bool (decide (x27l34 < (xslices.length : Int))))] ?_))
      refine Ok.nil (Ok.thenN (Ok.seq (Ok.cond (b := decide (x27l34 < (xslices.length : Int))) rfl (fun hc7 => ?_) (fun hc7 => ?_))))
      ·replace hF := hF.1 hc7
       refine Ok.skip (Ok.thenN (Ok.seq (Ok.block (Ok.seq (Ok.region ?_)))))
       obtain ⟨h09, h19, hF⟩ := hF
       have he9 := get_of (l := xslices) (default : List Bs) h19
       generalize hg9 : (xslices.getD (Int.toNat x27l34) default) = e9 at he9 hF ⊢
       refine Ok.op rfl (OpOk.indexRo (e := .slice (.str)) (i := x27l34) (el := e9) rfl rfl Tryz.underlying113 (by kernel_rfl) hRxslices_0 h09 he9 rfl fun q8 o8 cs8 _ hat8 hr8 => ?_)
       obtain ⟨a8_0, c8_0, rfl, hm8_0, hr8_0⟩ := hr8
       have hR8_0 : Rep gl34 (.slice (.str)) [.slice a8_0 e9.length c8_0] e9 := ⟨a8_0, c8_0, rfl, hm8_0, hr8_0⟩
       replace hat8 : At gl34 q8 o8 [.slice a8_0 e9.length c8_0] := hat8
       refine Ok.op rfl (OpOk.step (v := .slice a8_0 e9.length c8_0) (Yields.loadRo 0 hat8 (by kernel_rfl) Tryz.underlying51 rfl (by kernel_rfl)) rfl rfl (Ok.bat 1 [6, 25, 26, 27] [(8, .slice a8_0 e9.length c8_0)] ?_))
       refine Ok.nil (Ok.thenN (Ok.region (Ok.bat 2 [25, 26, 27] [(31, .slice ayown6_0_0l34 yown6_0_0l34.length cyown6_0_0l34), (32, .slice a8_0 e9.length c8_0)] ?_)))
       obtain ⟨hb10, hF⟩ := hF
       refine Ok.op rfl (OpOk.appendRo (e := .str) 16 8796093022208 0 rfl rfl rfl hLyown6_0_0l34 hR8_0 Tryz.underlying51 (by kernel_rfl) (by kernel_rfl) (by kernel_rfl) hb10 rfl fun a10 c10 xs10 hL10 => ?_)
       refine Ok.bat 1 [25, 26, 27] [(6, .slice a10 (yown6_0_0l34 ++ e9).length c10)] ?_
       refine Ok.nil (Ok.blockN (Ok.thenN (Ok.region (Ok.bat 2 [6, 25, 26] [(27, .int .i64 (w6 (x27l34 + 1)))] ?_))))
       refine Ok.nil (Ok.thenN ?_)
       subst hg9
       exact fun a W hA hW => ⟨k34, Nat.lt_succ_self _, gl34, hxl34, w6 (x27l34 + 1), a10, c10, (yown6_0_0l34 ++ (xslices.getD (Int.toNat x27l34) default)), xs10, hL10, hA.sub (by kernel_rfl), hW, hF⟩
      ·replace hF := hF.2 hc7
       refine Ok.exit (Ok.thenE (Ok.thenE (Ok.blockHit (Ok.thenN (Ok.seq (Ok.region (Ok.batch 2 [(2, .slice ayown6_0_0l34 yown6_0_0l34.length cyown6_0_0l34)] (by kernel_rfl) (Ok.nil (Ok.thenN (Ok.ret (Ok.frz 0 rfl hLyown6_0_0l34 fun g11 hx11 hRf11 => ?_)))))))))))
       exact Ok.resH (vs := [.slice ayown6_0_0l34 yown6_0_0l34.length cyown6_0_0l34]) (.inl rfl) rfl (.cons (.tmp rfl) .nil) (((hxl9.trans hx6).trans hxl34).trans hx11) ⟨yown6_0_0l34, ayown6_0_0l34, cyown6_0_0l34, rfl, hRf11, rfl, hF⟩
theorem sum_lens : ∀ (l : List (List Bs)), (∀ x ∈ l, x.length ≤ 10000) → l.flatten.length ≤ 10000 * l.length
 | [], _ => Nat.le_refl _
 | a :: l, h => by
  have h1 := h a (List.mem_cons_self ..)
  have h2 := sum_lens l fun x hx => h x (List.mem_cons_of_mem _ hx)
  rw [List.flatten_cons, List.length_append, List.length_cons]; omega
theorem flat_take (l : List (List Bs)) (i : Nat) (hi : i < l.length) : (l.take (i + 1)).flatten = (l.take i).flatten ++ l.getD i default := by
 rw [List.take_add_one, List.flatten_append, List.getD_eq_getElem?_getD, List.getElem?_eq_getElem hi]
 simp
theorem sco_F (l : List (List Bs)) (hp : scoP l) : scoF l (fun r => r = scoS l) := by
 obtain ⟨hp1, hp2⟩ := hp
 have hb : ∀ i, (l.take i).flatten.length ≤ 100000 := fun i => by
  have := sum_lens (l.take i) fun x hx => hp2 x (List.mem_of_mem_take hx)
  rw [List.length_take] at this
  omega
 have loop2 : ∀ (k i : Nat), i + k = l.length → scol34 l (fun r => r = scoS l) (k + 1) (i : Int) (l.take i).flatten := by
  intro k
  induction k with
  | zero =>
   intro i h1
   refine ⟨fun h => by have := of_decide_eq_true h; omega, fun _ => ?_⟩
   rw [List.take_of_length_le (by omega)]; rfl
  | succ k ih =>
   intro i h1
   have hi : i < l.length := by omega
   have h2 := hb (i + 1)
   have h3 := flat_take l i hi
   refine ⟨fun _ => ⟨by omega, by rw [Int.toNat_natCast]; omega, ?_⟩, fun h => by have := of_decide_eq_false h; omega⟩
   rw [Int.toNat_natCast, ← h3, w64 (by omega)]
   exact ⟨by omega, ih (i + 1) (by omega)⟩
 have loop1 : ∀ (k i : Nat), i + k = l.length → scol9 l (fun r => r = scoS l) (k + 1) ((l.take i).flatten.length : Int) (i : Int) := by
  intro k
  induction k with
  | zero =>
   intro i h1
   have h2 := hb i
   exact ⟨fun h => by have := of_decide_eq_true h; omega, fun _ => ⟨⟨by omega, by omega⟩, _, loop2 l.length 0 (by omega)⟩⟩
  | succ k ih =>
   intro i h1
   have hi : i < l.length := by omega
   have h2 := hb (i + 1)
   have h3 := congrArg List.length (flat_take l i hi)
   rw [List.length_append] at h3
   refine ⟨fun _ => ⟨by omega, by rw [Int.toNat_natCast]; omega, ?_⟩, fun h => by have := of_decide_eq_false h; omega⟩
   rw [Int.toNat_natCast, w64 (by omega), w64 (by omega)]
   refine ⟨fun h => ?_, fun _ => ?_⟩
   ·have := of_decide_eq_true h; omega
   ·have e : ((l.take i).flatten.length : Int) + ((l.getD i default).length : Int) = ((l.take (i + 1)).flatten.length : Int) := by omega
    rw [e]
    exact ih (i + 1) (by omega)
 exact ⟨_, loop1 l.length 0 (by omega)⟩
theorem sco_c {g : Ghost} {axslices_0 : Option Addr} {cxslices_0 : Nat} (xslices : List (List Bs)) (hRxslices_0 : Rep g (.slice (.slice (.str))) [.slice axslices_0 xslices.length cxslices_0] xslices)  (hp : scoP xslices) : CallsH Tryz.prog 66 #[.slice axslices_0 xslices.length cxslices_0] g [] (fun g' H' v => ∃ (ar0_0 : Option Addr) (cr0_0 : Nat), v = .slice ar0_0 (scoS xslices).length cr0_0 ∧ Rep g' (.slice (.str)) [.slice ar0_0 (scoS xslices).length cr0_0] (scoS xslices) ∧ H' = []) :=
 (sco_ok xslices hRxslices_0 _ (sco_F xslices hp)).mono (by rintro g' H' v _ ⟨r0, ar0_0, cr0_0, rfl, hRr0_0, rfl, hK⟩; subst hK; exact ⟨ar0_0, cr0_0, rfl, hRr0_0, rfl⟩)
/-! beside -/
def besT (b : JU) (r : Bs) : Bs × Bool × JU := tailS (b.1, b.2.1, b.2.2.1, [], [], false, [], false) r
def besG (b : JU) (r : Bs) : List Bs × Bool := segS (cpfM (besT b r).1 [47]).1
def besL (b : JU) (r : Bs) : List Bs := if (!((cpfM (besT b r).1 [47]).2)) = true then b.2.2.2.1.take (b.2.2.2.1.length - 1) ++ (besG b r).1 else (besG b r).1
def besS0 (b : JU) (r : Bs) : JU × Int := if (!((besT b r).2.1) || !((besG b r).2)) = true then (ju0, 3) else
 if ((besT b r).1 == []) = true then ((b.1, b.2.1, b.2.2.1, b.2.2.2.1, (if (!((besT b r).2.2.2.2.2.2.2.1)) = true then b.2.2.2.2.1 else (besT b r).2.2.2.2.2.2.1), (if (!((besT b r).2.2.2.2.2.2.2.1)) = true then b.2.2.2.2.2.1 else (besT b r).2.2.2.2.2.2.2.1), (besT b r).2.2.2.2.2.2.2.2), 0)
 else ((b.1, b.2.1, b.2.2.1, tidyS (besL b r), (besT b r).2.2.2.2.2.2), 0)
noncomputable def besS : JU → Bs → JU × Int := Classical.choose (rigid besS0)
theorem besS_eq : besS = besS0 := Classical.choose_spec (rigid besS0)
def besP (b : JU) (r : Bs) : Prop := 1 ≤ b.2.2.2.1.length ∧ b.2.2.2.1.length ≤ 1000 ∧ r.length ≤ 500
def ubesV0 (xbase : JU) (xref : Bs) : Bs × Bool × (JU) :=
 (tailS (xbase.1, xbase.2.1, xbase.2.2.1, [], ([] : Bs), false, ([] : Bs), false) xref)
def ubesV1 (xbase : JU) (xref : Bs) : List Bs × Bool :=
 (segS (cpfM (ubesV0 xbase xref).1 ([47] : Bs)).1)
def ubesV2 (xbase : JU) (xref : Bs) : Bs :=
 (if (!((ubesV0 xbase xref).2.2.2.2.2.2.2.1)) = true then xbase.2.2.2.2.1 else (ubesV0 xbase xref).2.2.2.2.2.2.1)
def ubesV3 (xbase : JU) (xref : Bs) : Bool :=
 (if (!((ubesV0 xbase xref).2.2.2.2.2.2.2.1)) = true then xbase.2.2.2.2.2.1 else (ubesV0 xbase xref).2.2.2.2.2.2.2.1)
def ubesV4 (xbase : JU) (xref : Bs) : List Bs :=
 (if (!((cpfM (ubesV0 xbase xref).1 ([47] : Bs)).2)) = true then (scoS ([(xbase.2.2.2.1.take (Int.toNat (w6 ((xbase.2.2.2.1.length : Int) - 1)))), (ubesV1 xbase xref).1] : List (List Bs))) else (ubesV1 xbase xref).1)
def ubesV5 (xbase : JU) (xref : Bs) : List Bs :=
 (scoS ([(xbase.2.2.2.1.take (Int.toNat (w6 ((xbase.2.2.2.1.length : Int) - 1)))), (ubesV1 xbase xref).1] : List (List Bs)))
def ubesj11 (xbase : JU) (xref : Bs) (K : (JU) → Int → Prop) : Prop :=
 tidyP (ubesV4 xbase xref) ∧ K ((ubesV0 xbase xref).2.2.1, (ubesV0 xbase xref).2.2.2.1, (ubesV0 xbase xref).2.2.2.2.1, (tidyS (ubesV4 xbase xref)), (ubesV0 xbase xref).2.2.2.2.2.2.1, (ubesV0 xbase xref).2.2.2.2.2.2.2.1, (ubesV0 xbase xref).2.2.2.2.2.2.2.2.1, (ubesV0 xbase xref).2.2.2.2.2.2.2.2.2) 0
def ubesj24 (xbase : JU) (xref : Bs) (K : (JU) → Int → Prop) : Prop :=
 K ((ubesV0 xbase xref).2.2.1, (ubesV0 xbase xref).2.2.2.1, (ubesV0 xbase xref).2.2.2.2.1, xbase.2.2.2.1, (ubesV2 xbase xref), (ubesV3 xbase xref), (ubesV0 xbase xref).2.2.2.2.2.2.2.2.1, (ubesV0 xbase xref).2.2.2.2.2.2.2.2.2) 0
def ubesF (xbase : JU) (xref : Bs) (K : (JU) → Int → Prop) : Prop :=
 tailP (xbase.1, xbase.2.1, xbase.2.2.1, [], ([] : Bs), false, ([] : Bs), false) xref ∧ smP (cpfM (ubesV0 xbase xref).1 ([47] : Bs)).1 ∧ ((((!((ubesV0 xbase xref).2.1)) || (!((ubesV1 xbase xref).2)))) = true → K (([] : Bs), ([] : Bs), 0, [], ([] : Bs), false, ([] : Bs), false) 3) ∧ ((((!((ubesV0 xbase xref).2.1)) || (!((ubesV1 xbase xref).2)))) = false → ((((ubesV0 xbase xref).1 == ([] : Bs))) = true → ((!((ubesV0 xbase xref).2.2.2.2.2.2.2.1)) = true → ubesj24 xbase xref K) ∧ ((!((ubesV0 xbase xref).2.2.2.2.2.2.2.1)) = false → ubesj24 xbase xref K)) ∧ ((((ubesV0 xbase xref).1 == ([] : Bs))) = false → ((!((cpfM (ubesV0 xbase xref).1 ([47] : Bs)).2)) = true → (0 : Int) ≤ 0 ∧ (0 : Int) ≤ (w6 ((xbase.2.2.2.1.length : Int) - 1)) ∧ (w6 ((xbase.2.2.2.1.length : Int) - 1)) ≤ (xbase.2.2.2.1.length : Int) ∧ scoP ([(xbase.2.2.2.1.take (Int.toNat (w6 ((xbase.2.2.2.1.length : Int) - 1)))), (ubesV1 xbase xref).1] : List (List Bs)) ∧ ubesj11 xbase xref K) ∧ ((!((cpfM (ubesV0 xbase xref).1 ([47] : Bs)).2)) = false → ubesj11 xbase xref K)))
theorem ubes_ok {g : Ghost} {axbase_0 : Option Addr} {cxbase_0 : Nat} (xbase : JU) (xref : Bs) (hRxbase_0 : Rep g (.slice (.str)) [.slice axbase_0 xbase.2.2.2.1.length cxbase_0] xbase.2.2.2.1) (hG0 : SomeInt g 0) (K : (JU) → Int → Prop)
  (hF : ubesF xbase xref K) : CallsH Tryz.prog 41 #[.agg ⟨vJ xbase axbase_0 cxbase_0⟩, sv xref] g [] (fun g' H' v => ∃ (r0 : JU), ∃ (r1 : Int), ∃ (ar0_0 : Option Addr) (cr0_0 : Nat), v = .tuple #[.agg ⟨vJ r0 ar0_0 cr0_0⟩, .int .i64 r1] ∧ Rep g' (.slice (.str)) [.slice ar0_0 r0.2.2.2.1.length cr0_0] r0.2.2.2.1 ∧ H' = [] ∧ K r0 r1) := by
 refine CallsH.enter 76 [(0, .agg ⟨vJ xbase axbase_0 cxbase_0⟩), (1, sv xref)] Tryz.func41 rfl (by kernel_rfl) (by kernel_rfl) (by kernel_rfl) fun w0 => ?_
 refine Ok.seq (Ok.region (Ok.op rfl (OpOk.box (v := .agg ⟨vJ xbase axbase_0 cxbase_0⟩) (cs := ⟨vJ xbase axbase_0 cxbase_0⟩) rfl (by kernel_rfl) rfl fun b1 => ?_)))
 refine Ok.op rfl (OpOk.alloc (z := .agg ⟨zJ⟩) (cs := ⟨zJ⟩) (by kernel_rfl) (by kernel_rfl) rfl fun b2 => ?_)
 refine Ok.batch 1 [(1, sv xref), (2, pv b1 0), (4, pv b2 0)] (by kernel_rfl) (Ok.nil (Ok.thenN (Ok.seq (Ok.region (Ok.bat 1 [1, 2, 4] [(13, pv b1 0)] ?_)))))
 refine Ok.op rfl (OpOk.step (v := sv xbase.1) (Yields.load 1 rfl rfl Tryz.underlying9 rfl (by kernel_rfl)) rfl rfl (Ok.bat 1 [1, 2, 4] [(14, sv xbase.1), (15, pv b1 1)] ?_))
 refine Ok.op rfl (OpOk.step (v := sv xbase.2.1) (Yields.load 1 rfl rfl Tryz.underlying9 rfl (by kernel_rfl)) rfl rfl (Ok.bat 1 [1, 2, 4, 14] [(16, sv xbase.2.1), (17, pv b1 2)] ?_))
 refine Ok.op rfl (OpOk.step (v := .int .i64 xbase.2.2.1) (Yields.load 1 rfl rfl Tryz.underlying3 rfl (by kernel_rfl)) rfl rfl (Ok.bat 1 [1, 2, 4] [(19, .agg #[sv xbase.1, sv xbase.2.1, .int .i64 xbase.2.2.1, .slice none 0 0, sv ([] : Bs), .bool false, sv ([] : Bs), .bool false])] ?_))
 refine Ok.op rfl (OpOk.alloc (z := .agg ⟨zJ⟩) (cs := ⟨zJ⟩) (by kernel_rfl) (by kernel_rfl) rfl fun b3 => ?_)
 refine Ok.op rfl (OpOk.sto (k := 8) (v := .agg #[sv xbase.1, sv xbase.2.1, .int .i64 xbase.2.2.1, .slice none 0 0, sv ([] : Bs), .bool false, sv ([] : Bs), .bool false]) 0 #[sv xbase.1, sv xbase.2.1, .int .i64 xbase.2.2.1, .slice none 0 0, sv ([] : Bs), .bool false, sv ([] : Bs), .bool false] rfl rfl rfl ?_)
 refine Ok.nil (Ok.thenN (Ok.seq (Ok.region (Ok.bat 1 [2, 4] [(6, pv b3 0), (21, sv xref)] ?_))))
 obtain ⟨hp4, hF⟩ := hF
 refine Ok.op rfl (OpOk.callH [_] _ enr rfl (utail_c (xbase.1, xbase.2.1, xbase.2.2.1, [], ([] : Bs), false, ([] : Bs), false) xref Rep.nil hG0 hp4) rfl fun g5 _ _ hx5 hV5 => ?_)
 obtain ⟨a5_0, c5_0, rfl, hR5_0, rfl⟩ := hV5
 replace hRxbase_0 := hRxbase_0.mono hx5.1
 replace hG0 := hG0.mono hx5.1
 refine Ok.bat 5 [2, 4, 6] [(7, sv ((ubesV0 xbase xref).1)), (8, .bool (ubesV0 xbase xref).2.1)] ?_
 refine Ok.nil (Ok.thenN (Ok.seq (Ok.region (Ok.bat 1 [2, 4, 6, 7, 8] [(26, sv ((ubesV0 xbase xref).1))] ?_))))
 refine Ok.op rfl (OpOk.callG (v := .tuple #[sv ((cpfM (ubesV0 xbase xref).1 ([47] : Bs)).1), .bool (cpfM (ubesV0 xbase xref).1 ([47] : Bs)).2]) enr (fun W hW => cpf_c (ubesV0 xbase xref).1 ([47] : Bs)) rfl ?_)
 refine Ok.bat 5 [2, 4, 6, 7, 8] [(9, sv ((cpfM (ubesV0 xbase xref).1 ([47] : Bs)).1)), (10, .bool (cpfM (ubesV0 xbase xref).1 ([47] : Bs)).2)] ?_
 refine Ok.nil (Ok.thenN (Ok.seq (Ok.region (Ok.bat 1 [2, 4, 6, 7, 8, 10] [(31, sv ((cpfM (ubesV0 xbase xref).1 ([47] : Bs)).1))] ?_))))
 obtain ⟨hp6, hF⟩ := hF
 refine Ok.op rfl (OpOk.callH [] _ enr rfl (useg_c (cpfM (ubesV0 xbase xref).1 ([47] : Bs)).1 hG0 hp6) rfl fun g7 _ _ hx7 hV7 => ?_)
 obtain ⟨a7_0, c7_0, rfl, hR7_0, rfl⟩ := hV7
 replace hR5_0 := hR5_0.mono hx7.1
 replace hRxbase_0 := hRxbase_0.mono hx7.1
 replace hG0 := hG0.mono hx7.1
 refine Ok.bat 5 [2, 4, 6, 7, 8, 10] [(11, .slice a7_0 ((ubesV1 xbase xref).1).length c7_0), (12, .bool (ubesV1 xbase xref).2)] ?_
 refine Ok.nil (Ok.thenN (Ok.cut (fun a W => ∃ gj11 : Ghost, Gext w0 g7 gj11 ∧ ∃ (ax11j11 : Option Addr) (cx11j11 : Nat), Rep gj11 (.slice (.str)) [.slice ax11j11 (ubesV4 xbase xref).length cx11j11] (ubesV4 xbase xref) ∧ StA 76 [(4, pv b2 0), (6, pv b3 0), (11, .slice ax11j11 (ubesV4 xbase xref).length cx11j11)] a ∧ StW w0 [.blk b3 (.cells ⟨vJ (ubesV0 xbase xref).2.2 a5_0 c5_0⟩ 53), .blk b2 (.cells ⟨zJ⟩ 53)] gj11 W ∧ ubesj11 xbase xref K) ?_ ?_))
 ·
  refine Ok.block (Ok.seq (Ok.region (Ok.bat 3 [2, 4, 6, 7, 10, 11, 12] [(38, .bool (!((ubesV0 xbase xref).2.1)))] ?_)))
  refine Ok.midway 3 [(2, pv b1 0), (4, pv b2 0), (6, pv b3 0), (7, sv ((ubesV0 xbase xref).1)), (10, .bool (cpfM (ubesV0 xbase xref).1 ([47] : Bs)).2), (11, .slice a7_0 ((ubesV1 xbase xref).1).length c7_0), (41, .bool ((!((ubesV0 xbase xref).2.1)) || (!((ubesV1 xbase xref).2))))] (fun hR10 => ?_) ?_
  ·refine Ok.boolAt 38 (!((ubesV0 xbase xref).2.1)) rfl (fun hc11 => ?_) (fun hc11 => ?_)
   ·skip
    refine Ok.bat 3 [2, 4, 6, 7, 10, 11] [(41, .bool true)] ?_
    refine Ok.reval 41 rfl (show (.bool true : Value) = .bool ((!((ubesV0 xbase xref).2.1)) || (!((ubesV1 xbase xref).2))) from congrArg Value.bool (mor_t hc11)) (Ok.bat 0 [2, 4, 6, 7, 10, 11] [(41, .bool ((!((ubesV0 xbase xref).2.1)) || (!((ubesV1 xbase xref).2))))] ?_)
    exact hR10
   ·skip
    refine Ok.bat 3 [2, 4, 6, 7, 10, 11] [(41, .bool (!((ubesV1 xbase xref).2)))] ?_
    refine Ok.reval 41 rfl (show (.bool (!((ubesV1 xbase xref).2)) : Value) = .bool ((!((ubesV0 xbase xref).2.1)) || (!((ubesV1 xbase xref).2))) from congrArg Value.bool (mor_f hc11)) (Ok.bat 0 [2, 4, 6, 7, 10, 11] [(41, .bool ((!((ubesV0 xbase xref).2.1)) || (!((ubesV1 xbase xref).2))))] ?_)
    exact hR10
  refine Ok.bat 1 [2, 4, 6, 7, 10, 11] [(35, .bool ((!((ubesV0 xbase xref).2.1)) || (!((ubesV1 xbase xref).2))))] ?_
  refine Ok.nil (Ok.thenN (Ok.cond (b := ((!((ubesV0 xbase xref).2.1)) || (!((ubesV1 xbase xref).2)))) rfl (fun hc12 => ?_) (fun hc12 => ?_)))
  ·replace hF := hF.1 hc12
   refine Ok.seq (Ok.region (Ok.bat 1 [4] [(42, .agg ⟨zJ⟩)] ?_))
   refine Ok.op rfl (OpOk.sto (k := 8) (v := .agg ⟨zJ⟩) 1 ⟨zJ⟩ rfl rfl rfl ?_)
   refine Ok.bat 1 [4] [(5, .int .i64 3)] ?_
   refine Ok.nil (Ok.thenN (Ok.ret (Ok.blockR (Ok.thenR ?_))))
   exact Ok.resP (vs := [.agg ⟨zJ⟩, .int .i64 3]) [] [] (by decide) rfl (.inl rfl) rfl (.cons (.cellAgg 1 8 ⟨zJ⟩ rfl rfl Tryz.underlying53 rfl (by kernel_rfl) (by kernel_rfl) (by kernel_rfl)) (.cons (.tmp rfl) .nil)) (hx5.trans hx7) ⟨(([] : Bs), ([] : Bs), 0, [], ([] : Bs), false, ([] : Bs), false), 3, none, 0, rfl, Rep.nil, rfl, hF⟩
  ·replace hF := hF.2 hc12
   refine Ok.seq (Ok.region (Ok.bat 1 [2, 4, 6, 10, 11] [(44, sv ((ubesV0 xbase xref).1))] ?_))
   refine Ok.op rfl (OpOk.step (v := .bool ((ubesV0 xbase xref).1 == ([] : Bs))) (Yields.strCmp (f := .eql) (a := (ubesV0 xbase xref).1) (b := ([] : Bs)) (by kernel_rfl) (by kernel_rfl) rfl) rfl rfl (Ok.bat 1 [2, 4, 6, 10, 11] [(43, .bool ((ubesV0 xbase xref).1 == ([] : Bs)))] ?_))
   refine Ok.nil (Ok.thenN (Ok.cond (b := ((ubesV0 xbase xref).1 == ([] : Bs))) rfl (fun hc13 => ?_) (fun hc13 => ?_)))
   ·replace hF := hF.1 hc13
    refine Ok.seq (Ok.region (Ok.bat 1 [2, 4, 6] [(46, pv b1 3)] ?_))
    refine Ok.op rfl (OpOk.step (v := .slice axbase_0 xbase.2.2.2.1.length cxbase_0) (Yields.load 2 rfl rfl Tryz.underlying51 rfl (by kernel_rfl)) rfl rfl (Ok.bat 1 [2, 4, 6] [(47, .slice axbase_0 xbase.2.2.2.1.length cxbase_0), (48, pv b3 3)] ?_))
    refine Ok.op rfl (OpOk.sto (k := 1) (v := .slice axbase_0 xbase.2.2.2.1.length cxbase_0) 0 #[sv ((ubesV0 xbase xref).2.2.1), sv ((ubesV0 xbase xref).2.2.2.1), .int .i64 (ubesV0 xbase xref).2.2.2.2.1, .slice axbase_0 xbase.2.2.2.1.length cxbase_0, sv ((ubesV0 xbase xref).2.2.2.2.2.2.1), .bool (ubesV0 xbase xref).2.2.2.2.2.2.2.1, sv ((ubesV0 xbase xref).2.2.2.2.2.2.2.2.1), .bool (ubesV0 xbase xref).2.2.2.2.2.2.2.2.2] rfl rfl rfl ?_)
    refine Ok.nil (Ok.thenN (Ok.cut (fun a W => ∃ gj24 : Ghost, Gext w0 g7 gj24 ∧ StA 76 [(4, pv b2 0), (6, pv b3 0)] a ∧ StW w0 [.blk b3 (.cells #[sv ((ubesV0 xbase xref).2.2.1), sv ((ubesV0 xbase xref).2.2.2.1), .int .i64 (ubesV0 xbase xref).2.2.2.2.1, .slice axbase_0 xbase.2.2.2.1.length cxbase_0, sv (ubesV2 xbase xref), .bool (ubesV3 xbase xref), sv ((ubesV0 xbase xref).2.2.2.2.2.2.2.2.1), .bool (ubesV0 xbase xref).2.2.2.2.2.2.2.2.2] 53), .blk b2 (.cells ⟨zJ⟩ 53)] gj24 W ∧ ubesj24 xbase xref K) ?_ ?_))
    ·
     refine Ok.seq (Ok.region (Ok.bat 1 [2, 4, 6] [(49, pv b3 5)] ?_))
     refine Ok.op rfl (OpOk.step (v := .bool (ubesV0 xbase xref).2.2.2.2.2.2.2.1) (Yields.load 0 rfl rfl Tryz.underlying4 rfl (by kernel_rfl)) rfl rfl (Ok.bat 1 [2, 4, 6] [(51, .bool (!((ubesV0 xbase xref).2.2.2.2.2.2.2.1)))] ?_))
     refine Ok.nil (Ok.thenN (Ok.cond (b := !((ubesV0 xbase xref).2.2.2.2.2.2.2.1)) rfl (fun hc14 => ?_) (fun hc14 => ?_)))
     ·replace hF := hF.1 hc14
      refine Ok.mix [] [] [.blk b2 (.cells ⟨zJ⟩ 53), .blk b1 (.cells ⟨vJ xbase axbase_0 cxbase_0⟩ 53)] [(0, true), (1, true), (2, true), (3, true), (4, true), (5, false), (6, true), (7, false)] (by kernel_rfl) (by kernel_rfl) (.cons _ (.cons_cons _ (.cons_cons _ .slnil))) (OkM.bat 1 [2, 4, 6] [(52, pv b1 4)] ?_)
      refine OkM.head rfl rfl (show _ = [.blk b2 (.cells ⟨zJ⟩ 53), .blk b1 (.cells ⟨vJ xbase axbase_0 cxbase_0⟩ 53)] from rfl) (OpQ.step (v := sv xbase.2.2.2.2.1) (Yields.load 1 rfl rfl Tryz.underlying9 rfl (by kernel_rfl)) rfl rfl (OkM.bat 1 [4, 6] [(53, sv xbase.2.2.2.2.1), (54, pv b1 5)] ?_))
      refine OkM.head rfl rfl (show _ = [.blk b2 (.cells ⟨zJ⟩ 53), .blk b1 (.cells ⟨vJ xbase axbase_0 cxbase_0⟩ 53)] from rfl) (OpQ.step (v := .bool xbase.2.2.2.2.2.1) (Yields.load 1 rfl rfl Tryz.underlying4 rfl (by kernel_rfl)) rfl rfl (OkM.bat 1 [4, 6, 53] [(55, .bool xbase.2.2.2.2.2.1), (56, pv b3 4)] ?_))
      refine OkM.tail rfl rfl (OpOk.sto (k := 1) (v := sv xbase.2.2.2.2.1) 0 #[sv ((ubesV0 xbase xref).2.2.1), sv ((ubesV0 xbase xref).2.2.2.1), .int .i64 (ubesV0 xbase xref).2.2.2.2.1, .slice axbase_0 xbase.2.2.2.1.length cxbase_0, sv xbase.2.2.2.2.1, .bool (ubesV0 xbase xref).2.2.2.2.2.2.2.1, sv ((ubesV0 xbase xref).2.2.2.2.2.2.2.2.1), .bool (ubesV0 xbase xref).2.2.2.2.2.2.2.2.2] rfl rfl rfl ?_)
      refine OkM.leaf (i := 5) (show _ = [.blk b2 (.cells ⟨zJ⟩ 53), .blk b1 (.cells ⟨vJ xbase axbase_0 cxbase_0⟩ 53)] from rfl) (Gle.refl _) (.cons _ (.cons_cons _ (.cons_cons _ .slnil))) (OkM.bat 1 [4, 6, 55] [(57, pv b3 5)] ?_)
      refine OkM.tail rfl rfl (OpOk.sto (k := 1) (v := .bool xbase.2.2.2.2.2.1) 0 #[sv ((ubesV0 xbase xref).2.2.1), sv ((ubesV0 xbase xref).2.2.2.1), .int .i64 (ubesV0 xbase xref).2.2.2.2.1, .slice axbase_0 xbase.2.2.2.1.length cxbase_0, sv xbase.2.2.2.2.1, .bool xbase.2.2.2.2.2.1, sv ((ubesV0 xbase xref).2.2.2.2.2.2.2.2.1), .bool (ubesV0 xbase xref).2.2.2.2.2.2.2.2.2] rfl rfl rfl ?_)
      refine OkM.leaf (i := 7) (show _ = [.blk b2 (.cells ⟨zJ⟩ 53), .blk b1 (.cells ⟨vJ xbase axbase_0 cxbase_0⟩ 53)] from rfl) (Gle.refl _) (.cons _ (.cons_cons _ (.cons_cons _ .slnil))) (OkM.nil (Ok.thenN (Ok.heapEq (H' := [.blk b3 (.cells #[sv ((ubesV0 xbase xref).2.2.1), sv ((ubesV0 xbase xref).2.2.2.1), .int .i64 (ubesV0 xbase xref).2.2.2.2.1, .slice axbase_0 xbase.2.2.2.1.length cxbase_0, sv (ubesV2 xbase xref), .bool (ubesV3 xbase xref), sv ((ubesV0 xbase xref).2.2.2.2.2.2.2.2.1), .bool (ubesV0 xbase xref).2.2.2.2.2.2.2.2.2] 53), .blk b2 (.cells ⟨zJ⟩ 53), .blk b1 (.cells ⟨vJ xbase axbase_0 cxbase_0⟩ 53)]) (econs (congrArg (fun l : List Value => Ent.blk b3 (.cells ⟨l⟩ 53)) (lcons (rfl) (lcons (rfl) (lcons (rfl) (lcons (rfl) (lcons (congrArg ((fun s : Bs => Value.string ⟨⟨s⟩⟩)) ((if_t hc14).symm)) (lcons (congrArg (Value.bool) ((if_t hc14).symm)) (lcons (rfl) (lcons (rfl) rfl))))))))) (econs (rfl) (econs (rfl) rfl))) ?_)))
      exact fun a W hA hW => ⟨g7, (Gext.refl w0 g7), hA.sub (by kernel_rfl), hW.sub (.cons_cons _ (.cons_cons _ (.cons _ .slnil))), hF⟩
     ·replace hF := hF.2 hc14
      refine Ok.skip (Ok.thenN (Ok.heapEq (H' := [.blk b3 (.cells #[sv ((ubesV0 xbase xref).2.2.1), sv ((ubesV0 xbase xref).2.2.2.1), .int .i64 (ubesV0 xbase xref).2.2.2.2.1, .slice axbase_0 xbase.2.2.2.1.length cxbase_0, sv (ubesV2 xbase xref), .bool (ubesV3 xbase xref), sv ((ubesV0 xbase xref).2.2.2.2.2.2.2.2.1), .bool (ubesV0 xbase xref).2.2.2.2.2.2.2.2.2] 53), .blk b2 (.cells ⟨zJ⟩ 53), .blk b1 (.cells ⟨vJ xbase axbase_0 cxbase_0⟩ 53)]) (econs (congrArg (fun l : List Value => Ent.blk b3 (.cells ⟨l⟩ 53)) (lcons (rfl) (lcons (rfl) (lcons (rfl) (lcons (rfl) (lcons (congrArg ((fun s : Bs => Value.string ⟨⟨s⟩⟩)) ((if_f hc14).symm)) (lcons (congrArg (Value.bool) ((if_f hc14).symm)) (lcons (rfl) (lcons (rfl) rfl))))))))) (econs (rfl) (econs (rfl) rfl))) ?_))
      exact fun a W hA hW => ⟨g7, (Gext.refl w0 g7), hA.sub (by kernel_rfl), hW.sub (.cons_cons _ (.cons_cons _ (.cons _ .slnil))), hF⟩
    ·
     clear hF
     rintro a W ⟨gj24, hxj24, hA, hW, hF⟩
     refine (?_ : Ok _ _ _ _ _ _) a W hA hW
     clear hA hW
     replace hRxbase_0 := hRxbase_0.mono hxj24.1
     replace hG0 := hG0.mono hxj24.1
     refine Ok.seq (Ok.region (Ok.op rfl (OpOk.step (v := .agg #[sv ((ubesV0 xbase xref).2.2.1), sv ((ubesV0 xbase xref).2.2.2.1), .int .i64 (ubesV0 xbase xref).2.2.2.2.1, .slice axbase_0 xbase.2.2.2.1.length cxbase_0, sv (ubesV2 xbase xref), .bool (ubesV3 xbase xref), sv ((ubesV0 xbase xref).2.2.2.2.2.2.2.2.1), .bool (ubesV0 xbase xref).2.2.2.2.2.2.2.2.2]) (Yields.loadAgg 0 8 #[sv ((ubesV0 xbase xref).2.2.1), sv ((ubesV0 xbase xref).2.2.2.1), .int .i64 (ubesV0 xbase xref).2.2.2.2.1, .slice axbase_0 xbase.2.2.2.1.length cxbase_0, sv (ubesV2 xbase xref), .bool (ubesV3 xbase xref), sv ((ubesV0 xbase xref).2.2.2.2.2.2.2.2.1), .bool (ubesV0 xbase xref).2.2.2.2.2.2.2.2.2] rfl rfl Tryz.underlying53 rfl (by kernel_rfl) (by kernel_rfl) (by kernel_rfl)) rfl rfl (Ok.op rfl (OpOk.sto (k := 8) (v := .agg #[sv ((ubesV0 xbase xref).2.2.1), sv ((ubesV0 xbase xref).2.2.2.1), .int .i64 (ubesV0 xbase xref).2.2.2.2.1, .slice axbase_0 xbase.2.2.2.1.length cxbase_0, sv (ubesV2 xbase xref), .bool (ubesV3 xbase xref), sv ((ubesV0 xbase xref).2.2.2.2.2.2.2.2.1), .bool (ubesV0 xbase xref).2.2.2.2.2.2.2.2.2]) 1 #[sv ((ubesV0 xbase xref).2.2.1), sv ((ubesV0 xbase xref).2.2.2.1), .int .i64 (ubesV0 xbase xref).2.2.2.2.1, .slice axbase_0 xbase.2.2.2.1.length cxbase_0, sv (ubesV2 xbase xref), .bool (ubesV3 xbase xref), sv ((ubesV0 xbase xref).2.2.2.2.2.2.2.2.1), .bool (ubesV0 xbase xref).2.2.2.2.2.2.2.2.2] rfl rfl rfl ?_)))))
     refine Ok.bat 1 [4] [(5, .int .i64 0)] ?_
     refine Ok.nil (Ok.thenN (Ok.ret (Ok.blockR (Ok.thenR ?_))))
     exact Ok.resP (vs := [.agg #[sv ((ubesV0 xbase xref).2.2.1), sv ((ubesV0 xbase xref).2.2.2.1), .int .i64 (ubesV0 xbase xref).2.2.2.2.1, .slice axbase_0 xbase.2.2.2.1.length cxbase_0, sv (ubesV2 xbase xref), .bool (ubesV3 xbase xref), sv ((ubesV0 xbase xref).2.2.2.2.2.2.2.2.1), .bool (ubesV0 xbase xref).2.2.2.2.2.2.2.2.2], .int .i64 0]) [] [] (by decide) rfl (.inl rfl) rfl (.cons (.cellAgg 1 8 #[sv ((ubesV0 xbase xref).2.2.1), sv ((ubesV0 xbase xref).2.2.2.1), .int .i64 (ubesV0 xbase xref).2.2.2.2.1, .slice axbase_0 xbase.2.2.2.1.length cxbase_0, sv (ubesV2 xbase xref), .bool (ubesV3 xbase xref), sv ((ubesV0 xbase xref).2.2.2.2.2.2.2.2.1), .bool (ubesV0 xbase xref).2.2.2.2.2.2.2.2.2] rfl rfl Tryz.underlying53 rfl (by kernel_rfl) (by kernel_rfl) (by kernel_rfl)) (.cons (.tmp rfl) .nil)) ((hx5.trans hx7).trans hxj24) ⟨((ubesV0 xbase xref).2.2.1, (ubesV0 xbase xref).2.2.2.1, (ubesV0 xbase xref).2.2.2.2.1, xbase.2.2.2.1, (ubesV2 xbase xref), (ubesV3 xbase xref), (ubesV0 xbase xref).2.2.2.2.2.2.2.2.1, (ubesV0 xbase xref).2.2.2.2.2.2.2.2.2), 0, axbase_0, cxbase_0, rfl, hRxbase_0, rfl, hF⟩
   ·replace hF := hF.2 hc13
    refine Ok.seq (Ok.region (Ok.bat 3 [2, 4, 6, 11] [(59, .bool (!((cpfM (ubesV0 xbase xref).1 ([47] : Bs)).2)))] ?_))
    refine Ok.nil (Ok.thenN (Ok.cond (b := !((cpfM (ubesV0 xbase xref).1 ([47] : Bs)).2)) rfl (fun hc15 => ?_) (fun hc15 => ?_)))
    ·replace hF := hF.1 hc15
     refine Ok.region (Ok.bat 1 [2, 4, 6, 11] [(62, pv b1 3)] ?_)
     refine Ok.op rfl (OpOk.step (v := .slice axbase_0 xbase.2.2.2.1.length cxbase_0) (Yields.load 2 rfl rfl Tryz.underlying51 rfl (by kernel_rfl)) rfl rfl (Ok.bat 1 [4, 6, 11] [(63, .slice axbase_0 xbase.2.2.2.1.length cxbase_0), (64, pv b1 3)] ?_))
     refine Ok.op rfl (OpOk.step (v := .slice axbase_0 xbase.2.2.2.1.length cxbase_0) (Yields.load 2 rfl rfl Tryz.underlying51 rfl (by kernel_rfl)) rfl rfl (Ok.bat 2 [4, 6, 11, 63] [(67, .int .i64 (w6 ((xbase.2.2.2.1.length : Int) - 1)))] ?_))
     obtain ⟨h016, h116, h216, hF⟩ := hF
     refine Ok.op rfl (OpOk.sliceRo (e := .str) (l := 0) (h := (w6 ((xbase.2.2.2.1.length : Int) - 1))) rfl Tryz.underlying51 (by kernel_rfl) (.inr ⟨rfl, rfl⟩) (.inl ⟨_, _, rfl, rfl⟩) hRxbase_0 h016 h116 h216 rfl (xbase.2.2.2.1.take (Int.toNat (w6 ((xbase.2.2.2.1.length : Int) - 1)))) (by simp) fun a16 c16 hR16 => ?_)
     refine Ok.bat 1 [4, 6] [(68, .slice a16 (xbase.2.2.2.1.take (Int.toNat (w6 ((xbase.2.2.2.1.length : Int) - 1)))).length c16), (69, .slice a7_0 ((ubesV1 xbase xref).1).length c7_0)] ?_
     have hL17 : RepL g7 (.slice (.str)) ([.slice a16 (xbase.2.2.2.1.take (Int.toNat (w6 ((xbase.2.2.2.1.length : Int) - 1)))).length c16, .slice a7_0 ((ubesV1 xbase xref).1).length c7_0] : List Value) ([(xbase.2.2.2.1.take (Int.toNat (w6 ((xbase.2.2.2.1.length : Int) - 1)))), (ubesV1 xbase xref).1] : List (List Bs)) := (RepL.consN (c := [.slice a16 (xbase.2.2.2.1.take (Int.toNat (w6 ((xbase.2.2.2.1.length : Int) - 1)))).length c16]) hR16 (RepL.consN (c := [.slice a7_0 ((ubesV1 xbase xref).1).length c7_0]) hR7_0 rfl))
     refine Ok.op rfl (OpOk.lit (E := 51) (.slice (.str)) ([(xbase.2.2.2.1.take (Int.toNat (w6 ((xbase.2.2.2.1.length : Int) - 1)))), (ubesV1 xbase xref).1] : List (List Bs)) ([.slice a16 (xbase.2.2.2.1.take (Int.toNat (w6 ((xbase.2.2.2.1.length : Int) - 1)))).length c16, .slice a7_0 ((ubesV1 xbase xref).1).length c7_0] : List Value) (by kernel_rfl) (by kernel_rfl) rfl (by kernel_rfl) hL17 rfl fun b17 => ?_)
     refine Ok.frz 0 rfl hL17 fun g18 hx18 hRf18 => ?_
     replace hR5_0 := hR5_0.mono hx18.1
     replace hRxbase_0 := hRxbase_0.mono hx18.1
     replace hG0 := hG0.mono hx18.1
     obtain ⟨hp19, hF⟩ := hF
     refine Ok.op rfl (OpOk.callH [] _ enr rfl (sco_c ([(xbase.2.2.2.1.take (Int.toNat (w6 ((xbase.2.2.2.1.length : Int) - 1)))), (ubesV1 xbase xref).1] : List (List Bs)) hRf18 hp19) rfl fun g20 _ _ hx20 hV20 => ?_)
     obtain ⟨a20_0, c20_0, rfl, hR20_0, rfl⟩ := hV20
     replace hRf18 := hRf18.mono hx20.1
     replace hR5_0 := hR5_0.mono hx20.1
     replace hRxbase_0 := hRxbase_0.mono hx20.1
     replace hG0 := hG0.mono hx20.1
     refine Ok.bat 1 [4, 6] [(11, .slice a20_0 (ubesV5 xbase xref).length c20_0)] ?_
     refine Ok.nil (Ok.blockN (Ok.thenN (Ok.reval 11 rfl (show (.slice a20_0 (ubesV5 xbase xref).length c20_0 : Value) = .slice a20_0 (ubesV4 xbase xref).length c20_0 from congrArg (fun l : List Bs => Value.slice a20_0 l.length c20_0) ((if_t hc15).symm)) ?_)))
     exact fun a W hA hW => ⟨g20, (hx18.trans hx20), a20_0, c20_0, (Eq.mp (congrArg (fun l : List Bs => Rep g20 (.slice (.str)) [.slice a20_0 l.length c20_0] l) ((if_t hc15).symm)) hR20_0), hA.sub (by kernel_rfl), hW.sub (.cons_cons _ (.cons_cons _ (.cons _ .slnil))), hF⟩
    ·replace hF := hF.2 hc15
     refine Ok.skip (Ok.blockN (Ok.thenN (Ok.reval 11 rfl (show (.slice a7_0 ((ubesV1 xbase xref).1).length c7_0 : Value) = .slice a7_0 (ubesV4 xbase xref).length c7_0 from congrArg (fun l : List Bs => Value.slice a7_0 l.length c7_0) ((if_f hc15).symm)) ?_)))
     exact fun a W hA hW => ⟨g7, (Gext.refl w0 g7), a7_0, c7_0, (Eq.mp (congrArg (fun l : List Bs => Rep g7 (.slice (.str)) [.slice a7_0 l.length c7_0] l) ((if_f hc15).symm)) hR7_0), hA.sub (by kernel_rfl), hW.sub (.cons_cons _ (.cons_cons _ (.cons _ .slnil))), hF⟩
 ·
  clear hF
  rintro a W ⟨gj11, hxj11, ax11j11, cx11j11, hRx11j11, hA, hW, hF⟩
  refine (?_ : Ok _ _ _ _ _ _) a W hA hW
  clear hA hW
  replace hR5_0 := hR5_0.mono hxj11.1
  replace hG0 := hG0.mono hxj11.1
  refine Ok.seq (Ok.region (Ok.bat 1 [4, 6] [(72, .slice ax11j11 (ubesV4 xbase xref).length cx11j11)] ?_))
  obtain ⟨hp8, hF⟩ := hF
  refine Ok.op rfl (OpOk.callH [] _ enr rfl (utidy_c (ubesV4 xbase xref) hRx11j11 hp8) rfl fun g9 _ _ hx9 hV9 => ?_)
  obtain ⟨a9_0, c9_0, rfl, hR9_0, rfl⟩ := hV9
  replace hRx11j11 := hRx11j11.mono hx9.1
  replace hR5_0 := hR5_0.mono hx9.1
  replace hG0 := hG0.mono hx9.1
  refine Ok.bat 1 [4, 6] [(73, .slice a9_0 (tidyS (ubesV4 xbase xref)).length c9_0), (74, pv b3 3)] ?_
  refine Ok.op rfl (OpOk.sto (k := 1) (v := .slice a9_0 (tidyS (ubesV4 xbase xref)).length c9_0) 0 #[sv ((ubesV0 xbase xref).2.2.1), sv ((ubesV0 xbase xref).2.2.2.1), .int .i64 (ubesV0 xbase xref).2.2.2.2.1, .slice a9_0 (tidyS (ubesV4 xbase xref)).length c9_0, sv ((ubesV0 xbase xref).2.2.2.2.2.2.1), .bool (ubesV0 xbase xref).2.2.2.2.2.2.2.1, sv ((ubesV0 xbase xref).2.2.2.2.2.2.2.2.1), .bool (ubesV0 xbase xref).2.2.2.2.2.2.2.2.2] rfl rfl rfl ?_)
  refine Ok.nil (Ok.thenN (Ok.seq (Ok.region (Ok.op rfl (OpOk.step (v := .agg #[sv ((ubesV0 xbase xref).2.2.1), sv ((ubesV0 xbase xref).2.2.2.1), .int .i64 (ubesV0 xbase xref).2.2.2.2.1, .slice a9_0 (tidyS (ubesV4 xbase xref)).length c9_0, sv ((ubesV0 xbase xref).2.2.2.2.2.2.1), .bool (ubesV0 xbase xref).2.2.2.2.2.2.2.1, sv ((ubesV0 xbase xref).2.2.2.2.2.2.2.2.1), .bool (ubesV0 xbase xref).2.2.2.2.2.2.2.2.2]) (Yields.loadAgg 0 8 #[sv ((ubesV0 xbase xref).2.2.1), sv ((ubesV0 xbase xref).2.2.2.1), .int .i64 (ubesV0 xbase xref).2.2.2.2.1, .slice a9_0 (tidyS (ubesV4 xbase xref)).length c9_0, sv ((ubesV0 xbase xref).2.2.2.2.2.2.1), .bool (ubesV0 xbase xref).2.2.2.2.2.2.2.1, sv ((ubesV0 xbase xref).2.2.2.2.2.2.2.2.1), .bool (ubesV0 xbase xref).2.2.2.2.2.2.2.2.2] rfl rfl Tryz.underlying53 rfl (by kernel_rfl) (by kernel_rfl) (by kernel_rfl)) rfl rfl (Ok.op rfl (OpOk.sto (k := 8) (v := .agg #[sv ((ubesV0 xbase xref).2.2.1), sv ((ubesV0 xbase xref).2.2.2.1), .int .i64 (ubesV0 xbase xref).2.2.2.2.1, .slice a9_0 (tidyS (ubesV4 xbase xref)).length c9_0, sv ((ubesV0 xbase xref).2.2.2.2.2.2.1), .bool (ubesV0 xbase xref).2.2.2.2.2.2.2.1, sv ((ubesV0 xbase xref).2.2.2.2.2.2.2.2.1), .bool (ubesV0 xbase xref).2.2.2.2.2.2.2.2.2]) 1 #[sv ((ubesV0 xbase xref).2.2.1), sv ((ubesV0 xbase xref).2.2.2.1), .int .i64 (ubesV0 xbase xref).2.2.2.2.1, .slice a9_0 (tidyS (ubesV4 xbase xref)).length c9_0, sv ((ubesV0 xbase xref).2.2.2.2.2.2.1), .bool (ubesV0 xbase xref).2.2.2.2.2.2.2.1, sv ((ubesV0 xbase xref).2.2.2.2.2.2.2.2.1), .bool (ubesV0 xbase xref).2.2.2.2.2.2.2.2.2] rfl rfl rfl ?_)))))))
  refine Ok.bat 1 [4] [(5, .int .i64 0)] ?_
  refine Ok.nil (Ok.thenN (Ok.ret ?_))
  exact Ok.resP (vs := [.agg #[sv ((ubesV0 xbase xref).2.2.1), sv ((ubesV0 xbase xref).2.2.2.1), .int .i64 (ubesV0 xbase xref).2.2.2.2.1, .slice a9_0 (tidyS (ubesV4 xbase xref)).length c9_0, sv ((ubesV0 xbase xref).2.2.2.2.2.2.1), .bool (ubesV0 xbase xref).2.2.2.2.2.2.2.1, sv ((ubesV0 xbase xref).2.2.2.2.2.2.2.2.1), .bool (ubesV0 xbase xref).2.2.2.2.2.2.2.2.2], .int .i64 0]) [] [] (by decide) rfl (.inl rfl) rfl (.cons (.cellAgg 1 8 #[sv ((ubesV0 xbase xref).2.2.1), sv ((ubesV0 xbase xref).2.2.2.1), .int .i64 (ubesV0 xbase xref).2.2.2.2.1, .slice a9_0 (tidyS (ubesV4 xbase xref)).length c9_0, sv ((ubesV0 xbase xref).2.2.2.2.2.2.1), .bool (ubesV0 xbase xref).2.2.2.2.2.2.2.1, sv ((ubesV0 xbase xref).2.2.2.2.2.2.2.2.1), .bool (ubesV0 xbase xref).2.2.2.2.2.2.2.2.2] rfl rfl Tryz.underlying53 rfl (by kernel_rfl) (by kernel_rfl) (by kernel_rfl)) (.cons (.tmp rfl) .nil)) (((hx5.trans hx7).trans hxj11).trans hx9) ⟨((ubesV0 xbase xref).2.2.1, (ubesV0 xbase xref).2.2.2.1, (ubesV0 xbase xref).2.2.2.2.1, (tidyS (ubesV4 xbase xref)), (ubesV0 xbase xref).2.2.2.2.2.2.1, (ubesV0 xbase xref).2.2.2.2.2.2.2.1, (ubesV0 xbase xref).2.2.2.2.2.2.2.2.1, (ubesV0 xbase xref).2.2.2.2.2.2.2.2.2), 0, a9_0, c9_0, rfl, hR9_0, rfl, hF⟩
theorem ubes_F (b : JU) (r : Bs) (hp : besP b r) : ubesF b r (fun x y => (x, y) = besS b r) := by
 obtain ⟨h1, h2, h3⟩ := hp
 have hV0 : ubesV0 b r = besT b r := rfl
 have hV1 : ubesV1 b r = besG b r := rfl
 have htl : (besT b r).1.length ≤ r.length := tail_len _ r
 have hcl := cpf_len (besT b r).1 [47]
 have hsg : (besG b r).1.length ≤ (cpfM (besT b r).1 [47]).1.length + 1 := seg_len _
 obtain ⟨k1, k2, k3, k4⟩ := tail_keep (b.1, b.2.1, b.2.2.1, [], [], false, [], false) r
 have k1 : (besT b r).2.2.1 = b.1 := k1
 have k2 : (besT b r).2.2.2.1 = b.2.1 := k2
 have k3 : (besT b r).2.2.2.2.1 = b.2.2.1 := k3
 have hw : w6 ((b.2.2.2.1.length : Int) - 1) = ((b.2.2.2.1.length - 1 : Nat) : Int) := by rw [w64 (by omega)]; omega
 rw [besS_eq]
 unfold besS0 ubesF
 rw [hV0, hV1]
 refine ⟨by show r.length ≤ 4000; omega, by unfold smP; omega, fun h => by rw [if_t h]; rfl, fun h => ?_⟩
 rw [if_f h]
 refine ⟨fun h4 => ?_, fun h4 => ?_⟩
 ·rw [if_t h4]
  have j24 : ubesj24 b r (fun x y => (x, y) = ((b.1, b.2.1, b.2.2.1, b.2.2.2.1, (if (!((besT b r).2.2.2.2.2.2.2.1)) = true then b.2.2.2.2.1 else (besT b r).2.2.2.2.2.2.1), (if (!((besT b r).2.2.2.2.2.2.2.1)) = true then b.2.2.2.2.2.1 else (besT b r).2.2.2.2.2.2.2.1), (besT b r).2.2.2.2.2.2.2.2), 0)) := by
   unfold ubesj24 ubesV2 ubesV3
   rw [hV0, k1, k2, k3]
  exact ⟨fun _ => j24, fun _ => j24⟩
 ·rw [if_f h4]
  have hV4 : ubesV4 b r = besL b r := by
   unfold ubesV4 besL
   rw [hV0, hV1, hw, Int.toNat_natCast]
   split
   ·unfold scoS; simp
   ·rfl
  have hL : (besL b r).length ≤ 2000 := by
   unfold besL
   split
   ·rw [List.length_append, List.length_take]; omega
   ·omega
  have j11 : ubesj11 b r (fun x y => (x, y) = ((b.1, b.2.1, b.2.2.1, tidyS (besL b r), (besT b r).2.2.2.2.2.2), 0)) := by
   unfold ubesj11
   rw [hV4, hV0, k1, k2, k3]
   exact ⟨by unfold tidyP; omega, rfl⟩
  refine ⟨fun h5 => ⟨by omega, by rw [hw]; omega, by rw [hw]; omega, ⟨by simp, fun x hx => ?_⟩, j11⟩, fun _ => j11⟩
  simp only [List.mem_cons, List.not_mem_nil, or_false] at hx
  rcases hx with rfl | rfl
  ·rw [List.length_take]; omega
  ·omega
theorem ubes_c {g : Ghost} {axbase_0 : Option Addr} {cxbase_0 : Nat} (xbase : JU) (xref : Bs) (hRxbase_0 : Rep g (.slice (.str)) [.slice axbase_0 xbase.2.2.2.1.length cxbase_0] xbase.2.2.2.1) (hG0 : SomeInt g 0)  (hp : besP xbase xref) : CallsH Tryz.prog 41 #[.agg ⟨vJ xbase axbase_0 cxbase_0⟩, sv xref] g [] (fun g' H' v => ∃ (ar0_0 : Option Addr) (cr0_0 : Nat), v = .tuple #[.agg ⟨vJ (besS xbase xref).1 ar0_0 cr0_0⟩, .int .i64 (besS xbase xref).2] ∧ Rep g' (.slice (.str)) [.slice ar0_0 (besS xbase xref).1.2.2.2.1.length cr0_0] (besS xbase xref).1.2.2.2.1 ∧ H' = []) :=
 (ubes_ok xbase xref hRxbase_0 hG0 _ (ubes_F xbase xref hp)).mono (by rintro g' H' v _ ⟨r0, r1, ar0_0, cr0_0, rfl, hRr0_0, rfl, hK⟩; obtain ⟨rfl, rfl⟩ : r0 = (besS xbase xref).1 ∧ r1 = (besS xbase xref).2 := ⟨congrArg (fun z => z.1) hK, congrArg (fun z => z.2) hK⟩; exact ⟨ar0_0, cr0_0, rfl, hRr0_0, rfl⟩)
/-! what has a text -/
theorem tidy_mem (l : List Bs) : ∀ p ∈ tidyS l, p ∈ l ∨ p = [] := by
 have h : ∀ (l o : List Bs) (p : Bs), p ∈ l.foldl tdF o → p ∈ o ∨ p ∈ l := by
  intro l
  induction l with
  | nil => intro o p hp; exact .inl hp
  | cons a r ih =>
   intro o p hp
   rcases ih _ _ hp with h1 | h1
   ·unfold tdF at h1
    split at h1
    ·exact .inl (List.mem_of_mem_take h1)
    ·split at h1
     ·exact .inl h1
     ·rcases List.mem_append.1 h1 with h2 | h2
      ·exact .inl h2
      ·rw [List.mem_singleton] at h2; rw [h2]; exact .inr (List.mem_cons_self ..)
   ·exact .inr (List.mem_cons_of_mem _ h1)
 intro p hp
 rw [tidyS_eq] at hp
 unfold tidyS0 at hp
 split at hp
 ·rcases List.mem_append.1 hp with h1 | h1
  ·rcases h l [] p h1 with h2 | h2
   ·cases h2
   ·exact .inl h2
  ·exact .inr (by simpa using h1)
 ·rcases h l [] p hp with h2 | h2
  ·cases h2
  ·exact .inl h2
theorem tidy_ne (l : List Bs) : 1 ≤ (tidyS l).length := by
 rw [tidyS_eq]
 unfold tidyS0
 split
 ·rw [List.length_append, List.length_singleton]; omega
 ·rename_i h
  have h : (lastDot l || (l.foldl tdF [] == [])) = false := by simpa using h
  rw [Bool.or_eq_false_iff] at h
  have : l.foldl tdF [] ≠ [] := by simpa using h.2
  exact List.length_pos_iff.mpr this
theorem dec_len (s : Bs) : (rdecS s).1.length ≤ s.length := by
 have := units_len s
 unfold rdecS bytesOf
 rw [List.length_map, List.length_map]; exact this
theorem seg_mem (s : Bs) : ∀ p ∈ (segS s).1, p.length ≤ s.length := by
 intro p hp
 rw [segS_eq] at hp
 unfold segS0 at hp
 rw [segO_eq] at hp
 split at hp
 ·simp only [List.nil_append] at hp
  obtain ⟨q, hq, rfl⟩ := List.mem_map.1 hp
  have h1 := dec_len q
  rw [splC] at hq
  have h2 := spC_sub 47 s q hq
  omega
 ·cases hp
theorem clean_len (s : Bs) : (cleanS s).1.length ≤ 3 * s.length := by
 rw [clean_units]
 have h1 := units_len s
 have h2 : ∀ l : List (Int × Bool), (l.flatMap clB).length ≤ 3 * l.length := by
  intro l
  induction l with
  | nil => exact Nat.le_refl _
  | cons a r ih =>
   have := clB_len a
   rw [List.flatMap_cons, List.length_append, List.length_cons]; omega
 have := h2 (unitsS s).1
 show ((unitsS s).1.flatMap clB).length ≤ _
 omega
theorem tail_lens (u : JU) (s : Bs) : (tailS u s).2.2.2.2.2.2.1.length ≤ 3 * s.length ∧ (tailS u s).2.2.2.2.2.2.2.2.1.length ≤ 3 * s.length := by
 have h1 := cutS_len 35 s
 have h2 := cutS_len 63 (cutS s [35]).1
 rw [tailS_eq]
 refine ⟨?_, ?_⟩
 ·have := clean_len (tailQ s).2.1
  show (cleanS (tailQ s).2.1).1.length ≤ _
  have h3 : (tailQ s).2.1.length ≤ s.length := by unfold tailQ; omega
  omega
 ·have := clean_len (cutS s [35]).2.1
  show (cleanS (cutS s [35]).2.1).1.length ≤ _
  omega
def wfU (u : JU) : Prop := oriP u ∧ (u.2.2.2.1.length ≤ 1000 ∧ ∀ p ∈ u.2.2.2.1, p.length ≤ 10000) ∧ u.2.2.2.2.1.length ≤ 10000 ∧ u.2.2.2.2.2.2.1.length ≤ 10000
theorem wf_txt {u : JU} (h : wfU u) : txtP u := ⟨h.1, ⟨by have := h.2.1.1; omega, fun p hp => by have := h.2.1.2 p hp; omega⟩, by have := h.2.2.1; omega, by have := h.2.2.2; omega⟩
theorem ju0_wf : wfU ju0 := ⟨ju0_ori, ⟨by decide, fun p hp => by cases hp⟩, by decide, by decide⟩
theorem par_wf (s : Bs) : wfU (parS s).1 ∧ ((parS s).2 = 0 → 1 ≤ (parS s).1.2.2.2.1.length) := by
 have ho := par_ori s
 have hl := par_path s
 rw [parS_eq] at ho hl ⊢
 unfold parS0 at ho hl ⊢
 split at ho
 ·rename_i h
  rw [if_pos h]
  exact ⟨ju0_wf, fun h => by cases h⟩
 ·rename_i h
  rw [if_neg h] at hl ⊢
  have h5 : s.length ≤ 500 := by
   have h : decide ((s.length : Int) > 500) = false := by simpa using h
   have := of_decide_eq_false h; omega
  split at ho
  ·rename_i h1
   rw [if_pos h1]
   exact ⟨ju0_wf, fun h => by cases h⟩
  ·rename_i h1
   rw [if_neg h1] at hl ⊢
   split at ho
   ·rename_i h2
    rw [if_pos h2]
    exact ⟨ju0_wf, fun h => by cases h⟩
   ·rename_i h2
    rw [if_neg h2] at hl ⊢
    split at ho
    ·rename_i h3
     rw [if_pos h3]
     exact ⟨ju0_wf, fun h => by cases h⟩
    ·rename_i h3
     rw [if_neg h3] at hl ⊢
     have hr := rest_len s
     have hpl := prt_len (restS s).1 MK
     have htl : (parT s).1.length ≤ (prtS (restS s).1 MK).2.length := tail_len _ _
     have htp := tpf_len (parT s).1 [47]
     have hts : (parT s).2.2.2.2.2.2.1.length ≤ 3 * (prtS (restS s).1 MK).2.length ∧ (parT s).2.2.2.2.2.2.2.2.1.length ≤ 3 * (prtS (restS s).1 MK).2.length := tail_lens _ _
     refine ⟨⟨ho, ⟨hl, fun p hp => ?_⟩, ?_, ?_⟩, fun _ => tidy_ne _⟩
     ·have hp : p ∈ tidyS (parG s).1 := hp
      rcases tidy_mem _ p hp with h4 | h4
      ·have := seg_mem _ p h4; omega
      ·rw [h4]; exact Nat.zero_le _
     ·show (parT s).2.2.2.2.2.2.1.length ≤ _; omega
     ·show (parT s).2.2.2.2.2.2.2.2.1.length ≤ _; omega
theorem bes_wf {b : JU} {r : Bs} (hb : wfU b) (hp : besP b r) : txtP (besS b r).1 := by
 obtain ⟨h1, h2, h3⟩ := hp
 have htl : (besT b r).1.length ≤ r.length := tail_len _ r
 have hcl := cpf_len (besT b r).1 [47]
 have hsg : (besG b r).1.length ≤ (cpfM (besT b r).1 [47]).1.length + 1 := seg_len _
 have hts : (besT b r).2.2.2.2.2.2.1.length ≤ 3 * r.length ∧ (besT b r).2.2.2.2.2.2.2.2.1.length ≤ 3 * r.length := tail_lens _ _
 rw [besS_eq]
 unfold besS0
 split
 ·exact wf_txt ju0_wf
 ·split
  ·refine wf_txt ⟨hb.1, hb.2.1, ?_, ?_⟩
   ·show (if (!((besT b r).2.2.2.2.2.2.2.1)) = true then b.2.2.2.2.1 else (besT b r).2.2.2.2.2.2.1).length ≤ _
    split
    ·exact hb.2.2.1
    ·omega
   ·show (besT b r).2.2.2.2.2.2.2.2.1.length ≤ _; omega
  ·have hL : (besL b r).length ≤ 2000 := by
    unfold besL
    split
    ·rw [List.length_append, List.length_take]; omega
    ·omega
   have hLm : ∀ p ∈ besL b r, p.length ≤ 10000 := fun p hp => by
    have hg : p ∈ (besG b r).1 → p.length ≤ 10000 := fun h => by have := seg_mem _ p h; omega
    unfold besL at hp
    split at hp
    ·rcases List.mem_append.1 hp with h4 | h4
     ·exact hb.2.1.2 p (List.mem_of_mem_take h4)
     ·exact hg h4
    ·exact hg hp
   have ht := tidy_len (besL b r)
   refine ⟨hb.1, ⟨by show (tidyS (besL b r)).length ≤ _; omega, fun p hp => ?_⟩, ?_, ?_⟩
   ·have hp : p ∈ tidyS (besL b r) := hp
    rcases tidy_mem _ p hp with h4 | h4
    ·have := hLm p h4; omega
    ·rw [h4]; exact Nat.zero_le _
   ·show (besT b r).2.2.2.2.2.2.1.length ≤ _; omega
   ·show (besT b r).2.2.2.2.2.2.2.2.1.length ≤ _; omega
/-! Resolve -/
def resU (b r : Bs) : JU × Int := if (schS r).2.2 = true then parS r else if (hpfM r [47, 47]) = true then parS (((parS b).1.1 ++ [58]) ++ r) else besS (parS b).1 r
def resS0 (b r : Bs) : Bs × Int := if ((parS b).2 != 0) = true then ([], (parS b).2) else if decide ((r.length : Int) > 500) = true then ([], 2) else
 if ((resU b r).2 != 0) = true then ([], (resU b r).2) else if decide (((txtS (resU b r).1).length : Int) > 500) = true then ([], 2) else (txtS (resU b r).1, 0)
noncomputable def resS : Bs → Bs → Bs × Int := Classical.choose (rigid resS0)
theorem resS_eq : resS = resS0 := Classical.choose_spec (rigid resS0)
theorem res_txt {b r : Bs} (h0 : (parS b).2 = 0) (hr : r.length ≤ 500) : txtP (resU b r).1 ∧ besP (parS b).1 r := by
 obtain ⟨w1, w2⟩ := par_wf b
 have hb : besP (parS b).1 r := ⟨w2 h0, w1.2.1.1, hr⟩
 refine ⟨?_, hb⟩
 unfold resU
 split
 ·exact wf_txt (par_wf r).1
 ·split
  ·exact wf_txt (par_wf _).1
  ·exact bes_wf w1 hb
def uresV0 (xbase : Bs) (xref : Bs) : Int :=
 (if (schS xref).2.2 = true then (parS xref).2 else (if (hpfM xref ([47, 47] : Bs)) = true then (parS (((parS xbase).1.1 ++ ([58] : Bs)) ++ xref)).2 else (besS (parS xbase).1 xref).2))
def uresV1 (xbase : Bs) (xref : Bs) : Bs :=
 (if (schS xref).2.2 = true then (parS xref).1.1 else (if (hpfM xref ([47, 47] : Bs)) = true then (parS (((parS xbase).1.1 ++ ([58] : Bs)) ++ xref)).1.1 else (besS (parS xbase).1 xref).1.1))
def uresV2 (xbase : Bs) (xref : Bs) : Bs :=
 (if (schS xref).2.2 = true then (parS xref).1.2.1 else (if (hpfM xref ([47, 47] : Bs)) = true then (parS (((parS xbase).1.1 ++ ([58] : Bs)) ++ xref)).1.2.1 else (besS (parS xbase).1 xref).1.2.1))
def uresV3 (xbase : Bs) (xref : Bs) : Int :=
 (if (schS xref).2.2 = true then (parS xref).1.2.2.1 else (if (hpfM xref ([47, 47] : Bs)) = true then (parS (((parS xbase).1.1 ++ ([58] : Bs)) ++ xref)).1.2.2.1 else (besS (parS xbase).1 xref).1.2.2.1))
def uresV4 (xbase : Bs) (xref : Bs) : List Bs :=
 (if (schS xref).2.2 = true then (parS xref).1.2.2.2.1 else (if (hpfM xref ([47, 47] : Bs)) = true then (parS (((parS xbase).1.1 ++ ([58] : Bs)) ++ xref)).1.2.2.2.1 else (besS (parS xbase).1 xref).1.2.2.2.1))
def uresV5 (xbase : Bs) (xref : Bs) : Bs :=
 (if (schS xref).2.2 = true then (parS xref).1.2.2.2.2.1 else (if (hpfM xref ([47, 47] : Bs)) = true then (parS (((parS xbase).1.1 ++ ([58] : Bs)) ++ xref)).1.2.2.2.2.1 else (besS (parS xbase).1 xref).1.2.2.2.2.1))
def uresV6 (xbase : Bs) (xref : Bs) : Bool :=
 (if (schS xref).2.2 = true then (parS xref).1.2.2.2.2.2.1 else (if (hpfM xref ([47, 47] : Bs)) = true then (parS (((parS xbase).1.1 ++ ([58] : Bs)) ++ xref)).1.2.2.2.2.2.1 else (besS (parS xbase).1 xref).1.2.2.2.2.2.1))
def uresV7 (xbase : Bs) (xref : Bs) : Bs :=
 (if (schS xref).2.2 = true then (parS xref).1.2.2.2.2.2.2.1 else (if (hpfM xref ([47, 47] : Bs)) = true then (parS (((parS xbase).1.1 ++ ([58] : Bs)) ++ xref)).1.2.2.2.2.2.2.1 else (besS (parS xbase).1 xref).1.2.2.2.2.2.2.1))
def uresV8 (xbase : Bs) (xref : Bs) : Bool :=
 (if (schS xref).2.2 = true then (parS xref).1.2.2.2.2.2.2.2 else (if (hpfM xref ([47, 47] : Bs)) = true then (parS (((parS xbase).1.1 ++ ([58] : Bs)) ++ xref)).1.2.2.2.2.2.2.2 else (besS (parS xbase).1 xref).1.2.2.2.2.2.2.2))
def uresV9 (xbase : Bs) (xref : Bs) : Bs :=
 (txtS ((uresV1 xbase xref), (uresV2 xbase xref), (uresV3 xbase xref), (uresV4 xbase xref), (uresV5 xbase xref), (uresV6 xbase xref), (uresV7 xbase xref), (uresV8 xbase xref)))
def uresV10 (xbase : Bs) (xref : Bs) : (JU) × Int :=
 (parS (((parS xbase).1.1 ++ ([58] : Bs)) ++ xref))
def uresV11 (xbase : Bs) (xref : Bs) : (JU) × Int :=
 (besS (parS xbase).1 xref)
def uresj23 (xbase : Bs) (xref : Bs) (K : Bs → Int → Prop) : Prop :=
 ((((uresV0 xbase xref) != 0)) = true → K ([] : Bs) (uresV0 xbase xref)) ∧ ((((uresV0 xbase xref) != 0)) = false → txtP ((uresV1 xbase xref), (uresV2 xbase xref), (uresV3 xbase xref), (uresV4 xbase xref), (uresV5 xbase xref), (uresV6 xbase xref), (uresV7 xbase xref), (uresV8 xbase xref)) ∧ ((decide (((uresV9 xbase xref).length : Int) > 500)) = true → K ([] : Bs) 2) ∧ ((decide (((uresV9 xbase xref).length : Int) > 500)) = false → K (uresV9 xbase xref) 0))
def uresF (xbase : Bs) (xref : Bs) (K : Bs → Int → Prop) : Prop :=
 ((((parS xbase).2 != 0)) = true → K ([] : Bs) (parS xbase).2) ∧ ((((parS xbase).2 != 0)) = false → ((decide ((xref.length : Int) > 500)) = true → K ([] : Bs) 2) ∧ ((decide ((xref.length : Int) > 500)) = false → smP xref ∧ ((schS xref).2.2 = true → uresj23 xbase xref K) ∧ ((schS xref).2.2 = false → (((hpfM xref ([47, 47] : Bs))) = true → ((parS xbase).1.1).length + ([58] : Bs).length ≤ maxLen ∧ ((parS xbase).1.1 ++ ([58] : Bs)).length + xref.length ≤ maxLen ∧ uresj23 xbase xref K) ∧ (((hpfM xref ([47, 47] : Bs))) = false → besP (parS xbase).1 xref ∧ uresj23 xbase xref K))))
theorem ures_ok {g : Ghost} (xbase : Bs) (xref : Bs) (hG0 : SomeInt g 0) (hG1 : GlobL g 1 (.int .u64) DPow) (hG2 : SomeIf g 2) (hG3 : SomeIf g 3) (hG4 : GlobL g 4 (.int .u8) DFirst) (hG5 : GlobL g 5 (.pair (.int .u8) (.int .u8)) DAcc) (K : Bs → Int → Prop)
  (hF : uresF xbase xref K) : CallsH Tryz.prog 15 #[sv xbase, sv xref] g [] (fun g' H' v => ∃ (r0 : Bs), ∃ (r1 : Int), v = .tuple #[sv r0, .int .i64 r1] ∧ H' = [] ∧ K r0 r1) := by
 refine CallsH.enter 62 [(0, sv xbase), (1, sv xref)] Tryz.func15 rfl (by kernel_rfl) (by kernel_rfl) (by kernel_rfl) fun w0 => ?_
 refine Ok.seq (Ok.region (Ok.batch 2 [(0, sv xbase), (1, sv xref)] (by kernel_rfl) (Ok.nil (Ok.thenN (Ok.seq (Ok.region (Ok.bat 1 [1] [(14, sv xbase)] ?_)))))))
 refine Ok.op rfl (OpOk.callH [] _ enr rfl (upar_c xbase hG0 hG2 hG3 hG4 hG5) rfl fun g1 _ _ hx1 hV1 => ?_)
 obtain ⟨a1_0, c1_0, rfl, hR1_0, rfl⟩ := hV1
 replace hG0 := hG0.mono hx1.1
 replace hG1 := hG1.mono hx1.1
 replace hG2 := hG2.mono hx1.1
 replace hG3 := hG3.mono hx1.1
 replace hG4 := hG4.mono hx1.1
 replace hG5 := hG5.mono hx1.1
 refine Ok.bat 3 [1] [(16, .agg ⟨vJ (parS xbase).1 a1_0 c1_0⟩), (17, .int .i64 (parS xbase).2)] ?_
 refine Ok.op rfl (OpOk.alloc (z := .agg ⟨zJ⟩) (cs := ⟨zJ⟩) (by kernel_rfl) (by kernel_rfl) rfl fun b2 => ?_)
 refine Ok.op rfl (OpOk.sto (k := 8) (v := .agg ⟨vJ (parS xbase).1 a1_0 c1_0⟩) 0 ⟨vJ (parS xbase).1 a1_0 c1_0⟩ rfl rfl rfl ?_)
 refine Ok.bat 1 [1] [(6, pv b2 0), (7, .int .i64 (parS xbase).2)] ?_
 refine Ok.nil (Ok.thenN (Ok.seq (Ok.seq (Ok.region (Ok.bat 2 [1, 6, 7] [(19, .bool ((parS xbase).2 != 0))] ?_)))))
 refine Ok.nil (Ok.thenN (Ok.cond (b := ((parS xbase).2 != 0)) rfl (fun hc3 => ?_) (fun hc3 => ?_)))
 ·replace hF := hF.1 hc3
  refine Ok.seq (Ok.region (Ok.batch 3 [(4, sv ([] : Bs)), (5, .int .i64 (parS xbase).2)] (by kernel_rfl) (Ok.nil (Ok.thenN (Ok.ret (Ok.thenR ?_))))))
  exact Ok.resP (vs := [sv ([] : Bs), .int .i64 (parS xbase).2]) [] [] (by decide) rfl (.inl rfl) rfl (.cons (.tmp rfl) (.cons (.tmp rfl) .nil)) hx1 ⟨([] : Bs), (parS xbase).2, rfl, rfl, hF⟩
 ·replace hF := hF.2 hc3
  refine Ok.skip (Ok.thenN (Ok.seq (Ok.seq (Ok.region (Ok.bat 3 [1, 6] [(23, .bool (decide ((xref.length : Int) > 500)))] ?_)))))
  refine Ok.nil (Ok.thenN (Ok.cond (b := decide ((xref.length : Int) > 500)) rfl (fun hc4 => ?_) (fun hc4 => ?_)))
  ·replace hF := hF.1 hc4
   refine Ok.seq (Ok.region (Ok.batch 2 [(4, sv ([] : Bs)), (5, .int .i64 2)] (by kernel_rfl) (Ok.nil (Ok.thenN (Ok.ret (Ok.thenR ?_))))))
   exact Ok.resP (vs := [sv ([] : Bs), .int .i64 2]) [] [] (by decide) rfl (.inl rfl) rfl (.cons (.tmp rfl) (.cons (.tmp rfl) .nil)) hx1 ⟨([] : Bs), 2, rfl, rfl, hF⟩
  ·replace hF := hF.2 hc4
   refine Ok.skip (Ok.thenN (Ok.seq (Ok.region (Ok.op rfl (OpOk.alloc (z := .agg ⟨zJ⟩) (cs := ⟨zJ⟩) (by kernel_rfl) (by kernel_rfl) rfl fun b5 => ?_)))))
   refine Ok.nil (Ok.thenN (Ok.cut (fun a W => ∃ gj23 : Ghost, Gext w0 g1 gj23 ∧ ∃ (ayb5_3j23 : Option Addr) (cyb5_3j23 : Nat), Rep gj23 (.slice (.str)) [.slice ayb5_3j23 (uresV4 xbase xref).length cyb5_3j23] (uresV4 xbase xref) ∧ StA 62 [(7, .int .i64 (uresV0 xbase xref)), (8, pv b5 0)] a ∧ StW w0 [.blk b5 (.cells #[sv (uresV1 xbase xref), sv (uresV2 xbase xref), .int .i64 (uresV3 xbase xref), .slice ayb5_3j23 (uresV4 xbase xref).length cyb5_3j23, sv (uresV5 xbase xref), .bool (uresV6 xbase xref), sv (uresV7 xbase xref), .bool (uresV8 xbase xref)] 53)] gj23 W ∧ uresj23 xbase xref K) ?_ ?_))
   ·
    refine Ok.seq (Ok.region (Ok.bat 1 [1, 6] [(8, pv b5 0), (25, sv xref)] ?_))
    obtain ⟨hp9, hF⟩ := hF
    refine Ok.op rfl (OpOk.callG (v := .tuple #[sv ((schS xref).1), sv ((schS xref).2.1), .bool (schS xref).2.2]) enr (fun W hW => usch_c xref (hG4.mono hW.sees) (hG5.mono hW.sees) hp9) rfl ?_)
    refine Ok.bat 7 [1, 6, 8] [(11, .bool (schS xref).2.2)] ?_
    refine Ok.nil (Ok.thenN (Ok.seq (Ok.region (Ok.bat 1 [1, 6, 8] [(30, .bool (schS xref).2.2)] ?_))))
    refine Ok.nil (Ok.thenN (Ok.cond (b := (schS xref).2.2) rfl (fun hc10 => ?_) (fun hc10 => ?_)))
    ·replace hF := hF.1 hc10
     refine Ok.region (Ok.bat 1 [8] [(32, sv xref)] ?_)
     refine Ok.op rfl (OpOk.callH [] _ enr rfl (upar_c xref hG0 hG2 hG3 hG4 hG5) rfl fun g11 _ _ hx11 hV11 => ?_)
     obtain ⟨a11_0, c11_0, rfl, hR11_0, rfl⟩ := hV11
     replace hR1_0 := hR1_0.mono hx11.1
     replace hG0 := hG0.mono hx11.1
     replace hG1 := hG1.mono hx11.1
     replace hG2 := hG2.mono hx11.1
     replace hG3 := hG3.mono hx11.1
     replace hG4 := hG4.mono hx11.1
     replace hG5 := hG5.mono hx11.1
     refine Ok.bat 3 [8] [(34, .agg ⟨vJ (parS xref).1 a11_0 c11_0⟩), (35, .int .i64 (parS xref).2)] ?_
     refine Ok.op rfl (OpOk.sto (k := 8) (v := .agg ⟨vJ (parS xref).1 a11_0 c11_0⟩) 0 ⟨vJ (parS xref).1 a11_0 c11_0⟩ rfl rfl rfl ?_)
     refine Ok.bat 1 [8] [(7, .int .i64 (parS xref).2)] ?_
     refine Ok.nil (Ok.thenN (Ok.reval 7 rfl (show (.int .i64 (parS xref).2 : Value) = .int .i64 (uresV0 xbase xref) from congrArg (Value.int .i64) ((if_t hc10).symm)) (Ok.heapEq (H' := [.blk b5 (.cells #[sv (uresV1 xbase xref), sv (uresV2 xbase xref), .int .i64 (uresV3 xbase xref), .slice a11_0 (uresV4 xbase xref).length c11_0, sv (uresV5 xbase xref), .bool (uresV6 xbase xref), sv (uresV7 xbase xref), .bool (uresV8 xbase xref)] 53), .blk b2 (.cells ⟨vJ (parS xbase).1 a1_0 c1_0⟩ 53)]) (econs (congrArg (fun l : List Value => Ent.blk b5 (.cells ⟨l⟩ 53)) (lcons (congrArg ((fun s : Bs => Value.string ⟨⟨s⟩⟩)) ((if_t hc10).symm)) (lcons (congrArg ((fun s : Bs => Value.string ⟨⟨s⟩⟩)) ((if_t hc10).symm)) (lcons (congrArg (Value.int .i64) ((if_t hc10).symm)) (lcons (congrArg (fun l : List Bs => Value.slice a11_0 l.length c11_0) ((if_t hc10).symm)) (lcons (congrArg ((fun s : Bs => Value.string ⟨⟨s⟩⟩)) ((if_t hc10).symm)) (lcons (congrArg (Value.bool) ((if_t hc10).symm)) (lcons (congrArg ((fun s : Bs => Value.string ⟨⟨s⟩⟩)) ((if_t hc10).symm)) (lcons (congrArg (Value.bool) ((if_t hc10).symm)) rfl))))))))) (econs (rfl) rfl)) ?_)))
     exact fun a W hA hW => ⟨g11, hx11, a11_0, c11_0, (Eq.mp (congrArg (fun l : List Bs => Rep g11 (.slice (.str)) [.slice a11_0 l.length c11_0] l) ((if_t hc10).symm)) hR11_0), hA.sub (by kernel_rfl), hW.sub (.cons_cons _ (.cons _ .slnil)), hF⟩
    ·replace hF := hF.2 hc10
     refine Ok.seq (Ok.region (Ok.bat 1 [1, 6, 8] [(36, sv xref)] ?_))
     refine Ok.op rfl (OpOk.callG (v := .bool (hpfM xref ([47, 47] : Bs))) enr (fun W hW => hpf_c xref ([47, 47] : Bs)) rfl ?_)
     refine Ok.nil (Ok.thenN (Ok.cond (b := (hpfM xref ([47, 47] : Bs))) rfl (fun hc12 => ?_) (fun hc12 => ?_)))
     ·replace hF := hF.1 hc12
      refine Ok.region (Ok.bat 1 [1, 8] [(39, pv b2 0)] ?_)
      refine Ok.op rfl (OpOk.step (v := sv ((parS xbase).1.1)) (Yields.load 1 rfl rfl Tryz.underlying9 rfl (by kernel_rfl)) rfl rfl ?_)
      obtain ⟨hv, hF⟩ := hF
      refine Ok.op rfl (OpOk.step (v := sv ((parS xbase).1.1 ++ ([58] : Bs))) (Yields.strAdd rfl rfl hv) rfl rfl (Ok.bat 1 [8] [(41, sv ((parS xbase).1.1 ++ ([58] : Bs))), (42, sv xref)] ?_))
      obtain ⟨hv, hF⟩ := hF
      refine Ok.op rfl (OpOk.step (v := sv (((parS xbase).1.1 ++ ([58] : Bs)) ++ xref)) (Yields.strAdd rfl rfl hv) rfl rfl (Ok.op rfl (OpOk.callH [] _ enr rfl (upar_c (((parS xbase).1.1 ++ ([58] : Bs)) ++ xref) hG0 hG2 hG3 hG4 hG5) rfl fun g13 _ _ hx13 hV13 => ?_)))
      obtain ⟨a13_0, c13_0, rfl, hR13_0, rfl⟩ := hV13
      replace hR1_0 := hR1_0.mono hx13.1
      replace hG0 := hG0.mono hx13.1
      replace hG1 := hG1.mono hx13.1
      replace hG2 := hG2.mono hx13.1
      replace hG3 := hG3.mono hx13.1
      replace hG4 := hG4.mono hx13.1
      replace hG5 := hG5.mono hx13.1
      refine Ok.bat 3 [8] [(45, .agg ⟨vJ (uresV10 xbase xref).1 a13_0 c13_0⟩), (46, .int .i64 (uresV10 xbase xref).2)] ?_
      refine Ok.op rfl (OpOk.sto (k := 8) (v := .agg ⟨vJ (uresV10 xbase xref).1 a13_0 c13_0⟩) 0 ⟨vJ (uresV10 xbase xref).1 a13_0 c13_0⟩ rfl rfl rfl ?_)
      refine Ok.bat 1 [8] [(7, .int .i64 (uresV10 xbase xref).2)] ?_
      refine Ok.nil (Ok.thenN (Ok.reval 7 rfl (show (.int .i64 (uresV10 xbase xref).2 : Value) = .int .i64 (uresV0 xbase xref) from congrArg (Value.int .i64) ((Eq.trans ((if_t hc12).symm) ((if_f hc10).symm)))) (Ok.heapEq (H' := [.blk b5 (.cells #[sv (uresV1 xbase xref), sv (uresV2 xbase xref), .int .i64 (uresV3 xbase xref), .slice a13_0 (uresV4 xbase xref).length c13_0, sv (uresV5 xbase xref), .bool (uresV6 xbase xref), sv (uresV7 xbase xref), .bool (uresV8 xbase xref)] 53), .blk b2 (.cells ⟨vJ (parS xbase).1 a1_0 c1_0⟩ 53)]) (econs (congrArg (fun l : List Value => Ent.blk b5 (.cells ⟨l⟩ 53)) (lcons (congrArg ((fun s : Bs => Value.string ⟨⟨s⟩⟩)) ((Eq.trans ((if_t hc12).symm) ((if_f hc10).symm)))) (lcons (congrArg ((fun s : Bs => Value.string ⟨⟨s⟩⟩)) ((Eq.trans ((if_t hc12).symm) ((if_f hc10).symm)))) (lcons (congrArg (Value.int .i64) ((Eq.trans ((if_t hc12).symm) ((if_f hc10).symm)))) (lcons (congrArg (fun l : List Bs => Value.slice a13_0 l.length c13_0) ((Eq.trans ((if_t hc12).symm) ((if_f hc10).symm)))) (lcons (congrArg ((fun s : Bs => Value.string ⟨⟨s⟩⟩)) ((Eq.trans ((if_t hc12).symm) ((if_f hc10).symm)))) (lcons (congrArg (Value.bool) ((Eq.trans ((if_t hc12).symm) ((if_f hc10).symm)))) (lcons (congrArg ((fun s : Bs => Value.string ⟨⟨s⟩⟩)) ((Eq.trans ((if_t hc12).symm) ((if_f hc10).symm)))) (lcons (congrArg (Value.bool) ((Eq.trans ((if_t hc12).symm) ((if_f hc10).symm)))) rfl))))))))) (econs (rfl) rfl)) ?_)))
      exact fun a W hA hW => ⟨g13, hx13, a13_0, c13_0, (Eq.mp (congrArg (fun l : List Bs => Rep g13 (.slice (.str)) [.slice a13_0 l.length c13_0] l) ((Eq.trans ((if_t hc12).symm) ((if_f hc10).symm)))) hR13_0), hA.sub (by kernel_rfl), hW.sub (.cons_cons _ (.cons _ .slnil)), hF⟩
     ·replace hF := hF.2 hc12
      refine Ok.region (Ok.op rfl (OpOk.step (v := .agg ⟨vJ (parS xbase).1 a1_0 c1_0⟩) (Yields.loadAgg 1 8 ⟨vJ (parS xbase).1 a1_0 c1_0⟩ rfl rfl Tryz.underlying53 rfl (by kernel_rfl) (by kernel_rfl) (by kernel_rfl)) rfl rfl (Ok.bat 1 [8] [(48, .agg ⟨vJ (parS xbase).1 a1_0 c1_0⟩), (49, sv xref)] ?_)))
      obtain ⟨hp14, hF⟩ := hF
      refine Ok.op rfl (OpOk.callH [] _ enr rfl (ubes_c (parS xbase).1 xref hR1_0 hG0 hp14) rfl fun g15 _ _ hx15 hV15 => ?_)
      obtain ⟨a15_0, c15_0, rfl, hR15_0, rfl⟩ := hV15
      replace hR1_0 := hR1_0.mono hx15.1
      replace hG0 := hG0.mono hx15.1
      replace hG1 := hG1.mono hx15.1
      replace hG2 := hG2.mono hx15.1
      replace hG3 := hG3.mono hx15.1
      replace hG4 := hG4.mono hx15.1
      replace hG5 := hG5.mono hx15.1
      refine Ok.bat 3 [8] [(51, .agg ⟨vJ (uresV11 xbase xref).1 a15_0 c15_0⟩), (52, .int .i64 (uresV11 xbase xref).2)] ?_
      refine Ok.op rfl (OpOk.sto (k := 8) (v := .agg ⟨vJ (uresV11 xbase xref).1 a15_0 c15_0⟩) 0 ⟨vJ (uresV11 xbase xref).1 a15_0 c15_0⟩ rfl rfl rfl ?_)
      refine Ok.bat 1 [8] [(7, .int .i64 (uresV11 xbase xref).2)] ?_
      refine Ok.nil (Ok.thenN (Ok.reval 7 rfl (show (.int .i64 (uresV11 xbase xref).2 : Value) = .int .i64 (uresV0 xbase xref) from congrArg (Value.int .i64) ((Eq.trans ((if_f hc12).symm) ((if_f hc10).symm)))) (Ok.heapEq (H' := [.blk b5 (.cells #[sv (uresV1 xbase xref), sv (uresV2 xbase xref), .int .i64 (uresV3 xbase xref), .slice a15_0 (uresV4 xbase xref).length c15_0, sv (uresV5 xbase xref), .bool (uresV6 xbase xref), sv (uresV7 xbase xref), .bool (uresV8 xbase xref)] 53), .blk b2 (.cells ⟨vJ (parS xbase).1 a1_0 c1_0⟩ 53)]) (econs (congrArg (fun l : List Value => Ent.blk b5 (.cells ⟨l⟩ 53)) (lcons (congrArg ((fun s : Bs => Value.string ⟨⟨s⟩⟩)) ((Eq.trans ((if_f hc12).symm) ((if_f hc10).symm)))) (lcons (congrArg ((fun s : Bs => Value.string ⟨⟨s⟩⟩)) ((Eq.trans ((if_f hc12).symm) ((if_f hc10).symm)))) (lcons (congrArg (Value.int .i64) ((Eq.trans ((if_f hc12).symm) ((if_f hc10).symm)))) (lcons (congrArg (fun l : List Bs => Value.slice a15_0 l.length c15_0) ((Eq.trans ((if_f hc12).symm) ((if_f hc10).symm)))) (lcons (congrArg ((fun s : Bs => Value.string ⟨⟨s⟩⟩)) ((Eq.trans ((if_f hc12).symm) ((if_f hc10).symm)))) (lcons (congrArg (Value.bool) ((Eq.trans ((if_f hc12).symm) ((if_f hc10).symm)))) (lcons (congrArg ((fun s : Bs => Value.string ⟨⟨s⟩⟩)) ((Eq.trans ((if_f hc12).symm) ((if_f hc10).symm)))) (lcons (congrArg (Value.bool) ((Eq.trans ((if_f hc12).symm) ((if_f hc10).symm)))) rfl))))))))) (econs (rfl) rfl)) ?_)))
      exact fun a W hA hW => ⟨g15, hx15, a15_0, c15_0, (Eq.mp (congrArg (fun l : List Bs => Rep g15 (.slice (.str)) [.slice a15_0 l.length c15_0] l) ((Eq.trans ((if_f hc12).symm) ((if_f hc10).symm)))) hR15_0), hA.sub (by kernel_rfl), hW.sub (.cons_cons _ (.cons _ .slnil)), hF⟩
   ·
    clear hF
    rintro a W ⟨gj23, hxj23, ayb5_3j23, cyb5_3j23, hRyb5_3j23, hA, hW, hF⟩
    refine (?_ : Ok _ _ _ _ _ _) a W hA hW
    clear hA hW
    replace hG0 := hG0.mono hxj23.1
    replace hG1 := hG1.mono hxj23.1
    replace hG2 := hG2.mono hxj23.1
    replace hG3 := hG3.mono hxj23.1
    replace hG4 := hG4.mono hxj23.1
    replace hG5 := hG5.mono hxj23.1
    refine Ok.seq (Ok.seq (Ok.region (Ok.bat 2 [7, 8] [(54, .bool ((uresV0 xbase xref) != 0))] ?_)))
    refine Ok.nil (Ok.thenN (Ok.cond (b := ((uresV0 xbase xref) != 0)) rfl (fun hc6 => ?_) (fun hc6 => ?_)))
    ·replace hF := hF.1 hc6
     refine Ok.seq (Ok.region (Ok.batch 3 [(4, sv ([] : Bs)), (5, .int .i64 (uresV0 xbase xref))] (by kernel_rfl) (Ok.nil (Ok.thenN (Ok.ret (Ok.thenR ?_))))))
     exact Ok.resP (vs := [sv ([] : Bs), .int .i64 (uresV0 xbase xref)]) [] [] (by decide) rfl (.inl rfl) rfl (.cons (.tmp rfl) (.cons (.tmp rfl) .nil)) (hx1.trans hxj23) ⟨([] : Bs), (uresV0 xbase xref), rfl, rfl, hF⟩
    ·replace hF := hF.2 hc6
     refine Ok.skip (Ok.thenN (Ok.seq (Ok.region (Ok.op rfl (OpOk.step (v := .agg #[sv (uresV1 xbase xref), sv (uresV2 xbase xref), .int .i64 (uresV3 xbase xref), .slice ayb5_3j23 (uresV4 xbase xref).length cyb5_3j23, sv (uresV5 xbase xref), .bool (uresV6 xbase xref), sv (uresV7 xbase xref), .bool (uresV8 xbase xref)]) (Yields.loadAgg 0 8 #[sv (uresV1 xbase xref), sv (uresV2 xbase xref), .int .i64 (uresV3 xbase xref), .slice ayb5_3j23 (uresV4 xbase xref).length cyb5_3j23, sv (uresV5 xbase xref), .bool (uresV6 xbase xref), sv (uresV7 xbase xref), .bool (uresV8 xbase xref)] rfl rfl Tryz.underlying53 rfl (by kernel_rfl) (by kernel_rfl) (by kernel_rfl)) rfl rfl ?_)))))
     obtain ⟨hp7, hF⟩ := hF
     refine Ok.op rfl (OpOk.callG (v := sv (uresV9 xbase xref)) enr (fun W hW => utxt_c ((uresV1 xbase xref), (uresV2 xbase xref), (uresV3 xbase xref), (uresV4 xbase xref), (uresV5 xbase xref), (uresV6 xbase xref), (uresV7 xbase xref), (uresV8 xbase xref)) (hRyb5_3j23.mono hW.sees) (hG1.mono hW.sees) hp7) rfl ?_)
     refine Ok.batch 1 [(12, sv (uresV9 xbase xref))] (by kernel_rfl) (Ok.nil (Ok.thenN (Ok.seq (Ok.seq (Ok.region (Ok.bat 3 [12] [(60, .bool (decide (((uresV9 xbase xref).length : Int) > 500)))] ?_))))))
     refine Ok.nil (Ok.thenN (Ok.cond (b := decide (((uresV9 xbase xref).length : Int) > 500)) rfl (fun hc8 => ?_) (fun hc8 => ?_)))
     ·replace hF := hF.1 hc8
      refine Ok.seq (Ok.region (Ok.batch 2 [(4, sv ([] : Bs)), (5, .int .i64 2)] (by kernel_rfl) (Ok.nil (Ok.thenN (Ok.ret (Ok.thenR ?_))))))
      exact Ok.resP (vs := [sv ([] : Bs), .int .i64 2]) [] [] (by decide) rfl (.inl rfl) rfl (.cons (.tmp rfl) (.cons (.tmp rfl) .nil)) (hx1.trans hxj23) ⟨([] : Bs), 2, rfl, rfl, hF⟩
     ·replace hF := hF.2 hc8
      refine Ok.skip (Ok.thenN (Ok.seq (Ok.region (Ok.batch 3 [(4, sv (uresV9 xbase xref)), (5, .int .i64 0)] (by kernel_rfl) (Ok.nil (Ok.thenN (Ok.ret ?_)))))))
      exact Ok.resP (vs := [sv (uresV9 xbase xref), .int .i64 0]) [] [] (by decide) rfl (.inl rfl) rfl (.cons (.tmp rfl) (.cons (.tmp rfl) .nil)) (hx1.trans hxj23) ⟨(uresV9 xbase xref), 0, rfl, rfl, hF⟩
theorem ures_F (b r : Bs) : uresF b r (fun x y => (x, y) = resS b r) := by
 rw [resS_eq]
 unfold resS0
 refine ⟨fun h => by rw [if_t h], fun h => ?_⟩
 rw [if_f h]
 have h0 : (parS b).2 = 0 := by simpa using h
 refine ⟨fun h2 => by rw [if_t h2], fun h2 => ?_⟩
 rw [if_f h2]
 have h5 := of_decide_eq_false h2
 obtain ⟨ht, hb⟩ := res_txt (b := b) (r := r) h0 (by omega)
 have hori := par_ori b
 have e0 : uresV0 b r = (resU b r).2 := by
  unfold uresV0 resU
  split
  ·rfl
  ·split <;> rfl
 have eu : (uresV1 b r, uresV2 b r, uresV3 b r, uresV4 b r, uresV5 b r, uresV6 b r, uresV7 b r, uresV8 b r) = (resU b r).1 := by
  unfold uresV1 uresV2 uresV3 uresV4 uresV5 uresV6 uresV7 uresV8 resU
  by_cases h1 : (schS r).2.2 = true
  ·simp only [if_pos h1]
  ·by_cases h3 : (hpfM r [47, 47]) = true
   ·simp only [if_neg h1, if_pos h3]
   ·simp only [if_neg h1, if_neg h3]
 have e9 : uresV9 b r = txtS (resU b r).1 := by unfold uresV9; rw [eu]
 have j23 : uresj23 b r (fun x y => (x, y) = if ((resU b r).2 != 0) = true then ([], (resU b r).2) else if decide (((txtS (resU b r).1).length : Int) > 500) = true then ([], 2) else (txtS (resU b r).1, 0)) := by
  unfold uresj23
  rw [e0, eu, e9]
  refine ⟨fun h6 => by rw [if_t h6], fun h6 => ?_⟩
  rw [if_f h6]
  exact ⟨ht, fun h7 => by rw [if_t h7], fun h7 => by rw [if_f h7]⟩
 have hl1 : (parS b).1.1.length ≤ 100000000 := hori.1
 refine ⟨by unfold smP; omega, fun _ => j23, fun _ => ⟨fun _ => ⟨?_, ?_, j23⟩, fun _ => ⟨hb, j23⟩⟩⟩
 ·rw [maxLen_eq]; simp only [List.length_cons, List.length_nil]; omega
 ·rw [maxLen_eq, List.length_append, List.length_cons, List.length_nil]; omega
theorem ures_c {g : Ghost} (xbase : Bs) (xref : Bs) (hG0 : SomeInt g 0) (hG1 : GlobL g 1 (.int .u64) DPow) (hG2 : SomeIf g 2) (hG3 : SomeIf g 3) (hG4 : GlobL g 4 (.int .u8) DFirst) (hG5 : GlobL g 5 (.pair (.int .u8) (.int .u8)) DAcc)  : CallsG Tryz.prog 15 #[sv xbase, sv xref] g (.tuple #[sv ((resS xbase xref).1), .int .i64 (resS xbase xref).2]) :=
 (ures_ok xbase xref hG0 hG1 hG2 hG3 hG4 hG5 _ (ures_F xbase xref)).gives (by rintro g' H' v _ ⟨r0, r1, rfl, rfl, hK⟩; obtain ⟨rfl, rfl⟩ : r0 = (resS xbase xref).1 ∧ r1 = (resS xbase xref).2 := ⟨congrArg (fun z => z.1) hK, congrArg (fun z => z.2) hK⟩; rfl)
end
end Go.Proofs.YtdaagfgedkdmjaaGreatDoor.Ub
