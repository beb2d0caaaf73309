/- Store: Run, with a map of drawers. -/
import Derived.Test.YtdjcgbejnpbjlaaGreatDoorSdb
import Derived.Test.YtdjcgbejnpbjlaaGreatDoorPol
namespace Go.Proofs.YtdjcgbejnpbjlaaGreatDoor.Sd
open Go Go.Eng Go.RowKit Bld Sp Ti Uc Ua Ui Ub
set_option maxHeartbeats 4000000
set_option maxRecDepth 100000
set_option linter.unusedSimpArgs false
set_option linter.unusedVariables false
noncomputable section
/-- the memory of a drawer -/
def DrawIs (g : Ghost) (b : Nat) (d : DR) (X : List Ent) : Prop := ∃ (a : Option Addr) (c : Nat) (xs : List Value) (bm : Nat) (es : Array MapEntry) (ck : Nat),
 X = [.blk b (.cells #[.slice a d.1.length c, .map (some bm), .int .i64 d.2.2] 42), .own (.slice a d.1.length c) 9 1 d.1.length xs, .blk bm (.map es ck)] ∧ RepL g .str xs d.1 ∧ RepMapA g .str true (fun k : Bs => Value.string ⟨⟨k⟩⟩) es ck d.2.1
theorem DrawMon : Mon DrawIs := fun g g' b d X h ⟨a, c, xs, bm, es, ck, h1, h2, h3⟩ => ⟨a, c, xs, bm, es, ck, h1, h2.mono h, h3.mono h⟩
def DrawPool (g : Ghost) (es : List MapEntry) (D : List (Bt × DR)) (F : List Ent) : Prop := PoolIs DrawIs (fun k : Bs => Value.string ⟨⟨k⟩⟩) g es D F
theorem DrawPool.mono {g g' : Ghost} (h : Gle g g') {es : List MapEntry} {D : List (Bt × DR)} {F : List Ent} (hP : DrawPool g es D F) : DrawPool g' es D F := PoolIs.mono DrawMon h hP
def srnj26 (yown5_0j26 : List (Int × Bs × Bool × List Bs)) (yb4_0j26 : List (Bs × DR)) (x17l19 : Int) (C19 : Int → (List (Int × Bs × Bool × List Bs)) → (List (Bs × DR)) → Prop) : Prop :=
 C19 (w6 (x17l19 + 1)) yown5_0j26 yb4_0j26
def srnl19b (xops : List (Int × Bs × Bs × Bs)) (K : (List (Int × Bs × Bool × List Bs)) → Int → Prop) (x17l19 : Int) (yown5_0l19 : List (Int × Bs × Bool × List Bs)) (yb4_0l19 : List (Bs × DR)) (C19 : Int → (List (Int × Bs × Bool × List Bs)) → (List (Bs × DR)) → Prop) : Prop :=
 ((decide (x17l19 < (xops.length : Int))) = true → (0 : Int) ≤ x17l19 ∧ Int.toNat x17l19 < xops.length ∧ ((((OriS (xops.getD (Int.toNat x17l19) default).2.1).2 != 0)) = true → (yown5_0l19 ++ ([((OriS (xops.getD (Int.toNat x17l19) default).2.1).2, ([] : Bs), false, [])] : List (Int × Bs × Bool × List Bs))).length ≤ 2513169434916 ∧ srnj26 (yown5_0l19 ++ ([((OriS (xops.getD (Int.toNat x17l19) default).2.1).2, ([] : Bs), false, [])] : List (Int × Bs × Bool × List Bs))) yb4_0l19 x17l19 C19) ∧ ((((OriS (xops.getD (Int.toNat x17l19) default).2.1).2 != 0)) = false → (∀ d13 : DR, assocK (OriS (xops.getD (Int.toNat x17l19) default).2.1).1 yb4_0l19 = some d13 → ddoP d13 (xops.getD (Int.toNat x17l19) default) ∧ (yown5_0l19 ++ ([(ddoS d13 (xops.getD (Int.toNat x17l19) default)).1] : List (Int × Bs × Bool × List Bs))).length ≤ 2513169434916 ∧ srnj26 (yown5_0l19 ++ ([(ddoS d13 (xops.getD (Int.toNat x17l19) default)).1] : List (Int × Bs × Bool × List Bs))) (putK (OriS (xops.getD (Int.toNat x17l19) default).2.1).1 (ddoS d13 (xops.getD (Int.toNat x17l19) default)).2 yb4_0l19) x17l19 C19) ∧ (assocK (OriS (xops.getD (Int.toNat x17l19) default).2.1).1 yb4_0l19 = none → ddoP (([] : List Bs), ([] : List (Bs × Bs)), 0) (xops.getD (Int.toNat x17l19) default) ∧ (yown5_0l19 ++ ([(ddoS (([] : List Bs), ([] : List (Bs × Bs)), 0) (xops.getD (Int.toNat x17l19) default)).1] : List (Int × Bs × Bool × List Bs))).length ≤ 2513169434916 ∧ srnj26 (yown5_0l19 ++ ([(ddoS (([] : List Bs), ([] : List (Bs × Bs)), 0) (xops.getD (Int.toNat x17l19) default)).1] : List (Int × Bs × Bool × List Bs))) (putK (OriS (xops.getD (Int.toNat x17l19) default).2.1).1 (ddoS (([] : List Bs), ([] : List (Bs × Bs)), 0) (xops.getD (Int.toNat x17l19) default)).2 yb4_0l19) x17l19 C19))) ∧ ((decide (x17l19 < (xops.length : Int))) = false → K yown5_0l19 0)
def srnl19 (xops : List (Int × Bs × Bs × Bs)) (K : (List (Int × Bs × Bool × List Bs)) → Int → Prop) : Nat → Int → (List (Int × Bs × Bool × List Bs)) → (List (Bs × DR)) → Prop
 | 0, _, _, _ => False
 | k + 1, x17l19, yown5_0l19, yb4_0l19 => srnl19b xops K x17l19 yown5_0l19 yb4_0l19 (srnl19 xops K k)
def srnF (xops : List (Int × Bs × Bs × Bs)) (K : (List (Int × Bs × Bool × List Bs)) → Int → Prop) : Prop :=
 ((decide ((xops.length : Int) > 100)) = true → K ([] : List (Int × Bs × Bool × List Bs)) 2) ∧ ((decide ((xops.length : Int) > 100)) = false → ∃ k, srnl19 xops K k 0 ([] : List (Int × Bs × Bool × List Bs)) ([] : List (Bs × DR)))
theorem srn_ok {g : Ghost} {axops_0 : Option Addr} {cxops_0 : Nat} (xops : List (Int × Bs × Bs × Bs)) (hRxops_0 : Rep g (.slice (.pair (.int .i64) (.pair (.str) (.pair (.str) (.str))))) [.slice axops_0 xops.length cxops_0] xops) (hG0 : SomeInt g 0) (hG1 : GlobL g 1 (.int .u64) DPow) (hG2 : SomeIf g 2) (hG3 : SomeIf g 3) (hG4 : GlobL g 4 (.int .u8) DFirst) (hG5 : GlobL g 5 (.pair (.int .u8) (.int .u8)) DAcc) (K : (List (Int × Bs × Bool × List Bs)) → Int → Prop)
  (hF : srnF xops K) : CallsH Tryz.prog 4 #[.slice axops_0 xops.length cxops_0] g [] (fun g' H' v => ∃ (r0 : List (Int × Bs × Bool × List Bs)), ∃ (r1 : Int), ∃ (ar0_0 : Option Addr) (cr0_0 : Nat), v = .tuple #[.slice ar0_0 r0.length cr0_0, .int .i64 r1] ∧ Rep g' (.slice (.pair (.int .i64) (.pair (.str) (.pair (.bool) (.slice (.str)))))) [.slice ar0_0 r0.length cr0_0] r0 ∧ H' = [] ∧ K r0 r1) := by
 refine CallsH.enter 53 [(0, .slice axops_0 xops.length cxops_0)] Tryz.func4 rfl (by kernel_rfl) (by kernel_rfl) (by kernel_rfl) fun w0 => ?_
 refine Ok.seq (Ok.region (Ok.batch 1 [(0, .slice axops_0 xops.length cxops_0)] (by kernel_rfl) (Ok.bat 1 [0] [] ?_)))
 refine Ok.nil (Ok.thenN (Ok.seq (Ok.seq (Ok.region (Ok.bat 3 [0] [(13, .bool (decide ((xops.length : Int) > 100)))] ?_)))))
 refine Ok.nil (Ok.thenN (Ok.cond (b := decide ((xops.length : Int) > 100)) rfl (fun hc1 => ?_) (fun hc1 => ?_)))
 ·replace hF := hF.1 hc1
  refine Ok.seq (Ok.region (Ok.batch 1 [(2, .slice none 0 0)] (by kernel_rfl) ?_))
  have hL2 : RepL g (.pair (.int .i64) (.pair (.str) (.pair (.bool) (.slice (.str))))) [] [] := rfl
  refine Ok.ownNil 30 4 (Ok.batch 1 [(2, .slice none ([] : List (Int × Bs × Bool × List Bs)).length 0), (3, .int .i64 2)] (by kernel_rfl) (Ok.nil (Ok.thenN (Ok.ret (Ok.thenR (Ok.frz 0 rfl hL2 fun g3 hx3 hRf3 => ?_))))))
  replace hG0 := hG0.mono hx3.1
  replace hG1 := hG1.mono hx3.1
  replace hG2 := hG2.mono hx3.1
  replace hG3 := hG3.mono hx3.1
  replace hG4 := hG4.mono hx3.1
  replace hG5 := hG5.mono hx3.1
  exact Ok.resH (vs := [.slice none ([] : List (Int × Bs × Bool × List Bs)).length 0, .int .i64 2]) (.inl rfl) rfl (.cons (.tmp rfl) (.cons (.tmp rfl) .nil)) hx3 ⟨([] : List (Int × Bs × Bool × List Bs)), 2, none, 0, rfl, hRf3, rfl, hF⟩
 ·replace hF := hF.2 hc1
  refine Ok.skip (Ok.thenN (Ok.seq (Ok.region (Ok.op rfl (OpOk.makeMap .str false (kt := (fun k : Bs => Value.string ⟨⟨k⟩⟩)) rfl fun b4 _ => ?_)))))
  have hM4 : DrawPool g ((#[] : Array MapEntry)).toList [] [] := rfl
  refine Ok.tailNil [.blk b4 (.map #[] 0)] (rfl) (Ok.batch 1 [(0, .slice axops_0 xops.length cxops_0), (4, .map (some b4))] (by kernel_rfl) (Ok.nil (Ok.thenN (Ok.seq (Ok.region (Ok.bat 1 [0, 4] [(5, .slice none 0 0)] ?_))))))
  have hL5 : RepL g (.pair (.int .i64) (.pair (.str) (.pair (.bool) (.slice (.str))))) [] [] := rfl
  refine Ok.ownNil 30 4 (Ok.nil (Ok.thenN (Ok.seq (Ok.seq (Ok.region (Ok.bat 3 [4] [(5, .slice none ([] : List (Int × Bs × Bool × List Bs)).length 0), (15, .slice axops_0 xops.length cxops_0), (16, .int .i64 (xops.length : Int)), (17, .int .i64 0)] ?_))))))
  refine Ok.nil (Ok.thenN (Ok.block ?_))
  obtain ⟨k, hF⟩ := hF
  refine Ok.loop (fun k a W => ∃ gl19 : Ghost, Gext w0 g gl19 ∧ ∃ (x17l19 : Int) (ayown5_0l19 : Option Addr) (cyown5_0l19 : Nat) (yown5_0l19 : List (Int × Bs × Bool × List Bs)) (xsyown5_0l19 : List Value) (esyb4_0l19 : Array MapEntry) (ckyb4_0l19 : Nat) (Fyb4_0l19 : List Ent) (yb4_0l19 : List (Bs × DR)), RepL gl19 (.pair (.int .i64) (.pair (.str) (.pair (.bool) (.slice (.str))))) xsyown5_0l19 yown5_0l19 ∧ DrawPool gl19 esyb4_0l19.toList yb4_0l19 Fyb4_0l19 ∧ StA 53 [(4, .map (some b4)), (5, .slice ayown5_0l19 yown5_0l19.length cyown5_0l19), (15, .slice axops_0 xops.length cxops_0), (16, .int .i64 (xops.length : Int)), (17, .int .i64 x17l19)] a ∧ StW w0 ([.own (.slice ayown5_0l19 yown5_0l19.length cyown5_0l19) 30 4 yown5_0l19.length xsyown5_0l19, .blk b4 (.map esyb4_0l19 ckyb4_0l19)] ++ Fyb4_0l19) gl19 W ∧ srnl19 xops K k x17l19 yown5_0l19 yb4_0l19) k ?_ ?_
  ·
   exact fun a W hA hW => ⟨g, (Gext.refl w0 g), 0, none, 0, ([] : List (Int × Bs × Bool × List Bs)), [], (#[] : Array MapEntry), 0, ([] : List Ent), ([] : List (Bs × DR)), hL5, hM4, hA.sub (by kernel_rfl), hW, hF⟩
  ·
   clear hF
   rintro k19 a W ⟨gl19, hxl19, x17l19, ayown5_0l19, cyown5_0l19, yown5_0l19, xsyown5_0l19, esyb4_0l19, ckyb4_0l19, Fyb4_0l19, yb4_0l19, hLyown5_0l19, hMyb4_0l19, hA, hW, hF⟩
   cases k19 with
   | zero => exact (hF : False).elim
   | succ k19 =>
    refine (?_ : Ok _ _ _ _ _ _) a W hA hW
    clear hA hW
    replace hRxops_0 := hRxops_0.mono hxl19.1
    replace hG0 := hG0.mono hxl19.1
    replace hG1 := hG1.mono hxl19.1
    replace hG2 := hG2.mono hxl19.1
    replace hG3 := hG3.mono hxl19.1
    replace hG4 := hG4.mono hxl19.1
    replace hG5 := hG5.mono hxl19.1
    refine Ok.seq (Ok.region (Ok.bat 1 [4, 5, 15, 16, 17] [(18, .bool (decide (x17l19 < (xops.length : Int))))] ?_))
    refine Ok.nil (Ok.thenN (Ok.seq (Ok.cond (b := decide (x17l19 < (xops.length : Int))) rfl (fun hc6 => ?_) (fun hc6 => ?_))))
    ·replace hF := hF.1 hc6
     refine Ok.skip (Ok.thenN (Ok.cut (fun a W => ∃ gj26 : Ghost, Gext w0 gl19 gj26 ∧ ∃ (ayown5_0j26 : Option Addr) (cyown5_0j26 : Nat) (yown5_0j26 : List (Int × Bs × Bool × List Bs)) (xsyown5_0j26 : List Value) (esyb4_0j26 : Array MapEntry) (ckyb4_0j26 : Nat) (Fyb4_0j26 : List Ent) (yb4_0j26 : List (Bs × DR)), RepL gj26 (.pair (.int .i64) (.pair (.str) (.pair (.bool) (.slice (.str))))) xsyown5_0j26 yown5_0j26 ∧ DrawPool gj26 esyb4_0j26.toList yb4_0j26 Fyb4_0j26 ∧ StA 53 [(4, .map (some b4)), (5, .slice ayown5_0j26 yown5_0j26.length cyown5_0j26), (15, .slice axops_0 xops.length cxops_0), (16, .int .i64 (xops.length : Int)), (17, .int .i64 x17l19)] a ∧ StW w0 ([.own (.slice ayown5_0j26 yown5_0j26.length cyown5_0j26) 30 4 yown5_0j26.length xsyown5_0j26, .blk b4 (.map esyb4_0j26 ckyb4_0j26)] ++ Fyb4_0j26) gj26 W ∧ srnj26 yown5_0j26 yb4_0j26 x17l19 (srnl19 xops K k19)) ?_ ?_))
     ·
      refine Ok.block (Ok.seq (Ok.region ?_))
      obtain ⟨h08, h18, hF⟩ := hF
      have he8 := get_of (l := xops) (default : Int × Bs × Bs × Bs) h18
      generalize hg8 : (xops.getD (Int.toNat x17l19) default) = e8 at he8 hF ⊢
      refine Ok.op rfl (OpOk.indexRo (e := .pair (.int .i64) (.pair (.str) (.pair (.str) (.str)))) (i := x17l19) (el := e8) rfl rfl Tryz.underlying22 (by kernel_rfl) hRxops_0 h08 he8 rfl fun q7 o7 cs7 _ hat7 hr7 => ?_)
      obtain ⟨_, _, rfl, rfl, ⟨_, _, rfl, rfl, ⟨_, _, rfl, rfl, rfl⟩⟩⟩ := hr7
      replace hat7 : At gl19 q7 o7 [.int .i64 e8.1, sv e8.2.1, sv e8.2.2.1, sv e8.2.2.2] := hat7
      refine Ok.op rfl (OpOk.step (v := .agg #[.int .i64 e8.1, sv e8.2.1, sv e8.2.2.1, sv e8.2.2.2]) (Yields.loadAggRo 0 4 #[.int .i64 e8.1, sv e8.2.1, sv e8.2.2.1, sv e8.2.2.2] hat7 (by kernel_rfl) Tryz.underlying36 rfl (by kernel_rfl) (by kernel_rfl) (by kernel_rfl)) rfl rfl (Ok.op rfl (OpOk.alloc (z := .agg #[.int .i64 0, sv ([] : Bs), sv ([] : Bs), sv ([] : Bs)]) (cs := #[.int .i64 0, sv ([] : Bs), sv ([] : Bs), sv ([] : Bs)]) (by kernel_rfl) (by kernel_rfl) rfl fun bs7 => ?_)))
      refine Ok.op rfl (OpOk.store (k := 4) (v := .agg #[.int .i64 e8.1, sv e8.2.1, sv e8.2.2.1, sv e8.2.2.2]) (H' := ([.blk bs7 (.cells #[.int .i64 e8.1, sv e8.2.1, sv e8.2.2.1, sv e8.2.2.2] 36), .own (.slice ayown5_0l19 yown5_0l19.length cyown5_0l19) 30 4 yown5_0l19.length xsyown5_0l19, .blk b4 (.map esyb4_0l19 ckyb4_0l19)] ++ Fyb4_0l19)) 0 rfl rfl rfl (by kernel_rfl) (by kernel_rfl) (by kernel_rfl) (by kernel_rfl) (by kernel_rfl) (Ok.nil (Ok.thenN (Ok.seq (Ok.region (Ok.bat 1 [4, 5, 15, 16, 17] [(7, pv bs7 0), (22, pv bs7 1)] ?_))))))
      refine Ok.op rfl (OpOk.step (v := sv e8.2.1) (Yields.load 0 rfl rfl Tryz.underlying9 rfl (by kernel_rfl)) rfl rfl (Ok.op rfl (OpOk.callG (v := .tuple #[sv ((OriS e8.2.1).1), .int .i64 (OriS e8.2.1).2]) enr (fun W hW => uOri_c e8.2.1 (hG0.mono hW.sees) (hG1.mono hW.sees) (hG2.mono hW.sees) (hG3.mono hW.sees) (hG4.mono hW.sees) (hG5.mono hW.sees)) rfl ?_)))
      refine Ok.bat 5 [4, 5, 7, 15, 16, 17] [(8, sv ((OriS e8.2.1).1)), (9, .int .i64 (OriS e8.2.1).2)] ?_
      refine Ok.nil (Ok.thenN (Ok.seq (Ok.seq (Ok.region (Ok.bat 2 [4, 5, 7, 8, 9, 15, 16, 17] [(28, .bool ((OriS e8.2.1).2 != 0))] ?_)))))
      refine Ok.nil (Ok.thenN (Ok.cond (b := ((OriS e8.2.1).2 != 0)) rfl (fun hc10 => ?_) (fun hc10 => ?_)))
      ·replace hF := hF.1 hc10
       refine Ok.seq (Ok.region (Ok.bat 3 [4, 15, 16, 17] [(29, .slice ayown5_0l19 yown5_0l19.length cyown5_0l19), (31, .agg #[.int .i64 (OriS e8.2.1).2, sv ([] : Bs), .bool false, .slice none 0 0])] ?_))
       have hL11 : RepL gl19 (.pair (.int .i64) (.pair (.str) (.pair (.bool) (.slice (.str))))) ([.int .i64 (OriS e8.2.1).2, sv ([] : Bs), .bool false, .slice none 0 0] : List Value) ([((OriS e8.2.1).2, ([] : Bs), false, [])] : List (Int × Bs × Bool × List Bs)) := (RepL.consN (c := [.int .i64 (OriS e8.2.1).2, sv ([] : Bs), .bool false, .slice none 0 0]) ⟨[.int .i64 (OriS e8.2.1).2], [sv ([] : Bs), .bool false, .slice none 0 0], rfl, rfl, ⟨[sv ([] : Bs)], [.bool false, .slice none 0 0], rfl, rfl, ⟨[.bool false], [.slice none 0 0], rfl, rfl, Rep.nil⟩⟩⟩ rfl)
       refine Ok.op rfl (OpOk.lit (E := 30) (.pair (.int .i64) (.pair (.str) (.pair (.bool) (.slice (.str))))) ([((OriS e8.2.1).2, ([] : Bs), false, [])] : List (Int × Bs × Bool × List Bs)) ([.int .i64 (OriS e8.2.1).2, sv ([] : Bs), .bool false, .slice none 0 0] : List Value) (by kernel_rfl) (by kernel_rfl) rfl (by kernel_rfl) hL11 rfl fun b11 => ?_)
       obtain ⟨hb12, hF⟩ := hF
       refine Ok.op rfl (OpOk.append' (e := .pair (.int .i64) (.pair (.str) (.pair (.bool) (.slice (.str))))) 56 2513169434916 2 0 rfl rfl rfl rfl hLyown5_0l19 hL11 Tryz.underlying23 (by kernel_rfl) (by kernel_rfl) (by kernel_rfl) hb12 rfl fun a12 c12 xs12 hL12 => ?_)
       refine Ok.bat 1 [4, 15, 16, 17] [(5, .slice a12 (yown5_0l19 ++ ([((OriS e8.2.1).2, ([] : Bs), false, [])] : List (Int × Bs × Bool × List Bs))).length c12)] ?_
       refine Ok.nil (Ok.thenN (Ok.exit (Ok.thenE (Ok.blockHit (Ok.thenN ?_)))))
       subst hg8
       exact fun a W hA hW => ⟨gl19, (Gext.refl w0 gl19), a12, c12, (yown5_0l19 ++ ([((OriS (xops.getD (Int.toNat x17l19) default).2.1).2, ([] : Bs), false, [])] : List (Int × Bs × Bool × List Bs))), xs12, esyb4_0l19, ckyb4_0l19, Fyb4_0l19, yb4_0l19, hL12, hMyb4_0l19, hA.sub (by kernel_rfl), hW.sub (.cons _ (.cons _ (.cons_cons _ (.cons_cons _ (List.Sublist.refl _))))), hF⟩
      ·replace hF := hF.2 hc10
       refine Ok.skip (Ok.thenN (Ok.seq (Ok.region (Ok.bat 2 [4, 5, 7, 8, 15, 16, 17] [(34, .map (some b4)), (35, sv ((OriS e8.2.1).1))] ?_))))
       rcases PoolIs.look (k := (OriS e8.2.1).1) keyStr DrawMon 0 hMyb4_0l19 with ⟨hn13, hf13⟩ | ⟨_, d13, b13, _, A13, B13, hf13, hn13, hT13, hX13, hO13⟩
       ·replace hF := hF.2 hn13
        refine Ok.op rfl (OpOk.poolNone keyStr 2 rfl hf13 rfl rfl Tryz.underlying34 Tryz.underlying9 (by kernel_rfl) rfl (Ok.bat 1 [4, 5, 7, 8, 15, 16, 17] [(10, .pointer none)] ?_))
        refine Ok.nil (Ok.thenN (Ok.seq (Ok.seq (Ok.region (Ok.bat 1 [4, 5, 7, 8, 10, 15, 16, 17] [(37, .pointer none)] ?_)))))
        refine Ok.op rfl (OpOk.step (v := .bool true) (Yields.eqPtrNil rfl rfl (by kernel_rfl) (by kernel_rfl) rfl) rfl rfl (Ok.nil (Ok.thenN (Ok.cond (b := true) rfl (fun _ => ?_) (fun h => by cases h)))))
        refine Ok.seq (Ok.region (Ok.op rfl (OpOk.makeMapA (.str) true (kt := (fun k : Bs => Value.string ⟨⟨k⟩⟩)) rfl fun b14 hM14 => ?_)))
        refine Ok.bat 1 [4, 5, 7, 8, 15, 16, 17] [(40, .agg #[.slice none 0 0, .map (some b14), .int .i64 0])] ?_
        have hL15 : RepL gl19 (.str) [] [] := rfl
        refine Ok.ownNil 9 1 (Ok.op rfl (OpOk.box (v := .agg #[.slice none ([] : List Bs).length 0, .map (some b14), .int .i64 0]) (cs := #[.slice none ([] : List Bs).length 0, .map (some b14), .int .i64 0]) rfl (by kernel_rfl) rfl fun bs41 => ?_))
        refine Ok.bat 1 [4, 5, 7, 8, 15, 16, 17] [(10, pv bs41 0)] ?_
        refine Ok.nil (Ok.thenN (Ok.region (Ok.bat 3 [4, 5, 7, 10, 15, 16, 17] [(42, .map (some b4)), (43, sv ((OriS e8.2.1).1)), (44, pv bs41 0)] ?_)))
        refine Ok.op rfl (OpOk.poolPut (k := (OriS e8.2.1).1) (b2 := bs41) keyStr DrawMon 5 rfl hMyb4_0l19 hn13 hf13 rfl rfl rfl Tryz.underlying34 Tryz.underlying9 fun es17 ck17 hM17 => ?_)
        refine Ok.tailSnoc [.blk bs41 (.cells #[.slice none ([] : List Bs).length 0, .map (some b14), .int .i64 0] 42), .own (.slice none ([] : List Bs).length 0) 9 1 ([] : List Bs).length ([]), .blk b14 (.map (#[] : Array MapEntry) 0), .blk bs7 (.cells #[.int .i64 e8.1, sv e8.2.1, sv e8.2.2.1, sv e8.2.2.2] 36), .own (.slice ayown5_0l19 yown5_0l19.length cyown5_0l19) 30 4 yown5_0l19.length xsyown5_0l19, .blk b4 (.map es17 ck17)] (Ok.nil (Ok.thenN (Ok.region (Ok.batch 2 [(4, .map (some b4)), (7, pv bs7 0), (15, .slice axops_0 xops.length cxops_0), (16, .int .i64 (xops.length : Int)), (17, .int .i64 x17l19), (45, .slice ayown5_0l19 yown5_0l19.length cyown5_0l19), (46, pv bs41 0)] (by kernel_rfl) (Ok.op rfl (OpOk.step (v := .agg #[.int .i64 e8.1, sv e8.2.1, sv e8.2.2.1, sv e8.2.2.2]) (Yields.loadAgg 3 4 #[.int .i64 e8.1, sv e8.2.1, sv e8.2.2.1, sv e8.2.2.2] rfl rfl Tryz.underlying36 rfl (by kernel_rfl) (by kernel_rfl) (by kernel_rfl)) rfl rfl ?_))))))
        obtain ⟨hp18, hF⟩ := hF
        refine Ok.op rfl (OpOk.callH [.blk bs41 (.cells #[.slice none ([] : List Bs).length 0, .map (some b14), .int .i64 0] 42), .own (.slice none ([] : List Bs).length 0) 9 1 ([] : List Bs).length ([]), .blk b14 (.map (#[] : Array MapEntry) 0)] ([.blk bs7 (.cells #[.int .i64 e8.1, sv e8.2.1, sv e8.2.2.1, sv e8.2.2.2] 36), .own (.slice ayown5_0l19 yown5_0l19.length cyown5_0l19) 30 4 yown5_0l19.length xsyown5_0l19, .blk b4 (.map es17 ck17)] ++ (Fyb4_0l19 ++ ([] : List Ent))) enr rfl (ddo_c (([] : List Bs), ([] : List (Bs × Bs)), 0) e8 hL15 hM14 hp18) rfl fun g19 _ _ hx19 hV19 => ?_)
        obtain ⟨a19_0, c19_0, a19_2, c19_2, xs19_2, es19_5, ck19_5, rfl, hR19_0, hL19_2, hM19_5, rfl⟩ := hV19
        replace hRxops_0 := hRxops_0.mono hx19.1
        replace hLyown5_0l19 := hLyown5_0l19.mono hx19.1
        replace hM17 := hM17.mono hx19.1
        replace hG0 := hG0.mono hx19.1
        replace hG1 := hG1.mono hx19.1
        replace hG2 := hG2.mono hx19.1
        replace hG3 := hG3.mono hx19.1
        replace hG4 := hG4.mono hx19.1
        replace hG5 := hG5.mono hx19.1
        obtain ⟨F20, hT20, hM20⟩ : ∃ F : List Ent, F = Fyb4_0l19 ++ ([.blk bs41 (.cells #[.slice a19_2 (ddoS (([] : List Bs), ([] : List (Bs × Bs)), 0) e8).2.1.length c19_2, .map (some b14), .int .i64 (ddoS (([] : List Bs), ([] : List (Bs × Bs)), 0) e8).2.2.2] 42), .own (.slice a19_2 (ddoS (([] : List Bs), ([] : List (Bs × Bs)), 0) e8).2.1.length c19_2) 9 1 (ddoS (([] : List Bs), ([] : List (Bs × Bs)), 0) e8).2.1.length xs19_2, .blk b14 (.map es19_5 ck19_5)] ++ ([] : List Ent)) ∧ DrawPool g19 es17.toList (putK (OriS e8.2.1).1 (ddoS (([] : List Bs), ([] : List (Bs × Bs)), 0) e8).2 yb4_0l19) F := ⟨_, rfl, hM17 _ _ _ (Gle.refl _) ⟨_, _, _, _, _, _, rfl, hL19_2, hM19_5⟩⟩
        refine Ok.poolShut (Q0 := [.blk bs7 (.cells #[.int .i64 e8.1, sv e8.2.1, sv e8.2.2.1, sv e8.2.2.2] 36), .own (.slice ayown5_0l19 yown5_0l19.length cyown5_0l19) 30 4 yown5_0l19.length xsyown5_0l19, .blk b4 (.map es17 ck17)]) (X := [.blk bs41 (.cells #[.slice a19_2 (ddoS (([] : List Bs), ([] : List (Bs × Bs)), 0) e8).2.1.length c19_2, .map (some b14), .int .i64 (ddoS (([] : List Bs), ([] : List (Bs × Bs)), 0) e8).2.2.2] 42), .own (.slice a19_2 (ddoS (([] : List Bs), ([] : List (Bs × Bs)), 0) e8).2.1.length c19_2) 9 1 (ddoS (([] : List Bs), ([] : List (Bs × Bs)), 0) e8).2.1.length xs19_2, .blk b14 (.map es19_5 ck19_5)]) hT20 ?_
        have hL21 : RepL g19 (.pair (.int .i64) (.pair (.str) (.pair (.bool) (.slice (.str))))) ([.int .i64 (ddoS (([] : List Bs), ([] : List (Bs × Bs)), 0) e8).1.1, sv ((ddoS (([] : List Bs), ([] : List (Bs × Bs)), 0) e8).1.2.1), .bool (ddoS (([] : List Bs), ([] : List (Bs × Bs)), 0) e8).1.2.2.1, .slice a19_0 (ddoS (([] : List Bs), ([] : List (Bs × Bs)), 0) e8).1.2.2.2.length c19_0] : List Value) ([(ddoS (([] : List Bs), ([] : List (Bs × Bs)), 0) e8).1] : List (Int × Bs × Bool × List Bs)) := (RepL.consN (c := [.int .i64 (ddoS (([] : List Bs), ([] : List (Bs × Bs)), 0) e8).1.1, sv ((ddoS (([] : List Bs), ([] : List (Bs × Bs)), 0) e8).1.2.1), .bool (ddoS (([] : List Bs), ([] : List (Bs × Bs)), 0) e8).1.2.2.1, .slice a19_0 (ddoS (([] : List Bs), ([] : List (Bs × Bs)), 0) e8).1.2.2.2.length c19_0]) ⟨[.int .i64 (ddoS (([] : List Bs), ([] : List (Bs × Bs)), 0) e8).1.1], [sv ((ddoS (([] : List Bs), ([] : List (Bs × Bs)), 0) e8).1.2.1), .bool (ddoS (([] : List Bs), ([] : List (Bs × Bs)), 0) e8).1.2.2.1, .slice a19_0 (ddoS (([] : List Bs), ([] : List (Bs × Bs)), 0) e8).1.2.2.2.length c19_0], rfl, rfl, ⟨[sv ((ddoS (([] : List Bs), ([] : List (Bs × Bs)), 0) e8).1.2.1)], [.bool (ddoS (([] : List Bs), ([] : List (Bs × Bs)), 0) e8).1.2.2.1, .slice a19_0 (ddoS (([] : List Bs), ([] : List (Bs × Bs)), 0) e8).1.2.2.2.length c19_0], rfl, rfl, ⟨[.bool (ddoS (([] : List Bs), ([] : List (Bs × Bs)), 0) e8).1.2.2.1], [.slice a19_0 (ddoS (([] : List Bs), ([] : List (Bs × Bs)), 0) e8).1.2.2.2.length c19_0], rfl, rfl, hR19_0⟩⟩⟩ rfl)
        refine Ok.op rfl (OpOk.lit (E := 30) (.pair (.int .i64) (.pair (.str) (.pair (.bool) (.slice (.str))))) ([(ddoS (([] : List Bs), ([] : List (Bs × Bs)), 0) e8).1] : List (Int × Bs × Bool × List Bs)) ([.int .i64 (ddoS (([] : List Bs), ([] : List (Bs × Bs)), 0) e8).1.1, sv ((ddoS (([] : List Bs), ([] : List (Bs × Bs)), 0) e8).1.2.1), .bool (ddoS (([] : List Bs), ([] : List (Bs × Bs)), 0) e8).1.2.2.1, .slice a19_0 (ddoS (([] : List Bs), ([] : List (Bs × Bs)), 0) e8).1.2.2.2.length c19_0] : List Value) (by kernel_rfl) (by kernel_rfl) rfl (by kernel_rfl) hL21 rfl fun b21 => ?_)
        obtain ⟨hb22, hF⟩ := hF
        refine Ok.op rfl (OpOk.append' (e := .pair (.int .i64) (.pair (.str) (.pair (.bool) (.slice (.str))))) 56 2513169434916 2 0 rfl rfl rfl rfl hLyown5_0l19 hL21 Tryz.underlying23 (by kernel_rfl) (by kernel_rfl) (by kernel_rfl) hb22 rfl fun a22 c22 xs22 hL22 => ?_)
        refine Ok.batch 1 [(4, .map (some b4)), (5, .slice a22 (yown5_0l19 ++ ([(ddoS (([] : List Bs), ([] : List (Bs × Bs)), 0) e8).1] : List (Int × Bs × Bool × List Bs))).length c22), (15, .slice axops_0 xops.length cxops_0), (16, .int .i64 (xops.length : Int)), (17, .int .i64 x17l19)] (by kernel_rfl) (Ok.nil (Ok.blockN (Ok.thenN ?_)))
        subst hg8
        exact fun a W hA hW => ⟨g19, hx19, a22, c22, (yown5_0l19 ++ ([(ddoS (([] : List Bs), ([] : List (Bs × Bs)), 0) (xops.getD (Int.toNat x17l19) default)).1] : List (Int × Bs × Bool × List Bs))), xs22, es17, ck17, F20, (putK (OriS (xops.getD (Int.toNat x17l19) default).2.1).1 (ddoS (([] : List Bs), ([] : List (Bs × Bs)), 0) (xops.getD (Int.toNat x17l19) default)).2 yb4_0l19), hL22, hM20, hA.sub (by kernel_rfl), hW.sub (.cons _ (.cons _ (.cons_cons _ (.cons_cons _ (List.Sublist.refl _))))), hF⟩
       ·replace hF := hF.1 d13 hn13
        obtain ⟨a13_0, c13_0, xs13_0, bm13_1, es13_1, ck13_1, rfl, hL13_0, hM13_1⟩ := hX13
        refine Ok.op rfl (OpOk.poolSome (b2 := b13) keyStr 2 rfl hf13 rfl rfl Tryz.underlying34 Tryz.underlying9 rfl (Ok.poolTake (Q0 := [.blk bs7 (.cells #[.int .i64 e8.1, sv e8.2.1, sv e8.2.2.1, sv e8.2.2.2] 36), .own (.slice ayown5_0l19 yown5_0l19.length cyown5_0l19) 30 4 yown5_0l19.length xsyown5_0l19, .blk b4 (.map esyb4_0l19 ckyb4_0l19)]) hT13 (Ok.batch 1 [(4, .map (some b4)), (5, .slice ayown5_0l19 yown5_0l19.length cyown5_0l19), (7, pv bs7 0), (8, sv ((OriS e8.2.1).1)), (10, pv b13 0), (15, .slice axops_0 xops.length cxops_0), (16, .int .i64 (xops.length : Int)), (17, .int .i64 x17l19)] (by kernel_rfl) (Ok.nil (Ok.thenN (Ok.seq (Ok.seq (Ok.region (Ok.bat 1 [4, 5, 7, 8, 10, 15, 16, 17] [(37, pv b13 0)] ?_)))))))))
        refine Ok.op rfl (OpOk.step (v := .bool false) (Yields.eqPtrNil rfl rfl (by kernel_rfl) (by kernel_rfl) rfl) rfl rfl (Ok.nil (Ok.thenN (Ok.cond (b := false) rfl (fun h => by cases h) (fun _ => ?_)))))
        refine Ok.skip (Ok.thenN (Ok.region (Ok.bat 2 [4, 7, 15, 16, 17] [(45, .slice ayown5_0l19 yown5_0l19.length cyown5_0l19), (46, pv b13 0)] ?_)))
        refine Ok.op rfl (OpOk.step (v := .agg #[.int .i64 e8.1, sv e8.2.1, sv e8.2.2.1, sv e8.2.2.2]) (Yields.loadAgg 3 4 #[.int .i64 e8.1, sv e8.2.1, sv e8.2.2.1, sv e8.2.2.2] rfl rfl Tryz.underlying36 rfl (by kernel_rfl) (by kernel_rfl) (by kernel_rfl)) rfl rfl ?_)
        obtain ⟨hp23, hF⟩ := hF
        refine Ok.op rfl (OpOk.callH [.blk b13 (.cells #[.slice a13_0 d13.1.length c13_0, .map (some bm13_1), .int .i64 d13.2.2] 42), .own (.slice a13_0 d13.1.length c13_0) 9 1 d13.1.length xs13_0, .blk bm13_1 (.map es13_1 ck13_1)] ([.blk bs7 (.cells #[.int .i64 e8.1, sv e8.2.1, sv e8.2.2.1, sv e8.2.2.2] 36), .own (.slice ayown5_0l19 yown5_0l19.length cyown5_0l19) 30 4 yown5_0l19.length xsyown5_0l19, .blk b4 (.map esyb4_0l19 ckyb4_0l19)] ++ (A13 ++ B13)) enr rfl (ddo_c d13 e8 hL13_0 hM13_1 hp23) rfl fun g24 _ _ hx24 hV24 => ?_)
        obtain ⟨a24_0, c24_0, a24_2, c24_2, xs24_2, es24_5, ck24_5, rfl, hR24_0, hL24_2, hM24_5, rfl⟩ := hV24
        replace hRxops_0 := hRxops_0.mono hx24.1
        replace hLyown5_0l19 := hLyown5_0l19.mono hx24.1
        replace hO13 := hO13.mono hx24.1
        replace hG0 := hG0.mono hx24.1
        replace hG1 := hG1.mono hx24.1
        replace hG2 := hG2.mono hx24.1
        replace hG3 := hG3.mono hx24.1
        replace hG4 := hG4.mono hx24.1
        replace hG5 := hG5.mono hx24.1
        obtain ⟨F25, hT25, hM25⟩ : ∃ F : List Ent, F = A13 ++ ([.blk b13 (.cells #[.slice a24_2 (ddoS d13 e8).2.1.length c24_2, .map (some bm13_1), .int .i64 (ddoS d13 e8).2.2.2] 42), .own (.slice a24_2 (ddoS d13 e8).2.1.length c24_2) 9 1 (ddoS d13 e8).2.1.length xs24_2, .blk bm13_1 (.map es24_5 ck24_5)] ++ B13) ∧ DrawPool g24 esyb4_0l19.toList (putK (OriS e8.2.1).1 (ddoS d13 e8).2 yb4_0l19) F := ⟨_, rfl, hO13 _ _ _ (Gle.refl _) ⟨_, _, _, _, _, _, rfl, hL24_2, hM24_5⟩⟩
        refine Ok.poolShut (Q0 := [.blk bs7 (.cells #[.int .i64 e8.1, sv e8.2.1, sv e8.2.2.1, sv e8.2.2.2] 36), .own (.slice ayown5_0l19 yown5_0l19.length cyown5_0l19) 30 4 yown5_0l19.length xsyown5_0l19, .blk b4 (.map esyb4_0l19 ckyb4_0l19)]) (X := [.blk b13 (.cells #[.slice a24_2 (ddoS d13 e8).2.1.length c24_2, .map (some bm13_1), .int .i64 (ddoS d13 e8).2.2.2] 42), .own (.slice a24_2 (ddoS d13 e8).2.1.length c24_2) 9 1 (ddoS d13 e8).2.1.length xs24_2, .blk bm13_1 (.map es24_5 ck24_5)]) hT25 ?_
        have hL26 : RepL g24 (.pair (.int .i64) (.pair (.str) (.pair (.bool) (.slice (.str))))) ([.int .i64 (ddoS d13 e8).1.1, sv ((ddoS d13 e8).1.2.1), .bool (ddoS d13 e8).1.2.2.1, .slice a24_0 (ddoS d13 e8).1.2.2.2.length c24_0] : List Value) ([(ddoS d13 e8).1] : List (Int × Bs × Bool × List Bs)) := (RepL.consN (c := [.int .i64 (ddoS d13 e8).1.1, sv ((ddoS d13 e8).1.2.1), .bool (ddoS d13 e8).1.2.2.1, .slice a24_0 (ddoS d13 e8).1.2.2.2.length c24_0]) ⟨[.int .i64 (ddoS d13 e8).1.1], [sv ((ddoS d13 e8).1.2.1), .bool (ddoS d13 e8).1.2.2.1, .slice a24_0 (ddoS d13 e8).1.2.2.2.length c24_0], rfl, rfl, ⟨[sv ((ddoS d13 e8).1.2.1)], [.bool (ddoS d13 e8).1.2.2.1, .slice a24_0 (ddoS d13 e8).1.2.2.2.length c24_0], rfl, rfl, ⟨[.bool (ddoS d13 e8).1.2.2.1], [.slice a24_0 (ddoS d13 e8).1.2.2.2.length c24_0], rfl, rfl, hR24_0⟩⟩⟩ rfl)
        refine Ok.op rfl (OpOk.lit (E := 30) (.pair (.int .i64) (.pair (.str) (.pair (.bool) (.slice (.str))))) ([(ddoS d13 e8).1] : List (Int × Bs × Bool × List Bs)) ([.int .i64 (ddoS d13 e8).1.1, sv ((ddoS d13 e8).1.2.1), .bool (ddoS d13 e8).1.2.2.1, .slice a24_0 (ddoS d13 e8).1.2.2.2.length c24_0] : List Value) (by kernel_rfl) (by kernel_rfl) rfl (by kernel_rfl) hL26 rfl fun b26 => ?_)
        obtain ⟨hb27, hF⟩ := hF
        refine Ok.op rfl (OpOk.append' (e := .pair (.int .i64) (.pair (.str) (.pair (.bool) (.slice (.str))))) 56 2513169434916 2 0 rfl rfl rfl rfl hLyown5_0l19 hL26 Tryz.underlying23 (by kernel_rfl) (by kernel_rfl) (by kernel_rfl) hb27 rfl fun a27 c27 xs27 hL27 => ?_)
        refine Ok.batch 1 [(4, .map (some b4)), (5, .slice a27 (yown5_0l19 ++ ([(ddoS d13 e8).1] : List (Int × Bs × Bool × List Bs))).length c27), (15, .slice axops_0 xops.length cxops_0), (16, .int .i64 (xops.length : Int)), (17, .int .i64 x17l19)] (by kernel_rfl) (Ok.nil (Ok.blockN (Ok.thenN ?_)))
        subst hg8
        exact fun a W hA hW => ⟨g24, hx24, a27, c27, (yown5_0l19 ++ ([(ddoS d13 (xops.getD (Int.toNat x17l19) default)).1] : List (Int × Bs × Bool × List Bs))), xs27, esyb4_0l19, ckyb4_0l19, F25, (putK (OriS (xops.getD (Int.toNat x17l19) default).2.1).1 (ddoS d13 (xops.getD (Int.toNat x17l19) default)).2 yb4_0l19), hL27, hM25, hA.sub (by kernel_rfl), hW.sub (.cons _ (.cons _ (.cons_cons _ (.cons_cons _ (List.Sublist.refl _))))), hF⟩
     ·
      clear hF
      rintro a W ⟨gj26, hxj26, ayown5_0j26, cyown5_0j26, yown5_0j26, xsyown5_0j26, esyb4_0j26, ckyb4_0j26, Fyb4_0j26, yb4_0j26, hLyown5_0j26, hMyb4_0j26, hA, hW, hF⟩
      refine (?_ : Ok _ _ _ _ _ _) a W hA hW
      clear hA hW
      replace hRxops_0 := hRxops_0.mono hxj26.1
      replace hG0 := hG0.mono hxj26.1
      replace hG1 := hG1.mono hxj26.1
      replace hG2 := hG2.mono hxj26.1
      replace hG3 := hG3.mono hxj26.1
      replace hG4 := hG4.mono hxj26.1
      replace hG5 := hG5.mono hxj26.1
      refine Ok.region (Ok.bat 2 [4, 5, 15, 16] [(17, .int .i64 (w6 (x17l19 + 1)))] ?_)
      refine Ok.nil (Ok.thenN ?_)
      exact fun a W hA hW => ⟨k19, Nat.lt_succ_self _, gj26, (hxl19.trans hxj26), w6 (x17l19 + 1), ayown5_0j26, cyown5_0j26, yown5_0j26, xsyown5_0j26, esyb4_0j26, ckyb4_0j26, Fyb4_0j26, yb4_0j26, hLyown5_0j26, hMyb4_0j26, hA.sub (by kernel_rfl), hW, hF⟩
    ·replace hF := hF.2 hc6
     refine Ok.exit (Ok.thenE (Ok.thenE (Ok.blockHit (Ok.thenN (Ok.seq (Ok.region (Ok.batch 3 [(2, .slice ayown5_0l19 yown5_0l19.length cyown5_0l19), (3, .int .i64 0)] (by kernel_rfl) (Ok.nil (Ok.thenN (Ok.ret (Ok.frz 0 rfl hLyown5_0l19 fun g28 hx28 hRf28 => ?_)))))))))))
     replace hMyb4_0l19 := hMyb4_0l19.mono hx28.1
     replace hG0 := hG0.mono hx28.1
     replace hG1 := hG1.mono hx28.1
     replace hG2 := hG2.mono hx28.1
     replace hG3 := hG3.mono hx28.1
     replace hG4 := hG4.mono hx28.1
     replace hG5 := hG5.mono hx28.1
     exact Ok.resP (vs := [.slice ayown5_0l19 yown5_0l19.length cyown5_0l19, .int .i64 0]) [] [] (by decide) rfl (.inl rfl) rfl (.cons (.tmp rfl) (.cons (.tmp rfl) .nil)) (hxl19.trans hx28) ⟨yown5_0l19, 0, ayown5_0l19, cyown5_0l19, rfl, hRf28, rfl, hF⟩
end
end Go.Proofs.YtdjcgbejnpbjlaaGreatDoor.Sd
