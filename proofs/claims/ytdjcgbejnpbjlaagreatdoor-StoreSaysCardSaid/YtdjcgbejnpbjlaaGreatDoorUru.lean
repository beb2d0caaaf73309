/- Addresses: the reference's Tidied, segmentsOf, TailOf, OriginOf, SameUrl. -/
import Derived.Test.YtdjcgbejnpbjlaaGreatDoorUrs
namespace Go.Proofs.YtdjcgbejnpbjlaaGreatDoor.Ub
open Go Go.Eng Go.RowKit Go.Shelf Go.Proofs Bld Sp Ti Uc Ua Ui
set_option maxHeartbeats 4000000
set_option maxRecDepth 100000
set_option linter.unusedSimpArgs false
set_option linter.unusedVariables false
noncomputable section
/-! Tidied -/
def rtidV0 (e4 : Bs) : Bool :=
 ((!(e4 == ([46] : Bs))) && (!(e4 == ([46, 46] : Bs))))
def rtidV3 (xl : List Bs) (yown1_0l9 : List Bs) : Bool :=
 (if (decide ((xl.length : Int) > 0)) = true then (((xl.getD (Int.toNat (w6 ((xl.length : Int) - 1))) default) == ([46] : Bs)) || (((xl.getD (Int.toNat (w6 ((xl.length : Int) - 1))) default) == ([46, 46] : Bs)) || ((yown1_0l9.length : Int) == 0))) else ((yown1_0l9.length : Int) == 0))
def rtidV4 (xl : List Bs) (yown1_0l9 : List Bs) : List Bs :=
 (if (rtidV3 xl yown1_0l9) = true then (yown1_0l9 ++ ([([] : Bs)] : List Bs)) else yown1_0l9)
def rtidV5 (xl : List Bs) (x8l9 : Int) (yown1_0l9 : List Bs) : List Bs :=
 (if (((xl.getD (Int.toNat x8l9) default) == ([46, 46] : Bs)) && (decide ((yown1_0l9.length : Int) > 0))) = true then (yown1_0l9.take (Int.toNat (w6 ((yown1_0l9.length : Int) - 1)))) else (if (rtidV0 (xl.getD (Int.toNat x8l9) default)) = true then (yown1_0l9 ++ ([(xl.getD (Int.toNat x8l9) default)] : List Bs)) else yown1_0l9))
def rtidj16 (xl : List Bs) (x8l9 : Int) (yown1_0l9 : List Bs) (C9 : Int → (List Bs) → Prop) : Prop :=
 C9 (w6 (x8l9 + 1)) (rtidV5 xl x8l9 yown1_0l9)
def rtidj25 (xl : List Bs) (e4 : Bs) (x8l9 : Int) (yown1_0l9 : List Bs) (C9 : Int → (List Bs) → Prop) : Prop :=
 (((rtidV0 e4)) = true → (yown1_0l9 ++ ([e4] : List Bs)).length ≤ 8796093022208 ∧ rtidj16 xl x8l9 yown1_0l9 C9) ∧ (((rtidV0 e4)) = false → rtidj16 xl x8l9 yown1_0l9 C9)
def rtidj31 (xl : List Bs) (K : (List Bs) → Prop) (yown1_0l9 : List Bs) : Prop :=
 K (rtidV4 xl yown1_0l9)
def rtidj32 (xl : List Bs) (K : (List Bs) → Prop) (yown1_0l9 : List Bs) : Prop :=
 (((rtidV3 xl yown1_0l9)) = true → (yown1_0l9 ++ ([([] : Bs)] : List Bs)).length ≤ 8796093022208 ∧ rtidj31 xl K yown1_0l9) ∧ (((rtidV3 xl yown1_0l9)) = false → rtidj31 xl K yown1_0l9)
def rtidl9b (xl : List Bs) (K : (List Bs) → Prop) (x8l9 : Int) (yown1_0l9 : List Bs) (C9 : Int → (List Bs) → Prop) : Prop :=
 ((decide (x8l9 < (xl.length : Int))) = true → (0 : Int) ≤ x8l9 ∧ Int.toNat x8l9 < xl.length ∧ (((((xl.getD (Int.toNat x8l9) default) == ([46, 46] : Bs)) && (decide ((yown1_0l9.length : Int) > 0)))) = true → (0 : Int) ≤ (w6 ((yown1_0l9.length : Int) - 1)) ∧ (w6 ((yown1_0l9.length : Int) - 1)) ≤ (yown1_0l9.length : Int) ∧ rtidj16 xl x8l9 yown1_0l9 C9) ∧ (((((xl.getD (Int.toNat x8l9) default) == ([46, 46] : Bs)) && (decide ((yown1_0l9.length : Int) > 0)))) = false → ((!((xl.getD (Int.toNat x8l9) default) == ([46] : Bs))) = true → rtidj25 xl (xl.getD (Int.toNat x8l9) default) x8l9 yown1_0l9 C9) ∧ ((!((xl.getD (Int.toNat x8l9) default) == ([46] : Bs))) = false → rtidj25 xl (xl.getD (Int.toNat x8l9) default) x8l9 yown1_0l9 C9))) ∧ ((decide (x8l9 < (xl.length : Int))) = false → ((decide ((xl.length : Int) > 0)) = true → (0 : Int) ≤ (w6 ((xl.length : Int) - 1)) ∧ Int.toNat (w6 ((xl.length : Int) - 1)) < xl.length ∧ ((((xl.getD (Int.toNat (w6 ((xl.length : Int) - 1))) default) == ([46] : Bs))) = true → rtidj32 xl K yown1_0l9) ∧ ((((xl.getD (Int.toNat (w6 ((xl.length : Int) - 1))) default) == ([46] : Bs))) = false → rtidj32 xl K yown1_0l9)) ∧ ((decide ((xl.length : Int) > 0)) = false → rtidj32 xl K yown1_0l9))
def rtidl9 (xl : List Bs) (K : (List Bs) → Prop) : Nat → Int → (List Bs) → Prop
 | 0, _, _ => False
 | k + 1, x8l9, yown1_0l9 => rtidl9b xl K x8l9 yown1_0l9 (rtidl9 xl K k)
def rtidF (xl : List Bs) (K : (List Bs) → Prop) : Prop :=
 ∃ k, rtidl9 xl K k 0 ([] : List Bs)
theorem rtid_ok {g : Ghost} {axl_0 : Option Addr} {cxl_0 : Nat} (xl : List Bs) (hRxl_0 : Rep g (.slice (.str)) [.slice axl_0 xl.length cxl_0] xl) (K : (List Bs) → Prop)
  (hF : rtidF xl K) : CallsH Tryz.prog 35 #[.slice axl_0 xl.length cxl_0] g [] (fun g' H' v => ∃ (r0 : List Bs), ∃ (ar0_0 : Option Addr) (cr0_0 : Nat), v = .slice ar0_0 r0.length cr0_0 ∧ Rep g' (.slice (.str)) [.slice ar0_0 r0.length cr0_0] r0 ∧ H' = [] ∧ K r0) := by
 refine CallsH.enter 67 [(0, .slice axl_0 xl.length cxl_0)] Tryz.func35 rfl (by kernel_rfl) (by kernel_rfl) (by kernel_rfl) fun w0 => ?_
 refine Ok.seq (Ok.region (Ok.batch 1 [(0, .slice axl_0 xl.length cxl_0)] (by kernel_rfl) (Ok.nil (Ok.thenN (Ok.seq (Ok.region (Ok.bat 1 [0] [(3, .slice none 0 0)] ?_)))))))
 have hL1 : RepL g (.str) [] [] := rfl
 refine Ok.ownNil 9 1 (Ok.nil (Ok.thenN (Ok.seq (Ok.seq (Ok.region (Ok.bat 3 [0] [(3, .slice none ([] : List Bs).length 0), (6, .slice axl_0 xl.length cxl_0), (7, .int .i64 (xl.length : Int)), (8, .int .i64 0)] ?_))))))
 refine Ok.nil (Ok.thenN (Ok.block ?_))
 obtain ⟨k, hF⟩ := hF
 refine Ok.loop (fun k a W => ∃ gl9 : Ghost, Gext w0 g gl9 ∧ ∃ (x8l9 : Int) (ayown1_0l9 : Option Addr) (cyown1_0l9 : Nat) (yown1_0l9 : List Bs) (xsyown1_0l9 : List Value), RepL gl9 (.str) xsyown1_0l9 yown1_0l9 ∧ StA 67 [(0, .slice axl_0 xl.length cxl_0), (3, .slice ayown1_0l9 yown1_0l9.length cyown1_0l9), (6, .slice axl_0 xl.length cxl_0), (7, .int .i64 (xl.length : Int)), (8, .int .i64 x8l9)] a ∧ StW w0 [.own (.slice ayown1_0l9 yown1_0l9.length cyown1_0l9) 9 1 yown1_0l9.length xsyown1_0l9] gl9 W ∧ rtidl9 xl K k x8l9 yown1_0l9) k ?_ ?_
 ·
  exact fun a W hA hW => ⟨g, (Gext.refl w0 g), 0, none, 0, ([] : List Bs), [], hL1, hA.sub (by kernel_rfl), hW, hF⟩
 ·
  clear hF
  rintro k9 a W ⟨gl9, hxl9, x8l9, ayown1_0l9, cyown1_0l9, yown1_0l9, xsyown1_0l9, hLyown1_0l9, hA, hW, hF⟩
  cases k9 with
  | zero => exact (hF : False).elim
  | succ k9 =>
   refine (?_ : Ok _ _ _ _ _ _) a W hA hW
   clear hA hW
   replace hRxl_0 := hRxl_0.mono hxl9.1
   refine Ok.seq (Ok.region (Ok.bat 1 [0, 3, 6, 7, 8] [(9, .bool (decide (x8l9 < (xl.length : Int))))] ?_))
   refine Ok.nil (Ok.thenN (Ok.seq (Ok.cond (b := decide (x8l9 < (xl.length : Int))) rfl (fun hc2 => ?_) (fun hc2 => ?_))))
   ·replace hF := hF.1 hc2
    refine Ok.skip (Ok.thenN (Ok.cut (fun a W => ∃ gj16 : Ghost, Gext w0 gl9 gj16 ∧ ∃ (ayown1_0j16 : Option Addr) (cyown1_0j16 : Nat) (xsyown1_0j16 : List Value), RepL gj16 (.str) xsyown1_0j16 (rtidV5 xl x8l9 yown1_0l9) ∧ StA 67 [(0, .slice axl_0 xl.length cxl_0), (3, .slice ayown1_0j16 (rtidV5 xl x8l9 yown1_0l9).length cyown1_0j16), (6, .slice axl_0 xl.length cxl_0), (7, .int .i64 (xl.length : Int)), (8, .int .i64 x8l9)] a ∧ StW w0 [.own (.slice ayown1_0j16 (rtidV5 xl x8l9 yown1_0l9).length cyown1_0j16) 9 1 (rtidV5 xl x8l9 yown1_0l9).length xsyown1_0j16] gj16 W ∧ rtidj16 xl x8l9 yown1_0l9 (rtidl9 xl K k9)) ?_ ?_))
    ·
     refine Ok.block (Ok.seq (Ok.region ?_))
     obtain ⟨h04, h14, hF⟩ := hF
     have he4 := get_of (l := xl) (default : Bs) h14
     generalize hg4 : (xl.getD (Int.toNat x8l9) default) = e4 at he4 hF ⊢
     refine Ok.op rfl (OpOk.indexRo (e := .str) (i := x8l9) (el := e4) rfl rfl Tryz.underlying28 (by kernel_rfl) hRxl_0 h04 he4 rfl fun q3 o3 cs3 _ hat3 hr3 => ?_)
     obtain rfl := hr3
     replace hat3 : At gl9 q3 o3 [sv e4] := hat3
     refine Ok.op rfl (OpOk.step (v := sv e4) (Yields.loadRo 0 hat3 (by kernel_rfl) Tryz.underlying9 rfl (by kernel_rfl)) rfl rfl (Ok.bat 1 [0, 3, 6, 7, 8] [(5, sv e4)] ?_))
     refine Ok.nil (Ok.thenN (Ok.block (Ok.seq (Ok.region (Ok.bat 1 [0, 3, 5, 6, 7, 8] [(13, sv e4)] ?_)))))
     refine Ok.op rfl (OpOk.step (v := .bool (e4 == ([46, 46] : Bs))) (Yields.strCmp (f := .eql) (a := e4) (b := ([46, 46] : Bs)) (by kernel_rfl) (by kernel_rfl) rfl) rfl rfl (Ok.bat 1 [0, 3, 5, 6, 7, 8] [(15, .bool (e4 == ([46, 46] : Bs)))] ?_))
     refine Ok.midway 4 [(0, .slice axl_0 xl.length cxl_0), (3, .slice ayown1_0l9 yown1_0l9.length cyown1_0l9), (5, sv e4), (6, .slice axl_0 xl.length cxl_0), (7, .int .i64 (xl.length : Int)), (8, .int .i64 x8l9), (19, .bool ((e4 == ([46, 46] : Bs)) && (decide ((yown1_0l9.length : Int) > 0))))] (fun hR5 => ?_) ?_
     ·refine Ok.boolAt 15 ((e4 == ([46, 46] : Bs))) rfl (fun hc6 => ?_) (fun hc6 => ?_)
      ·skip
       refine Ok.bat 4 [0, 3, 5, 6, 7, 8] [(19, .bool (decide ((yown1_0l9.length : Int) > 0)))] ?_
       refine Ok.reval 19 rfl (show (.bool (decide ((yown1_0l9.length : Int) > 0)) : Value) = .bool ((e4 == ([46, 46] : Bs)) && (decide ((yown1_0l9.length : Int) > 0))) from congrArg Value.bool (mand_t hc6)) (Ok.bat 0 [0, 3, 5, 6, 7, 8] [(19, .bool ((e4 == ([46, 46] : Bs)) && (decide ((yown1_0l9.length : Int) > 0))))] ?_)
       exact hR5
      ·skip
       refine Ok.bat 4 [0, 3, 5, 6, 7, 8] [(19, .bool false)] ?_
       refine Ok.reval 19 rfl (show (.bool false : Value) = .bool ((e4 == ([46, 46] : Bs)) && (decide ((yown1_0l9.length : Int) > 0))) from congrArg Value.bool (mand_f hc6)) (Ok.bat 0 [0, 3, 5, 6, 7, 8] [(19, .bool ((e4 == ([46, 46] : Bs)) && (decide ((yown1_0l9.length : Int) > 0))))] ?_)
       exact hR5
     refine Ok.bat 1 [0, 3, 5, 6, 7, 8] [(12, .bool ((e4 == ([46, 46] : Bs)) && (decide ((yown1_0l9.length : Int) > 0))))] ?_
     refine Ok.nil (Ok.thenN (Ok.cond (b := ((e4 == ([46, 46] : Bs)) && (decide ((yown1_0l9.length : Int) > 0)))) rfl (fun hc7 => ?_) (fun hc7 => ?_)))
     ·replace hF := hF.1 hc7
      refine Ok.region (Ok.bat 4 [0, 6, 7, 8] [(20, .slice ayown1_0l9 yown1_0l9.length cyown1_0l9), (23, .int .i64 (w6 ((yown1_0l9.length : Int) - 1)))] ?_)
      obtain ⟨h08, h28, hF⟩ := hF
      refine Ok.op rfl (OpOk.cutOwn (e := .str) (h := (w6 ((yown1_0l9.length : Int) - 1))) 0 rfl rfl rfl hLyown1_0l9 Tryz.underlying28 (by kernel_rfl) h08 h28 rfl fun xs8 hL8 => ?_)
      refine Ok.bat 1 [0, 6, 7, 8] [(3, .slice ayown1_0l9 (yown1_0l9.take (Int.toNat (w6 ((yown1_0l9.length : Int) - 1)))).length cyown1_0l9)] ?_
      refine Ok.nil (Ok.blockN (Ok.blockN (Ok.thenN ?_)))
      subst hg4
      refine Ok.reval 3 rfl (show (.slice ayown1_0l9 (yown1_0l9.take (Int.toNat (w6 ((yown1_0l9.length : Int) - 1)))).length cyown1_0l9 : Value) = .slice ayown1_0l9 (rtidV5 xl x8l9 yown1_0l9).length cyown1_0l9 from congrArg (fun l : List Bs => Value.slice ayown1_0l9 l.length cyown1_0l9) ((if_t hc7).symm)) ?_
      refine Ok.heapEq (H' := [.own (.slice ayown1_0l9 (rtidV5 xl x8l9 yown1_0l9).length cyown1_0l9) 9 1 (rtidV5 xl x8l9 yown1_0l9).length xs8]) (econs (congrArg (fun l : List Bs => Ent.own (.slice ayown1_0l9 l.length cyown1_0l9) 9 1 l.length xs8) ((if_t hc7).symm)) rfl) ?_
      exact fun a W hA hW => ⟨gl9, (Gext.refl w0 gl9), ayown1_0l9, cyown1_0l9, xs8, (Eq.mp (congrArg (fun l : List Bs => RepL gl9 (.str) xs8 l) ((if_t hc7).symm)) hL8), hA.sub (by kernel_rfl), hW, hF⟩
     ·replace hF := hF.2 hc7
      refine Ok.cut (fun a W => ∃ gj25 : Ghost, Gext w0 gl9 gj25 ∧ StA 67 [(0, .slice axl_0 xl.length cxl_0), (3, .slice ayown1_0l9 yown1_0l9.length cyown1_0l9), (5, sv e4), (6, .slice axl_0 xl.length cxl_0), (7, .int .i64 (xl.length : Int)), (8, .int .i64 x8l9), (25, .bool (rtidV0 e4))] a ∧ StW w0 [.own (.slice ayown1_0l9 yown1_0l9.length cyown1_0l9) 9 1 yown1_0l9.length xsyown1_0l9] gj25 W ∧ rtidj25 xl e4 x8l9 yown1_0l9 (rtidl9 xl K k9)) ?_ ?_
      ·
       refine Ok.region (Ok.bat 1 [0, 3, 5, 6, 7, 8] [(26, sv e4)] ?_)
       refine Ok.op rfl (OpOk.step (v := .bool (!(e4 == ([46] : Bs)))) (Yields.strCmp (f := .neq) (a := e4) (b := ([46] : Bs)) (by kernel_rfl) (by kernel_rfl) rfl) rfl rfl (Ok.bat 1 [0, 3, 5, 6, 7, 8] [(28, .bool (!(e4 == ([46] : Bs))))] ?_))
       refine Ok.boolAt 28 (!(e4 == ([46] : Bs))) rfl (fun hc12 => ?_) (fun hc12 => ?_)
       ·replace hF := hF.1 hc12
        refine Ok.bat 1 [0, 3, 5, 6, 7, 8] [(28, .bool true), (29, sv e4)] ?_
        refine Ok.opYes (j := 2) (d := 28) (want := true) (b := true) rfl (by kernel_rfl) (by kernel_rfl) rfl (OpOk.step (v := .bool (!(e4 == ([46, 46] : Bs)))) (Yields.strCmp (f := .neq) (a := e4) (b := ([46, 46] : Bs)) (by kernel_rfl) (by kernel_rfl) rfl) rfl rfl (Ok.bat 2 [0, 3, 5, 6, 7, 8] [(25, .bool (!(e4 == ([46, 46] : Bs))))] ?_))
        refine Ok.nil (Ok.thenN (Ok.reval 25 rfl (show (.bool (!(e4 == ([46, 46] : Bs))) : Value) = .bool (rtidV0 e4) from congrArg (Value.bool) (mand_t hc12)) ?_))
        exact fun a W hA hW => ⟨gl9, (Gext.refl w0 gl9), hA.sub (by kernel_rfl), hW, hF⟩
       ·replace hF := hF.2 hc12
        refine Ok.bat 4 [0, 3, 5, 6, 7, 8] [(25, .bool false)] ?_
        refine Ok.nil (Ok.thenN (Ok.reval 25 rfl (show (.bool false : Value) = .bool (rtidV0 e4) from congrArg (Value.bool) (mand_f hc12)) ?_))
        exact fun a W hA hW => ⟨gl9, (Gext.refl w0 gl9), hA.sub (by kernel_rfl), hW, hF⟩
      ·
       clear hF
       rintro a W ⟨gj25, hxj25, hA, hW, hF⟩
       refine (?_ : Ok _ _ _ _ _ _) a W hA hW
       clear hA hW
       replace hRxl_0 := hRxl_0.mono hxj25.1
       replace hLyown1_0l9 := hLyown1_0l9.mono hxj25.1
       refine Ok.cond (b := (rtidV0 e4)) rfl (fun hc9 => ?_) (fun hc9 => ?_)
       ·replace hF := hF.1 hc9
        refine Ok.region (Ok.bat 2 [0, 6, 7, 8] [(32, .slice ayown1_0l9 yown1_0l9.length cyown1_0l9), (33, sv e4)] ?_)
        have hL10 : RepL gj25 (.str) ([sv e4] : List Value) ([e4] : List Bs) := (RepL.consN (c := [sv e4]) rfl rfl)
        refine Ok.op rfl (OpOk.lit (E := 9) (.str) ([e4] : List Bs) ([sv e4] : List Value) (by kernel_rfl) (by kernel_rfl) rfl (by kernel_rfl) hL10 rfl fun b10 => ?_)
        obtain ⟨hb11, hF⟩ := hF
        refine Ok.op rfl (OpOk.append' (e := .str) 16 8796093022208 1 0 rfl rfl rfl rfl hLyown1_0l9 hL10 Tryz.underlying28 (by kernel_rfl) (by kernel_rfl) (by kernel_rfl) hb11 rfl fun a11 c11 xs11 hL11 => ?_)
        refine Ok.bat 1 [0, 6, 7, 8] [(3, .slice a11 (yown1_0l9 ++ ([e4] : List Bs)).length c11)] ?_
        refine Ok.nil (Ok.blockN (Ok.blockN (Ok.thenN ?_)))
        subst hg4
        refine Ok.reval 3 rfl (show (.slice a11 (yown1_0l9 ++ ([(xl.getD (Int.toNat x8l9) default)] : List Bs)).length c11 : Value) = .slice a11 (rtidV5 xl x8l9 yown1_0l9).length c11 from congrArg (fun l : List Bs => Value.slice a11 l.length c11) ((Eq.trans ((if_t hc9).symm) ((if_f hc7).symm)))) ?_
        refine Ok.heapEq (H' := [.own (.slice (some ⟨b10, 0, none⟩) ([(xl.getD (Int.toNat x8l9) default)] : List Bs).length 1) 9 1 ([(xl.getD (Int.toNat x8l9) default)] : List Bs).length ([sv (xl.getD (Int.toNat x8l9) default)] : List Value), .own (.slice a11 (rtidV5 xl x8l9 yown1_0l9).length c11) 9 1 (rtidV5 xl x8l9 yown1_0l9).length xs11]) (econs (rfl) (econs (congrArg (fun l : List Bs => Ent.own (.slice a11 l.length c11) 9 1 l.length xs11) ((Eq.trans ((if_t hc9).symm) ((if_f hc7).symm)))) rfl)) ?_
        exact fun a W hA hW => ⟨gj25, hxj25, a11, c11, xs11, (Eq.mp (congrArg (fun l : List Bs => RepL gj25 (.str) xs11 l) ((Eq.trans ((if_t hc9).symm) ((if_f hc7).symm)))) hL11), hA.sub (by kernel_rfl), hW.sub (.cons _ (.cons_cons _ .slnil)), hF⟩
       ·replace hF := hF.2 hc9
        refine Ok.skip (Ok.blockN (Ok.blockN (Ok.thenN ?_)))
        subst hg4
        refine Ok.reval 3 rfl (show (.slice ayown1_0l9 yown1_0l9.length cyown1_0l9 : Value) = .slice ayown1_0l9 (rtidV5 xl x8l9 yown1_0l9).length cyown1_0l9 from congrArg (fun l : List Bs => Value.slice ayown1_0l9 l.length cyown1_0l9) ((Eq.trans ((if_f hc9).symm) ((if_f hc7).symm)))) ?_
        refine Ok.heapEq (H' := [.own (.slice ayown1_0l9 (rtidV5 xl x8l9 yown1_0l9).length cyown1_0l9) 9 1 (rtidV5 xl x8l9 yown1_0l9).length xsyown1_0l9]) (econs (congrArg (fun l : List Bs => Ent.own (.slice ayown1_0l9 l.length cyown1_0l9) 9 1 l.length xsyown1_0l9) ((Eq.trans ((if_f hc9).symm) ((if_f hc7).symm)))) rfl) ?_
        exact fun a W hA hW => ⟨gj25, hxj25, ayown1_0l9, cyown1_0l9, xsyown1_0l9, (Eq.mp (congrArg (fun l : List Bs => RepL gj25 (.str) xsyown1_0l9 l) ((Eq.trans ((if_f hc9).symm) ((if_f hc7).symm)))) hLyown1_0l9), hA.sub (by kernel_rfl), hW, hF⟩
    ·
     clear hF
     rintro a W ⟨gj16, hxj16, ayown1_0j16, cyown1_0j16, xsyown1_0j16, hLyown1_0j16, hA, hW, hF⟩
     refine (?_ : Ok _ _ _ _ _ _) a W hA hW
     clear hA hW
     replace hRxl_0 := hRxl_0.mono hxj16.1
     refine Ok.region (Ok.bat 2 [0, 3, 6, 7] [(8, .int .i64 (w6 (x8l9 + 1)))] ?_)
     refine Ok.nil (Ok.thenN ?_)
     exact fun a W hA hW => ⟨k9, Nat.lt_succ_self _, gj16, (hxl9.trans hxj16), w6 (x8l9 + 1), ayown1_0j16, cyown1_0j16, (rtidV5 xl x8l9 yown1_0l9), xsyown1_0j16, hLyown1_0j16, hA.sub (by kernel_rfl), hW, hF⟩
   ·replace hF := hF.2 hc2
    refine Ok.exit (Ok.thenE (Ok.thenE (Ok.blockHit (Ok.thenN (Ok.cut (fun a W => ∃ gj31 : Ghost, Gext w0 gl9 gj31 ∧ ∃ (ayown1_0j31 : Option Addr) (cyown1_0j31 : Nat) (xsyown1_0j31 : List Value), RepL gj31 (.str) xsyown1_0j31 (rtidV4 xl yown1_0l9) ∧ StA 67 [(3, .slice ayown1_0j31 (rtidV4 xl yown1_0l9).length cyown1_0j31)] a ∧ StW w0 [.own (.slice ayown1_0j31 (rtidV4 xl yown1_0l9).length cyown1_0j31) 9 1 (rtidV4 xl yown1_0l9).length xsyown1_0j31] gj31 W ∧ rtidj31 xl K yown1_0l9) ?_ ?_)))))
    ·
     refine Ok.cut (fun a W => ∃ gj32 : Ghost, Gext w0 gl9 gj32 ∧ StA 67 [(3, .slice ayown1_0l9 yown1_0l9.length cyown1_0l9), (62, .bool (rtidV3 xl yown1_0l9))] a ∧ StW w0 [.own (.slice ayown1_0l9 yown1_0l9.length cyown1_0l9) 9 1 yown1_0l9.length xsyown1_0l9] gj32 W ∧ rtidj32 xl K yown1_0l9) ?_ ?_
     ·
      refine Ok.region (Ok.bat 4 [0, 3] [(40, .bool (decide ((xl.length : Int) > 0)))] ?_)
      refine Ok.boolAt 40 (decide ((xl.length : Int) > 0)) rfl (fun hc17 => ?_) (fun hc17 => ?_)
      ·replace hF := hF.1 hc17
       refine Ok.bat 4 [0, 3] [(40, .bool true), (41, .slice axl_0 xl.length cxl_0), (44, .int .i64 (w6 ((xl.length : Int) - 1)))] ?_
       obtain ⟨h019, h119, hF⟩ := hF
       have he19 := get_of (l := xl) (default : Bs) h119
       generalize hg19 : (xl.getD (Int.toNat (w6 ((xl.length : Int) - 1))) default) = e19 at he19 hF ⊢
       refine Ok.opYes (j := 3) (d := 40) (want := true) (b := true) rfl (by kernel_rfl) (by kernel_rfl) rfl (OpOk.indexRo (e := .str) (i := w6 ((xl.length : Int) - 1)) (el := e19) rfl rfl Tryz.underlying28 (by kernel_rfl) hRxl_0 h019 he19 rfl fun q18 o18 cs18 _ hat18 hr18 => ?_)
       obtain rfl := hr18
       replace hat18 : At gl9 q18 o18 [sv e19] := hat18
       refine Ok.opYes (j := 3) (d := 40) (want := true) (b := true) rfl (by kernel_rfl) (by kernel_rfl) rfl (OpOk.step (v := sv e19) (Yields.loadRo 0 hat18 (by kernel_rfl) Tryz.underlying9 rfl (by kernel_rfl)) rfl rfl (Ok.opYes (j := 3) (d := 40) (want := true) (b := true) rfl (by kernel_rfl) (by kernel_rfl) rfl (OpOk.step (v := .bool (e19 == ([46] : Bs))) (Yields.strCmp (f := .eql) (a := e19) (b := ([46] : Bs)) (by kernel_rfl) (by kernel_rfl) rfl) rfl rfl (Ok.bat 1 [0, 3, 40] [(48, .bool (e19 == ([46] : Bs)))] ?_))))
       refine Ok.boolAt 48 ((e19 == ([46] : Bs))) rfl (fun hc20 => ?_) (fun hc20 => ?_)
       ·replace hF := hF.1 hc20
        refine Ok.bat 14 [3] [(62, .bool true)] ?_
        refine Ok.nil (Ok.thenN ?_)
        subst hg19
        refine Ok.reval 62 rfl (show (.bool true : Value) = .bool (rtidV3 xl yown1_0l9) from congrArg (Value.bool) ((Eq.trans (mor_t hc20) ((if_t hc17).symm)))) ?_
        exact fun a W hA hW => ⟨gl9, (Gext.refl w0 gl9), hA.sub (by kernel_rfl), hW, hF⟩
       ·replace hF := hF.2 hc20
        refine Ok.bat 4 [3, 40] [(48, .bool false), (49, .slice axl_0 xl.length cxl_0), (52, .int .i64 (w6 ((xl.length : Int) - 1)))] ?_
        refine Ok.opYes (j := 11) (d := 48) (want := false) (b := false) rfl (by kernel_rfl) (by kernel_rfl) rfl (OpOk.indexRo (e := .str) (i := w6 ((xl.length : Int) - 1)) (el := e19) rfl rfl Tryz.underlying28 (by kernel_rfl) hRxl_0 h019 he19 rfl fun q21 o21 cs21 _ hat21 hr21 => ?_)
        obtain rfl := hr21
        replace hat21 : At gl9 q21 o21 [sv e19] := hat21
        refine Ok.opYes (j := 11) (d := 48) (want := false) (b := false) rfl (by kernel_rfl) (by kernel_rfl) rfl (OpOk.step (v := sv e19) (Yields.loadRo 0 hat21 (by kernel_rfl) Tryz.underlying9 rfl (by kernel_rfl)) rfl rfl (Ok.opYes (j := 11) (d := 48) (want := false) (b := false) rfl (by kernel_rfl) (by kernel_rfl) rfl (OpOk.step (v := .bool (e19 == ([46, 46] : Bs))) (Yields.strCmp (f := .eql) (a := e19) (b := ([46, 46] : Bs)) (by kernel_rfl) (by kernel_rfl) rfl) rfl rfl (Ok.bat 3 [3] [(58, .bool (e19 == ([46, 46] : Bs)))] ?_))))
        refine Ok.midway 4 [(3, .slice ayown1_0l9 yown1_0l9.length cyown1_0l9), (62, .bool ((e19 == ([46, 46] : Bs)) || ((yown1_0l9.length : Int) == 0)))] (fun hR22 => ?_) ?_
        ·refine Ok.boolAt 58 ((e19 == ([46, 46] : Bs))) rfl (fun hc23 => ?_) (fun hc23 => ?_)
         ·skip
          refine Ok.bat 4 [3] [(62, .bool true)] ?_
          refine Ok.reval 62 rfl (show (.bool true : Value) = .bool ((e19 == ([46, 46] : Bs)) || ((yown1_0l9.length : Int) == 0)) from congrArg Value.bool (mor_t hc23)) (Ok.bat 0 [3] [(62, .bool ((e19 == ([46, 46] : Bs)) || ((yown1_0l9.length : Int) == 0)))] ?_)
          exact hR22
         ·skip
          refine Ok.bat 4 [3] [(62, .bool ((yown1_0l9.length : Int) == 0))] ?_
          refine Ok.reval 62 rfl (show (.bool ((yown1_0l9.length : Int) == 0) : Value) = .bool ((e19 == ([46, 46] : Bs)) || ((yown1_0l9.length : Int) == 0)) from congrArg Value.bool (mor_f hc23)) (Ok.bat 0 [3] [(62, .bool ((e19 == ([46, 46] : Bs)) || ((yown1_0l9.length : Int) == 0)))] ?_)
          exact hR22
        refine Ok.nil (Ok.thenN ?_)
        subst hg19
        refine Ok.reval 62 rfl (show (.bool (((xl.getD (Int.toNat (w6 ((xl.length : Int) - 1))) default) == ([46, 46] : Bs)) || ((yown1_0l9.length : Int) == 0)) : Value) = .bool (rtidV3 xl yown1_0l9) from congrArg (Value.bool) ((Eq.trans (mor_f hc20) ((if_t hc17).symm)))) ?_
        exact fun a W hA hW => ⟨gl9, (Gext.refl w0 gl9), hA.sub (by kernel_rfl), hW, hF⟩
      ·replace hF := hF.2 hc17
       refine Ok.bat 22 [3] [(62, .bool ((yown1_0l9.length : Int) == 0))] ?_
       refine Ok.nil (Ok.thenN (Ok.reval 62 rfl (show (.bool ((yown1_0l9.length : Int) == 0) : Value) = .bool (rtidV3 xl yown1_0l9) from congrArg (Value.bool) ((if_f hc17).symm)) ?_))
       exact fun a W hA hW => ⟨gl9, (Gext.refl w0 gl9), hA.sub (by kernel_rfl), hW, hF⟩
     ·
      clear hF
      rintro a W ⟨gj32, hxj32, hA, hW, hF⟩
      refine (?_ : Ok _ _ _ _ _ _) a W hA hW
      clear hA hW
      replace hLyown1_0l9 := hLyown1_0l9.mono hxj32.1
      refine Ok.cond (b := (rtidV3 xl yown1_0l9)) rfl (fun hc14 => ?_) (fun hc14 => ?_)
      ·replace hF := hF.1 hc14
       refine Ok.region (Ok.batch 1 [(63, .slice ayown1_0l9 yown1_0l9.length cyown1_0l9)] (by kernel_rfl) ?_)
       have hL15 : RepL gj32 (.str) ([sv ([] : Bs)] : List Value) ([([] : Bs)] : List Bs) := (RepL.consN (c := [sv ([] : Bs)]) rfl rfl)
       refine Ok.op rfl (OpOk.lit (E := 9) (.str) ([([] : Bs)] : List Bs) ([sv ([] : Bs)] : List Value) (by kernel_rfl) (by kernel_rfl) rfl (by kernel_rfl) hL15 rfl fun b15 => ?_)
       obtain ⟨hb16, hF⟩ := hF
       refine Ok.op rfl (OpOk.append' (e := .str) 16 8796093022208 1 0 rfl rfl rfl rfl hLyown1_0l9 hL15 Tryz.underlying28 (by kernel_rfl) (by kernel_rfl) (by kernel_rfl) hb16 rfl fun a16 c16 xs16 hL16 => ?_)
       refine Ok.batch 1 [(3, .slice a16 (yown1_0l9 ++ ([([] : Bs)] : List Bs)).length c16)] (by kernel_rfl) (Ok.nil (Ok.thenN (Ok.reval 3 rfl (show (.slice a16 (yown1_0l9 ++ ([([] : Bs)] : List Bs)).length c16 : Value) = .slice a16 (rtidV4 xl yown1_0l9).length c16 from congrArg (fun l : List Bs => Value.slice a16 l.length c16) ((if_t hc14).symm)) ?_)))
       refine Ok.heapEq (H' := [.own (.slice (some ⟨b15, 0, none⟩) ([([] : Bs)] : List Bs).length 1) 9 1 ([([] : Bs)] : List Bs).length ([sv ([] : Bs)] : List Value), .own (.slice a16 (rtidV4 xl yown1_0l9).length c16) 9 1 (rtidV4 xl yown1_0l9).length xs16]) (econs (rfl) (econs (congrArg (fun l : List Bs => Ent.own (.slice a16 l.length c16) 9 1 l.length xs16) ((if_t hc14).symm)) rfl)) ?_
       exact fun a W hA hW => ⟨gj32, hxj32, a16, c16, xs16, (Eq.mp (congrArg (fun l : List Bs => RepL gj32 (.str) xs16 l) ((if_t hc14).symm)) hL16), hA.sub (by kernel_rfl), hW.sub (.cons _ (.cons_cons _ .slnil)), hF⟩
      ·replace hF := hF.2 hc14
       refine Ok.skip (Ok.thenN (Ok.reval 3 rfl (show (.slice ayown1_0l9 yown1_0l9.length cyown1_0l9 : Value) = .slice ayown1_0l9 (rtidV4 xl yown1_0l9).length cyown1_0l9 from congrArg (fun l : List Bs => Value.slice ayown1_0l9 l.length cyown1_0l9) ((if_f hc14).symm)) ?_))
       refine Ok.heapEq (H' := [.own (.slice ayown1_0l9 (rtidV4 xl yown1_0l9).length cyown1_0l9) 9 1 (rtidV4 xl yown1_0l9).length xsyown1_0l9]) (econs (congrArg (fun l : List Bs => Ent.own (.slice ayown1_0l9 l.length cyown1_0l9) 9 1 l.length xsyown1_0l9) ((if_f hc14).symm)) rfl) ?_
       exact fun a W hA hW => ⟨gj32, hxj32, ayown1_0l9, cyown1_0l9, xsyown1_0l9, (Eq.mp (congrArg (fun l : List Bs => RepL gj32 (.str) xsyown1_0l9 l) ((if_f hc14).symm)) hLyown1_0l9), hA.sub (by kernel_rfl), hW, hF⟩
    ·
     clear hF
     rintro a W ⟨gj31, hxj31, ayown1_0j31, cyown1_0j31, xsyown1_0j31, hLyown1_0j31, hA, hW, hF⟩
     refine (?_ : Ok _ _ _ _ _ _) a W hA hW
     clear hA hW
     refine Ok.seq (Ok.region (Ok.batch 2 [(2, .slice ayown1_0j31 (rtidV4 xl yown1_0l9).length cyown1_0j31)] (by kernel_rfl) (Ok.nil (Ok.thenN (Ok.ret (Ok.frz 0 rfl hLyown1_0j31 fun g13 hx13 hRf13 => ?_))))))
     exact Ok.resH (vs := [.slice ayown1_0j31 (rtidV4 xl yown1_0l9).length cyown1_0j31]) (.inl rfl) rfl (.cons (.tmp rfl) .nil) ((hxl9.trans hxj31).trans hx13) ⟨(rtidV4 xl yown1_0l9), ayown1_0j31, cyown1_0j31, rfl, hRf13, rfl, hF⟩
theorem rv0_eq (e : Bs) : rtidV0 e = !(dotS e) := by
 unfold rtidV0 dotS
 rw [Bool.not_or]
theorem last_get : ∀ (l : List Bs), l ≠ [] → lastDot l = dotS (l.getD (l.length - 1) default)
 | [], h => absurd rfl h
 | [a], _ => rfl
 | a :: b :: r, _ => by
  have ih := last_get (b :: r) (by simp)
  show lastDot (b :: r) = _
  rw [ih]; rfl
theorem rtid_F (l : List Bs) (hp : tidyP l) : rtidF l (fun r => r = tidyS l) := by
 unfold tidyP at hp
 have loop : ∀ (k i : Nat) (o : List Bs), i + k = l.length → o.length ≤ i → l.foldl tdF [] = (l.drop i).foldl tdF o → rtidl9 l (fun r => r = tidyS l) (k + 1) (i : Int) o := by
  intro k
  induction k with
  | zero =>
   intro i o h1 h2 he
   rw [List.drop_of_length_le (by omega), List.foldl_nil] at he
   have hz : ((o.length : Int) == 0) = (o == []) := by
    cases o with
    | nil => rfl
    | cons a r => simp; omega
   have hV3 : rtidV3 l o = (lastDot l || (o == [])) := by
    unfold rtidV3
    cases hl : l with
    | nil => rw [if_neg (by simp), hz]; rfl
    | cons a r =>
     rw [if_pos (by simp), ← hl, w64 (by rw [hl] at hp ⊢; simp at hp ⊢; omega), last_get l (by rw [hl]; simp), hz]
     have : ((l.length : Int) - 1).toNat = l.length - 1 := by omega
     rw [this]
     unfold dotS
     rw [Bool.or_assoc]
   have j31 : rtidj31 l (fun r => r = tidyS l) o := by
    unfold rtidj31 rtidV4
    rw [tidyS_eq]
    unfold tidyS0
    rw [hV3, he]
   have j32 : rtidj32 l (fun r => r = tidyS l) o := ⟨fun _ => ⟨by rw [List.length_append, List.length_singleton]; omega, j31⟩, fun _ => j31⟩
   refine ⟨fun h => by have := of_decide_eq_true h; omega, fun _ => ⟨fun h => ?_, fun _ => j32⟩⟩
   have := of_decide_eq_true h
   rw [w64 (by omega)]
   exact ⟨by omega, by omega, fun _ => j32, fun _ => j32⟩
  | succ k ih =>
   intro i o h1 h2 he
   have hi : i < l.length := by omega
   rw [drop_get (l := l) default hi, List.foldl_cons] at he
   obtain ⟨e, hel⟩ : ∃ e, l.getD i default = e := ⟨_, rfl⟩
   have htl := td_len o e
   have hstep : rtidV5 l (i : Int) o = tdF o e := by
    unfold rtidV5
    rw [Int.toNat_natCast, hel, rv0_eq]
    by_cases h46 : (e == [46, 46]) = true
    ·have hd : dotS e = true := by unfold dotS; rw [h46, Bool.or_true]
     rw [h46, hd, Bool.true_and]
     unfold tdF
     rw [if_t h46]
     by_cases h0 : o.length = 0
     ·rw [List.eq_nil_of_length_eq_zero h0]; rfl
     ·rw [if_pos (decide_eq_true (by omega)), w64 (by omega), show ((o.length : Int) - 1).toNat = o.length - 1 by omega]
    ·have h46 : (e == [46, 46]) = false := by simpa using h46
     rw [h46, Bool.false_and, if_f rfl]
     unfold tdF dotS
     rw [h46, Bool.or_false, if_f rfl]
     cases (e == [46]) <;> rfl
   rw [hel] at he
   have j16 : rtidj16 l (i : Int) o (rtidl9 l (fun r => r = tidyS l) (k + 1)) := by
    unfold rtidj16
    rw [w64 (by omega), show ((i : Int) + 1) = ((i + 1 : Nat) : Int) by omega, hstep]
    exact ih (i + 1) _ (by omega) (by omega) he
   have j25 : rtidj25 l e (i : Int) o (rtidl9 l (fun r => r = tidyS l) (k + 1)) :=
    ⟨fun _ => ⟨by rw [List.length_append, List.length_singleton]; omega, j16⟩, fun _ => j16⟩
   refine ⟨fun _ => ⟨by omega, by rw [Int.toNat_natCast]; omega, ?_⟩, fun h => by have := of_decide_eq_false h; omega⟩
   rw [Int.toNat_natCast, hel]
   refine ⟨fun h => ?_, fun _ => ⟨fun _ => j25, fun _ => j25⟩⟩
   rw [Bool.and_eq_true, decide_eq_true_eq] at h
   rw [w64 (by omega)]
   exact ⟨by omega, by omega, j16⟩
 exact ⟨_, loop l.length 0 [] (by omega) (by simp) rfl⟩
theorem rtid_c {g : Ghost} {axl_0 : Option Addr} {cxl_0 : Nat} (xl : List Bs) (hRxl_0 : Rep g (.slice (.str)) [.slice axl_0 xl.length cxl_0] xl)  (hp : tidyP xl) : CallsH Tryz.prog 35 #[.slice axl_0 xl.length cxl_0] g [] (fun g' H' v => ∃ (ar0_0 : Option Addr) (cr0_0 : Nat), v = .slice ar0_0 (tidyS xl).length cr0_0 ∧ Rep g' (.slice (.str)) [.slice ar0_0 (tidyS xl).length cr0_0] (tidyS xl) ∧ H' = []) :=
 (rtid_ok xl hRxl_0 _ (rtid_F xl hp)).mono (by rintro g' H' v _ ⟨r0, ar0_0, cr0_0, rfl, hRr0_0, rfl, hK⟩; subst hK; exact ⟨ar0_0, cr0_0, rfl, hRr0_0, rfl⟩)
/-! segmentsOf -/
def rsegS (s : Bs) : List Bs × Bool := ((splS s [47]).map fun p => (rdecS p).1, (splS s [47]).all fun p => (rdecS p).2)
def rsegl11b (xs : Bs) (K : (List Bs) → Bool → Prop) (x4l11 : Bool) (x13l11 : Int) (yown1_0l11 : List Bs) (C11 : Bool → Int → (List Bs) → Prop) : Prop :=
 ((decide (x13l11 < ((splS xs ([47] : Bs)).length : Int))) = true → (0 : Int) ≤ x13l11 ∧ Int.toNat x13l11 < (splS xs ([47] : Bs)).length ∧ encP ((splS xs ([47] : Bs)).getD (Int.toNat x13l11) default) ∧ (yown1_0l11 ++ ([(rdecS ((splS xs ([47] : Bs)).getD (Int.toNat x13l11) default)).1] : List Bs)).length ≤ 8796093022208 ∧ C11 (x4l11 && (rdecS ((splS xs ([47] : Bs)).getD (Int.toNat x13l11) default)).2) (w6 (x13l11 + 1)) (yown1_0l11 ++ ([(rdecS ((splS xs ([47] : Bs)).getD (Int.toNat x13l11) default)).1] : List Bs))) ∧ ((decide (x13l11 < ((splS xs ([47] : Bs)).length : Int))) = false → K yown1_0l11 x4l11)
def rsegl11 (xs : Bs) (K : (List Bs) → Bool → Prop) : Nat → Bool → Int → (List Bs) → Prop
 | 0, _, _, _ => False
 | k + 1, x4l11, x13l11, yown1_0l11 => rsegl11b xs K x4l11 x13l11 yown1_0l11 (rsegl11 xs K k)
def rsegF (xs : Bs) (K : (List Bs) → Bool → Prop) : Prop :=
 splP xs ([47] : Bs) ∧ ∃ k, rsegl11 xs K k true 0 ([] : List Bs)
theorem rseg_ok {g : Ghost} (xs : Bs) (hG0 : SomeInt g 0) (K : (List Bs) → Bool → Prop)
  (hF : rsegF xs K) : CallsH Tryz.prog 33 #[sv xs] g [] (fun g' H' v => ∃ (r0 : List Bs), ∃ (r1 : Bool), ∃ (ar0_0 : Option Addr) (cr0_0 : Nat), v = .tuple #[.slice ar0_0 r0.length cr0_0, .bool r1] ∧ Rep g' (.slice (.str)) [.slice ar0_0 r0.length cr0_0] r0 ∧ H' = [] ∧ K r0 r1) := by
 refine CallsH.enter 33 [(0, sv xs)] Tryz.func33 rfl (by kernel_rfl) (by kernel_rfl) (by kernel_rfl) fun w0 => ?_
 refine Ok.seq (Ok.region (Ok.batch 1 [(0, sv xs)] (by kernel_rfl) (Ok.bat 1 [0] [] ?_)))
 refine Ok.nil (Ok.thenN (Ok.seq (Ok.region (Ok.bat 1 [0] [(4, .bool true)] ?_))))
 refine Ok.nil (Ok.thenN (Ok.seq (Ok.region (Ok.bat 1 [0, 4] [(5, .slice none 0 0)] ?_))))
 have hL1 : RepL g (.str) [] [] := rfl
 refine Ok.ownNil 9 1 (Ok.nil (Ok.thenN (Ok.seq (Ok.seq (Ok.region (Ok.bat 1 [4] [(5, .slice none ([] : List Bs).length 0), (10, sv xs)] ?_))))))
 obtain ⟨hp2, hF⟩ := hF
 refine Ok.op rfl (OpOk.callH [] _ enr rfl (spl_c xs ([47] : Bs) hG0 hp2) rfl fun g3 _ _ hx3 hV3 => ?_)
 obtain ⟨a3_0, c3_0, rfl, hR3_0, rfl⟩ := hV3
 replace hL1 := hL1.mono hx3.1
 replace hG0 := hG0.mono hx3.1
 refine Ok.bat 2 [4, 5] [(11, .slice a3_0 (splS xs ([47] : Bs)).length c3_0), (12, .int .i64 ((splS xs ([47] : Bs)).length : Int)), (13, .int .i64 0)] ?_
 refine Ok.nil (Ok.thenN (Ok.block ?_))
 obtain ⟨k, hF⟩ := hF
 refine Ok.loop (fun k a W => ∃ gl11 : Ghost, Gext w0 g3 gl11 ∧ ∃ (x4l11 : Bool) (x13l11 : Int) (ayown1_0l11 : Option Addr) (cyown1_0l11 : Nat) (yown1_0l11 : List Bs) (xsyown1_0l11 : List Value), RepL gl11 (.str) xsyown1_0l11 yown1_0l11 ∧ StA 33 [(4, .bool x4l11), (5, .slice ayown1_0l11 yown1_0l11.length cyown1_0l11), (11, .slice a3_0 (splS xs ([47] : Bs)).length c3_0), (12, .int .i64 ((splS xs ([47] : Bs)).length : Int)), (13, .int .i64 x13l11)] a ∧ StW w0 [.own (.slice ayown1_0l11 yown1_0l11.length cyown1_0l11) 9 1 yown1_0l11.length xsyown1_0l11] gl11 W ∧ rsegl11 xs K k x4l11 x13l11 yown1_0l11) k ?_ ?_
 ·
  exact fun a W hA hW => ⟨g3, (Gext.refl w0 g3), true, 0, none, 0, ([] : List Bs), [], hL1, hA.sub (by kernel_rfl), hW, hF⟩
 ·
  clear hF
  rintro k11 a W ⟨gl11, hxl11, x4l11, x13l11, ayown1_0l11, cyown1_0l11, yown1_0l11, xsyown1_0l11, hLyown1_0l11, hA, hW, hF⟩
  cases k11 with
  | zero => exact (hF : False).elim
  | succ k11 =>
   refine (?_ : Ok _ _ _ _ _ _) a W hA hW
   clear hA hW
   replace hR3_0 := hR3_0.mono hxl11.1
   replace hG0 := hG0.mono hxl11.1
   refine Ok.seq (Ok.region (Ok.bat 1 [4, 5, 11, 12, 13] [(14, .bool (decide (x13l11 < ((splS xs ([47] : Bs)).length : Int))))] ?_))
   refine Ok.nil (Ok.thenN (Ok.seq (Ok.cond (b := decide (x13l11 < ((splS xs ([47] : Bs)).length : Int))) rfl (fun hc4 => ?_) (fun hc4 => ?_))))
   ·replace hF := hF.1 hc4
    refine Ok.skip (Ok.thenN (Ok.seq (Ok.block (Ok.seq (Ok.region ?_)))))
    obtain ⟨h06, h16, hF⟩ := hF
    have he6 := get_of (l := (splS xs ([47] : Bs))) (default : Bs) h16
    generalize hg6 : ((splS xs ([47] : Bs)).getD (Int.toNat x13l11) default) = e6 at he6 hF ⊢
    refine Ok.op rfl (OpOk.indexRo (e := .str) (i := x13l11) (el := e6) rfl rfl Tryz.underlying28 (by kernel_rfl) hR3_0 h06 he6 rfl fun q5 o5 cs5 _ hat5 hr5 => ?_)
    obtain rfl := hr5
    replace hat5 : At gl11 q5 o5 [sv e6] := hat5
    refine Ok.op rfl (OpOk.step (v := sv e6) (Yields.loadRo 0 hat5 (by kernel_rfl) Tryz.underlying9 rfl (by kernel_rfl)) rfl rfl (Ok.bat 1 [4, 5, 11, 12, 13] [(7, sv e6)] ?_))
    refine Ok.nil (Ok.thenN (Ok.seq (Ok.region (Ok.bat 1 [4, 5, 11, 12, 13] [(18, sv e6)] ?_))))
    obtain ⟨hp7, hF⟩ := hF
    refine Ok.op rfl (OpOk.callG (v := .tuple #[sv ((rdecS e6).1), .bool (rdecS e6).2]) enr (fun W hW => rdec_c e6 (hG0.mono hW.sees) hp7) rfl ?_)
    refine Ok.bat 5 [4, 5, 11, 12, 13] [(8, sv ((rdecS e6).1)), (9, .bool (rdecS e6).2)] ?_
    refine Ok.nil (Ok.thenN (Ok.region (Ok.bat 2 [4, 9, 11, 12, 13] [(22, .slice ayown1_0l11 yown1_0l11.length cyown1_0l11), (23, sv ((rdecS e6).1))] ?_)))
    have hL8 : RepL gl11 (.str) ([sv ((rdecS e6).1)] : List Value) ([(rdecS e6).1] : List Bs) := (RepL.consN (c := [sv ((rdecS e6).1)]) rfl rfl)
    refine Ok.op rfl (OpOk.lit (E := 9) (.str) ([(rdecS e6).1] : List Bs) ([sv ((rdecS e6).1)] : List Value) (by kernel_rfl) (by kernel_rfl) rfl (by kernel_rfl) hL8 rfl fun b8 => ?_)
    obtain ⟨hb9, hF⟩ := hF
    refine Ok.op rfl (OpOk.append' (e := .str) 16 8796093022208 1 0 rfl rfl rfl rfl hLyown1_0l11 hL8 Tryz.underlying28 (by kernel_rfl) (by kernel_rfl) (by kernel_rfl) hb9 rfl fun a9 c9 xs9 hL9 => ?_)
    refine Ok.bat 2 [9, 11, 12, 13] [(25, .slice a9 (yown1_0l11 ++ ([(rdecS e6).1] : List Bs)).length c9), (27, .bool x4l11)] ?_
    refine Ok.midway 2 [(11, .slice a3_0 (splS xs ([47] : Bs)).length c3_0), (12, .int .i64 ((splS xs ([47] : Bs)).length : Int)), (13, .int .i64 x13l11), (25, .slice a9 (yown1_0l11 ++ ([(rdecS e6).1] : List Bs)).length c9), (29, .bool (x4l11 && (rdecS e6).2))] (fun hR10 => ?_) ?_
    ·refine Ok.boolAt 27 (x4l11) rfl (fun hc11 => ?_) (fun hc11 => ?_)
     ·skip
      refine Ok.bat 2 [11, 12, 13, 25] [(29, .bool (rdecS e6).2)] ?_
      refine Ok.reval 29 rfl (show (.bool (rdecS e6).2 : Value) = .bool (x4l11 && (rdecS e6).2) from congrArg Value.bool (mand_t hc11)) (Ok.bat 0 [11, 12, 13, 25] [(29, .bool (x4l11 && (rdecS e6).2))] ?_)
      exact hR10
     ·skip
      refine Ok.bat 2 [11, 12, 13, 25] [(29, .bool false)] ?_
      refine Ok.reval 29 rfl (show (.bool false : Value) = .bool (x4l11 && (rdecS e6).2) from congrArg Value.bool (mand_f hc11)) (Ok.bat 0 [11, 12, 13, 25] [(29, .bool (x4l11 && (rdecS e6).2))] ?_)
      exact hR10
    refine Ok.bat 2 [11, 12, 13] [(4, .bool (x4l11 && (rdecS e6).2)), (5, .slice a9 (yown1_0l11 ++ ([(rdecS e6).1] : List Bs)).length c9)] ?_
    refine Ok.nil (Ok.blockN (Ok.thenN (Ok.region (Ok.bat 2 [4, 5, 11, 12] [(13, .int .i64 (w6 (x13l11 + 1)))] ?_))))
    refine Ok.nil (Ok.thenN ?_)
    subst hg6
    exact fun a W hA hW => ⟨k11, Nat.lt_succ_self _, gl11, hxl11, (x4l11 && (rdecS ((splS xs ([47] : Bs)).getD (Int.toNat x13l11) default)).2), w6 (x13l11 + 1), a9, c9, (yown1_0l11 ++ ([(rdecS ((splS xs ([47] : Bs)).getD (Int.toNat x13l11) default)).1] : List Bs)), xs9, hL9, hA.sub (by kernel_rfl), hW.sub (.cons _ (.cons_cons _ .slnil)), hF⟩
   ·replace hF := hF.2 hc4
    refine Ok.exit (Ok.thenE (Ok.thenE (Ok.blockHit (Ok.thenN (Ok.seq (Ok.region (Ok.batch 4 [(2, .slice ayown1_0l11 yown1_0l11.length cyown1_0l11), (3, .bool x4l11)] (by kernel_rfl) (Ok.nil (Ok.thenN (Ok.ret (Ok.frz 0 rfl hLyown1_0l11 fun g12 hx12 hRf12 => ?_)))))))))))
    replace hG0 := hG0.mono hx12.1
    exact Ok.resH (vs := [.slice ayown1_0l11 yown1_0l11.length cyown1_0l11, .bool x4l11]) (.inl rfl) rfl (.cons (.tmp rfl) (.cons (.tmp rfl) .nil)) ((hx3.trans hxl11).trans hx12) ⟨yown1_0l11, x4l11, ayown1_0l11, cyown1_0l11, rfl, hRf12, rfl, hF⟩
theorem rseg_F (s : Bs) (hp : smP s) : rsegF s (fun a b => (a, b) = rsegS s) := by
 unfold smP at hp
 have hl : (splS s [47]).length ≤ s.length + 1 := by rw [splC]; exact spC_len 47 s
 have loop : ∀ (k i : Nat) (o : List Bs) (b : Bool), i + k = (splS s [47]).length → o.length ≤ i → rsegS s = (o ++ ((splS s [47]).drop i).map (fun p => (rdecS p).1), b && ((splS s [47]).drop i).all fun p => (rdecS p).2) → rsegl11 s (fun a b => (a, b) = rsegS s) (k + 1) b (i : Int) o := by
  intro k
  induction k with
  | zero =>
   intro i o b h1 h2 he
   rw [List.drop_of_length_le (by omega), List.map_nil, List.append_nil, List.all_nil, Bool.and_true] at he
   exact ⟨fun h => by have := of_decide_eq_true h; omega, fun _ => he.symm⟩
  | succ k ih =>
   intro i o b h1 h2 he
   have hi : i < (splS s [47]).length := by omega
   rw [drop_get (l := splS s [47]) default hi, List.map_cons, List.all_cons] at he
   have hw : ((splS s [47]).getD i default).length ≤ s.length := by
    rw [splC] at hi ⊢
    exact spC_sub 47 s _ (getD_mem hi)
   refine ⟨fun _ => ⟨by omega, by rw [Int.toNat_natCast]; omega, ?_⟩, fun h => by have := of_decide_eq_false h; omega⟩
   rw [Int.toNat_natCast]
   refine ⟨by unfold encP; omega, by rw [List.length_append, List.length_singleton]; omega, ?_⟩
   rw [w64 (by omega)]
   refine ih (i + 1) _ _ (by omega) (by rw [List.length_append, List.length_singleton]; omega) ?_
   rw [he, List.append_assoc, Bool.and_assoc]
   rfl
 exact ⟨⟨by omega, by decide⟩, _, loop (splS s [47]).length 0 [] true (by omega) (by simp) rfl⟩
theorem rseg_c {g : Ghost} (xs : Bs) (hG0 : SomeInt g 0)  (hp : smP xs) : CallsH Tryz.prog 33 #[sv xs] g [] (fun g' H' v => ∃ (ar0_0 : Option Addr) (cr0_0 : Nat), v = .tuple #[.slice ar0_0 (rsegS xs).1.length cr0_0, .bool (rsegS xs).2] ∧ Rep g' (.slice (.str)) [.slice ar0_0 (rsegS xs).1.length cr0_0] (rsegS xs).1 ∧ H' = []) :=
 (rseg_ok xs hG0 _ (rseg_F xs hp)).mono (by rintro g' H' v _ ⟨r0, r1, ar0_0, cr0_0, rfl, hRr0_0, rfl, hK⟩; obtain ⟨rfl, rfl⟩ : r0 = (rsegS xs).1 ∧ r1 = (rsegS xs).2 := ⟨congrArg (fun z => z.1) hK, congrArg (fun z => z.2) hK⟩; exact ⟨ar0_0, cr0_0, rfl, hRr0_0, rfl⟩)
theorem segO_eq : ∀ (l o : List Bs), segO l o = if (l.all fun p => (rdecS p).2) = true then (o ++ l.map fun p => (rdecS p).1, true) else ([], false)
 | [], o => by simp [segO]
 | p :: r, o => by
  rw [segO, dec_eq, List.all_cons, List.map_cons]
  cases h : (rdecS p).2
  ·rfl
  ·rw [if_t rfl, Bool.true_and]
   show (if ((0 : Int) != 0) = true then _ else segO r (o ++ [(rdecS p).1])) = _
   rw [if_neg (by decide), segO_eq r]
   split
   ·simp
   ·rfl
theorem seg_two (s : Bs) : (segS s).2 = (rsegS s).2 ∧ ((rsegS s).2 = true → (segS s).1 = (rsegS s).1) := by
 rw [segS_eq]
 unfold segS0 rsegS
 rw [segO_eq]
 simp only
 split
 ·rename_i h
  rw [h]
  exact ⟨rfl, fun _ => rfl⟩
 ·rename_i h
  have h : ((splS s [47]).all fun p => (rdecS p).2) = false := by simpa using h
  rw [h]
  exact ⟨rfl, fun h => by cases h⟩
/-! TailOf -/
theorem mk_one (c : UInt8) (hc : c.toNat < 128) (b : UInt8) : mk1 [c] b = (b == c) := by
 unfold mk1
 have h2 : scontS [c] [b] = (b == c) := by
  show Lib.contains [c] [b] = _
  unfold Lib.contains
  rw [idx1]
  by_cases h : b = c
  ·subst h; simp
  ·have h2 : (c == b) = false := by rw [beq_eq_false_iff_ne]; exact fun h3 => h h3.symm
   rw [h2, if_f rfl, show Lib.index [] [b] = -1 from rfl, show (b == c) = false by rw [beq_eq_false_iff_ne]; exact h]
   rfl
 rw [h2]
 by_cases h : b = c
 ·subst h; rw [decide_eq_true (by omega)]; rfl
 ·rw [show (b == c) = false by rw [beq_eq_false_iff_ne]; exact h, Bool.and_false]
theorem prt_one (c : UInt8) (hc : c.toNat < 128) (s : Bs) : prtS s [c] = (s.takeWhile (ne1 c), s.dropWhile (ne1 c)) := by
 unfold prtS
 have : (fun b => !(mk1 [c] b)) = ne1 c := by
  funext b
  rw [mk_one c hc]; rfl
 rw [this]
theorem tpf_dw (c : UInt8) (s : Bs) : tpfM (s.dropWhile (ne1 c)) [c] = (s.dropWhile (ne1 c)).drop 1 ∧ (!(s.dropWhile (ne1 c) == [])) = s.contains c := by
 have hs : ∀ l : Bs, l.dropWhile (ne1 c) = [] ∧ l.contains c = false ∨ (∃ r, l.dropWhile (ne1 c) = c :: r) ∧ l.contains c = true := by
  intro l
  induction l with
  | nil => exact .inl ⟨rfl, rfl⟩
  | cons b l ih =>
   rw [List.dropWhile_cons, List.contains_cons]
   by_cases hb : b = c
   ·subst hb
    have : ne1 b b = false := by unfold ne1; simp
    rw [this]
    exact .inr ⟨⟨l, rfl⟩, by simp⟩
   ·have h1 : ne1 c b = true := by unfold ne1; simp [hb]
    have h2 : (c == b) = false := by rw [beq_eq_false_iff_ne]; exact fun h => hb h.symm
    rw [h1, if_pos rfl, h2, Bool.false_or]
    exact ih
 rcases hs s with ⟨h1, h2⟩ | ⟨⟨r, h1⟩, h2⟩
 ·rw [h1, h2]; exact ⟨rfl, rfl⟩
 ·rw [h1, h2]
  refine ⟨?_, rfl⟩
  show tpfM (c :: r) [c] = r
  have : slhpM (c :: r) [c] = true := by
   show (decide (((c :: r).length : Int) ≥ 1) && (([c] : Bs) == [c])) = true
   simp; omega
  show (if slhpM (c :: r) [c] = true then r else c :: r) = r
  rw [if_t this]
theorem prt_cut (c : UInt8) (hc : c.toNat < 128) (s : Bs) : (prtS s [c]).1 = (cutS s [c]).1 ∧ tpfM (prtS s [c]).2 [c] = (cutS s [c]).2.1 ∧ (!((prtS s [c]).2 == [])) = (cutS s [c]).2.2 := by
 rw [prt_one c hc, cutS1]
 exact ⟨rfl, (tpf_dw c s).1, (tpf_dw c s).2⟩
def rtaiF (xu : JU) (xs : Bs) (K : Bs → Bool → (JU) → Prop) : Prop :=
 prtP xs ([35] : Bs) ∧ prtP (prtS xs ([35] : Bs)).1 ([63] : Bs) ∧ smP (tpfM (prtS (prtS xs ([35] : Bs)).1 ([63] : Bs)).2 ([63] : Bs)) ∧ smP (tpfM (prtS xs ([35] : Bs)).2 ([35] : Bs)) ∧ K (prtS (prtS xs ([35] : Bs)).1 ([63] : Bs)).1 ((cleanS (tpfM (prtS (prtS xs ([35] : Bs)).1 ([63] : Bs)).2 ([63] : Bs))).2 && (cleanS (tpfM (prtS xs ([35] : Bs)).2 ([35] : Bs))).2) (xu.1, xu.2.1, xu.2.2.1, xu.2.2.2.1, (cleanS (tpfM (prtS (prtS xs ([35] : Bs)).1 ([63] : Bs)).2 ([63] : Bs))).1, !((prtS (prtS xs ([35] : Bs)).1 ([63] : Bs)).2 == ([] : Bs)), (cleanS (tpfM (prtS xs ([35] : Bs)).2 ([35] : Bs))).1, !((prtS xs ([35] : Bs)).2 == ([] : Bs)))
theorem rtai_ok {g : Ghost} {bxu : Nat} {axu_0 : Option Addr} {cxu_0 : Nat} (xu : JU) (xs : Bs) (hRxu_0 : Rep g (.slice (.str)) [.slice axu_0 xu.2.2.2.1.length cxu_0] xu.2.2.2.1) (hG0 : SomeInt g 0) (K : Bs → Bool → (JU) → Prop)
  (hF : rtaiF xu xs K) : CallsH Tryz.prog 32 #[pv bxu 0, sv xs] g [.blk bxu (.cells #[sv xu.1, sv xu.2.1, .int .i64 xu.2.2.1, .slice axu_0 xu.2.2.2.1.length cxu_0, sv xu.2.2.2.2.1, .bool xu.2.2.2.2.2.1, sv xu.2.2.2.2.2.2.1, .bool xu.2.2.2.2.2.2.2] 46)] (fun g' H' v => ∃ (r0 : Bs), ∃ (r1 : Bool), ∃ (fxu : JU), ∃ (afxu_0 : Option Addr) (cfxu_0 : Nat), v = .tuple #[sv r0, .bool r1] ∧ Rep g' (.slice (.str)) [.slice afxu_0 fxu.2.2.2.1.length cfxu_0] fxu.2.2.2.1 ∧ H' = [.blk bxu (.cells #[sv fxu.1, sv fxu.2.1, .int .i64 fxu.2.2.1, .slice afxu_0 fxu.2.2.2.1.length cfxu_0, sv fxu.2.2.2.2.1, .bool fxu.2.2.2.2.2.1, sv fxu.2.2.2.2.2.2.1, .bool fxu.2.2.2.2.2.2.2] 46)] ∧ K r0 r1 fxu) := by
 refine CallsH.enter 55 [(0, pv bxu 0), (1, sv xs)] Tryz.func32 rfl (by kernel_rfl) (by kernel_rfl) (by kernel_rfl) fun w0 => ?_
 refine Ok.seq (Ok.region (Ok.batch 2 [(0, pv bxu 0), (1, sv xs)] (by kernel_rfl) (Ok.nil (Ok.thenN (Ok.seq (Ok.region (Ok.bat 1 [0] [(13, sv xs)] ?_)))))))
 obtain ⟨hp1, hF⟩ := hF
 refine Ok.op rfl (OpOk.callG (v := .tuple #[sv ((prtS xs ([35] : Bs)).1), sv ((prtS xs ([35] : Bs)).2)]) enr (fun W hW => rprt_c xs ([35] : Bs) (hG0.mono hW.sees) hp1) rfl ?_)
 refine Ok.bat 5 [0] [(6, sv ((prtS xs ([35] : Bs)).1)), (7, sv ((prtS xs ([35] : Bs)).2))] ?_
 refine Ok.nil (Ok.thenN (Ok.seq (Ok.region (Ok.bat 1 [0, 7] [(18, sv ((prtS xs ([35] : Bs)).1))] ?_))))
 obtain ⟨hp2, hF⟩ := hF
 refine Ok.op rfl (OpOk.callG (v := .tuple #[sv ((prtS (prtS xs ([35] : Bs)).1 ([63] : Bs)).1), sv ((prtS (prtS xs ([35] : Bs)).1 ([63] : Bs)).2)]) enr (fun W hW => rprt_c (prtS xs ([35] : Bs)).1 ([63] : Bs) (hG0.mono hW.sees) hp2) rfl ?_)
 refine Ok.bat 5 [0, 7] [(8, sv ((prtS (prtS xs ([35] : Bs)).1 ([63] : Bs)).1)), (9, sv ((prtS (prtS xs ([35] : Bs)).1 ([63] : Bs)).2))] ?_
 refine Ok.nil (Ok.thenN (Ok.seq (Ok.region (Ok.bat 3 [0, 7, 8, 9] [(22, pv bxu 0), (23, pv bxu 0), (24, sv ((prtS (prtS xs ([35] : Bs)).1 ([63] : Bs)).2))] ?_))))
 refine Ok.op rfl (OpOk.step (v := .bool (!((prtS (prtS xs ([35] : Bs)).1 ([63] : Bs)).2 == ([] : Bs)))) (Yields.strCmp (f := .neq) (a := (prtS (prtS xs ([35] : Bs)).1 ([63] : Bs)).2) (b := ([] : Bs)) (by kernel_rfl) (by kernel_rfl) rfl) rfl rfl (Ok.bat 1 [0, 7, 8, 9, 22, 23] [(25, .bool (!((prtS (prtS xs ([35] : Bs)).1 ([63] : Bs)).2 == ([] : Bs)))), (26, sv ((prtS xs ([35] : Bs)).2))] ?_))
 refine Ok.op rfl (OpOk.step (v := .bool (!((prtS xs ([35] : Bs)).2 == ([] : Bs)))) (Yields.strCmp (f := .neq) (a := (prtS xs ([35] : Bs)).2) (b := ([] : Bs)) (by kernel_rfl) (by kernel_rfl) rfl) rfl rfl (Ok.bat 2 [0, 7, 8, 9, 23, 25] [(27, .bool (!((prtS xs ([35] : Bs)).2 == ([] : Bs)))), (29, pv bxu 5)] ?_))
 refine Ok.op rfl (OpOk.sto (k := 1) (v := .bool (!((prtS (prtS xs ([35] : Bs)).1 ([63] : Bs)).2 == ([] : Bs)))) 0 #[sv xu.1, sv xu.2.1, .int .i64 xu.2.2.1, .slice axu_0 xu.2.2.2.1.length cxu_0, sv xu.2.2.2.2.1, .bool (!((prtS (prtS xs ([35] : Bs)).1 ([63] : Bs)).2 == ([] : Bs))), sv xu.2.2.2.2.2.2.1, .bool xu.2.2.2.2.2.2.2] rfl rfl rfl ?_)
 refine Ok.bat 2 [0, 7, 8, 9, 27] [(31, pv bxu 7)] ?_
 refine Ok.op rfl (OpOk.sto (k := 1) (v := .bool (!((prtS xs ([35] : Bs)).2 == ([] : Bs)))) 0 #[sv xu.1, sv xu.2.1, .int .i64 xu.2.2.1, .slice axu_0 xu.2.2.2.1.length cxu_0, sv xu.2.2.2.2.1, .bool (!((prtS (prtS xs ([35] : Bs)).1 ([63] : Bs)).2 == ([] : Bs))), sv xu.2.2.2.2.2.2.1, .bool (!((prtS xs ([35] : Bs)).2 == ([] : Bs)))] rfl rfl rfl ?_)
 refine Ok.nil (Ok.thenN (Ok.seq (Ok.region (Ok.bat 2 [0, 7, 8, 9] [] ?_))))
 refine Ok.nil (Ok.thenN (Ok.seq (Ok.region (Ok.bat 2 [0, 7, 8] [(33, pv bxu 0), (34, sv ((prtS (prtS xs ([35] : Bs)).1 ([63] : Bs)).2))] ?_))))
 refine Ok.op rfl (OpOk.callG (v := sv (tpfM (prtS (prtS xs ([35] : Bs)).1 ([63] : Bs)).2 ([63] : Bs))) enr (fun W hW => tpf_c (prtS (prtS xs ([35] : Bs)).1 ([63] : Bs)).2 ([63] : Bs)) rfl ?_)
 obtain ⟨hp3, hF⟩ := hF
 refine Ok.op rfl (OpOk.callG (v := .tuple #[sv ((cleanS (tpfM (prtS (prtS xs ([35] : Bs)).1 ([63] : Bs)).2 ([63] : Bs))).1), .bool (cleanS (tpfM (prtS (prtS xs ([35] : Bs)).1 ([63] : Bs)).2 ([63] : Bs))).2]) enr (fun W hW => rcle_c (tpfM (prtS (prtS xs ([35] : Bs)).1 ([63] : Bs)).2 ([63] : Bs)) (hG0.mono hW.sees) hp3) rfl ?_)
 refine Ok.bat 5 [0, 7, 8] [(37, sv ((cleanS (tpfM (prtS (prtS xs ([35] : Bs)).1 ([63] : Bs)).2 ([63] : Bs))).1)), (38, .bool (cleanS (tpfM (prtS (prtS xs ([35] : Bs)).1 ([63] : Bs)).2 ([63] : Bs))).2), (40, pv bxu 4)] ?_
 refine Ok.op rfl (OpOk.sto (k := 1) (v := sv ((cleanS (tpfM (prtS (prtS xs ([35] : Bs)).1 ([63] : Bs)).2 ([63] : Bs))).1)) 0 #[sv xu.1, sv xu.2.1, .int .i64 xu.2.2.1, .slice axu_0 xu.2.2.2.1.length cxu_0, sv ((cleanS (tpfM (prtS (prtS xs ([35] : Bs)).1 ([63] : Bs)).2 ([63] : Bs))).1), .bool (!((prtS (prtS xs ([35] : Bs)).1 ([63] : Bs)).2 == ([] : Bs))), sv xu.2.2.2.2.2.2.1, .bool (!((prtS xs ([35] : Bs)).2 == ([] : Bs)))] rfl rfl rfl ?_)
 refine Ok.bat 1 [0, 7, 8] [(10, .bool (cleanS (tpfM (prtS (prtS xs ([35] : Bs)).1 ([63] : Bs)).2 ([63] : Bs))).2)] ?_
 refine Ok.nil (Ok.thenN (Ok.seq (Ok.region (Ok.bat 2 [8, 10] [(42, pv bxu 0), (43, sv ((prtS xs ([35] : Bs)).2))] ?_))))
 refine Ok.op rfl (OpOk.callG (v := sv (tpfM (prtS xs ([35] : Bs)).2 ([35] : Bs))) enr (fun W hW => tpf_c (prtS xs ([35] : Bs)).2 ([35] : Bs)) rfl ?_)
 obtain ⟨hp4, hF⟩ := hF
 refine Ok.op rfl (OpOk.callG (v := .tuple #[sv ((cleanS (tpfM (prtS xs ([35] : Bs)).2 ([35] : Bs))).1), .bool (cleanS (tpfM (prtS xs ([35] : Bs)).2 ([35] : Bs))).2]) enr (fun W hW => rcle_c (tpfM (prtS xs ([35] : Bs)).2 ([35] : Bs)) (hG0.mono hW.sees) hp4) rfl ?_)
 refine Ok.bat 5 [8, 10] [(46, sv ((cleanS (tpfM (prtS xs ([35] : Bs)).2 ([35] : Bs))).1)), (47, .bool (cleanS (tpfM (prtS xs ([35] : Bs)).2 ([35] : Bs))).2), (49, pv bxu 6)] ?_
 refine Ok.op rfl (OpOk.sto (k := 1) (v := sv ((cleanS (tpfM (prtS xs ([35] : Bs)).2 ([35] : Bs))).1)) 0 #[sv xu.1, sv xu.2.1, .int .i64 xu.2.2.1, .slice axu_0 xu.2.2.2.1.length cxu_0, sv ((cleanS (tpfM (prtS (prtS xs ([35] : Bs)).1 ([63] : Bs)).2 ([63] : Bs))).1), .bool (!((prtS (prtS xs ([35] : Bs)).1 ([63] : Bs)).2 == ([] : Bs))), sv ((cleanS (tpfM (prtS xs ([35] : Bs)).2 ([35] : Bs))).1), .bool (!((prtS xs ([35] : Bs)).2 == ([] : Bs)))] rfl rfl rfl ?_)
 refine Ok.bat 1 [8, 10] [(11, .bool (cleanS (tpfM (prtS xs ([35] : Bs)).2 ([35] : Bs))).2)] ?_
 refine Ok.nil (Ok.thenN (Ok.seq (Ok.region (Ok.bat 3 [11] [(50, sv ((prtS (prtS xs ([35] : Bs)).1 ([63] : Bs)).1)), (52, .bool (cleanS (tpfM (prtS (prtS xs ([35] : Bs)).1 ([63] : Bs)).2 ([63] : Bs))).2)] ?_))))
 refine Ok.midway 2 [(50, sv ((prtS (prtS xs ([35] : Bs)).1 ([63] : Bs)).1)), (54, .bool ((cleanS (tpfM (prtS (prtS xs ([35] : Bs)).1 ([63] : Bs)).2 ([63] : Bs))).2 && (cleanS (tpfM (prtS xs ([35] : Bs)).2 ([35] : Bs))).2))] (fun hR5 => ?_) ?_
 ·refine Ok.boolAt 52 (cleanS (tpfM (prtS (prtS xs ([35] : Bs)).1 ([63] : Bs)).2 ([63] : Bs))).2 rfl (fun hc6 => ?_) (fun hc6 => ?_)
  ·skip
   refine Ok.bat 2 [50] [(54, .bool (cleanS (tpfM (prtS xs ([35] : Bs)).2 ([35] : Bs))).2)] ?_
   refine Ok.reval 54 rfl (show (.bool (cleanS (tpfM (prtS xs ([35] : Bs)).2 ([35] : Bs))).2 : Value) = .bool ((cleanS (tpfM (prtS (prtS xs ([35] : Bs)).1 ([63] : Bs)).2 ([63] : Bs))).2 && (cleanS (tpfM (prtS xs ([35] : Bs)).2 ([35] : Bs))).2) from congrArg Value.bool (mand_t hc6)) (Ok.bat 0 [50] [(54, .bool ((cleanS (tpfM (prtS (prtS xs ([35] : Bs)).1 ([63] : Bs)).2 ([63] : Bs))).2 && (cleanS (tpfM (prtS xs ([35] : Bs)).2 ([35] : Bs))).2))] ?_)
   exact hR5
  ·skip
   refine Ok.bat 2 [50] [(54, .bool false)] ?_
   refine Ok.reval 54 rfl (show (.bool false : Value) = .bool ((cleanS (tpfM (prtS (prtS xs ([35] : Bs)).1 ([63] : Bs)).2 ([63] : Bs))).2 && (cleanS (tpfM (prtS xs ([35] : Bs)).2 ([35] : Bs))).2) from congrArg Value.bool (mand_f hc6)) (Ok.bat 0 [50] [(54, .bool ((cleanS (tpfM (prtS (prtS xs ([35] : Bs)).1 ([63] : Bs)).2 ([63] : Bs))).2 && (cleanS (tpfM (prtS xs ([35] : Bs)).2 ([35] : Bs))).2))] ?_)
   exact hR5
 refine Ok.batch 2 [(4, sv ((prtS (prtS xs ([35] : Bs)).1 ([63] : Bs)).1)), (5, .bool ((cleanS (tpfM (prtS (prtS xs ([35] : Bs)).1 ([63] : Bs)).2 ([63] : Bs))).2 && (cleanS (tpfM (prtS xs ([35] : Bs)).2 ([35] : Bs))).2))] (by kernel_rfl) (Ok.nil (Ok.thenN (Ok.ret ?_)))
 exact Ok.resH (vs := [sv ((prtS (prtS xs ([35] : Bs)).1 ([63] : Bs)).1), .bool ((cleanS (tpfM (prtS (prtS xs ([35] : Bs)).1 ([63] : Bs)).2 ([63] : Bs))).2 && (cleanS (tpfM (prtS xs ([35] : Bs)).2 ([35] : Bs))).2)]) (.inl rfl) rfl (.cons (.tmp rfl) (.cons (.tmp rfl) .nil)) (Gext.refl w0 g) ⟨(prtS (prtS xs ([35] : Bs)).1 ([63] : Bs)).1, ((cleanS (tpfM (prtS (prtS xs ([35] : Bs)).1 ([63] : Bs)).2 ([63] : Bs))).2 && (cleanS (tpfM (prtS xs ([35] : Bs)).2 ([35] : Bs))).2), (xu.1, xu.2.1, xu.2.2.1, xu.2.2.2.1, (cleanS (tpfM (prtS (prtS xs ([35] : Bs)).1 ([63] : Bs)).2 ([63] : Bs))).1, !((prtS (prtS xs ([35] : Bs)).1 ([63] : Bs)).2 == ([] : Bs)), (cleanS (tpfM (prtS xs ([35] : Bs)).2 ([35] : Bs))).1, !((prtS xs ([35] : Bs)).2 == ([] : Bs))), axu_0, cxu_0, rfl, hRxu_0, rfl, hF⟩
theorem rtai_F (u : JU) (s : Bs) (hp : tailP u s) : rtaiF u s (fun a b c => (a, b, c) = tailS u s) := by
 unfold tailP smP at hp
 obtain ⟨a1, a2, a3⟩ := prt_cut 35 (by decide) s
 have c1 := cutS_len 35 s
 obtain ⟨b1, b2, b3⟩ := prt_cut 63 (by decide) (cutS s [35]).1
 have c2 := cutS_len 63 (cutS s [35]).1
 have hlen := prt_len s [35]
 unfold rtaiF
 rw [a1, a2, a3, b1, b2, b3]
 refine ⟨⟨by omega, by decide⟩, ⟨by omega, by decide⟩, by unfold smP; omega, by unfold smP; omega, by rw [tailS_eq]; rfl⟩
theorem rtai_c {g : Ghost} {bxu : Nat} {axu_0 : Option Addr} {cxu_0 : Nat} (xu : JU) (xs : Bs) (hRxu_0 : Rep g (.slice (.str)) [.slice axu_0 xu.2.2.2.1.length cxu_0] xu.2.2.2.1) (hG0 : SomeInt g 0)  (hp : tailP xu xs) : CallsH Tryz.prog 32 #[pv bxu 0, sv xs] g [.blk bxu (.cells #[sv xu.1, sv xu.2.1, .int .i64 xu.2.2.1, .slice axu_0 xu.2.2.2.1.length cxu_0, sv xu.2.2.2.2.1, .bool xu.2.2.2.2.2.1, sv xu.2.2.2.2.2.2.1, .bool xu.2.2.2.2.2.2.2] 46)] (fun g' H' v => ∃ (afxu_0 : Option Addr) (cfxu_0 : Nat), v = .tuple #[sv ((tailS xu xs).1), .bool (tailS xu xs).2.1] ∧ Rep g' (.slice (.str)) [.slice afxu_0 (tailS xu xs).2.2.2.2.2.1.length cfxu_0] (tailS xu xs).2.2.2.2.2.1 ∧ H' = [.blk bxu (.cells #[sv ((tailS xu xs).2.2.1), sv ((tailS xu xs).2.2.2.1), .int .i64 (tailS xu xs).2.2.2.2.1, .slice afxu_0 (tailS xu xs).2.2.2.2.2.1.length cfxu_0, sv ((tailS xu xs).2.2.2.2.2.2.1), .bool (tailS xu xs).2.2.2.2.2.2.2.1, sv ((tailS xu xs).2.2.2.2.2.2.2.2.1), .bool (tailS xu xs).2.2.2.2.2.2.2.2.2] 46)]) :=
 (rtai_ok xu xs hRxu_0 hG0 _ (rtai_F xu xs hp)).mono (by rintro g' H' v _ ⟨r0, r1, fxu, afxu_0, cfxu_0, rfl, hRfxu_0, rfl, hK⟩; obtain ⟨rfl, rfl, rfl⟩ : r0 = (tailS xu xs).1 ∧ r1 = (tailS xu xs).2.1 ∧ fxu = (tailS xu xs).2.2 := ⟨congrArg (fun z => z.1) hK, congrArg (fun z => z.2.1) hK, congrArg (fun z => z.2.2) hK⟩; exact ⟨afxu_0, cfxu_0, rfl, hRfxu_0, rfl⟩)
/-! OriginOf -/
def roriV0 (xu : JU) : Bs :=
 (if (xu.2.2.1 != 0) = true then ((xu.1 ++ ([58, 47, 47] : Bs)) ++ xu.2.1) ++ (([58] : Bs) ++ (itoaS xu.2.2.1)) else (xu.1 ++ ([58, 47, 47] : Bs)) ++ xu.2.1)
def rorij5 (xu : JU) (K : Bs → Prop) : Prop :=
 K (roriV0 xu)
def roriF (xu : JU) (K : Bs → Prop) : Prop :=
 xu.1.length + ([58, 47, 47] : Bs).length ≤ maxLen ∧ (xu.1 ++ ([58, 47, 47] : Bs)).length + xu.2.1.length ≤ maxLen ∧ (((xu.2.2.1 != 0)) = true → itoaP xu.2.2.1 ∧ ([58] : Bs).length + (itoaS xu.2.2.1).length ≤ maxLen ∧ ((xu.1 ++ ([58, 47, 47] : Bs)) ++ xu.2.1).length + (([58] : Bs) ++ (itoaS xu.2.2.1)).length ≤ maxLen ∧ rorij5 xu K) ∧ (((xu.2.2.1 != 0)) = false → rorij5 xu K)
theorem rori_ok {g : Ghost} {axu_0 : Option Addr} {cxu_0 : Nat} (xu : JU) (hRxu_0 : Rep g (.slice (.str)) [.slice axu_0 xu.2.2.2.1.length cxu_0] xu.2.2.2.1) (hG1 : GlobL g 1 (.int .u64) DPow) (K : Bs → Prop)
  (hF : roriF xu K) : CallsH Tryz.prog 11 #[.agg #[sv xu.1, sv xu.2.1, .int .i64 xu.2.2.1, .slice axu_0 xu.2.2.2.1.length cxu_0, sv xu.2.2.2.2.1, .bool xu.2.2.2.2.2.1, sv xu.2.2.2.2.2.2.1, .bool xu.2.2.2.2.2.2.2]] g [] (fun g' H' v => ∃ (r0 : Bs), v = sv r0 ∧ H' = [] ∧ K r0) := by
 refine CallsH.enter 20 [(0, .agg #[sv xu.1, sv xu.2.1, .int .i64 xu.2.2.1, .slice axu_0 xu.2.2.2.1.length cxu_0, sv xu.2.2.2.2.1, .bool xu.2.2.2.2.2.1, sv xu.2.2.2.2.2.2.1, .bool xu.2.2.2.2.2.2.2])] Tryz.func11 rfl (by kernel_rfl) (by kernel_rfl) (by kernel_rfl) fun w0 => ?_
 refine Ok.seq (Ok.region (Ok.op rfl (OpOk.box (v := .agg #[sv xu.1, sv xu.2.1, .int .i64 xu.2.2.1, .slice axu_0 xu.2.2.2.1.length cxu_0, sv xu.2.2.2.2.1, .bool xu.2.2.2.2.2.1, sv xu.2.2.2.2.2.2.1, .bool xu.2.2.2.2.2.2.2]) (cs := #[sv xu.1, sv xu.2.1, .int .i64 xu.2.2.1, .slice axu_0 xu.2.2.2.1.length cxu_0, sv xu.2.2.2.2.1, .bool xu.2.2.2.2.2.1, sv xu.2.2.2.2.2.2.1, .bool xu.2.2.2.2.2.2.2]) rfl (by kernel_rfl) rfl fun bs1 => ?_)))
 refine Ok.batch 1 [(1, pv bs1 0)] (by kernel_rfl) (Ok.nil (Ok.thenN (Ok.seq (Ok.region (Ok.bat 1 [1] [(4, pv bs1 0)] ?_)))))
 refine Ok.op rfl (OpOk.step (v := sv xu.1) (Yields.load 0 rfl rfl Tryz.underlying9 rfl (by kernel_rfl)) rfl rfl ?_)
 obtain ⟨hv, hF⟩ := hF
 refine Ok.op rfl (OpOk.step (v := sv (xu.1 ++ ([58, 47, 47] : Bs))) (Yields.strAdd rfl rfl hv) rfl rfl (Ok.bat 1 [1] [(6, sv (xu.1 ++ ([58, 47, 47] : Bs))), (7, pv bs1 1)] ?_))
 refine Ok.op rfl (OpOk.step (v := sv xu.2.1) (Yields.load 0 rfl rfl Tryz.underlying9 rfl (by kernel_rfl)) rfl rfl ?_)
 obtain ⟨hv, hF⟩ := hF
 refine Ok.op rfl (OpOk.step (v := sv ((xu.1 ++ ([58, 47, 47] : Bs)) ++ xu.2.1)) (Yields.strAdd rfl rfl hv) rfl rfl (Ok.bat 1 [1] [(3, sv ((xu.1 ++ ([58, 47, 47] : Bs)) ++ xu.2.1))] ?_))
 refine Ok.nil (Ok.thenN (Ok.cut (fun a W => StA 20 [(3, sv (roriV0 xu))] a ∧ StW w0 [] g W ∧ rorij5 xu K) ?_ ?_))
 ·
  refine Ok.seq (Ok.region (Ok.bat 1 [1, 3] [(10, pv bs1 2)] ?_))
  refine Ok.op rfl (OpOk.step (v := .int .i64 xu.2.2.1) (Yields.load 0 rfl rfl Tryz.underlying3 rfl (by kernel_rfl)) rfl rfl (Ok.bat 1 [1, 3] [(12, .bool (xu.2.2.1 != 0))] ?_))
  refine Ok.nil (Ok.thenN (Ok.cond (b := (xu.2.2.1 != 0)) rfl (fun hc2 => ?_) (fun hc2 => ?_)))
  ·replace hF := hF.1 hc2
   refine Ok.region (Ok.batch 2 [(13, sv ((xu.1 ++ ([58, 47, 47] : Bs)) ++ xu.2.1)), (14, pv bs1 2)] (by kernel_rfl) (Ok.op rfl (OpOk.step (v := .int .i64 xu.2.2.1) (Yields.load 0 rfl rfl Tryz.underlying3 rfl (by kernel_rfl)) rfl rfl ?_)))
   obtain ⟨hp3, hF⟩ := hF
   refine Ok.op rfl (OpOk.callG (v := sv (itoaS xu.2.2.1)) enr (fun W hW => itoa_c xu.2.2.1 (hG1.mono hW.sees) hp3) rfl ?_)
   obtain ⟨hv, hF⟩ := hF
   refine Ok.op rfl (OpOk.step (v := sv (([58] : Bs) ++ (itoaS xu.2.2.1))) (Yields.strAdd rfl rfl hv) rfl rfl ?_)
   obtain ⟨hv, hF⟩ := hF
   refine Ok.op rfl (OpOk.step (v := sv (((xu.1 ++ ([58, 47, 47] : Bs)) ++ xu.2.1) ++ (([58] : Bs) ++ (itoaS xu.2.2.1)))) (Yields.strAdd rfl rfl hv) rfl rfl (Ok.batch 1 [(3, sv (((xu.1 ++ ([58, 47, 47] : Bs)) ++ xu.2.1) ++ (([58] : Bs) ++ (itoaS xu.2.2.1))))] (by kernel_rfl) (Ok.nil (Ok.thenN (Ok.reval 3 rfl (show (sv (((xu.1 ++ ([58, 47, 47] : Bs)) ++ xu.2.1) ++ (([58] : Bs) ++ (itoaS xu.2.2.1))) : Value) = sv (roriV0 xu) from congrArg ((fun s : Bs => Value.string ⟨⟨s⟩⟩)) ((if_t hc2).symm)) ?_)))))
   exact fun a W hA hW => ⟨hA.sub (by kernel_rfl), hW.sub (.cons _ .slnil), hF⟩
  ·replace hF := hF.2 hc2
   refine Ok.skip (Ok.thenN (Ok.reval 3 rfl (show (sv ((xu.1 ++ ([58, 47, 47] : Bs)) ++ xu.2.1) : Value) = sv (roriV0 xu) from congrArg ((fun s : Bs => Value.string ⟨⟨s⟩⟩)) ((if_f hc2).symm)) ?_))
   exact fun a W hA hW => ⟨hA.sub (by kernel_rfl), hW.sub (.cons _ .slnil), hF⟩
 ·
  clear hF
  rintro a W ⟨hA, hW, hF⟩
  refine (?_ : Ok _ _ _ _ _ _) a W hA hW
  clear hA hW
  refine Ok.seq (Ok.region (Ok.batch 2 [(2, sv (roriV0 xu))] (by kernel_rfl) (Ok.nil (Ok.thenN (Ok.ret ?_)))))
  exact Ok.resH (vs := [sv (roriV0 xu)]) (.inl rfl) rfl (.cons (.tmp rfl) .nil) (Gext.refl w0 g) ⟨(roriV0 xu), rfl, rfl, hF⟩
theorem rori_F (u : JU) (hp : oriP u) : roriF u (fun r => r = oriS u) := by
 obtain ⟨h1, h2, h3⟩ := hp
 have h4 := itoa_len h3
 unfold roriF
 simp only [List.length_append, List.length_cons, List.length_nil, maxLen_eq]
 exact ⟨by omega, by omega, fun _ => ⟨h3, by omega, by omega, rfl⟩, fun _ => rfl⟩
theorem rori_c {g : Ghost} {axu_0 : Option Addr} {cxu_0 : Nat} (xu : JU) (hRxu_0 : Rep g (.slice (.str)) [.slice axu_0 xu.2.2.2.1.length cxu_0] xu.2.2.2.1) (hG1 : GlobL g 1 (.int .u64) DPow)  (hp : oriP xu) : CallsG Tryz.prog 11 #[.agg #[sv xu.1, sv xu.2.1, .int .i64 xu.2.2.1, .slice axu_0 xu.2.2.2.1.length cxu_0, sv xu.2.2.2.2.1, .bool xu.2.2.2.2.2.1, sv xu.2.2.2.2.2.2.1, .bool xu.2.2.2.2.2.2.2]] g (sv (oriS xu)) :=
 (rori_ok xu hRxu_0 hG1 _ (rori_F xu hp)).gives (by rintro g' H' v _ ⟨r0, rfl, rfl, hK⟩; subst hK; rfl)
end
end Go.Proofs.YtdjcgbejnpbjlaaGreatDoor.Ub
