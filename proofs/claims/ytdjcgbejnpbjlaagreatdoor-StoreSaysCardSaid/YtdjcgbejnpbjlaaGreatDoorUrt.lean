/- Addresses: tidy, segments, tail. -/
import Derived.Test.YtdjcgbejnpbjlaaGreatDoorUrb
import Derived.Test.YtdjcgbejnpbjlaaGreatDoorCuo
namespace Go.Proofs.YtdjcgbejnpbjlaaGreatDoor.Ub
open Go Go.Eng Go.RowKit Go.Shelf Go.Proofs Bld Sp Ti Uc Ua Ui
set_option maxHeartbeats 4000000
set_option maxRecDepth 100000
set_option linter.unusedSimpArgs false
set_option linter.unusedVariables false
def tdF (o : List Bs) (s : Bs) : List Bs := if (s == [46, 46]) = true then o.take (o.length - 1) else if (s == [46]) = true then o else o ++ [s]
def dotS (s : Bs) : Bool := (s == [46]) || (s == [46, 46])
def lastDot : List Bs → Bool
 | [] => false
 | [s] => dotS s
 | _ :: r => lastDot r
def tidyS0 (l : List Bs) : List Bs := if (lastDot l || (l.foldl tdF [] == [])) = true then l.foldl tdF [] ++ [[]] else l.foldl tdF []
noncomputable def tidyS : List Bs → List Bs := Classical.choose (rigid tidyS0)
theorem tidyS_eq : tidyS = tidyS0 := Classical.choose_spec (rigid tidyS0)
def tidyP (l : List Bs) : Prop := l.length ≤ 4000
theorem td_dot {o : List Bs} {e : Bs} (h : dotS e = true) : (tdF o e).length ≤ o.length := by
 unfold dotS at h
 unfold tdF
 split
 ·rw [List.length_take]; omega
 ·split
  ·omega
  ·rename_i a b
   rw [Bool.or_eq_true] at h
   rcases h with h | h
   ·exact absurd h b
   ·exact absurd h a
theorem td_no {o : List Bs} {e : Bs} (h : dotS e = false) : tdF o e = o ++ [e] := by
 unfold dotS at h
 rw [Bool.or_eq_false_iff] at h
 unfold tdF
 rw [if_f h.2, if_f h.1]
theorem td_len (o : List Bs) (e : Bs) : (tdF o e).length ≤ o.length + 1 := by
 cases h : dotS e
 ·rw [td_no h]; simp
 ·have := td_dot (o := o) h; omega
def utidyV0 (e4 : Bs) : Bool :=
 ((!(e4 == ([46] : Bs))) && (!(e4 == ([46, 46] : Bs))))
def utidyV3 (e4 : Bs) (yown1_0l9 : List Bs) : List Bs :=
 (if ((e4 == ([46, 46] : Bs)) && (decide ((yown1_0l9.length : Int) > 0))) = true then (yown1_0l9.take (Int.toNat (w6 ((yown1_0l9.length : Int) - 1)))) else yown1_0l9)
def utidyV5 (yown1_0l9 : List Bs) : List Bs :=
 (if ((yown1_0l9.length : Int) == 0) = true then ([([] : Bs)] : List Bs) else yown1_0l9)
def utidyV6 (xl : List Bs) (x8l9 : Int) (yown1_0l9 : List Bs) : List Bs :=
 (if (utidyV0 (xl.getD (Int.toNat x8l9) default)) = true then (yown1_0l9 ++ ([(xl.getD (Int.toNat x8l9) default)] : List Bs)) else (if (x8l9 == (w6 ((xl.length : Int) - 1))) = true then ((utidyV3 (xl.getD (Int.toNat x8l9) default) yown1_0l9) ++ ([([] : Bs)] : List Bs)) else (utidyV3 (xl.getD (Int.toNat x8l9) default) yown1_0l9)))
def utidyj16 (xl : List Bs) (x8l9 : Int) (yown1_0l9 : List Bs) (C9 : Int → (List Bs) → Prop) : Prop :=
 C9 (w6 (x8l9 + 1)) (utidyV6 xl x8l9 yown1_0l9)
def utidyj28 (xl : List Bs) (e4 : Bs) (x8l9 : Int) (yown1_0l9 : List Bs) (C9 : Int → (List Bs) → Prop) : Prop :=
 (((x8l9 == (w6 ((xl.length : Int) - 1)))) = true → ((utidyV3 e4 yown1_0l9) ++ ([([] : Bs)] : List Bs)).length ≤ 8796093022208 ∧ utidyj16 xl x8l9 yown1_0l9 C9) ∧ (((x8l9 == (w6 ((xl.length : Int) - 1)))) = false → utidyj16 xl x8l9 yown1_0l9 C9)
def utidyj21 (xl : List Bs) (e4 : Bs) (x8l9 : Int) (yown1_0l9 : List Bs) (C9 : Int → (List Bs) → Prop) : Prop :=
 (((utidyV0 e4)) = true → (yown1_0l9 ++ ([e4] : List Bs)).length ≤ 8796093022208 ∧ utidyj16 xl x8l9 yown1_0l9 C9) ∧ (((utidyV0 e4)) = false → ((((e4 == ([46, 46] : Bs)) && (decide ((yown1_0l9.length : Int) > 0)))) = true → (0 : Int) ≤ (w6 ((yown1_0l9.length : Int) - 1)) ∧ (w6 ((yown1_0l9.length : Int) - 1)) ≤ (yown1_0l9.length : Int) ∧ utidyj28 xl e4 x8l9 yown1_0l9 C9) ∧ ((((e4 == ([46, 46] : Bs)) && (decide ((yown1_0l9.length : Int) > 0)))) = false → utidyj28 xl e4 x8l9 yown1_0l9 C9))
def utidyj40 (K : (List Bs) → Prop) (yown1_0l9 : List Bs) : Prop :=
 K (utidyV5 yown1_0l9)
def utidyl9b (xl : List Bs) (K : (List Bs) → Prop) (x8l9 : Int) (yown1_0l9 : List Bs) (C9 : Int → (List Bs) → Prop) : Prop :=
 ((decide (x8l9 < (xl.length : Int))) = true → (0 : Int) ≤ x8l9 ∧ Int.toNat x8l9 < xl.length ∧ ((!((xl.getD (Int.toNat x8l9) default) == ([46] : Bs))) = true → utidyj21 xl (xl.getD (Int.toNat x8l9) default) x8l9 yown1_0l9 C9) ∧ ((!((xl.getD (Int.toNat x8l9) default) == ([46] : Bs))) = false → utidyj21 xl (xl.getD (Int.toNat x8l9) default) x8l9 yown1_0l9 C9)) ∧ ((decide (x8l9 < (xl.length : Int))) = false → ((((yown1_0l9.length : Int) == 0)) = true → utidyj40 K yown1_0l9) ∧ ((((yown1_0l9.length : Int) == 0)) = false → utidyj40 K yown1_0l9))
def utidyl9 (xl : List Bs) (K : (List Bs) → Prop) : Nat → Int → (List Bs) → Prop
 | 0, _, _ => False
 | k + 1, x8l9, yown1_0l9 => utidyl9b xl K x8l9 yown1_0l9 (utidyl9 xl K k)
def utidyF (xl : List Bs) (K : (List Bs) → Prop) : Prop :=
 ∃ k, utidyl9 xl K k 0 ([] : List Bs)
theorem utidy_ok {g : Ghost} {axl_0 : Option Addr} {cxl_0 : Nat} (xl : List Bs) (hRxl_0 : Rep g (.slice (.str)) [.slice axl_0 xl.length cxl_0] xl) (K : (List Bs) → Prop)
  (hF : utidyF xl K) : CallsH Tryz.prog 43 #[.slice axl_0 xl.length cxl_0] g [] (fun g' H' v => ∃ (r0 : List Bs), ∃ (ar0_0 : Option Addr) (cr0_0 : Nat), v = .slice ar0_0 r0.length cr0_0 ∧ Rep g' (.slice (.str)) [.slice ar0_0 r0.length cr0_0] r0 ∧ H' = [] ∧ K r0) := by
 refine CallsH.enter 49 [(0, .slice axl_0 xl.length cxl_0)] Tryz.func43 rfl (by kernel_rfl) (by kernel_rfl) (by kernel_rfl) fun w0 => ?_
 refine Ok.seq (Ok.region (Ok.batch 1 [(0, .slice axl_0 xl.length cxl_0)] (by kernel_rfl) (Ok.nil (Ok.thenN (Ok.seq (Ok.region (Ok.bat 1 [0] [(3, .slice none 0 0)] ?_)))))))
 have hL1 : RepL g (.str) [] [] := rfl
 refine Ok.ownNil 9 1 (Ok.nil (Ok.thenN (Ok.seq (Ok.seq (Ok.region (Ok.bat 3 [0] [(3, .slice none ([] : List Bs).length 0), (6, .slice axl_0 xl.length cxl_0), (7, .int .i64 (xl.length : Int)), (8, .int .i64 0)] ?_))))))
 refine Ok.nil (Ok.thenN (Ok.block ?_))
 obtain ⟨k, hF⟩ := hF
 refine Ok.loop (fun k a W => ∃ gl9 : Ghost, Gext w0 g gl9 ∧ ∃ (x8l9 : Int) (ayown1_0l9 : Option Addr) (cyown1_0l9 : Nat) (yown1_0l9 : List Bs) (xsyown1_0l9 : List Value), RepL gl9 (.str) xsyown1_0l9 yown1_0l9 ∧ StA 49 [(0, .slice axl_0 xl.length cxl_0), (3, .slice ayown1_0l9 yown1_0l9.length cyown1_0l9), (6, .slice axl_0 xl.length cxl_0), (7, .int .i64 (xl.length : Int)), (8, .int .i64 x8l9)] a ∧ StW w0 [.own (.slice ayown1_0l9 yown1_0l9.length cyown1_0l9) 9 1 yown1_0l9.length xsyown1_0l9] gl9 W ∧ utidyl9 xl K k x8l9 yown1_0l9) k ?_ ?_
 ·
  exact fun a W hA hW => ⟨g, (Gext.refl w0 g), 0, none, 0, ([] : List Bs), [], hL1, hA.sub (by kernel_rfl), hW, hF⟩
 ·
  clear hF
  rintro k9 a W ⟨gl9, hxl9, x8l9, ayown1_0l9, cyown1_0l9, yown1_0l9, xsyown1_0l9, hLyown1_0l9, hA, hW, hF⟩
  cases k9 with
  | zero => exact (hF : False).elim
  | succ k9 =>
   refine (?_ : Ok _ _ _ _ _ _) a W hA hW
   clear hA hW
   replace hRxl_0 := hRxl_0.mono hxl9.1
   refine Ok.seq (Ok.region (Ok.bat 1 [0, 3, 6, 7, 8] [(9, .bool (decide (x8l9 < (xl.length : Int))))] ?_))
   refine Ok.nil (Ok.thenN (Ok.seq (Ok.cond (b := decide (x8l9 < (xl.length : Int))) rfl (fun hc2 => ?_) (fun hc2 => ?_))))
   ·replace hF := hF.1 hc2
    refine Ok.skip (Ok.thenN (Ok.cut (fun a W => ∃ gj16 : Ghost, Gext w0 gl9 gj16 ∧ ∃ (ayown1_0j16 : Option Addr) (cyown1_0j16 : Nat) (xsyown1_0j16 : List Value), RepL gj16 (.str) xsyown1_0j16 (utidyV6 xl x8l9 yown1_0l9) ∧ StA 49 [(0, .slice axl_0 xl.length cxl_0), (3, .slice ayown1_0j16 (utidyV6 xl x8l9 yown1_0l9).length cyown1_0j16), (6, .slice axl_0 xl.length cxl_0), (7, .int .i64 (xl.length : Int)), (8, .int .i64 x8l9)] a ∧ StW w0 [.own (.slice ayown1_0j16 (utidyV6 xl x8l9 yown1_0l9).length cyown1_0j16) 9 1 (utidyV6 xl x8l9 yown1_0l9).length xsyown1_0j16] gj16 W ∧ utidyj16 xl x8l9 yown1_0l9 (utidyl9 xl K k9)) ?_ ?_))
    ·
     refine Ok.block (Ok.seq (Ok.region (Ok.bat 1 [0, 3, 6, 7, 8] [(10, .int .i64 x8l9)] ?_)))
     obtain ⟨h04, h14, hF⟩ := hF
     have he4 := get_of (l := xl) (default : Bs) h14
     generalize hg4 : (xl.getD (Int.toNat x8l9) default) = e4 at he4 hF ⊢
     refine Ok.op rfl (OpOk.indexRo (e := .str) (i := x8l9) (el := e4) rfl rfl Tryz.underlying28 (by kernel_rfl) hRxl_0 h04 he4 rfl fun q3 o3 cs3 _ hat3 hr3 => ?_)
     obtain rfl := hr3
     replace hat3 : At gl9 q3 o3 [sv e4] := hat3
     refine Ok.op rfl (OpOk.step (v := sv e4) (Yields.loadRo 0 hat3 (by kernel_rfl) Tryz.underlying9 rfl (by kernel_rfl)) rfl rfl (Ok.bat 2 [0, 3, 6, 7, 8] [(4, .int .i64 x8l9), (5, sv e4)] ?_))
     refine Ok.nil (Ok.thenN (Ok.seq (Ok.cut (fun a W => ∃ gj21 : Ghost, Gext w0 gl9 gj21 ∧ StA 49 [(0, .slice axl_0 xl.length cxl_0), (3, .slice ayown1_0l9 yown1_0l9.length cyown1_0l9), (4, .int .i64 x8l9), (5, sv e4), (6, .slice axl_0 xl.length cxl_0), (7, .int .i64 (xl.length : Int)), (8, .int .i64 x8l9), (18, .bool (utidyV0 e4))] a ∧ StW w0 [.own (.slice ayown1_0l9 yown1_0l9.length cyown1_0l9) 9 1 yown1_0l9.length xsyown1_0l9] gj21 W ∧ utidyj21 xl e4 x8l9 yown1_0l9 (utidyl9 xl K k9)) ?_ ?_)))
     ·
      refine Ok.region (Ok.bat 1 [0, 3, 4, 5, 6, 7, 8] [(13, sv e4)] ?_)
      refine Ok.op rfl (OpOk.step (v := .bool (!(e4 == ([46] : Bs)))) (Yields.strCmp (f := .neq) (a := e4) (b := ([46] : Bs)) (by kernel_rfl) (by kernel_rfl) rfl) rfl rfl (Ok.bat 1 [0, 3, 4, 5, 6, 7, 8] [(15, .bool (!(e4 == ([46] : Bs))))] ?_))
      refine Ok.boolAt 15 (!(e4 == ([46] : Bs))) rfl (fun hc15 => ?_) (fun hc15 => ?_)
      ·replace hF := hF.1 hc15
       refine Ok.bat 1 [0, 3, 4, 5, 6, 7, 8] [(15, .bool true), (16, sv e4)] ?_
       refine Ok.opYes (j := 2) (d := 15) (want := true) (b := true) rfl (by kernel_rfl) (by kernel_rfl) rfl (OpOk.step (v := .bool (!(e4 == ([46, 46] : Bs)))) (Yields.strCmp (f := .neq) (a := e4) (b := ([46, 46] : Bs)) (by kernel_rfl) (by kernel_rfl) rfl) rfl rfl (Ok.bat 1 [0, 3, 4, 5, 6, 7, 8] [(18, .bool (!(e4 == ([46, 46] : Bs))))] ?_))
       refine Ok.nil (Ok.thenN (Ok.reval 18 rfl (show (.bool (!(e4 == ([46, 46] : Bs))) : Value) = .bool (utidyV0 e4) from congrArg (Value.bool) (mand_t hc15)) ?_))
       exact fun a W hA hW => ⟨gl9, (Gext.refl w0 gl9), hA.sub (by kernel_rfl), hW, hF⟩
      ·replace hF := hF.2 hc15
       refine Ok.bat 3 [0, 3, 4, 5, 6, 7, 8] [(18, .bool false)] ?_
       refine Ok.nil (Ok.thenN (Ok.reval 18 rfl (show (.bool false : Value) = .bool (utidyV0 e4) from congrArg (Value.bool) (mand_f hc15)) ?_))
       exact fun a W hA hW => ⟨gl9, (Gext.refl w0 gl9), hA.sub (by kernel_rfl), hW, hF⟩
     ·
      clear hF
      rintro a W ⟨gj21, hxj21, hA, hW, hF⟩
      refine (?_ : Ok _ _ _ _ _ _) a W hA hW
      clear hA hW
      replace hRxl_0 := hRxl_0.mono hxj21.1
      replace hLyown1_0l9 := hLyown1_0l9.mono hxj21.1
      refine Ok.cond (b := (utidyV0 e4)) rfl (fun hc5 => ?_) (fun hc5 => ?_)
      ·replace hF := hF.1 hc5
       refine Ok.seq (Ok.region (Ok.bat 2 [0, 6, 7, 8] [(19, .slice ayown1_0l9 yown1_0l9.length cyown1_0l9), (20, sv e4)] ?_))
       have hL6 : RepL gj21 (.str) ([sv e4] : List Value) ([e4] : List Bs) := (RepL.consN (c := [sv e4]) rfl rfl)
       refine Ok.op rfl (OpOk.lit (E := 9) (.str) ([e4] : List Bs) ([sv e4] : List Value) (by kernel_rfl) (by kernel_rfl) rfl (by kernel_rfl) hL6 rfl fun b6 => ?_)
       obtain ⟨hb7, hF⟩ := hF
       refine Ok.op rfl (OpOk.append' (e := .str) 16 8796093022208 1 0 rfl rfl rfl rfl hLyown1_0l9 hL6 Tryz.underlying28 (by kernel_rfl) (by kernel_rfl) (by kernel_rfl) hb7 rfl fun a7 c7 xs7 hL7 => ?_)
       refine Ok.bat 1 [0, 6, 7, 8] [(3, .slice a7 (yown1_0l9 ++ ([e4] : List Bs)).length c7)] ?_
       refine Ok.nil (Ok.thenN (Ok.exit (Ok.thenE (Ok.blockHit (Ok.thenN ?_)))))
       subst hg4
       refine Ok.reval 3 rfl (show (.slice a7 (yown1_0l9 ++ ([(xl.getD (Int.toNat x8l9) default)] : List Bs)).length c7 : Value) = .slice a7 (utidyV6 xl x8l9 yown1_0l9).length c7 from congrArg (fun l : List Bs => Value.slice a7 l.length c7) ((if_t hc5).symm)) ?_
       refine Ok.heapEq (H' := [.own (.slice (some ⟨b6, 0, none⟩) ([(xl.getD (Int.toNat x8l9) default)] : List Bs).length 1) 9 1 ([(xl.getD (Int.toNat x8l9) default)] : List Bs).length ([sv (xl.getD (Int.toNat x8l9) default)] : List Value), .own (.slice a7 (utidyV6 xl x8l9 yown1_0l9).length c7) 9 1 (utidyV6 xl x8l9 yown1_0l9).length xs7]) (econs (rfl) (econs (congrArg (fun l : List Bs => Ent.own (.slice a7 l.length c7) 9 1 l.length xs7) ((if_t hc5).symm)) rfl)) ?_
       exact fun a W hA hW => ⟨gj21, hxj21, a7, c7, xs7, (Eq.mp (congrArg (fun l : List Bs => RepL gj21 (.str) xs7 l) ((if_t hc5).symm)) hL7), hA.sub (by kernel_rfl), hW.sub (.cons _ (.cons_cons _ .slnil)), hF⟩
      ·replace hF := hF.2 hc5
       refine Ok.skip (Ok.thenN (Ok.cut (fun a W => ∃ gj28 : Ghost, Gext w0 gj21 gj28 ∧ ∃ (ayown1_0j28 : Option Addr) (cyown1_0j28 : Nat) (xsyown1_0j28 : List Value), RepL gj28 (.str) xsyown1_0j28 (utidyV3 e4 yown1_0l9) ∧ StA 49 [(0, .slice axl_0 xl.length cxl_0), (3, .slice ayown1_0j28 (utidyV3 e4 yown1_0l9).length cyown1_0j28), (4, .int .i64 x8l9), (6, .slice axl_0 xl.length cxl_0), (7, .int .i64 (xl.length : Int)), (8, .int .i64 x8l9)] a ∧ StW w0 [.own (.slice ayown1_0j28 (utidyV3 e4 yown1_0l9).length cyown1_0j28) 9 1 (utidyV3 e4 yown1_0l9).length xsyown1_0j28] gj28 W ∧ utidyj28 xl e4 x8l9 yown1_0l9 (utidyl9 xl K k9)) ?_ ?_))
       ·
        refine Ok.seq (Ok.region (Ok.bat 1 [0, 3, 4, 6, 7, 8] [(23, sv e4)] ?_))
        refine Ok.op rfl (OpOk.step (v := .bool (e4 == ([46, 46] : Bs))) (Yields.strCmp (f := .eql) (a := e4) (b := ([46, 46] : Bs)) (by kernel_rfl) (by kernel_rfl) rfl) rfl rfl (Ok.bat 1 [0, 3, 4, 6, 7, 8] [(25, .bool (e4 == ([46, 46] : Bs)))] ?_))
        refine Ok.midway 4 [(0, .slice axl_0 xl.length cxl_0), (3, .slice ayown1_0l9 yown1_0l9.length cyown1_0l9), (4, .int .i64 x8l9), (6, .slice axl_0 xl.length cxl_0), (7, .int .i64 (xl.length : Int)), (8, .int .i64 x8l9), (29, .bool ((e4 == ([46, 46] : Bs)) && (decide ((yown1_0l9.length : Int) > 0))))] (fun hR11 => ?_) ?_
        ·refine Ok.boolAt 25 ((e4 == ([46, 46] : Bs))) rfl (fun hc12 => ?_) (fun hc12 => ?_)
         ·skip
          refine Ok.bat 4 [0, 3, 4, 6, 7, 8] [(29, .bool (decide ((yown1_0l9.length : Int) > 0)))] ?_
          refine Ok.reval 29 rfl (show (.bool (decide ((yown1_0l9.length : Int) > 0)) : Value) = .bool ((e4 == ([46, 46] : Bs)) && (decide ((yown1_0l9.length : Int) > 0))) from congrArg Value.bool (mand_t hc12)) (Ok.bat 0 [0, 3, 4, 6, 7, 8] [(29, .bool ((e4 == ([46, 46] : Bs)) && (decide ((yown1_0l9.length : Int) > 0))))] ?_)
          exact hR11
         ·skip
          refine Ok.bat 4 [0, 3, 4, 6, 7, 8] [(29, .bool false)] ?_
          refine Ok.reval 29 rfl (show (.bool false : Value) = .bool ((e4 == ([46, 46] : Bs)) && (decide ((yown1_0l9.length : Int) > 0))) from congrArg Value.bool (mand_f hc12)) (Ok.bat 0 [0, 3, 4, 6, 7, 8] [(29, .bool ((e4 == ([46, 46] : Bs)) && (decide ((yown1_0l9.length : Int) > 0))))] ?_)
          exact hR11
        refine Ok.nil (Ok.thenN (Ok.cond (b := ((e4 == ([46, 46] : Bs)) && (decide ((yown1_0l9.length : Int) > 0)))) rfl (fun hc13 => ?_) (fun hc13 => ?_)))
        ·replace hF := hF.1 hc13
         refine Ok.region (Ok.bat 4 [0, 4, 6, 7, 8] [(30, .slice ayown1_0l9 yown1_0l9.length cyown1_0l9), (33, .int .i64 (w6 ((yown1_0l9.length : Int) - 1)))] ?_)
         obtain ⟨h014, h214, hF⟩ := hF
         refine Ok.op rfl (OpOk.cutOwn (e := .str) (h := (w6 ((yown1_0l9.length : Int) - 1))) 0 rfl rfl rfl hLyown1_0l9 Tryz.underlying28 (by kernel_rfl) h014 h214 rfl fun xs14 hL14 => ?_)
         refine Ok.bat 1 [0, 4, 6, 7, 8] [(3, .slice ayown1_0l9 (yown1_0l9.take (Int.toNat (w6 ((yown1_0l9.length : Int) - 1)))).length cyown1_0l9)] ?_
         refine Ok.nil (Ok.thenN (Ok.reval 3 rfl (show (.slice ayown1_0l9 (yown1_0l9.take (Int.toNat (w6 ((yown1_0l9.length : Int) - 1)))).length cyown1_0l9 : Value) = .slice ayown1_0l9 (utidyV3 e4 yown1_0l9).length cyown1_0l9 from congrArg (fun l : List Bs => Value.slice ayown1_0l9 l.length cyown1_0l9) ((if_t hc13).symm)) ?_))
         refine Ok.heapEq (H' := [.own (.slice ayown1_0l9 (utidyV3 e4 yown1_0l9).length cyown1_0l9) 9 1 (utidyV3 e4 yown1_0l9).length xs14]) (econs (congrArg (fun l : List Bs => Ent.own (.slice ayown1_0l9 l.length cyown1_0l9) 9 1 l.length xs14) ((if_t hc13).symm)) rfl) ?_
         exact fun a W hA hW => ⟨gj21, (Gext.refl w0 gj21), ayown1_0l9, cyown1_0l9, xs14, (Eq.mp (congrArg (fun l : List Bs => RepL gj21 (.str) xs14 l) ((if_t hc13).symm)) hL14), hA.sub (by kernel_rfl), hW, hF⟩
        ·replace hF := hF.2 hc13
         refine Ok.skip (Ok.thenN (Ok.reval 3 rfl (show (.slice ayown1_0l9 yown1_0l9.length cyown1_0l9 : Value) = .slice ayown1_0l9 (utidyV3 e4 yown1_0l9).length cyown1_0l9 from congrArg (fun l : List Bs => Value.slice ayown1_0l9 l.length cyown1_0l9) ((if_f hc13).symm)) ?_))
         refine Ok.heapEq (H' := [.own (.slice ayown1_0l9 (utidyV3 e4 yown1_0l9).length cyown1_0l9) 9 1 (utidyV3 e4 yown1_0l9).length xsyown1_0l9]) (econs (congrArg (fun l : List Bs => Ent.own (.slice ayown1_0l9 l.length cyown1_0l9) 9 1 l.length xsyown1_0l9) ((if_f hc13).symm)) rfl) ?_
         exact fun a W hA hW => ⟨gj21, (Gext.refl w0 gj21), ayown1_0l9, cyown1_0l9, xsyown1_0l9, (Eq.mp (congrArg (fun l : List Bs => RepL gj21 (.str) xsyown1_0l9 l) ((if_f hc13).symm)) hLyown1_0l9), hA.sub (by kernel_rfl), hW, hF⟩
       ·
        clear hF
        rintro a W ⟨gj28, hxj28, ayown1_0j28, cyown1_0j28, xsyown1_0j28, hLyown1_0j28, hA, hW, hF⟩
        refine (?_ : Ok _ _ _ _ _ _) a W hA hW
        clear hA hW
        replace hRxl_0 := hRxl_0.mono hxj28.1
        refine Ok.seq (Ok.region (Ok.bat 5 [0, 3, 6, 7, 8] [(39, .bool (x8l9 == (w6 ((xl.length : Int) - 1))))] ?_))
        refine Ok.nil (Ok.thenN (Ok.cond (b := (x8l9 == (w6 ((xl.length : Int) - 1)))) rfl (fun hc8 => ?_) (fun hc8 => ?_)))
        ·replace hF := hF.1 hc8
         refine Ok.region (Ok.bat 1 [0, 6, 7, 8] [(40, .slice ayown1_0j28 (utidyV3 e4 yown1_0l9).length cyown1_0j28)] ?_)
         have hL9 : RepL gj28 (.str) ([sv ([] : Bs)] : List Value) ([([] : Bs)] : List Bs) := (RepL.consN (c := [sv ([] : Bs)]) rfl rfl)
         refine Ok.op rfl (OpOk.lit (E := 9) (.str) ([([] : Bs)] : List Bs) ([sv ([] : Bs)] : List Value) (by kernel_rfl) (by kernel_rfl) rfl (by kernel_rfl) hL9 rfl fun b9 => ?_)
         obtain ⟨hb10, hF⟩ := hF
         refine Ok.op rfl (OpOk.append' (e := .str) 16 8796093022208 1 0 rfl rfl rfl rfl hLyown1_0j28 hL9 Tryz.underlying28 (by kernel_rfl) (by kernel_rfl) (by kernel_rfl) hb10 rfl fun a10 c10 xs10 hL10 => ?_)
         refine Ok.bat 1 [0, 6, 7, 8] [(3, .slice a10 ((utidyV3 e4 yown1_0l9) ++ ([([] : Bs)] : List Bs)).length c10)] ?_
         refine Ok.nil (Ok.blockN (Ok.thenN ?_))
         subst hg4
         refine Ok.reval 3 rfl (show (.slice a10 ((utidyV3 (xl.getD (Int.toNat x8l9) default) yown1_0l9) ++ ([([] : Bs)] : List Bs)).length c10 : Value) = .slice a10 (utidyV6 xl x8l9 yown1_0l9).length c10 from congrArg (fun l : List Bs => Value.slice a10 l.length c10) ((Eq.trans ((if_t hc8).symm) ((if_f hc5).symm)))) ?_
         refine Ok.heapEq (H' := [.own (.slice (some ⟨b9, 0, none⟩) ([([] : Bs)] : List Bs).length 1) 9 1 ([([] : Bs)] : List Bs).length ([sv ([] : Bs)] : List Value), .own (.slice a10 (utidyV6 xl x8l9 yown1_0l9).length c10) 9 1 (utidyV6 xl x8l9 yown1_0l9).length xs10]) (econs (rfl) (econs (congrArg (fun l : List Bs => Ent.own (.slice a10 l.length c10) 9 1 l.length xs10) ((Eq.trans ((if_t hc8).symm) ((if_f hc5).symm)))) rfl)) ?_
         exact fun a W hA hW => ⟨gj28, (hxj21.trans hxj28), a10, c10, xs10, (Eq.mp (congrArg (fun l : List Bs => RepL gj28 (.str) xs10 l) ((Eq.trans ((if_t hc8).symm) ((if_f hc5).symm)))) hL10), hA.sub (by kernel_rfl), hW.sub (.cons _ (.cons_cons _ .slnil)), hF⟩
        ·replace hF := hF.2 hc8
         refine Ok.skip (Ok.blockN (Ok.thenN ?_))
         subst hg4
         refine Ok.reval 3 rfl (show (.slice ayown1_0j28 (utidyV3 (xl.getD (Int.toNat x8l9) default) yown1_0l9).length cyown1_0j28 : Value) = .slice ayown1_0j28 (utidyV6 xl x8l9 yown1_0l9).length cyown1_0j28 from congrArg (fun l : List Bs => Value.slice ayown1_0j28 l.length cyown1_0j28) ((Eq.trans ((if_f hc8).symm) ((if_f hc5).symm)))) ?_
         refine Ok.heapEq (H' := [.own (.slice ayown1_0j28 (utidyV6 xl x8l9 yown1_0l9).length cyown1_0j28) 9 1 (utidyV6 xl x8l9 yown1_0l9).length xsyown1_0j28]) (econs (congrArg (fun l : List Bs => Ent.own (.slice ayown1_0j28 l.length cyown1_0j28) 9 1 l.length xsyown1_0j28) ((Eq.trans ((if_f hc8).symm) ((if_f hc5).symm)))) rfl) ?_
         exact fun a W hA hW => ⟨gj28, (hxj21.trans hxj28), ayown1_0j28, cyown1_0j28, xsyown1_0j28, (Eq.mp (congrArg (fun l : List Bs => RepL gj28 (.str) xsyown1_0j28 l) ((Eq.trans ((if_f hc8).symm) ((if_f hc5).symm)))) hLyown1_0j28), hA.sub (by kernel_rfl), hW, hF⟩
    ·
     clear hF
     rintro a W ⟨gj16, hxj16, ayown1_0j16, cyown1_0j16, xsyown1_0j16, hLyown1_0j16, hA, hW, hF⟩
     refine (?_ : Ok _ _ _ _ _ _) a W hA hW
     clear hA hW
     replace hRxl_0 := hRxl_0.mono hxj16.1
     refine Ok.region (Ok.bat 2 [0, 3, 6, 7] [(8, .int .i64 (w6 (x8l9 + 1)))] ?_)
     refine Ok.nil (Ok.thenN ?_)
     exact fun a W hA hW => ⟨k9, Nat.lt_succ_self _, gj16, (hxl9.trans hxj16), w6 (x8l9 + 1), ayown1_0j16, cyown1_0j16, (utidyV6 xl x8l9 yown1_0l9), xsyown1_0j16, hLyown1_0j16, hA.sub (by kernel_rfl), hW, hF⟩
   ·replace hF := hF.2 hc2
    refine Ok.exit (Ok.thenE (Ok.thenE (Ok.blockHit (Ok.thenN (Ok.cut (fun a W => ∃ gj40 : Ghost, Gext w0 gl9 gj40 ∧ ∃ (ayown17_0j40 : Option Addr) (cyown17_0j40 : Nat) (xsyown17_0j40 : List Value), RepL gj40 (.str) xsyown17_0j40 (utidyV5 yown1_0l9) ∧ StA 49 [(3, .slice ayown17_0j40 (utidyV5 yown1_0l9).length cyown17_0j40)] a ∧ StW w0 [.own (.slice ayown17_0j40 (utidyV5 yown1_0l9).length cyown17_0j40) 9 1 (utidyV5 yown1_0l9).length xsyown17_0j40] gj40 W ∧ utidyj40 K yown1_0l9) ?_ ?_)))))
    ·
     refine Ok.seq (Ok.region (Ok.bat 3 [3] [(46, .bool ((yown1_0l9.length : Int) == 0))] ?_))
     refine Ok.nil (Ok.thenN (Ok.cond (b := ((yown1_0l9.length : Int) == 0)) rfl (fun hc19 => ?_) (fun hc19 => ?_)))
     ·replace hF := hF.1 hc19
      refine Ok.region ?_
      have hL20 : RepL gl9 (.str) ([sv ([] : Bs)] : List Value) ([([] : Bs)] : List Bs) := (RepL.consN (c := [sv ([] : Bs)]) rfl rfl)
      refine Ok.op rfl (OpOk.lit (E := 9) (.str) ([([] : Bs)] : List Bs) ([sv ([] : Bs)] : List Value) (by kernel_rfl) (by kernel_rfl) rfl (by kernel_rfl) hL20 rfl fun b20 => ?_)
      refine Ok.batch 1 [(3, .slice (some ⟨b20, 0, none⟩) ([([] : Bs)] : List Bs).length 1)] (by kernel_rfl) (Ok.nil (Ok.thenN (Ok.reval 3 rfl (show (.slice (some ⟨b20, 0, none⟩) ([([] : Bs)] : List Bs).length 1 : Value) = .slice (some ⟨b20, 0, none⟩) (utidyV5 yown1_0l9).length 1 from congrArg (fun l : List Bs => Value.slice (some ⟨b20, 0, none⟩) l.length 1) ((if_t hc19).symm)) ?_)))
      refine Ok.heapEq (H' := [.own (.slice (some ⟨b20, 0, none⟩) (utidyV5 yown1_0l9).length 1) 9 1 (utidyV5 yown1_0l9).length ([sv ([] : Bs)] : List Value), .own (.slice ayown1_0l9 yown1_0l9.length cyown1_0l9) 9 1 yown1_0l9.length xsyown1_0l9]) (econs (congrArg (fun l : List Bs => Ent.own (.slice (some ⟨b20, 0, none⟩) l.length 1) 9 1 l.length ([sv ([] : Bs)] : List Value)) ((if_t hc19).symm)) (econs (rfl) rfl)) ?_
      exact fun a W hA hW => ⟨gl9, (Gext.refl w0 gl9), (some ⟨b20, 0, none⟩), 1, ([sv ([] : Bs)] : List Value), (Eq.mp (congrArg (fun l : List Bs => RepL gl9 (.str) ([sv ([] : Bs)] : List Value) l) ((if_t hc19).symm)) hL20), hA.sub (by kernel_rfl), hW.sub (.cons_cons _ (.cons _ .slnil)), hF⟩
     ·replace hF := hF.2 hc19
      refine Ok.skip (Ok.thenN (Ok.reval 3 rfl (show (.slice ayown1_0l9 yown1_0l9.length cyown1_0l9 : Value) = .slice ayown1_0l9 (utidyV5 yown1_0l9).length cyown1_0l9 from congrArg (fun l : List Bs => Value.slice ayown1_0l9 l.length cyown1_0l9) ((if_f hc19).symm)) ?_))
      refine Ok.heapEq (H' := [.own (.slice ayown1_0l9 (utidyV5 yown1_0l9).length cyown1_0l9) 9 1 (utidyV5 yown1_0l9).length xsyown1_0l9]) (econs (congrArg (fun l : List Bs => Ent.own (.slice ayown1_0l9 l.length cyown1_0l9) 9 1 l.length xsyown1_0l9) ((if_f hc19).symm)) rfl) ?_
      exact fun a W hA hW => ⟨gl9, (Gext.refl w0 gl9), ayown1_0l9, cyown1_0l9, xsyown1_0l9, (Eq.mp (congrArg (fun l : List Bs => RepL gl9 (.str) xsyown1_0l9 l) ((if_f hc19).symm)) hLyown1_0l9), hA.sub (by kernel_rfl), hW, hF⟩
    ·
     clear hF
     rintro a W ⟨gj40, hxj40, ayown17_0j40, cyown17_0j40, xsyown17_0j40, hLyown17_0j40, hA, hW, hF⟩
     refine (?_ : Ok _ _ _ _ _ _) a W hA hW
     clear hA hW
     refine Ok.seq (Ok.region (Ok.batch 2 [(2, .slice ayown17_0j40 (utidyV5 yown1_0l9).length cyown17_0j40)] (by kernel_rfl) (Ok.nil (Ok.thenN (Ok.ret (Ok.frz 0 rfl hLyown17_0j40 fun g18 hx18 hRf18 => ?_))))))
     exact Ok.resH (vs := [.slice ayown17_0j40 (utidyV5 yown1_0l9).length cyown17_0j40]) (.inl rfl) rfl (.cons (.tmp rfl) .nil) ((hxl9.trans hxj40).trans hx18) ⟨(utidyV5 yown1_0l9), ayown17_0j40, cyown17_0j40, rfl, hRf18, rfl, hF⟩
theorem v3_eq (o : List Bs) (e : Bs) (ho : o.length ≤ 10000) : utidyV3 e o = if dotS e = true then tdF o e else o := by
 unfold utidyV3 tdF dotS
 by_cases h46 : (e == [46, 46]) = true
 ·rw [h46, Bool.or_true, if_pos rfl, if_pos rfl, Bool.true_and]
  by_cases h0 : o.length = 0
  ·rw [List.eq_nil_of_length_eq_zero h0]; rfl
  ·rw [if_pos (decide_eq_true (by omega)), w64 (by omega), show ((o.length : Int) - 1).toNat = o.length - 1 by omega]
 ·have h46 : (e == [46, 46]) = false := by simpa using h46
  rw [h46, Bool.or_false, Bool.false_and, if_f rfl]
  by_cases h1 : (e == [46]) = true
  ·rw [if_pos h1, if_f rfl, if_pos h1]
  ·rw [if_neg h1]
theorem v0_eq (e : Bs) : utidyV0 e = !(dotS e) := by
 unfold utidyV0 dotS
 rw [Bool.not_or]
/-- what the program does with one of them -/
def tdStep (o : List Bs) (e : Bs) (last : Bool) : List Bs := if (dotS e && last) = true then tdF o e ++ [[]] else tdF o e
def tdN (o : List Bs) : List Bs → List Bs
 | [] => o
 | [e] => tdStep o e true
 | e :: r => tdN (tdF o e) r
theorem tdN_eq (e : Bs) : ∀ (l o : List Bs), tdN o l = if lastDot l = true then l.foldl tdF o ++ [[]] else l.foldl tdF o
 | [], o => rfl
 | [a], o => by
  show (if (dotS a && true) = true then _ else _) = _
  rw [Bool.and_true]; rfl
 | a :: b :: r, o => tdN_eq e (b :: r) (tdF o a)
def finS (o : List Bs) : List Bs := if ((o.length : Int) == 0) = true then [[]] else o
theorem tidy_eq (l : List Bs) : finS (tdN [] l) = tidyS l := by
 rw [tdN_eq [], tidyS_eq]
 unfold finS tidyS0
 cases hl : lastDot l
 ·rw [if_f rfl, Bool.false_or]
  by_cases hz : l.foldl tdF [] = []
  ·rw [hz]; rfl
  ·rw [if_neg (by simpa using hz), if_neg (by simp; exact fun h => hz h)]
 ·rw [if_t rfl, Bool.true_or, if_t rfl, if_neg (by simp; omega)]
theorem utidy_F (l : List Bs) (hp : tidyP l) : utidyF l (fun r => r = tidyS l) := by
 unfold tidyP at hp
 have loop : ∀ (k i : Nat) (o : List Bs), i + k = l.length → o.length ≤ i + 1 → (i < l.length → o.length ≤ i) → tidyS l = finS (tdN o (l.drop i)) → utidyl9 l (fun r => r = tidyS l) (k + 1) (i : Int) o := by
  intro k
  induction k with
  | zero =>
   intro i o h1 h2 h3 he
   refine ⟨fun h => by have := of_decide_eq_true h; omega, fun _ => ?_⟩
   rw [List.drop_of_length_le (by omega)] at he
   exact ⟨fun _ => he.symm, fun _ => he.symm⟩
  | succ k ih =>
   intro i o h1 h2 h3 he
   have hi : i < l.length := by omega
   have ho := h3 hi
   rw [drop_get (l := l) default hi] at he
   refine ⟨fun _ => ⟨by omega, by rw [Int.toNat_natCast]; omega, ?_⟩, fun h => by have := of_decide_eq_false h; omega⟩
   rw [Int.toNat_natCast]
   obtain ⟨e, hel⟩ : ∃ e, l.getD i default = e := ⟨_, rfl⟩
   rw [hel] at he ⊢
   have hw1 : w6 ((l.length : Int) - 1) = (l.length : Int) - 1 := w64 (by omega)
   have hlast : ((i : Int) == w6 ((l.length : Int) - 1)) = decide (k = 0) := by
    rw [hw1, Bool.eq_iff_iff, beq_iff_eq, decide_eq_true_eq]; omega
   have hV3 := v3_eq o e (by omega)
   have hstep : utidyV6 l (i : Int) o = tdStep o e (decide (k = 0)) := by
    unfold utidyV6 tdStep
    rw [Int.toNat_natCast, hel, v0_eq, hV3, hlast]
    cases hd : dotS e
    ·rw [td_no hd, Bool.false_and]; rfl
    ·rw [Bool.true_and]; rfl
   have htl := td_len o e
   have j16 : utidyj16 l (i : Int) o (utidyl9 l (fun r => r = tidyS l) (k + 1)) := by
    unfold utidyj16
    rw [w64 (by omega), show ((i : Int) + 1) = ((i + 1 : Nat) : Int) by omega, hstep]
    refine ih (i + 1) _ (by omega) ?_ (fun hlt => ?_) ?_
    ·unfold tdStep
     split
     ·rename_i h
      rw [Bool.and_eq_true] at h
      have := td_dot (o := o) h.1
      rw [List.length_append, List.length_singleton]; omega
     ·omega
    ·unfold tdStep
     rw [decide_eq_false (by omega), Bool.and_false, if_f rfl]; omega
    ·rw [he]
     by_cases hk : k = 0
     ·rw [List.drop_of_length_le (by omega), decide_eq_true hk]; rfl
     ·rw [decide_eq_false hk]
      have hne : l.drop (i + 1) ≠ [] := by
       intro h0
       have := congrArg List.length h0
       rw [List.length_drop, List.length_nil] at this
       omega
      cases hc : l.drop (i + 1) with
      | nil => exact absurd hc hne
      | cons a r => unfold tdStep; rw [Bool.and_false, if_f rfl]; rfl
   have j28 : utidyj28 l e (i : Int) o (utidyl9 l (fun r => r = tidyS l) (k + 1)) := by
    refine ⟨fun _ => ⟨?_, j16⟩, fun _ => j16⟩
    rw [List.length_append, List.length_singleton, hV3]
    split <;> omega
   have j21 : utidyj21 l e (i : Int) o (utidyl9 l (fun r => r = tidyS l) (k + 1)) := by
    refine ⟨fun _ => ⟨by rw [List.length_append, List.length_singleton]; omega, j16⟩, fun _ => ⟨fun h => ⟨?_, ?_, j28⟩, fun _ => j28⟩⟩
    ·rw [Bool.and_eq_true, decide_eq_true_eq] at h
     rw [w64 (by omega)]; omega
    ·rw [w64 (by omega)]; omega
   exact ⟨fun _ => j21, fun _ => j21⟩
 exact ⟨_, loop l.length 0 [] (by omega) (by simp) (by simp) (tidy_eq l).symm⟩
theorem utidy_c {g : Ghost} {axl_0 : Option Addr} {cxl_0 : Nat} (xl : List Bs) (hRxl_0 : Rep g (.slice (.str)) [.slice axl_0 xl.length cxl_0] xl)  (hp : tidyP xl) : CallsH Tryz.prog 43 #[.slice axl_0 xl.length cxl_0] g [] (fun g' H' v => ∃ (ar0_0 : Option Addr) (cr0_0 : Nat), v = .slice ar0_0 (tidyS xl).length cr0_0 ∧ Rep g' (.slice (.str)) [.slice ar0_0 (tidyS xl).length cr0_0] (tidyS xl) ∧ H' = []) :=
 (utidy_ok xl hRxl_0 _ (utidy_F xl hp)).mono (by rintro g' H' v _ ⟨r0, ar0_0, cr0_0, rfl, hRr0_0, rfl, hK⟩; subst hK; exact ⟨ar0_0, cr0_0, rfl, hRr0_0, rfl⟩)
/-! segments -/
def segO : List Bs → List Bs → List Bs × Bool
 | [], o => (o, true)
 | p :: r, o => if ((decS p).2 != 0) = true then ([], false) else segO r (o ++ [(decS p).1])
def segS0 (s : Bs) : List Bs × Bool := segO (splS s [47]) []
noncomputable def segS : Bs → List Bs × Bool := Classical.choose (rigid segS0)
theorem segS_eq : segS = segS0 := Classical.choose_spec (rigid segS0)
def usegl9b (xs : Bs) (K : (List Bs) → Bool → Prop) (x12l9 : Int) (yown1_0l9 : List Bs) (C9 : Int → (List Bs) → Prop) : Prop :=
 ((decide (x12l9 < ((splS xs ([47] : Bs)).length : Int))) = true → (0 : Int) ≤ x12l9 ∧ Int.toNat x12l9 < (splS xs ([47] : Bs)).length ∧ encP ((splS xs ([47] : Bs)).getD (Int.toNat x12l9) default) ∧ ((((decS ((splS xs ([47] : Bs)).getD (Int.toNat x12l9) default)).2 != 0)) = true → K ([] : List Bs) false) ∧ ((((decS ((splS xs ([47] : Bs)).getD (Int.toNat x12l9) default)).2 != 0)) = false → (yown1_0l9 ++ ([(decS ((splS xs ([47] : Bs)).getD (Int.toNat x12l9) default)).1] : List Bs)).length ≤ 8796093022208 ∧ C9 (w6 (x12l9 + 1)) (yown1_0l9 ++ ([(decS ((splS xs ([47] : Bs)).getD (Int.toNat x12l9) default)).1] : List Bs)))) ∧ ((decide (x12l9 < ((splS xs ([47] : Bs)).length : Int))) = false → K yown1_0l9 true)
def usegl9 (xs : Bs) (K : (List Bs) → Bool → Prop) : Nat → Int → (List Bs) → Prop
 | 0, _, _ => False
 | k + 1, x12l9, yown1_0l9 => usegl9b xs K x12l9 yown1_0l9 (usegl9 xs K k)
def usegF (xs : Bs) (K : (List Bs) → Bool → Prop) : Prop :=
 splP xs ([47] : Bs) ∧ ∃ k, usegl9 xs K k 0 ([] : List Bs)
theorem useg_ok {g : Ghost} (xs : Bs) (hG0 : SomeInt g 0) (K : (List Bs) → Bool → Prop)
  (hF : usegF xs K) : CallsH Tryz.prog 42 #[sv xs] g [] (fun g' H' v => ∃ (r0 : List Bs), ∃ (r1 : Bool), ∃ (ar0_0 : Option Addr) (cr0_0 : Nat), v = .tuple #[.slice ar0_0 r0.length cr0_0, .bool r1] ∧ Rep g' (.slice (.str)) [.slice ar0_0 r0.length cr0_0] r0 ∧ H' = [] ∧ K r0 r1) := by
 refine CallsH.enter 29 [(0, sv xs)] Tryz.func42 rfl (by kernel_rfl) (by kernel_rfl) (by kernel_rfl) fun w0 => ?_
 refine Ok.seq (Ok.region (Ok.batch 1 [(0, sv xs)] (by kernel_rfl) (Ok.bat 1 [0] [] ?_)))
 refine Ok.nil (Ok.thenN (Ok.seq (Ok.region (Ok.bat 1 [0] [(4, .slice none 0 0)] ?_))))
 have hL1 : RepL g (.str) [] [] := rfl
 refine Ok.ownNil 9 1 (Ok.nil (Ok.thenN (Ok.seq (Ok.seq (Ok.region (Ok.batch 1 [(4, .slice none ([] : List Bs).length 0), (9, sv xs)] (by kernel_rfl) ?_))))))
 obtain ⟨hp2, hF⟩ := hF
 refine Ok.op rfl (OpOk.callH [] _ enr rfl (spl_c xs ([47] : Bs) hG0 hp2) rfl fun g3 _ _ hx3 hV3 => ?_)
 obtain ⟨a3_0, c3_0, rfl, hR3_0, rfl⟩ := hV3
 replace hL1 := hL1.mono hx3.1
 replace hG0 := hG0.mono hx3.1
 refine Ok.bat 2 [4] [(10, .slice a3_0 (splS xs ([47] : Bs)).length c3_0), (11, .int .i64 ((splS xs ([47] : Bs)).length : Int)), (12, .int .i64 0)] ?_
 refine Ok.nil (Ok.thenN (Ok.block ?_))
 obtain ⟨k, hF⟩ := hF
 refine Ok.loop (fun k a W => ∃ gl9 : Ghost, Gext w0 g3 gl9 ∧ ∃ (x12l9 : Int) (ayown1_0l9 : Option Addr) (cyown1_0l9 : Nat) (yown1_0l9 : List Bs) (xsyown1_0l9 : List Value), RepL gl9 (.str) xsyown1_0l9 yown1_0l9 ∧ StA 29 [(4, .slice ayown1_0l9 yown1_0l9.length cyown1_0l9), (10, .slice a3_0 (splS xs ([47] : Bs)).length c3_0), (11, .int .i64 ((splS xs ([47] : Bs)).length : Int)), (12, .int .i64 x12l9)] a ∧ StW w0 [.own (.slice ayown1_0l9 yown1_0l9.length cyown1_0l9) 9 1 yown1_0l9.length xsyown1_0l9] gl9 W ∧ usegl9 xs K k x12l9 yown1_0l9) k ?_ ?_
 ·
  exact fun a W hA hW => ⟨g3, (Gext.refl w0 g3), 0, none, 0, ([] : List Bs), [], hL1, hA.sub (by kernel_rfl), hW, hF⟩
 ·
  clear hF
  rintro k9 a W ⟨gl9, hxl9, x12l9, ayown1_0l9, cyown1_0l9, yown1_0l9, xsyown1_0l9, hLyown1_0l9, hA, hW, hF⟩
  cases k9 with
  | zero => exact (hF : False).elim
  | succ k9 =>
   refine (?_ : Ok _ _ _ _ _ _) a W hA hW
   clear hA hW
   replace hR3_0 := hR3_0.mono hxl9.1
   replace hG0 := hG0.mono hxl9.1
   refine Ok.seq (Ok.region (Ok.bat 1 [4, 10, 11, 12] [(13, .bool (decide (x12l9 < ((splS xs ([47] : Bs)).length : Int))))] ?_))
   refine Ok.nil (Ok.thenN (Ok.seq (Ok.cond (b := decide (x12l9 < ((splS xs ([47] : Bs)).length : Int))) rfl (fun hc4 => ?_) (fun hc4 => ?_))))
   ·replace hF := hF.1 hc4
    refine Ok.skip (Ok.thenN (Ok.seq (Ok.block (Ok.seq (Ok.region ?_)))))
    obtain ⟨h06, h16, hF⟩ := hF
    have he6 := get_of (l := (splS xs ([47] : Bs))) (default : Bs) h16
    generalize hg6 : ((splS xs ([47] : Bs)).getD (Int.toNat x12l9) default) = e6 at he6 hF ⊢
    refine Ok.op rfl (OpOk.indexRo (e := .str) (i := x12l9) (el := e6) rfl rfl Tryz.underlying28 (by kernel_rfl) hR3_0 h06 he6 rfl fun q5 o5 cs5 _ hat5 hr5 => ?_)
    obtain rfl := hr5
    replace hat5 : At gl9 q5 o5 [sv e6] := hat5
    refine Ok.op rfl (OpOk.step (v := sv e6) (Yields.loadRo 0 hat5 (by kernel_rfl) Tryz.underlying9 rfl (by kernel_rfl)) rfl rfl (Ok.bat 1 [4, 10, 11, 12] [(6, sv e6)] ?_))
    refine Ok.nil (Ok.thenN (Ok.seq (Ok.region (Ok.bat 1 [4, 10, 11, 12] [(17, sv e6)] ?_))))
    obtain ⟨hp7, hF⟩ := hF
    refine Ok.op rfl (OpOk.callG (v := .tuple #[sv ((decS e6).1), .int .i64 (decS e6).2]) enr (fun W hW => udec_c e6 hp7) rfl ?_)
    refine Ok.bat 5 [4, 10, 11, 12] [(7, sv ((decS e6).1)), (8, .int .i64 (decS e6).2)] ?_
    refine Ok.nil (Ok.thenN (Ok.seq (Ok.seq (Ok.region (Ok.bat 2 [4, 7, 10, 11, 12] [(22, .bool ((decS e6).2 != 0))] ?_)))))
    refine Ok.nil (Ok.thenN (Ok.cond (b := ((decS e6).2 != 0)) rfl (fun hc8 => ?_) (fun hc8 => ?_)))
    ·replace hF := hF.1 hc8
     refine Ok.seq (Ok.region (Ok.batch 1 [(2, .slice none 0 0)] (by kernel_rfl) ?_))
     have hL9 : RepL gl9 (.str) [] [] := rfl
     refine Ok.ownNil 9 1 (Ok.batch 1 [(2, .slice none ([] : List Bs).length 0), (3, .bool false)] (by kernel_rfl) (Ok.nil (Ok.thenN (Ok.ret (Ok.thenR (Ok.blockR (Ok.thenR (Ok.thenR (Ok.blockR (Ok.thenR (Ok.frz 0 rfl hL9 fun g10 hx10 hRf10 => ?_)))))))))))
     replace hLyown1_0l9 := hLyown1_0l9.mono hx10.1
     replace hG0 := hG0.mono hx10.1
     exact Ok.resP (vs := [.slice none ([] : List Bs).length 0, .bool false]) [] [] (by decide) rfl (.inl rfl) rfl (.cons (.tmp rfl) (.cons (.tmp rfl) .nil)) ((hx3.trans hxl9).trans hx10) ⟨([] : List Bs), false, none, 0, rfl, hRf10, rfl, hF⟩
    ·replace hF := hF.2 hc8
     refine Ok.skip (Ok.thenN (Ok.region (Ok.bat 2 [10, 11, 12] [(23, .slice ayown1_0l9 yown1_0l9.length cyown1_0l9), (24, sv ((decS e6).1))] ?_)))
     have hL11 : RepL gl9 (.str) ([sv ((decS e6).1)] : List Value) ([(decS e6).1] : List Bs) := (RepL.consN (c := [sv ((decS e6).1)]) rfl rfl)
     refine Ok.op rfl (OpOk.lit (E := 9) (.str) ([(decS e6).1] : List Bs) ([sv ((decS e6).1)] : List Value) (by kernel_rfl) (by kernel_rfl) rfl (by kernel_rfl) hL11 rfl fun b11 => ?_)
     obtain ⟨hb12, hF⟩ := hF
     refine Ok.op rfl (OpOk.append' (e := .str) 16 8796093022208 1 0 rfl rfl rfl rfl hLyown1_0l9 hL11 Tryz.underlying28 (by kernel_rfl) (by kernel_rfl) (by kernel_rfl) hb12 rfl fun a12 c12 xs12 hL12 => ?_)
     refine Ok.bat 1 [10, 11, 12] [(4, .slice a12 (yown1_0l9 ++ ([(decS e6).1] : List Bs)).length c12)] ?_
     refine Ok.nil (Ok.blockN (Ok.thenN (Ok.region (Ok.bat 2 [4, 10, 11] [(12, .int .i64 (w6 (x12l9 + 1)))] ?_))))
     refine Ok.nil (Ok.thenN ?_)
     subst hg6
     exact fun a W hA hW => ⟨k9, Nat.lt_succ_self _, gl9, hxl9, w6 (x12l9 + 1), a12, c12, (yown1_0l9 ++ ([(decS ((splS xs ([47] : Bs)).getD (Int.toNat x12l9) default)).1] : List Bs)), xs12, hL12, hA.sub (by kernel_rfl), hW.sub (.cons _ (.cons_cons _ .slnil)), hF⟩
   ·replace hF := hF.2 hc4
    refine Ok.exit (Ok.thenE (Ok.thenE (Ok.blockHit (Ok.thenN (Ok.seq (Ok.region (Ok.batch 3 [(2, .slice ayown1_0l9 yown1_0l9.length cyown1_0l9), (3, .bool true)] (by kernel_rfl) (Ok.nil (Ok.thenN (Ok.ret (Ok.frz 0 rfl hLyown1_0l9 fun g13 hx13 hRf13 => ?_)))))))))))
    replace hG0 := hG0.mono hx13.1
    exact Ok.resH (vs := [.slice ayown1_0l9 yown1_0l9.length cyown1_0l9, .bool true]) (.inl rfl) rfl (.cons (.tmp rfl) (.cons (.tmp rfl) .nil)) ((hx3.trans hxl9).trans hx13) ⟨yown1_0l9, true, ayown1_0l9, cyown1_0l9, rfl, hRf13, rfl, hF⟩
theorem useg_F (s : Bs) (hp : smP s) : usegF s (fun a b => (a, b) = segS s) := by
 unfold smP at hp
 have hl : (splS s [47]).length ≤ s.length + 1 := by rw [splC]; exact spC_len 47 s
 have loop : ∀ (k i : Nat) (o : List Bs), i + k = (splS s [47]).length → o.length ≤ i → segS s = segO ((splS s [47]).drop i) o → usegl9 s (fun a b => (a, b) = segS s) (k + 1) (i : Int) o := by
  intro k
  induction k with
  | zero =>
   intro i o h1 h2 he
   rw [List.drop_of_length_le (by omega)] at he
   exact ⟨fun h => by have := of_decide_eq_true h; omega, fun _ => he.symm⟩
  | succ k ih =>
   intro i o h1 h2 he
   have hi : i < (splS s [47]).length := by omega
   rw [drop_get (l := splS s [47]) default hi, segO] at he
   have hw : ((splS s [47]).getD i default).length ≤ s.length := by
    rw [splC] at hi ⊢
    exact spC_sub 47 s _ (getD_mem hi)
   refine ⟨fun _ => ⟨by omega, by rw [Int.toNat_natCast]; omega, ?_⟩, fun h => by have := of_decide_eq_false h; omega⟩
   rw [Int.toNat_natCast]
   refine ⟨by unfold encP; omega, fun h => ?_, fun h => ⟨by rw [List.length_append, List.length_singleton]; omega, ?_⟩⟩
   ·rw [if_t h] at he; exact he.symm
   ·rw [if_f h] at he
    rw [w64 (by omega)]
    exact ih (i + 1) _ (by omega) (by rw [List.length_append, List.length_singleton]; omega) he
 exact ⟨⟨by omega, by decide⟩, _, loop (splS s [47]).length 0 [] (by omega) (by simp) (by rw [segS_eq]; rfl)⟩
theorem useg_c {g : Ghost} (xs : Bs) (hG0 : SomeInt g 0)  (hp : smP xs) : CallsH Tryz.prog 42 #[sv xs] g [] (fun g' H' v => ∃ (ar0_0 : Option Addr) (cr0_0 : Nat), v = .tuple #[.slice ar0_0 (segS xs).1.length cr0_0, .bool (segS xs).2] ∧ Rep g' (.slice (.str)) [.slice ar0_0 (segS xs).1.length cr0_0] (segS xs).1 ∧ H' = []) :=
 (useg_ok xs hG0 _ (useg_F xs hp)).mono (by rintro g' H' v _ ⟨r0, r1, ar0_0, cr0_0, rfl, hRr0_0, rfl, hK⟩; obtain ⟨rfl, rfl⟩ : r0 = (segS xs).1 ∧ r1 = (segS xs).2 := ⟨congrArg (fun z => z.1) hK, congrArg (fun z => z.2) hK⟩; exact ⟨ar0_0, cr0_0, rfl, hRr0_0, rfl⟩)
/-! tail -/
def tailQ (s : Bs) : Bs × Bs × Bool := cutS (cutS s [35]).1 [63]
def tailS0 (u : JU) (s : Bs) : Bs × Bool × JU := ((tailQ s).1, ((cleanS (tailQ s).2.1).2 && (cleanS (cutS s [35]).2.1).2), u.1, u.2.1, u.2.2.1, u.2.2.2.1, (cleanS (tailQ s).2.1).1, (tailQ s).2.2, (cleanS (cutS s [35]).2.1).1, (cutS s [35]).2.2)
noncomputable def tailS : JU → Bs → Bs × Bool × JU := Classical.choose (rigid tailS0)
theorem tailS_eq : tailS = tailS0 := Classical.choose_spec (rigid tailS0)
def tailP (_ : JU) (s : Bs) : Prop := smP s
def utailF (xu : JU) (xs : Bs) (K : Bs → Bool → (JU) → Prop) : Prop :=
 cutP xs ([35] : Bs) ∧ cutP (cutS xs ([35] : Bs)).1 ([63] : Bs) ∧ smP (cutS (cutS xs ([35] : Bs)).1 ([63] : Bs)).2.1 ∧ smP (cutS xs ([35] : Bs)).2.1 ∧ K (cutS (cutS xs ([35] : Bs)).1 ([63] : Bs)).1 ((cleanS (cutS (cutS xs ([35] : Bs)).1 ([63] : Bs)).2.1).2 && (cleanS (cutS xs ([35] : Bs)).2.1).2) (xu.1, xu.2.1, xu.2.2.1, xu.2.2.2.1, (cleanS (cutS (cutS xs ([35] : Bs)).1 ([63] : Bs)).2.1).1, (cutS (cutS xs ([35] : Bs)).1 ([63] : Bs)).2.2, (cleanS (cutS xs ([35] : Bs)).2.1).1, (cutS xs ([35] : Bs)).2.2)
theorem utail_ok {g : Ghost} {bxu : Nat} {axu_0 : Option Addr} {cxu_0 : Nat} (xu : JU) (xs : Bs) (hRxu_0 : Rep g (.slice (.str)) [.slice axu_0 xu.2.2.2.1.length cxu_0] xu.2.2.2.1) (hG0 : SomeInt g 0) (K : Bs → Bool → (JU) → Prop)
  (hF : utailF xu xs K) : CallsH Tryz.prog 41 #[pv bxu 0, sv xs] g [.blk bxu (.cells #[sv xu.1, sv xu.2.1, .int .i64 xu.2.2.1, .slice axu_0 xu.2.2.2.1.length cxu_0, sv xu.2.2.2.2.1, .bool xu.2.2.2.2.2.1, sv xu.2.2.2.2.2.2.1, .bool xu.2.2.2.2.2.2.2] 46)] (fun g' H' v => ∃ (r0 : Bs), ∃ (r1 : Bool), ∃ (fxu : JU), ∃ (afxu_0 : Option Addr) (cfxu_0 : Nat), v = .tuple #[sv r0, .bool r1] ∧ Rep g' (.slice (.str)) [.slice afxu_0 fxu.2.2.2.1.length cfxu_0] fxu.2.2.2.1 ∧ H' = [.blk bxu (.cells #[sv fxu.1, sv fxu.2.1, .int .i64 fxu.2.2.1, .slice afxu_0 fxu.2.2.2.1.length cfxu_0, sv fxu.2.2.2.2.1, .bool fxu.2.2.2.2.2.1, sv fxu.2.2.2.2.2.2.1, .bool fxu.2.2.2.2.2.2.2] 46)] ∧ K r0 r1 fxu) := by
 refine CallsH.enter 54 [(0, pv bxu 0), (1, sv xs)] Tryz.func41 rfl (by kernel_rfl) (by kernel_rfl) (by kernel_rfl) fun w0 => ?_
 refine Ok.seq (Ok.region (Ok.batch 2 [(0, pv bxu 0), (1, sv xs)] (by kernel_rfl) (Ok.nil (Ok.thenN (Ok.seq (Ok.region (Ok.bat 1 [0] [(14, sv xs)] ?_)))))))
 obtain ⟨hp1, hF⟩ := hF
 refine Ok.op rfl (OpOk.callG (v := .tuple #[sv ((cutS xs ([35] : Bs)).1), sv ((cutS xs ([35] : Bs)).2.1), .bool (cutS xs ([35] : Bs)).2.2]) enr (fun W hW => cut_c xs ([35] : Bs) (hG0.mono hW.sees) hp1) rfl ?_)
 refine Ok.bat 7 [0] [(1, sv ((cutS xs ([35] : Bs)).1)), (6, sv ((cutS xs ([35] : Bs)).2.1)), (7, .bool (cutS xs ([35] : Bs)).2.2)] ?_
 refine Ok.nil (Ok.thenN (Ok.seq (Ok.region (Ok.bat 1 [0, 6, 7] [(20, sv ((cutS xs ([35] : Bs)).1))] ?_))))
 obtain ⟨hp2, hF⟩ := hF
 refine Ok.op rfl (OpOk.callG (v := .tuple #[sv ((cutS (cutS xs ([35] : Bs)).1 ([63] : Bs)).1), sv ((cutS (cutS xs ([35] : Bs)).1 ([63] : Bs)).2.1), .bool (cutS (cutS xs ([35] : Bs)).1 ([63] : Bs)).2.2]) enr (fun W hW => cut_c (cutS xs ([35] : Bs)).1 ([63] : Bs) (hG0.mono hW.sees) hp2) rfl ?_)
 refine Ok.bat 7 [0, 6, 7] [(8, sv ((cutS (cutS xs ([35] : Bs)).1 ([63] : Bs)).1)), (9, sv ((cutS (cutS xs ([35] : Bs)).1 ([63] : Bs)).2.1)), (10, .bool (cutS (cutS xs ([35] : Bs)).1 ([63] : Bs)).2.2)] ?_
 refine Ok.nil (Ok.thenN (Ok.seq (Ok.region (Ok.bat 2 [0, 6, 7, 8, 9, 10] [] ?_))))
 refine Ok.nil (Ok.thenN (Ok.seq (Ok.region (Ok.bat 6 [0, 6, 8, 9] [(26, pv bxu 0), (27, .bool (cutS (cutS xs ([35] : Bs)).1 ([63] : Bs)).2.2), (28, .bool (cutS xs ([35] : Bs)).2.2), (30, pv bxu 5)] ?_))))
 refine Ok.op rfl (OpOk.sto (k := 1) (v := .bool (cutS (cutS xs ([35] : Bs)).1 ([63] : Bs)).2.2) 0 #[sv xu.1, sv xu.2.1, .int .i64 xu.2.2.1, .slice axu_0 xu.2.2.2.1.length cxu_0, sv xu.2.2.2.2.1, .bool (cutS (cutS xs ([35] : Bs)).1 ([63] : Bs)).2.2, sv xu.2.2.2.2.2.2.1, .bool xu.2.2.2.2.2.2.2] rfl rfl rfl ?_)
 refine Ok.bat 2 [0, 6, 8, 9, 28] [(32, pv bxu 7)] ?_
 refine Ok.op rfl (OpOk.sto (k := 1) (v := .bool (cutS xs ([35] : Bs)).2.2) 0 #[sv xu.1, sv xu.2.1, .int .i64 xu.2.2.1, .slice axu_0 xu.2.2.2.1.length cxu_0, sv xu.2.2.2.2.1, .bool (cutS (cutS xs ([35] : Bs)).1 ([63] : Bs)).2.2, sv xu.2.2.2.2.2.2.1, .bool (cutS xs ([35] : Bs)).2.2] rfl rfl rfl ?_)
 refine Ok.nil (Ok.thenN (Ok.seq (Ok.region (Ok.bat 2 [0, 6, 8] [(34, pv bxu 0), (35, sv ((cutS (cutS xs ([35] : Bs)).1 ([63] : Bs)).2.1))] ?_))))
 obtain ⟨hp3, hF⟩ := hF
 refine Ok.op rfl (OpOk.callG (v := .tuple #[sv ((cleanS (cutS (cutS xs ([35] : Bs)).1 ([63] : Bs)).2.1).1), .bool (cleanS (cutS (cutS xs ([35] : Bs)).1 ([63] : Bs)).2.1).2]) enr (fun W hW => uclean_c (cutS (cutS xs ([35] : Bs)).1 ([63] : Bs)).2.1 hp3) rfl ?_)
 refine Ok.bat 5 [0, 6, 8] [(37, sv ((cleanS (cutS (cutS xs ([35] : Bs)).1 ([63] : Bs)).2.1).1)), (38, .bool (cleanS (cutS (cutS xs ([35] : Bs)).1 ([63] : Bs)).2.1).2), (40, pv bxu 4)] ?_
 refine Ok.op rfl (OpOk.sto (k := 1) (v := sv ((cleanS (cutS (cutS xs ([35] : Bs)).1 ([63] : Bs)).2.1).1)) 0 #[sv xu.1, sv xu.2.1, .int .i64 xu.2.2.1, .slice axu_0 xu.2.2.2.1.length cxu_0, sv ((cleanS (cutS (cutS xs ([35] : Bs)).1 ([63] : Bs)).2.1).1), .bool (cutS (cutS xs ([35] : Bs)).1 ([63] : Bs)).2.2, sv xu.2.2.2.2.2.2.1, .bool (cutS xs ([35] : Bs)).2.2] rfl rfl rfl ?_)
 refine Ok.bat 1 [0, 6, 8] [(11, .bool (cleanS (cutS (cutS xs ([35] : Bs)).1 ([63] : Bs)).2.1).2)] ?_
 refine Ok.nil (Ok.thenN (Ok.seq (Ok.region (Ok.bat 2 [8, 11] [(42, pv bxu 0), (43, sv ((cutS xs ([35] : Bs)).2.1))] ?_))))
 obtain ⟨hp4, hF⟩ := hF
 refine Ok.op rfl (OpOk.callG (v := .tuple #[sv ((cleanS (cutS xs ([35] : Bs)).2.1).1), .bool (cleanS (cutS xs ([35] : Bs)).2.1).2]) enr (fun W hW => uclean_c (cutS xs ([35] : Bs)).2.1 hp4) rfl ?_)
 refine Ok.bat 5 [8, 11] [(45, sv ((cleanS (cutS xs ([35] : Bs)).2.1).1)), (46, .bool (cleanS (cutS xs ([35] : Bs)).2.1).2), (48, pv bxu 6)] ?_
 refine Ok.op rfl (OpOk.sto (k := 1) (v := sv ((cleanS (cutS xs ([35] : Bs)).2.1).1)) 0 #[sv xu.1, sv xu.2.1, .int .i64 xu.2.2.1, .slice axu_0 xu.2.2.2.1.length cxu_0, sv ((cleanS (cutS (cutS xs ([35] : Bs)).1 ([63] : Bs)).2.1).1), .bool (cutS (cutS xs ([35] : Bs)).1 ([63] : Bs)).2.2, sv ((cleanS (cutS xs ([35] : Bs)).2.1).1), .bool (cutS xs ([35] : Bs)).2.2] rfl rfl rfl ?_)
 refine Ok.bat 1 [8, 11] [(12, .bool (cleanS (cutS xs ([35] : Bs)).2.1).2)] ?_
 refine Ok.nil (Ok.thenN (Ok.seq (Ok.region (Ok.bat 3 [12] [(49, sv ((cutS (cutS xs ([35] : Bs)).1 ([63] : Bs)).1)), (51, .bool (cleanS (cutS (cutS xs ([35] : Bs)).1 ([63] : Bs)).2.1).2)] ?_))))
 refine Ok.midway 2 [(49, sv ((cutS (cutS xs ([35] : Bs)).1 ([63] : Bs)).1)), (53, .bool ((cleanS (cutS (cutS xs ([35] : Bs)).1 ([63] : Bs)).2.1).2 && (cleanS (cutS xs ([35] : Bs)).2.1).2))] (fun hR5 => ?_) ?_
 ·refine Ok.boolAt 51 (cleanS (cutS (cutS xs ([35] : Bs)).1 ([63] : Bs)).2.1).2 rfl (fun hc6 => ?_) (fun hc6 => ?_)
  ·skip
   refine Ok.bat 2 [49] [(53, .bool (cleanS (cutS xs ([35] : Bs)).2.1).2)] ?_
   refine Ok.reval 53 rfl (show (.bool (cleanS (cutS xs ([35] : Bs)).2.1).2 : Value) = .bool ((cleanS (cutS (cutS xs ([35] : Bs)).1 ([63] : Bs)).2.1).2 && (cleanS (cutS xs ([35] : Bs)).2.1).2) from congrArg Value.bool (mand_t hc6)) (Ok.bat 0 [49] [(53, .bool ((cleanS (cutS (cutS xs ([35] : Bs)).1 ([63] : Bs)).2.1).2 && (cleanS (cutS xs ([35] : Bs)).2.1).2))] ?_)
   exact hR5
  ·skip
   refine Ok.bat 2 [49] [(53, .bool false)] ?_
   refine Ok.reval 53 rfl (show (.bool false : Value) = .bool ((cleanS (cutS (cutS xs ([35] : Bs)).1 ([63] : Bs)).2.1).2 && (cleanS (cutS xs ([35] : Bs)).2.1).2) from congrArg Value.bool (mand_f hc6)) (Ok.bat 0 [49] [(53, .bool ((cleanS (cutS (cutS xs ([35] : Bs)).1 ([63] : Bs)).2.1).2 && (cleanS (cutS xs ([35] : Bs)).2.1).2))] ?_)
   exact hR5
 refine Ok.batch 2 [(4, sv ((cutS (cutS xs ([35] : Bs)).1 ([63] : Bs)).1)), (5, .bool ((cleanS (cutS (cutS xs ([35] : Bs)).1 ([63] : Bs)).2.1).2 && (cleanS (cutS xs ([35] : Bs)).2.1).2))] (by kernel_rfl) (Ok.nil (Ok.thenN (Ok.ret ?_)))
 exact Ok.resH (vs := [sv ((cutS (cutS xs ([35] : Bs)).1 ([63] : Bs)).1), .bool ((cleanS (cutS (cutS xs ([35] : Bs)).1 ([63] : Bs)).2.1).2 && (cleanS (cutS xs ([35] : Bs)).2.1).2)]) (.inl rfl) rfl (.cons (.tmp rfl) (.cons (.tmp rfl) .nil)) (Gext.refl w0 g) ⟨(cutS (cutS xs ([35] : Bs)).1 ([63] : Bs)).1, ((cleanS (cutS (cutS xs ([35] : Bs)).1 ([63] : Bs)).2.1).2 && (cleanS (cutS xs ([35] : Bs)).2.1).2), (xu.1, xu.2.1, xu.2.2.1, xu.2.2.2.1, (cleanS (cutS (cutS xs ([35] : Bs)).1 ([63] : Bs)).2.1).1, (cutS (cutS xs ([35] : Bs)).1 ([63] : Bs)).2.2, (cleanS (cutS xs ([35] : Bs)).2.1).1, (cutS xs ([35] : Bs)).2.2), axu_0, cxu_0, rfl, hRxu_0, rfl, hF⟩
theorem utail_F (u : JU) (s : Bs) (hp : tailP u s) : utailF u s (fun a b c => (a, b, c) = tailS u s) := by
 unfold tailP smP at hp
 have h1 := cutS_len 35 s
 have h2 := cutS_len 63 (cutS s [35]).1
 exact ⟨by unfold cutP; omega, by unfold cutP; omega, by unfold smP; omega, by unfold smP; omega, by rw [tailS_eq]; rfl⟩
theorem utail_c {g : Ghost} {bxu : Nat} {axu_0 : Option Addr} {cxu_0 : Nat} (xu : JU) (xs : Bs) (hRxu_0 : Rep g (.slice (.str)) [.slice axu_0 xu.2.2.2.1.length cxu_0] xu.2.2.2.1) (hG0 : SomeInt g 0)  (hp : tailP xu xs) : CallsH Tryz.prog 41 #[pv bxu 0, sv xs] g [.blk bxu (.cells #[sv xu.1, sv xu.2.1, .int .i64 xu.2.2.1, .slice axu_0 xu.2.2.2.1.length cxu_0, sv xu.2.2.2.2.1, .bool xu.2.2.2.2.2.1, sv xu.2.2.2.2.2.2.1, .bool xu.2.2.2.2.2.2.2] 46)] (fun g' H' v => ∃ (afxu_0 : Option Addr) (cfxu_0 : Nat), v = .tuple #[sv ((tailS xu xs).1), .bool (tailS xu xs).2.1] ∧ Rep g' (.slice (.str)) [.slice afxu_0 (tailS xu xs).2.2.2.2.2.1.length cfxu_0] (tailS xu xs).2.2.2.2.2.1 ∧ H' = [.blk bxu (.cells #[sv ((tailS xu xs).2.2.1), sv ((tailS xu xs).2.2.2.1), .int .i64 (tailS xu xs).2.2.2.2.1, .slice afxu_0 (tailS xu xs).2.2.2.2.2.1.length cfxu_0, sv ((tailS xu xs).2.2.2.2.2.2.1), .bool (tailS xu xs).2.2.2.2.2.2.2.1, sv ((tailS xu xs).2.2.2.2.2.2.2.2.1), .bool (tailS xu xs).2.2.2.2.2.2.2.2.2] 46)]) :=
 (utail_ok xu xs hRxu_0 hG0 _ (utail_F xu xs hp)).mono (by rintro g' H' v _ ⟨r0, r1, fxu, afxu_0, cfxu_0, rfl, hRfxu_0, rfl, hK⟩; obtain ⟨rfl, rfl, rfl⟩ : r0 = (tailS xu xs).1 ∧ r1 = (tailS xu xs).2.1 ∧ fxu = (tailS xu xs).2.2 := ⟨congrArg (fun z => z.1) hK, congrArg (fun z => z.2.1) hK, congrArg (fun z => z.2.2) hK⟩; exact ⟨afxu_0, cfxu_0, rfl, hRfxu_0, rfl⟩)
/-! origin -/
def oriS (u : JU) : Bs := if (u.2.2.1 != 0) = true then ((u.1 ++ [58, 47, 47]) ++ u.2.1) ++ ([58] ++ itoaS u.2.2.1) else (u.1 ++ [58, 47, 47]) ++ u.2.1
def oriP (u : JU) : Prop := u.1.length ≤ 100000000 ∧ u.2.1.length ≤ 100000000 ∧ itoaP u.2.2.1
theorem itoa_len {n : Int} (h : itoaP n) : (itoaS n).length ≤ 21 := Lib.itoa_length_le n h.1 h.2
def uoriV0 (xu : JU) : Bs :=
 (if (xu.2.2.1 != 0) = true then ((xu.1 ++ ([58, 47, 47] : Bs)) ++ xu.2.1) ++ (([58] : Bs) ++ (itoaS xu.2.2.1)) else (xu.1 ++ ([58, 47, 47] : Bs)) ++ xu.2.1)
def uorij5 (xu : JU) (K : Bs → Prop) : Prop :=
 K (uoriV0 xu)
def uoriF (xu : JU) (K : Bs → Prop) : Prop :=
 xu.1.length + ([58, 47, 47] : Bs).length ≤ maxLen ∧ (xu.1 ++ ([58, 47, 47] : Bs)).length + xu.2.1.length ≤ maxLen ∧ (((xu.2.2.1 != 0)) = true → itoaP xu.2.2.1 ∧ ([58] : Bs).length + (itoaS xu.2.2.1).length ≤ maxLen ∧ ((xu.1 ++ ([58, 47, 47] : Bs)) ++ xu.2.1).length + (([58] : Bs) ++ (itoaS xu.2.2.1)).length ≤ maxLen ∧ uorij5 xu K) ∧ (((xu.2.2.1 != 0)) = false → uorij5 xu K)
theorem uori_ok {g : Ghost} {axu_0 : Option Addr} {cxu_0 : Nat} (xu : JU) (hRxu_0 : Rep g (.slice (.str)) [.slice axu_0 xu.2.2.2.1.length cxu_0] xu.2.2.2.1) (hG1 : GlobL g 1 (.int .u64) DPow) (K : Bs → Prop)
  (hF : uoriF xu K) : CallsH Tryz.prog 21 #[.agg #[sv xu.1, sv xu.2.1, .int .i64 xu.2.2.1, .slice axu_0 xu.2.2.2.1.length cxu_0, sv xu.2.2.2.2.1, .bool xu.2.2.2.2.2.1, sv xu.2.2.2.2.2.2.1, .bool xu.2.2.2.2.2.2.2]] g [] (fun g' H' v => ∃ (r0 : Bs), v = sv r0 ∧ H' = [] ∧ K r0) := by
 refine CallsH.enter 20 [(0, .agg #[sv xu.1, sv xu.2.1, .int .i64 xu.2.2.1, .slice axu_0 xu.2.2.2.1.length cxu_0, sv xu.2.2.2.2.1, .bool xu.2.2.2.2.2.1, sv xu.2.2.2.2.2.2.1, .bool xu.2.2.2.2.2.2.2])] Tryz.func21 rfl (by kernel_rfl) (by kernel_rfl) (by kernel_rfl) fun w0 => ?_
 refine Ok.seq (Ok.region (Ok.op rfl (OpOk.box (v := .agg #[sv xu.1, sv xu.2.1, .int .i64 xu.2.2.1, .slice axu_0 xu.2.2.2.1.length cxu_0, sv xu.2.2.2.2.1, .bool xu.2.2.2.2.2.1, sv xu.2.2.2.2.2.2.1, .bool xu.2.2.2.2.2.2.2]) (cs := #[sv xu.1, sv xu.2.1, .int .i64 xu.2.2.1, .slice axu_0 xu.2.2.2.1.length cxu_0, sv xu.2.2.2.2.1, .bool xu.2.2.2.2.2.1, sv xu.2.2.2.2.2.2.1, .bool xu.2.2.2.2.2.2.2]) rfl (by kernel_rfl) rfl fun bs1 => ?_)))
 refine Ok.batch 1 [(1, pv bs1 0)] (by kernel_rfl) (Ok.nil (Ok.thenN (Ok.seq (Ok.region (Ok.bat 1 [1] [(4, pv bs1 0)] ?_)))))
 refine Ok.op rfl (OpOk.step (v := sv xu.1) (Yields.load 0 rfl rfl Tryz.underlying9 rfl (by kernel_rfl)) rfl rfl ?_)
 obtain ⟨hv, hF⟩ := hF
 refine Ok.op rfl (OpOk.step (v := sv (xu.1 ++ ([58, 47, 47] : Bs))) (Yields.strAdd rfl rfl hv) rfl rfl (Ok.bat 1 [1] [(6, sv (xu.1 ++ ([58, 47, 47] : Bs))), (7, pv bs1 1)] ?_))
 refine Ok.op rfl (OpOk.step (v := sv xu.2.1) (Yields.load 0 rfl rfl Tryz.underlying9 rfl (by kernel_rfl)) rfl rfl ?_)
 obtain ⟨hv, hF⟩ := hF
 refine Ok.op rfl (OpOk.step (v := sv ((xu.1 ++ ([58, 47, 47] : Bs)) ++ xu.2.1)) (Yields.strAdd rfl rfl hv) rfl rfl (Ok.bat 1 [1] [(3, sv ((xu.1 ++ ([58, 47, 47] : Bs)) ++ xu.2.1))] ?_))
 refine Ok.nil (Ok.thenN (Ok.cut (fun a W => StA 20 [(3, sv (uoriV0 xu))] a ∧ StW w0 [] g W ∧ uorij5 xu K) ?_ ?_))
 ·
  refine Ok.seq (Ok.region (Ok.bat 1 [1, 3] [(10, pv bs1 2)] ?_))
  refine Ok.op rfl (OpOk.step (v := .int .i64 xu.2.2.1) (Yields.load 0 rfl rfl Tryz.underlying3 rfl (by kernel_rfl)) rfl rfl (Ok.bat 1 [1, 3] [(12, .bool (xu.2.2.1 != 0))] ?_))
  refine Ok.nil (Ok.thenN (Ok.cond (b := (xu.2.2.1 != 0)) rfl (fun hc2 => ?_) (fun hc2 => ?_)))
  ·replace hF := hF.1 hc2
   refine Ok.region (Ok.batch 2 [(13, sv ((xu.1 ++ ([58, 47, 47] : Bs)) ++ xu.2.1)), (14, pv bs1 2)] (by kernel_rfl) (Ok.op rfl (OpOk.step (v := .int .i64 xu.2.2.1) (Yields.load 0 rfl rfl Tryz.underlying3 rfl (by kernel_rfl)) rfl rfl ?_)))
   obtain ⟨hp3, hF⟩ := hF
   refine Ok.op rfl (OpOk.callG (v := sv (itoaS xu.2.2.1)) enr (fun W hW => itoa_c xu.2.2.1 (hG1.mono hW.sees) hp3) rfl ?_)
   obtain ⟨hv, hF⟩ := hF
   refine Ok.op rfl (OpOk.step (v := sv (([58] : Bs) ++ (itoaS xu.2.2.1))) (Yields.strAdd rfl rfl hv) rfl rfl ?_)
   obtain ⟨hv, hF⟩ := hF
   refine Ok.op rfl (OpOk.step (v := sv (((xu.1 ++ ([58, 47, 47] : Bs)) ++ xu.2.1) ++ (([58] : Bs) ++ (itoaS xu.2.2.1)))) (Yields.strAdd rfl rfl hv) rfl rfl (Ok.batch 1 [(3, sv (((xu.1 ++ ([58, 47, 47] : Bs)) ++ xu.2.1) ++ (([58] : Bs) ++ (itoaS xu.2.2.1))))] (by kernel_rfl) (Ok.nil (Ok.thenN (Ok.reval 3 rfl (show (sv (((xu.1 ++ ([58, 47, 47] : Bs)) ++ xu.2.1) ++ (([58] : Bs) ++ (itoaS xu.2.2.1))) : Value) = sv (uoriV0 xu) from congrArg ((fun s : Bs => Value.string ⟨⟨s⟩⟩)) ((if_t hc2).symm)) ?_)))))
   exact fun a W hA hW => ⟨hA.sub (by kernel_rfl), hW.sub (.cons _ .slnil), hF⟩
  ·replace hF := hF.2 hc2
   refine Ok.skip (Ok.thenN (Ok.reval 3 rfl (show (sv ((xu.1 ++ ([58, 47, 47] : Bs)) ++ xu.2.1) : Value) = sv (uoriV0 xu) from congrArg ((fun s : Bs => Value.string ⟨⟨s⟩⟩)) ((if_f hc2).symm)) ?_))
   exact fun a W hA hW => ⟨hA.sub (by kernel_rfl), hW.sub (.cons _ .slnil), hF⟩
 ·
  clear hF
  rintro a W ⟨hA, hW, hF⟩
  refine (?_ : Ok _ _ _ _ _ _) a W hA hW
  clear hA hW
  refine Ok.seq (Ok.region (Ok.batch 2 [(2, sv (uoriV0 xu))] (by kernel_rfl) (Ok.nil (Ok.thenN (Ok.ret ?_)))))
  exact Ok.resH (vs := [sv (uoriV0 xu)]) (.inl rfl) rfl (.cons (.tmp rfl) .nil) (Gext.refl w0 g) ⟨(uoriV0 xu), rfl, rfl, hF⟩
theorem uori_F (u : JU) (hp : oriP u) : uoriF u (fun r => r = oriS u) := by
 obtain ⟨h1, h2, h3⟩ := hp
 have h4 := itoa_len h3
 unfold uoriF
 simp only [List.length_append, List.length_cons, List.length_nil, maxLen_eq]
 exact ⟨by omega, by omega, fun _ => ⟨h3, by omega, by omega, rfl⟩, fun _ => rfl⟩
theorem uori_c {g : Ghost} {axu_0 : Option Addr} {cxu_0 : Nat} (xu : JU) (hRxu_0 : Rep g (.slice (.str)) [.slice axu_0 xu.2.2.2.1.length cxu_0] xu.2.2.2.1) (hG1 : GlobL g 1 (.int .u64) DPow)  (hp : oriP xu) : CallsG Tryz.prog 21 #[.agg #[sv xu.1, sv xu.2.1, .int .i64 xu.2.2.1, .slice axu_0 xu.2.2.2.1.length cxu_0, sv xu.2.2.2.2.1, .bool xu.2.2.2.2.2.1, sv xu.2.2.2.2.2.2.1, .bool xu.2.2.2.2.2.2.2]] g (sv (oriS xu)) :=
 (uori_ok xu hRxu_0 hG1 _ (uori_F xu hp)).gives (by rintro g' H' v _ ⟨r0, rfl, rfl, hK⟩; subst hK; rfl)
end Go.Proofs.YtdjcgbejnpbjlaaGreatDoor.Ub
