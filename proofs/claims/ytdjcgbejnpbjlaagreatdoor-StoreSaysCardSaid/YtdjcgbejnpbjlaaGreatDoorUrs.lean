/- Addresses: the reference's scheme, host, segments, tail, and what is the same. -/
import Derived.Test.YtdjcgbejnpbjlaaGreatDoorUrr
namespace Go.Proofs.YtdjcgbejnpbjlaaGreatDoor.Ub
open Go Go.Eng Go.RowKit Go.Shelf Go.Proofs Bld Sp Ti Uc Ua Ui
set_option maxHeartbeats 4000000
set_option maxRecDepth 100000
set_option linter.unusedSimpArgs false
set_option linter.unusedVariables false
noncomputable section
/-! SchemeOf -/
def chkB (first : Bool) (c : UInt8) : Bool := !(letC c) && (first || !(uinM (c.toNat : Int) schI))
def chkN (first : Bool) : Bs → Bool
 | [] => true
 | c :: l => !(chkB first c) && chkN false l
def rschS (s : Bs) : Bs × Bool := if (schS s).2.2 = true then ((schS s).1, true) else ([], false)
theorem schN_eq : ∀ (s acc : Bs) (first : Bool), schN first acc s = if (s.contains 58 && (chkN first (s.takeWhile (ne1 58)) && !(first && ((s.takeWhile (ne1 58)).length == 0)))) = true then (smallS (acc ++ s.takeWhile (ne1 58)), (s.dropWhile (ne1 58)).drop 1, true) else ([], [], false)
 | [], acc, first => by simp [schN]
 | c :: l, acc, first => by
  rw [schN]
  by_cases hc : (c == 58) = true
  ·have hn : ne1 58 c = false := by unfold ne1; rw [hc]; rfl
   have h58 : c = 58 := by simpa using hc
   subst h58
   rw [List.takeWhile_cons, List.dropWhile_cons, hn]
   have hl : letC 58 = false := by decide
   cases first
   ·simp [chkN]
   ·simp [chkN, hl]
  ·have hn : ne1 58 c = true := by unfold ne1; simpa using hc
   have hne : ((58 : UInt8) == c) = false := by
    rw [beq_eq_false_iff_ne]; rintro rfl; exact hc (by simp)
   have hc2 : ((c.toNat : Int) == 58) = false := by
    rw [beq_eq_false_iff_ne]
    intro h
    apply hc
    rw [beq_iff_eq]
    apply UInt8.toNat_inj.1
    show c.toNat = 58
    omega
   rw [List.takeWhile_cons, List.dropWhile_cons, hn, hc2, Bool.false_and, if_f rfl, if_t rfl, if_t rfl, List.contains_cons, hne, Bool.false_or, chkN]
   rw [show (!(letC c) && (first || !(uinM (c.toNat : Int) schI))) = chkB first c from rfl]
   have ih := schN_eq l (acc ++ [c]) false
   rw [ih]
   cases hb : chkB first c
   ·rw [if_f rfl]
    simp
   ·rw [if_t rfl]
    simp
theorem chk_asc : ∀ (l : Bs) (first : Bool), chkN first l = true → asc l = true
 | [], _, _ => rfl
 | c :: l, first, h => by
  rw [chkN, Bool.and_eq_true] at h
  have ih := chk_asc l false h.2
  have h1 := byte_all (p := fun c => (chkB false c || asc [c]) && (chkB true c || asc [c])) (by decide +kernel) c
  rw [Bool.and_eq_true] at h1
  have h2 : asc [c] = true := by
   have h3 : chkB first c = false := by simpa using h.1
   cases first
   ·have := h1.1; rw [h3, Bool.false_or] at this; exact this
   ·have := h1.2; rw [h3, Bool.false_or] at this; exact this
  rw [show c :: l = [c] ++ l from rfl, asc_app, h2, ih]; rfl
theorem sch_eq (s : Bs) : schS s = if (s.contains 58 && (chkN true (s.takeWhile (ne1 58)) && !((s.takeWhile (ne1 58)).length == 0))) = true then (lowS (s.takeWhile (ne1 58)), (s.dropWhile (ne1 58)).drop 1, true) else ([], [], false) := by
 rw [schS_eq]
 unfold schS0
 rw [schN_eq, List.nil_append, Bool.true_and]
 by_cases h : (s.contains 58 && (chkN true (s.takeWhile (ne1 58)) && !((s.takeWhile (ne1 58)).length == 0))) = true
 ·rw [if_t h, if_t h]
  rw [Bool.and_eq_true, Bool.and_eq_true] at h
  rw [small_asc _ (chk_asc _ _ h.2.1)]
 ·rw [if_neg h, if_neg h]
def rschV0 (e8 : Int) (x19l19 : Int) : Bool :=
 ((!(rbetM (w6 e8) 97 122)) && ((x19l19 == 0) || ((((!(rbetM (w6 e8) 48 57)) && (e8 != 43)) && (e8 != 45)) && (e8 != 46))))
def rschj30 (K : Bs → Bool → Prop) (e8 : Int) (x19l19 : Int) (C19 : Int → Prop) : Prop :=
 (((rschV0 e8 x19l19)) = true → K ([] : Bs) false) ∧ (((rschV0 e8 x19l19)) = false → C19 (w6 (x19l19 + 1)))
def rschl19b (xs : Bs) (K : Bs → Bool → Prop) (x19l19 : Int) (C19 : Int → Prop) : Prop :=
 ((decide (x19l19 < ((intsOf (lowS (xs.take (Int.toNat (idxS xs ([58] : Bs)))))).length : Int))) = true → (0 : Int) ≤ x19l19 ∧ Int.toNat x19l19 < (intsOf (lowS (xs.take (Int.toNat (idxS xs ([58] : Bs)))))).length ∧ ((!(rbetM (w6 ((intsOf (lowS (xs.take (Int.toNat (idxS xs ([58] : Bs)))))).getD (Int.toNat x19l19) default)) 97 122)) = true → (((x19l19 == 0)) = true → rschj30 K ((intsOf (lowS (xs.take (Int.toNat (idxS xs ([58] : Bs)))))).getD (Int.toNat x19l19) default) x19l19 C19) ∧ (((x19l19 == 0)) = false → rschj30 K ((intsOf (lowS (xs.take (Int.toNat (idxS xs ([58] : Bs)))))).getD (Int.toNat x19l19) default) x19l19 C19)) ∧ ((!(rbetM (w6 ((intsOf (lowS (xs.take (Int.toNat (idxS xs ([58] : Bs)))))).getD (Int.toNat x19l19) default)) 97 122)) = false → rschj30 K ((intsOf (lowS (xs.take (Int.toNat (idxS xs ([58] : Bs)))))).getD (Int.toNat x19l19) default) x19l19 C19)) ∧ ((decide (x19l19 < ((intsOf (lowS (xs.take (Int.toNat (idxS xs ([58] : Bs)))))).length : Int))) = false → K (lowS (xs.take (Int.toNat (idxS xs ([58] : Bs))))) true)
def rschl19 (xs : Bs) (K : Bs → Bool → Prop) : Nat → Int → Prop
 | 0, _ => False
 | k + 1, x19l19 => rschl19b xs K x19l19 (rschl19 xs K k)
def rschF (xs : Bs) (K : Bs → Bool → Prop) : Prop :=
 idxP xs ([58] : Bs) ∧ ((decide ((idxS xs ([58] : Bs)) < 1)) = true → K ([] : Bs) false) ∧ ((decide ((idxS xs ([58] : Bs)) < 1)) = false → (0 : Int) ≤ 0 ∧ (0 : Int) ≤ (idxS xs ([58] : Bs)) ∧ (idxS xs ([58] : Bs)) ≤ (xs.length : Int) ∧ smP (xs.take (Int.toNat (idxS xs ([58] : Bs)))) ∧ (lowS (xs.take (Int.toNat (idxS xs ([58] : Bs))))).length ≤ maxLen ∧ ∃ k, rschl19 xs K k 0)
theorem rsch_ok {g : Ghost} (xs : Bs) (hG0 : SomeInt g 0) (K : Bs → Bool → Prop)
  (hF : rschF xs K) : CallsH Tryz.prog 27 #[sv xs] g [] (fun g' H' v => ∃ (r0 : Bs), ∃ (r1 : Bool), v = .tuple #[sv r0, .bool r1] ∧ H' = [] ∧ K r0 r1) := by
 refine CallsH.enter 52 [(0, sv xs)] Tryz.func27 rfl (by kernel_rfl) (by kernel_rfl) (by kernel_rfl) fun w0 => ?_
 refine Ok.seq (Ok.region (Ok.batch 2 [(0, sv xs)] (by kernel_rfl) (Ok.nil (Ok.thenN (Ok.seq (Ok.region (Ok.bat 1 [0] [(8, sv xs)] ?_)))))))
 obtain ⟨hp1, hF⟩ := hF
 refine Ok.op rfl (OpOk.callG (v := .int .i64 (idxS xs ([58] : Bs))) enr (fun W hW => idx_c xs ([58] : Bs) (hG0.mono hW.sees) hp1) rfl ?_)
 refine Ok.bat 1 [0] [(4, .int .i64 (idxS xs ([58] : Bs)))] ?_
 refine Ok.nil (Ok.thenN (Ok.seq (Ok.seq (Ok.region (Ok.bat 2 [0, 4] [(11, .bool (decide ((idxS xs ([58] : Bs)) < 1)))] ?_)))))
 refine Ok.nil (Ok.thenN (Ok.cond (b := decide ((idxS xs ([58] : Bs)) < 1)) rfl (fun hc2 => ?_) (fun hc2 => ?_)))
 ·replace hF := hF.1 hc2
  refine Ok.seq (Ok.region (Ok.batch 2 [(2, sv ([] : Bs)), (3, .bool false)] (by kernel_rfl) (Ok.nil (Ok.thenN (Ok.ret (Ok.thenR ?_))))))
  exact Ok.resH (vs := [sv ([] : Bs), .bool false]) (.inl rfl) rfl (.cons (.tmp rfl) (.cons (.tmp rfl) .nil)) (Gext.refl w0 g) ⟨([] : Bs), false, rfl, rfl, hF⟩
 ·replace hF := hF.2 hc2
  refine Ok.skip (Ok.thenN (Ok.seq (Ok.region (Ok.batch 2 [(12, sv xs), (13, .int .i64 (idxS xs ([58] : Bs)))] (by kernel_rfl) ?_))))
  obtain ⟨h03, h13, h23, hF⟩ := hF
  refine Ok.op rfl (OpOk.step (v := sv (xs.take (Int.toNat (idxS xs ([58] : Bs))))) (Yields.sliceStr (s := xs) (l := 0) (h := (idxS xs ([58] : Bs))) (by kernel_rfl) Tryz.underlying9 (.inr ⟨rfl, rfl⟩) (.inl ⟨_, _, rfl, rfl⟩) h03 h13 h23 (xs.take (Int.toNat (idxS xs ([58] : Bs)))) (by simp)) rfl rfl ?_)
  obtain ⟨hp4, hF⟩ := hF
  refine Ok.op rfl (OpOk.callG (v := sv (lowS (xs.take (Int.toNat (idxS xs ([58] : Bs)))))) enr (fun W hW => rlow_c (xs.take (Int.toNat (idxS xs ([58] : Bs)))) hp4) rfl ?_)
  refine Ok.batch 1 [(5, sv (lowS (xs.take (Int.toNat (idxS xs ([58] : Bs))))))] (by kernel_rfl) (Ok.nil (Ok.thenN (Ok.seq (Ok.seq (Ok.region (Ok.bat 1 [5] [(16, sv (lowS (xs.take (Int.toNat (idxS xs ([58] : Bs))))))] ?_))))))
  obtain ⟨hm5, hF⟩ := hF
  refine Ok.op rfl (OpOk.bytesRo (s := (lowS (xs.take (Int.toNat (idxS xs ([58] : Bs)))))) (by kernel_rfl) Tryz.underlying9 Tryz.underlying74 Tryz.underlying5 hm5 rfl fun g5 a5 c5 hx5 hR5 => ?_)
  replace hG0 := hG0.mono hx5.1
  refine Ok.bat 2 [5] [(17, .slice a5 (intsOf (lowS (xs.take (Int.toNat (idxS xs ([58] : Bs)))))).length c5), (18, .int .i64 ((intsOf (lowS (xs.take (Int.toNat (idxS xs ([58] : Bs)))))).length : Int)), (19, .int .i64 0)] ?_
  refine Ok.nil (Ok.thenN (Ok.block ?_))
  obtain ⟨k, hF⟩ := hF
  refine Ok.loop (fun k a W => ∃ gl19 : Ghost, Gext w0 g5 gl19 ∧ ∃ (x19l19 : Int), StA 52 [(5, sv (lowS (xs.take (Int.toNat (idxS xs ([58] : Bs)))))), (17, .slice a5 (intsOf (lowS (xs.take (Int.toNat (idxS xs ([58] : Bs)))))).length c5), (18, .int .i64 ((intsOf (lowS (xs.take (Int.toNat (idxS xs ([58] : Bs)))))).length : Int)), (19, .int .i64 x19l19)] a ∧ StW w0 [] gl19 W ∧ rschl19 xs K k x19l19) k ?_ ?_
  ·
   exact fun a W hA hW => ⟨g5, (Gext.refl w0 g5), 0, hA.sub (by kernel_rfl), hW, hF⟩
  ·
   clear hF
   rintro k19 a W ⟨gl19, hxl19, x19l19, hA, hW, hF⟩
   cases k19 with
   | zero => exact (hF : False).elim
   | succ k19 =>
    refine (?_ : Ok _ _ _ _ _ _) a W hA hW
    clear hA hW
    replace hR5 := hR5.mono hxl19.1
    replace hG0 := hG0.mono hxl19.1
    refine Ok.seq (Ok.region (Ok.bat 1 [5, 17, 18, 19] [(20, .bool (decide (x19l19 < ((intsOf (lowS (xs.take (Int.toNat (idxS xs ([58] : Bs)))))).length : Int))))] ?_))
    refine Ok.nil (Ok.thenN (Ok.seq (Ok.cond (b := decide (x19l19 < ((intsOf (lowS (xs.take (Int.toNat (idxS xs ([58] : Bs)))))).length : Int))) rfl (fun hc6 => ?_) (fun hc6 => ?_))))
    ·replace hF := hF.1 hc6
     refine Ok.skip (Ok.thenN (Ok.seq (Ok.block (Ok.seq (Ok.region (Ok.bat 1 [5, 17, 18, 19] [(21, .int .i64 x19l19)] ?_))))))
     obtain ⟨h08, h18, hF⟩ := hF
     have he8 := get_of (l := (intsOf (lowS (xs.take (Int.toNat (idxS xs ([58] : Bs))))))) (default : Int) h18
     generalize hg8 : ((intsOf (lowS (xs.take (Int.toNat (idxS xs ([58] : Bs)))))).getD (Int.toNat x19l19) default) = e8 at he8 hF ⊢
     refine Ok.op rfl (OpOk.indexRo (e := .int .u8) (i := x19l19) (el := e8) rfl rfl Tryz.underlying74 (by kernel_rfl) hR5 h08 he8 rfl fun q7 o7 cs7 _ hat7 hr7 => ?_)
     obtain rfl := hr7
     replace hat7 : At gl19 q7 o7 [.int .u8 e8] := hat7
     refine Ok.op rfl (OpOk.step (v := .int .u8 e8) (Yields.loadRo 0 hat7 (by kernel_rfl) Tryz.underlying5 rfl (by kernel_rfl)) rfl rfl (Ok.bat 2 [5, 17, 18, 19] [(6, .int .i64 x19l19), (7, .int .u8 e8)] ?_))
     refine Ok.nil (Ok.thenN (Ok.cut (fun a W => ∃ gj30 : Ghost, Gext w0 gl19 gj30 ∧ StA 52 [(5, sv (lowS (xs.take (Int.toNat (idxS xs ([58] : Bs)))))), (17, .slice a5 (intsOf (lowS (xs.take (Int.toNat (idxS xs ([58] : Bs)))))).length c5), (18, .int .i64 ((intsOf (lowS (xs.take (Int.toNat (idxS xs ([58] : Bs)))))).length : Int)), (19, .int .i64 x19l19), (49, .bool (rschV0 e8 x19l19))] a ∧ StW w0 [] gj30 W ∧ rschj30 K e8 x19l19 (rschl19 xs K k19)) ?_ ?_))
     ·
      refine Ok.region (Ok.bat 2 [5, 6, 7, 17, 18, 19] [(25, .int .i64 (w6 e8))] ?_)
      refine Ok.op rfl (OpOk.callG (v := .bool (rbetM (w6 e8) 97 122)) enr (fun W hW => rbet_c (w6 e8) 97 122) rfl ?_)
      refine Ok.bat 2 [5, 6, 7, 17, 18, 19] [(28, .bool (!(rbetM (w6 e8) 97 122)))] ?_
      refine Ok.boolAt 28 (!(rbetM (w6 e8) 97 122)) rfl (fun hc10 => ?_) (fun hc10 => ?_)
      ·replace hF := hF.1 hc10
       refine Ok.bat 3 [5, 7, 17, 18, 19] [(28, .bool true), (31, .bool (x19l19 == 0))] ?_
       refine Ok.boolAt 31 ((x19l19 == 0)) rfl (fun hc11 => ?_) (fun hc11 => ?_)
       ·replace hF := hF.1 hc11
        refine Ok.bat 18 [5, 17, 18, 19] [(49, .bool true)] ?_
        refine Ok.nil (Ok.thenN (Ok.reval 49 rfl (show (.bool true : Value) = .bool (rschV0 e8 x19l19) from congrArg (Value.bool) ((Eq.trans (mor_t hc11) (mand_t hc10)))) ?_))
        exact fun a W hA hW => ⟨gl19, (Gext.refl w0 gl19), hA.sub (by kernel_rfl), hW, hF⟩
       ·replace hF := hF.2 hc11
        refine Ok.bat 2 [5, 7, 17, 18, 19, 28] [(31, .bool false), (33, .int .i64 (w6 e8))] ?_
        refine Ok.opYes (j := 7) (d := 31) (want := false) (b := false) rfl (by kernel_rfl) (by kernel_rfl) rfl (OpOk.callG (v := .bool (rbetM (w6 e8) 48 57)) enr (fun W hW => rbet_c (w6 e8) 48 57) rfl ?_)
        refine Ok.bat 2 [5, 7, 17, 18, 19, 28, 31] [(36, .bool (!(rbetM (w6 e8) 48 57)))] ?_
        refine Ok.midway 3 [(5, sv (lowS (xs.take (Int.toNat (idxS xs ([58] : Bs)))))), (7, .int .u8 e8), (17, .slice a5 (intsOf (lowS (xs.take (Int.toNat (idxS xs ([58] : Bs)))))).length c5), (18, .int .i64 ((intsOf (lowS (xs.take (Int.toNat (idxS xs ([58] : Bs)))))).length : Int)), (19, .int .i64 x19l19), (28, .bool true), (31, .bool false), (39, .bool ((!(rbetM (w6 e8) 48 57)) && (e8 != 43)))] (fun hR12 => ?_) ?_
        ·refine Ok.boolAt 36 (!(rbetM (w6 e8) 48 57)) rfl (fun hc13 => ?_) (fun hc13 => ?_)
         ·skip
          refine Ok.bat 3 [5, 7, 17, 18, 19, 28, 31] [(39, .bool (e8 != 43))] ?_
          refine Ok.reval 39 rfl (show (.bool (e8 != 43) : Value) = .bool ((!(rbetM (w6 e8) 48 57)) && (e8 != 43)) from congrArg Value.bool (mand_t hc13)) (Ok.bat 0 [5, 7, 17, 18, 19, 28, 31] [(39, .bool ((!(rbetM (w6 e8) 48 57)) && (e8 != 43)))] ?_)
          exact hR12
         ·skip
          refine Ok.bat 3 [5, 7, 17, 18, 19, 28, 31] [(39, .bool false)] ?_
          refine Ok.reval 39 rfl (show (.bool false : Value) = .bool ((!(rbetM (w6 e8) 48 57)) && (e8 != 43)) from congrArg Value.bool (mand_f hc13)) (Ok.bat 0 [5, 7, 17, 18, 19, 28, 31] [(39, .bool ((!(rbetM (w6 e8) 48 57)) && (e8 != 43)))] ?_)
          exact hR12
        refine Ok.bat 1 [5, 7, 17, 18, 19, 28, 31] [(40, .bool ((!(rbetM (w6 e8) 48 57)) && (e8 != 43)))] ?_
        refine Ok.midway 3 [(5, sv (lowS (xs.take (Int.toNat (idxS xs ([58] : Bs)))))), (7, .int .u8 e8), (17, .slice a5 (intsOf (lowS (xs.take (Int.toNat (idxS xs ([58] : Bs)))))).length c5), (18, .int .i64 ((intsOf (lowS (xs.take (Int.toNat (idxS xs ([58] : Bs)))))).length : Int)), (19, .int .i64 x19l19), (28, .bool true), (31, .bool false), (43, .bool (((!(rbetM (w6 e8) 48 57)) && (e8 != 43)) && (e8 != 45)))] (fun hR14 => ?_) ?_
        ·refine Ok.boolAt 40 (((!(rbetM (w6 e8) 48 57)) && (e8 != 43))) rfl (fun hc15 => ?_) (fun hc15 => ?_)
         ·skip
          refine Ok.bat 3 [5, 7, 17, 18, 19, 28, 31] [(43, .bool (e8 != 45))] ?_
          refine Ok.reval 43 rfl (show (.bool (e8 != 45) : Value) = .bool (((!(rbetM (w6 e8) 48 57)) && (e8 != 43)) && (e8 != 45)) from congrArg Value.bool (mand_t hc15)) (Ok.bat 0 [5, 7, 17, 18, 19, 28, 31] [(43, .bool (((!(rbetM (w6 e8) 48 57)) && (e8 != 43)) && (e8 != 45)))] ?_)
          exact hR14
         ·skip
          refine Ok.bat 3 [5, 7, 17, 18, 19, 28, 31] [(43, .bool false)] ?_
          refine Ok.reval 43 rfl (show (.bool false : Value) = .bool (((!(rbetM (w6 e8) 48 57)) && (e8 != 43)) && (e8 != 45)) from congrArg Value.bool (mand_f hc15)) (Ok.bat 0 [5, 7, 17, 18, 19, 28, 31] [(43, .bool (((!(rbetM (w6 e8) 48 57)) && (e8 != 43)) && (e8 != 45)))] ?_)
          exact hR14
        refine Ok.bat 1 [5, 7, 17, 18, 19, 28, 31] [(44, .bool (((!(rbetM (w6 e8) 48 57)) && (e8 != 43)) && (e8 != 45)))] ?_
        refine Ok.midway 3 [(5, sv (lowS (xs.take (Int.toNat (idxS xs ([58] : Bs)))))), (17, .slice a5 (intsOf (lowS (xs.take (Int.toNat (idxS xs ([58] : Bs)))))).length c5), (18, .int .i64 ((intsOf (lowS (xs.take (Int.toNat (idxS xs ([58] : Bs)))))).length : Int)), (19, .int .i64 x19l19), (28, .bool true), (31, .bool false), (47, .bool ((((!(rbetM (w6 e8) 48 57)) && (e8 != 43)) && (e8 != 45)) && (e8 != 46)))] (fun hR16 => ?_) ?_
        ·refine Ok.boolAt 44 ((((!(rbetM (w6 e8) 48 57)) && (e8 != 43)) && (e8 != 45))) rfl (fun hc17 => ?_) (fun hc17 => ?_)
         ·skip
          refine Ok.bat 3 [5, 17, 18, 19, 28, 31] [(47, .bool (e8 != 46))] ?_
          refine Ok.reval 47 rfl (show (.bool (e8 != 46) : Value) = .bool ((((!(rbetM (w6 e8) 48 57)) && (e8 != 43)) && (e8 != 45)) && (e8 != 46)) from congrArg Value.bool (mand_t hc17)) (Ok.bat 0 [5, 17, 18, 19, 28, 31] [(47, .bool ((((!(rbetM (w6 e8) 48 57)) && (e8 != 43)) && (e8 != 45)) && (e8 != 46)))] ?_)
          exact hR16
         ·skip
          refine Ok.bat 3 [5, 17, 18, 19, 28, 31] [(47, .bool false)] ?_
          refine Ok.reval 47 rfl (show (.bool false : Value) = .bool ((((!(rbetM (w6 e8) 48 57)) && (e8 != 43)) && (e8 != 45)) && (e8 != 46)) from congrArg Value.bool (mand_f hc17)) (Ok.bat 0 [5, 17, 18, 19, 28, 31] [(47, .bool ((((!(rbetM (w6 e8) 48 57)) && (e8 != 43)) && (e8 != 45)) && (e8 != 46)))] ?_)
          exact hR16
        refine Ok.bat 2 [5, 17, 18, 19] [(49, .bool ((((!(rbetM (w6 e8) 48 57)) && (e8 != 43)) && (e8 != 45)) && (e8 != 46)))] ?_
        refine Ok.nil (Ok.thenN (Ok.reval 49 rfl (show (.bool ((((!(rbetM (w6 e8) 48 57)) && (e8 != 43)) && (e8 != 45)) && (e8 != 46)) : Value) = .bool (rschV0 e8 x19l19) from congrArg (Value.bool) ((Eq.trans (mor_f hc11) (mand_t hc10)))) ?_))
        exact fun a W hA hW => ⟨gl19, (Gext.refl w0 gl19), hA.sub (by kernel_rfl), hW, hF⟩
      ·replace hF := hF.2 hc10
       refine Ok.bat 21 [5, 17, 18, 19] [(49, .bool false)] ?_
       refine Ok.nil (Ok.thenN (Ok.reval 49 rfl (show (.bool false : Value) = .bool (rschV0 e8 x19l19) from congrArg (Value.bool) (mand_f hc10)) ?_))
       exact fun a W hA hW => ⟨gl19, (Gext.refl w0 gl19), hA.sub (by kernel_rfl), hW, hF⟩
     ·
      clear hF
      rintro a W ⟨gj30, hxj30, hA, hW, hF⟩
      refine (?_ : Ok _ _ _ _ _ _) a W hA hW
      clear hA hW
      replace hR5 := hR5.mono hxj30.1
      replace hG0 := hG0.mono hxj30.1
      refine Ok.cond (b := (rschV0 e8 x19l19)) rfl (fun hc9 => ?_) (fun hc9 => ?_)
      ·replace hF := hF.1 hc9
       refine Ok.seq (Ok.region (Ok.batch 2 [(2, sv ([] : Bs)), (3, .bool false)] (by kernel_rfl) (Ok.nil (Ok.thenN (Ok.ret (Ok.blockR (Ok.thenR (Ok.thenR (Ok.blockR (Ok.thenR ?_))))))))))
       exact Ok.resH (vs := [sv ([] : Bs), .bool false]) (.inl rfl) rfl (.cons (.tmp rfl) (.cons (.tmp rfl) .nil)) ((hx5.trans hxl19).trans hxj30) ⟨([] : Bs), false, rfl, rfl, hF⟩
      ·replace hF := hF.2 hc9
       refine Ok.skip (Ok.blockN (Ok.thenN (Ok.region (Ok.bat 2 [5, 17, 18] [(19, .int .i64 (w6 (x19l19 + 1)))] ?_))))
       refine Ok.nil (Ok.thenN ?_)
       subst hg8
       exact fun a W hA hW => ⟨k19, Nat.lt_succ_self _, gj30, (hxl19.trans hxj30), w6 (x19l19 + 1), hA.sub (by kernel_rfl), hW, hF⟩
    ·replace hF := hF.2 hc6
     refine Ok.exit (Ok.thenE (Ok.thenE (Ok.blockHit (Ok.thenN (Ok.seq (Ok.region (Ok.batch 3 [(2, sv (lowS (xs.take (Int.toNat (idxS xs ([58] : Bs)))))), (3, .bool true)] (by kernel_rfl) (Ok.nil (Ok.thenN (Ok.ret ?_))))))))))
     exact Ok.resH (vs := [sv (lowS (xs.take (Int.toNat (idxS xs ([58] : Bs))))), .bool true]) (.inl rfl) rfl (.cons (.tmp rfl) (.cons (.tmp rfl) .nil)) (hx5.trans hxl19) ⟨(lowS (xs.take (Int.toNat (idxS xs ([58] : Bs))))), true, rfl, rfl, hF⟩
theorem chk_byte (c : UInt8) (i : Nat) : rschV0 ((lowC c).toNat : Int) (i : Int) = chkB (i == 0) c := by
 have h1 := byte_all (p := fun c => (rschV0 ((lowC c).toNat : Int) 0 == chkB true c) && (rschV0 ((lowC c).toNat : Int) 1 == chkB false c)) (by decide +kernel) c
 rw [Bool.and_eq_true, beq_iff_eq, beq_iff_eq] at h1
 by_cases hi : i = 0
 ·subst hi; exact h1.1
 ·rw [show (i == 0) = false by simpa using hi, ← h1.2]
  unfold rschV0
  rw [show ((i : Int) == 0) = ((1 : Int) == 0) by rw [Bool.eq_iff_iff, beq_iff_eq, beq_iff_eq]; omega]
theorem rsch_F (s : Bs) (hp : smP s) : rschF s (fun a b => (a, b) = rschS s) := by
 have hp' := hp
 unfold smP at hp
 have hix : idxS s [58] = if s.contains 58 = true then ((s.takeWhile (ne1 58)).length : Int) else -1 := index1 58 s
 have htl := tw_len (ne1 58) s
 unfold rschS
 rw [sch_eq]
 refine ⟨by unfold idxP; omega, fun h => ?_, fun h => ?_⟩
 ·have h := of_decide_eq_true h
  rw [hix] at h
  by_cases hc : s.contains 58 = true
  ·rw [if_pos hc] at h
   rw [show ((s.takeWhile (ne1 58)).length == 0) = true by rw [beq_iff_eq]; omega]
   simp
  ·rw [show s.contains 58 = false by simpa using hc]; simp
 ·have h := of_decide_eq_false h
  rw [hix] at h
  by_cases hc : s.contains 58 = true
  ·rw [if_pos hc] at h
   rw [hix, if_pos hc, hc, Int.toNat_natCast]
   have htk : s.take (s.takeWhile (ne1 58)).length = s.takeWhile (ne1 58) := by
    conv => lhs; rhs; rw [← List.takeWhile_append_dropWhile (p := ne1 58) (l := s)]
    rw [List.take_left]
   rw [htk, show ((s.takeWhile (ne1 58)).length == 0) = false by rw [beq_eq_false_iff_ne]; omega]
   obtain ⟨p, hpp⟩ : ∃ p, s.takeWhile (ne1 58) = p := ⟨_, rfl⟩
   rw [hpp] at htl h ⊢
   have hll : (intsOf (lowS p)).length = p.length := by rw [intsOf_length]; unfold lowS; rw [List.length_map]
   have hgl : (lowS p).length = p.length := by unfold lowS; rw [List.length_map]
   refine ⟨by omega, by omega, by omega, by unfold smP; omega, by rw [hgl, maxLen_eq]; omega, ?_⟩
   have hres : (fun (a : Bs) (b : Bool) => (a, b) = (if (if (true && (chkN true p && !false)) = true then (lowS p, (s.dropWhile (ne1 58)).drop 1, true) else ([], [], false)).2.2 = true then ((if (true && (chkN true p && !false)) = true then (lowS p, (s.dropWhile (ne1 58)).drop 1, true) else ([], [], false)).1, true) else ([], false))) = fun a b => (a, b) = if chkN true p = true then (lowS p, true) else ([], false) := by
    funext a b
    cases chkN true p <;> rfl
   rw [hres]
   have loop : ∀ (k i : Nat), i + k = p.length → chkN true p = chkN (i == 0) (p.drop i) → rschl19 s (fun a b => (a, b) = if chkN true p = true then (lowS p, true) else ([], false)) (k + 1) (i : Int) := by
    intro k
    induction k with
    | zero =>
     intro i h1 he
     rw [List.drop_of_length_le (by omega)] at he
     refine ⟨fun h => ?_, fun _ => ?_⟩
     ·have h := of_decide_eq_true h
      rw [hix, if_pos hc, Int.toNat_natCast, hpp, show s.take p.length = p by rw [← hpp]; exact htk, hll] at h
      omega
     ·rw [hix, if_pos hc, Int.toNat_natCast, hpp, show s.take p.length = p by rw [← hpp]; exact htk, he]; rfl
    | succ k ih =>
     intro i h1 he
     have hi : i < p.length := by omega
     rw [drop_get (l := p) (0 : UInt8) hi, chkN] at he
     have hg : (intsOf (lowS p)).getD i default = ((lowC (p.getD i 0)).toNat : Int) := by
      rw [ints_getD _ i (by omega)]
      unfold lowS
      rw [List.getD_eq_getElem?_getD, List.getD_eq_getElem?_getD, List.getElem?_map, List.getElem?_eq_getElem hi]
      rfl
     have j30 : rschj30 (fun a b => (a, b) = if chkN true p = true then (lowS p, true) else ([], false)) ((lowC (p.getD i 0)).toNat : Int) (i : Int) (rschl19 s (fun a b => (a, b) = if chkN true p = true then (lowS p, true) else ([], false)) (k + 1)) := by
      refine ⟨fun h => ?_, fun h => ?_⟩
      ·rw [chk_byte] at h
       rw [he, h]; rfl
      ·rw [chk_byte] at h
       rw [w64 (by omega)]
       refine ih (i + 1) (by omega) ?_
       rw [he, h]; rfl
     refine ⟨fun _ => ?_, fun h => ?_⟩
     ·rw [hix, if_pos hc, Int.toNat_natCast, Int.toNat_natCast, hpp, show s.take p.length = p by rw [← hpp]; exact htk, hg, hll]
      exact ⟨by omega, by omega, fun _ => ⟨fun _ => j30, fun _ => j30⟩, fun _ => j30⟩
     ·have h := of_decide_eq_false h
      rw [hix, if_pos hc, Int.toNat_natCast, hpp, show s.take p.length = p by rw [← hpp]; exact htk, hll] at h
      omega
   exact ⟨_, loop p.length 0 (by omega) rfl⟩
  ·rw [if_neg hc] at h
   omega
theorem rsch_c {g : Ghost} (xs : Bs) (hG0 : SomeInt g 0)  (hp : smP xs) : CallsG Tryz.prog 27 #[sv xs] g (.tuple #[sv ((rschS xs).1), .bool (rschS xs).2]) :=
 (rsch_ok xs hG0 _ (rsch_F xs hp)).gives (by rintro g' H' v _ ⟨r0, r1, rfl, rfl, hK⟩; obtain ⟨rfl, rfl⟩ : r0 = (rschS xs).1 ∧ r1 = (rschS xs).2 := ⟨congrArg (fun z => z.1) hK, congrArg (fun z => z.2) hK⟩; rfl)
/-! hostRight -/
def hC (c : UInt8) : Bool := HSL.contains c
def hrN (last : Bool) : Bs → Bool
 | [] => !last
 | c :: l => if (!(hC c || (c == 46)) || ((c == 46) && last)) = true then false else hrN (c == 46) l
def rhosS (s : Bs) : Bool := if (decide (1 ≤ s.length) && decide (s.length ≤ 100)) = true then hrN true s else false
def rhosV1 (e5 : Int) (x3l17 : Int) : Bool :=
 (if (!(rbetM (w6 e5) 97 122)) = true then ((((!(rbetM (w6 e5) 48 57)) && (e5 != 45)) && (e5 != 46)) || ((e5 == 46) && (x3l17 == 46))) else ((e5 == 46) && (x3l17 == 46)))
def rhosj29 (xh : Bs) (K : Bool → Prop) (e5 : Int) (x3l17 : Int) (x13l17 : Int) (C17 : Int → Int → Prop) : Prop :=
 (((rhosV1 e5 x3l17)) = true → K false) ∧ (((rhosV1 e5 x3l17)) = false → C17 ((intsOf xh).getD (Int.toNat x13l17) default) (w6 (x13l17 + 1)))
def rhosl17b (xh : Bs) (K : Bool → Prop) (x3l17 : Int) (x13l17 : Int) (C17 : Int → Int → Prop) : Prop :=
 ((decide (x13l17 < ((intsOf xh).length : Int))) = true → (0 : Int) ≤ x13l17 ∧ Int.toNat x13l17 < (intsOf xh).length ∧ ((!(rbetM (w6 ((intsOf xh).getD (Int.toNat x13l17) default)) 97 122)) = true → rhosj29 xh K ((intsOf xh).getD (Int.toNat x13l17) default) x3l17 x13l17 C17) ∧ ((!(rbetM (w6 ((intsOf xh).getD (Int.toNat x13l17) default)) 97 122)) = false → rhosj29 xh K ((intsOf xh).getD (Int.toNat x13l17) default) x3l17 x13l17 C17)) ∧ ((decide (x13l17 < ((intsOf xh).length : Int))) = false → K (x3l17 != 46))
def rhosl17 (xh : Bs) (K : Bool → Prop) : Nat → Int → Int → Prop
 | 0, _, _ => False
 | k + 1, x3l17, x13l17 => rhosl17b xh K x3l17 x13l17 (rhosl17 xh K k)
def rhosF (xh : Bs) (K : Bool → Prop) : Prop :=
 ((!(rbetM (xh.length : Int) 1 100)) = true → K false) ∧ ((!(rbetM (xh.length : Int) 1 100)) = false → xh.length ≤ maxLen ∧ ∃ k, rhosl17 xh K k 46 0)
theorem rhos_ok {g : Ghost} (xh : Bs) (K : Bool → Prop)
  (hF : rhosF xh K) : CallsH Tryz.prog 31 #[sv xh] g [] (fun g' H' v => ∃ (r0 : Bool), v = .bool r0 ∧ H' = [] ∧ K r0) := by
 refine CallsH.enter 47 [(0, sv xh)] Tryz.func31 rfl (by kernel_rfl) (by kernel_rfl) (by kernel_rfl) fun w0 => ?_
 refine Ok.seq (Ok.region (Ok.batch 1 [(0, sv xh)] (by kernel_rfl) (Ok.nil (Ok.thenN (Ok.seq (Ok.seq (Ok.region (Ok.bat 2 [0] [(7, .int .i64 (xh.length : Int))] ?_))))))))
 refine Ok.op rfl (OpOk.callG (v := .bool (rbetM (xh.length : Int) 1 100)) enr (fun W hW => rbet_c (xh.length : Int) 1 100) rfl ?_)
 refine Ok.bat 1 [0] [(9, .bool (!(rbetM (xh.length : Int) 1 100)))] ?_
 refine Ok.nil (Ok.thenN (Ok.cond (b := !(rbetM (xh.length : Int) 1 100)) rfl (fun hc1 => ?_) (fun hc1 => ?_)))
 ·replace hF := hF.1 hc1
  refine Ok.seq (Ok.region (Ok.batch 1 [(2, .bool false)] (by kernel_rfl) (Ok.nil (Ok.thenN (Ok.ret (Ok.thenR ?_))))))
  exact Ok.resH (vs := [.bool false]) (.inl rfl) rfl (.cons (.tmp rfl) .nil) (Gext.refl w0 g) ⟨false, rfl, rfl, hF⟩
 ·replace hF := hF.2 hc1
  refine Ok.skip (Ok.thenN (Ok.seq (Ok.region (Ok.bat 1 [0] [(3, .int .u8 46)] ?_))))
  refine Ok.nil (Ok.thenN (Ok.seq (Ok.seq (Ok.region (Ok.bat 1 [3] [(10, sv xh)] ?_)))))
  obtain ⟨hm2, hF⟩ := hF
  refine Ok.op rfl (OpOk.bytesRo (s := xh) (by kernel_rfl) Tryz.underlying9 Tryz.underlying74 Tryz.underlying5 hm2 rfl fun g2 a2 c2 hx2 hR2 => ?_)
  refine Ok.bat 2 [3] [(11, .slice a2 (intsOf xh).length c2), (12, .int .i64 ((intsOf xh).length : Int)), (13, .int .i64 0)] ?_
  refine Ok.nil (Ok.thenN (Ok.block ?_))
  obtain ⟨k, hF⟩ := hF
  refine Ok.loop (fun k a W => ∃ gl17 : Ghost, Gext w0 g2 gl17 ∧ ∃ (x3l17 : Int) (x13l17 : Int), StA 47 [(3, .int .u8 x3l17), (11, .slice a2 (intsOf xh).length c2), (12, .int .i64 ((intsOf xh).length : Int)), (13, .int .i64 x13l17)] a ∧ StW w0 [] gl17 W ∧ rhosl17 xh K k x3l17 x13l17) k ?_ ?_
  ·
   exact fun a W hA hW => ⟨g2, (Gext.refl w0 g2), 46, 0, hA.sub (by kernel_rfl), hW, hF⟩
  ·
   clear hF
   rintro k17 a W ⟨gl17, hxl17, x3l17, x13l17, hA, hW, hF⟩
   cases k17 with
   | zero => exact (hF : False).elim
   | succ k17 =>
    refine (?_ : Ok _ _ _ _ _ _) a W hA hW
    clear hA hW
    replace hR2 := hR2.mono hxl17.1
    refine Ok.seq (Ok.region (Ok.bat 1 [3, 11, 12, 13] [(14, .bool (decide (x13l17 < ((intsOf xh).length : Int))))] ?_))
    refine Ok.nil (Ok.thenN (Ok.seq (Ok.cond (b := decide (x13l17 < ((intsOf xh).length : Int))) rfl (fun hc3 => ?_) (fun hc3 => ?_))))
    ·replace hF := hF.1 hc3
     refine Ok.skip (Ok.thenN (Ok.seq (Ok.block (Ok.seq (Ok.region ?_)))))
     obtain ⟨h05, h15, hF⟩ := hF
     have he5 := get_of (l := (intsOf xh)) (default : Int) h15
     generalize hg5 : ((intsOf xh).getD (Int.toNat x13l17) default) = e5 at he5 hF ⊢
     refine Ok.op rfl (OpOk.indexRo (e := .int .u8) (i := x13l17) (el := e5) rfl rfl Tryz.underlying74 (by kernel_rfl) hR2 h05 he5 rfl fun q4 o4 cs4 _ hat4 hr4 => ?_)
     obtain rfl := hr4
     replace hat4 : At gl17 q4 o4 [.int .u8 e5] := hat4
     refine Ok.op rfl (OpOk.step (v := .int .u8 e5) (Yields.loadRo 0 hat4 (by kernel_rfl) Tryz.underlying5 rfl (by kernel_rfl)) rfl rfl (Ok.bat 1 [3, 11, 12, 13] [(5, .int .u8 e5)] ?_))
     refine Ok.nil (Ok.thenN (Ok.seq (Ok.cut (fun a W => ∃ gj29 : Ghost, Gext w0 gl17 gj29 ∧ StA 47 [(5, .int .u8 e5), (11, .slice a2 (intsOf xh).length c2), (12, .int .i64 ((intsOf xh).length : Int)), (13, .int .i64 x13l17), (42, .bool (rhosV1 e5 x3l17))] a ∧ StW w0 [] gj29 W ∧ rhosj29 xh K e5 x3l17 x13l17 (rhosl17 xh K k17)) ?_ ?_)))
     ·
      refine Ok.region (Ok.bat 2 [3, 5, 11, 12, 13] [(18, .int .i64 (w6 e5))] ?_)
      refine Ok.op rfl (OpOk.callG (v := .bool (rbetM (w6 e5) 97 122)) enr (fun W hW => rbet_c (w6 e5) 97 122) rfl ?_)
      refine Ok.bat 2 [3, 5, 11, 12, 13] [(21, .bool (!(rbetM (w6 e5) 97 122)))] ?_
      refine Ok.boolAt 21 (!(rbetM (w6 e5) 97 122)) rfl (fun hc7 => ?_) (fun hc7 => ?_)
      ·replace hF := hF.1 hc7
       refine Ok.bat 2 [3, 5, 11, 12, 13] [(21, .bool true), (23, .int .i64 (w6 e5))] ?_
       refine Ok.opYes (j := 4) (d := 21) (want := true) (b := true) rfl (by kernel_rfl) (by kernel_rfl) rfl (OpOk.callG (v := .bool (rbetM (w6 e5) 48 57)) enr (fun W hW => rbet_c (w6 e5) 48 57) rfl ?_)
       refine Ok.bat 3 [3, 5, 11, 12, 13] [(27, .bool (!(rbetM (w6 e5) 48 57)))] ?_
       refine Ok.midway 3 [(3, .int .u8 x3l17), (5, .int .u8 e5), (11, .slice a2 (intsOf xh).length c2), (12, .int .i64 ((intsOf xh).length : Int)), (13, .int .i64 x13l17), (30, .bool ((!(rbetM (w6 e5) 48 57)) && (e5 != 45)))] (fun hR8 => ?_) ?_
       ·refine Ok.boolAt 27 (!(rbetM (w6 e5) 48 57)) rfl (fun hc9 => ?_) (fun hc9 => ?_)
        ·skip
         refine Ok.bat 3 [3, 5, 11, 12, 13] [(30, .bool (e5 != 45))] ?_
         refine Ok.reval 30 rfl (show (.bool (e5 != 45) : Value) = .bool ((!(rbetM (w6 e5) 48 57)) && (e5 != 45)) from congrArg Value.bool (mand_t hc9)) (Ok.bat 0 [3, 5, 11, 12, 13] [(30, .bool ((!(rbetM (w6 e5) 48 57)) && (e5 != 45)))] ?_)
         exact hR8
        ·skip
         refine Ok.bat 3 [3, 5, 11, 12, 13] [(30, .bool false)] ?_
         refine Ok.reval 30 rfl (show (.bool false : Value) = .bool ((!(rbetM (w6 e5) 48 57)) && (e5 != 45)) from congrArg Value.bool (mand_f hc9)) (Ok.bat 0 [3, 5, 11, 12, 13] [(30, .bool ((!(rbetM (w6 e5) 48 57)) && (e5 != 45)))] ?_)
         exact hR8
       refine Ok.bat 1 [3, 5, 11, 12, 13] [(31, .bool ((!(rbetM (w6 e5) 48 57)) && (e5 != 45)))] ?_
       refine Ok.midway 3 [(3, .int .u8 x3l17), (5, .int .u8 e5), (11, .slice a2 (intsOf xh).length c2), (12, .int .i64 ((intsOf xh).length : Int)), (13, .int .i64 x13l17), (34, .bool (((!(rbetM (w6 e5) 48 57)) && (e5 != 45)) && (e5 != 46)))] (fun hR10 => ?_) ?_
       ·refine Ok.boolAt 31 (((!(rbetM (w6 e5) 48 57)) && (e5 != 45))) rfl (fun hc11 => ?_) (fun hc11 => ?_)
        ·skip
         refine Ok.bat 3 [3, 5, 11, 12, 13] [(34, .bool (e5 != 46))] ?_
         refine Ok.reval 34 rfl (show (.bool (e5 != 46) : Value) = .bool (((!(rbetM (w6 e5) 48 57)) && (e5 != 45)) && (e5 != 46)) from congrArg Value.bool (mand_t hc11)) (Ok.bat 0 [3, 5, 11, 12, 13] [(34, .bool (((!(rbetM (w6 e5) 48 57)) && (e5 != 45)) && (e5 != 46)))] ?_)
         exact hR10
        ·skip
         refine Ok.bat 3 [3, 5, 11, 12, 13] [(34, .bool false)] ?_
         refine Ok.reval 34 rfl (show (.bool false : Value) = .bool (((!(rbetM (w6 e5) 48 57)) && (e5 != 45)) && (e5 != 46)) from congrArg Value.bool (mand_f hc11)) (Ok.bat 0 [3, 5, 11, 12, 13] [(34, .bool (((!(rbetM (w6 e5) 48 57)) && (e5 != 45)) && (e5 != 46)))] ?_)
         exact hR10
       refine Ok.bat 1 [3, 5, 11, 12, 13] [(35, .bool (((!(rbetM (w6 e5) 48 57)) && (e5 != 45)) && (e5 != 46)))] ?_
       refine Ok.midway 7 [(5, .int .u8 e5), (11, .slice a2 (intsOf xh).length c2), (12, .int .i64 ((intsOf xh).length : Int)), (13, .int .i64 x13l17), (42, .bool ((((!(rbetM (w6 e5) 48 57)) && (e5 != 45)) && (e5 != 46)) || ((e5 == 46) && (x3l17 == 46))))] (fun hR12 => ?_) ?_
       ·refine Ok.boolAt 35 ((((!(rbetM (w6 e5) 48 57)) && (e5 != 45)) && (e5 != 46))) rfl (fun hc13 => ?_) (fun hc13 => ?_)
        ·skip
         refine Ok.bat 7 [5, 11, 12, 13] [(42, .bool true)] ?_
         refine Ok.reval 42 rfl (show (.bool true : Value) = .bool ((((!(rbetM (w6 e5) 48 57)) && (e5 != 45)) && (e5 != 46)) || ((e5 == 46) && (x3l17 == 46))) from congrArg Value.bool (mor_t hc13)) (Ok.bat 0 [5, 11, 12, 13] [(42, .bool ((((!(rbetM (w6 e5) 48 57)) && (e5 != 45)) && (e5 != 46)) || ((e5 == 46) && (x3l17 == 46))))] ?_)
         exact hR12
        ·skip
         refine Ok.bat 3 [3, 5, 11, 12, 13] [(35, .bool false), (38, .bool (e5 == 46))] ?_
         refine Ok.midway 3 [(5, .int .u8 e5), (11, .slice a2 (intsOf xh).length c2), (12, .int .i64 ((intsOf xh).length : Int)), (13, .int .i64 x13l17), (35, .bool false), (41, .bool ((e5 == 46) && (x3l17 == 46)))] (fun hR14 => ?_) ?_
         ·refine Ok.boolAt 38 ((e5 == 46)) rfl (fun hc15 => ?_) (fun hc15 => ?_)
          ·skip
           refine Ok.bat 3 [5, 11, 12, 13, 35] [(41, .bool (x3l17 == 46))] ?_
           refine Ok.reval 41 rfl (show (.bool (x3l17 == 46) : Value) = .bool ((e5 == 46) && (x3l17 == 46)) from congrArg Value.bool (mand_t hc15)) (Ok.bat 0 [5, 11, 12, 13, 35] [(41, .bool ((e5 == 46) && (x3l17 == 46)))] ?_)
           exact hR14
          ·skip
           refine Ok.bat 3 [5, 11, 12, 13, 35] [(41, .bool false)] ?_
           refine Ok.reval 41 rfl (show (.bool false : Value) = .bool ((e5 == 46) && (x3l17 == 46)) from congrArg Value.bool (mand_f hc15)) (Ok.bat 0 [5, 11, 12, 13, 35] [(41, .bool ((e5 == 46) && (x3l17 == 46)))] ?_)
           exact hR14
         refine Ok.bat 1 [5, 11, 12, 13] [(42, .bool ((e5 == 46) && (x3l17 == 46)))] ?_
         refine Ok.reval 42 rfl (show (.bool ((e5 == 46) && (x3l17 == 46)) : Value) = .bool ((((!(rbetM (w6 e5) 48 57)) && (e5 != 45)) && (e5 != 46)) || ((e5 == 46) && (x3l17 == 46))) from congrArg Value.bool (mor_f hc13)) (Ok.bat 0 [5, 11, 12, 13] [(42, .bool ((((!(rbetM (w6 e5) 48 57)) && (e5 != 45)) && (e5 != 46)) || ((e5 == 46) && (x3l17 == 46))))] ?_)
         exact hR12
       refine Ok.nil (Ok.thenN (Ok.reval 42 rfl (show (.bool ((((!(rbetM (w6 e5) 48 57)) && (e5 != 45)) && (e5 != 46)) || ((e5 == 46) && (x3l17 == 46))) : Value) = .bool (rhosV1 e5 x3l17) from congrArg (Value.bool) ((if_t hc7).symm)) ?_))
       exact fun a W hA hW => ⟨gl17, (Gext.refl w0 gl17), hA.sub (by kernel_rfl), hW, hF⟩
      ·replace hF := hF.2 hc7
       refine Ok.bat 17 [3, 5, 11, 12, 13] [(35, .bool false), (38, .bool (e5 == 46))] ?_
       refine Ok.midway 3 [(5, .int .u8 e5), (11, .slice a2 (intsOf xh).length c2), (12, .int .i64 ((intsOf xh).length : Int)), (13, .int .i64 x13l17), (35, .bool false), (41, .bool ((e5 == 46) && (x3l17 == 46)))] (fun hR16 => ?_) ?_
       ·refine Ok.boolAt 38 ((e5 == 46)) rfl (fun hc17 => ?_) (fun hc17 => ?_)
        ·skip
         refine Ok.bat 3 [5, 11, 12, 13, 35] [(41, .bool (x3l17 == 46))] ?_
         refine Ok.reval 41 rfl (show (.bool (x3l17 == 46) : Value) = .bool ((e5 == 46) && (x3l17 == 46)) from congrArg Value.bool (mand_t hc17)) (Ok.bat 0 [5, 11, 12, 13, 35] [(41, .bool ((e5 == 46) && (x3l17 == 46)))] ?_)
         exact hR16
        ·skip
         refine Ok.bat 3 [5, 11, 12, 13, 35] [(41, .bool false)] ?_
         refine Ok.reval 41 rfl (show (.bool false : Value) = .bool ((e5 == 46) && (x3l17 == 46)) from congrArg Value.bool (mand_f hc17)) (Ok.bat 0 [5, 11, 12, 13, 35] [(41, .bool ((e5 == 46) && (x3l17 == 46)))] ?_)
         exact hR16
       refine Ok.bat 1 [5, 11, 12, 13] [(42, .bool ((e5 == 46) && (x3l17 == 46)))] ?_
       refine Ok.nil (Ok.thenN (Ok.reval 42 rfl (show (.bool ((e5 == 46) && (x3l17 == 46)) : Value) = .bool (rhosV1 e5 x3l17) from congrArg (Value.bool) ((if_f hc7).symm)) ?_))
       exact fun a W hA hW => ⟨gl17, (Gext.refl w0 gl17), hA.sub (by kernel_rfl), hW, hF⟩
     ·
      clear hF
      rintro a W ⟨gj29, hxj29, hA, hW, hF⟩
      refine (?_ : Ok _ _ _ _ _ _) a W hA hW
      clear hA hW
      replace hR2 := hR2.mono hxj29.1
      refine Ok.cond (b := (rhosV1 e5 x3l17)) rfl (fun hc6 => ?_) (fun hc6 => ?_)
      ·replace hF := hF.1 hc6
       refine Ok.seq (Ok.region (Ok.batch 1 [(2, .bool false)] (by kernel_rfl) (Ok.nil (Ok.thenN (Ok.ret (Ok.thenR (Ok.blockR (Ok.thenR (Ok.thenR (Ok.blockR (Ok.thenR ?_)))))))))))
       exact Ok.resH (vs := [.bool false]) (.inl rfl) rfl (.cons (.tmp rfl) .nil) ((hx2.trans hxl17).trans hxj29) ⟨false, rfl, rfl, hF⟩
      ·replace hF := hF.2 hc6
       refine Ok.skip (Ok.thenN (Ok.region (Ok.bat 2 [11, 12, 13] [(3, .int .u8 e5)] ?_)))
       refine Ok.nil (Ok.blockN (Ok.thenN (Ok.region (Ok.bat 2 [3, 11, 12] [(13, .int .i64 (w6 (x13l17 + 1)))] ?_))))
       refine Ok.nil (Ok.thenN ?_)
       subst hg5
       exact fun a W hA hW => ⟨k17, Nat.lt_succ_self _, gj29, (hxl17.trans hxj29), ((intsOf xh).getD (Int.toNat x13l17) default), w6 (x13l17 + 1), hA.sub (by kernel_rfl), hW, hF⟩
    ·replace hF := hF.2 hc3
     refine Ok.exit (Ok.thenE (Ok.thenE (Ok.blockHit (Ok.thenN (Ok.seq (Ok.region (Ok.batch 3 [(2, .bool (x3l17 != 46))] (by kernel_rfl) (Ok.nil (Ok.thenN (Ok.ret ?_))))))))))
     exact Ok.resH (vs := [.bool (x3l17 != 46)]) (.inl rfl) rfl (.cons (.tmp rfl) .nil) (hx2.trans hxl17) ⟨(x3l17 != 46), rfl, rfl, hF⟩
theorem hr_byte (c : UInt8) (x : Int) : rhosV1 (c.toNat : Int) x = (!(hC c || (c == 46)) || ((c == 46) && (x == 46))) := by
 have h1 := byte_all (p := fun c => (rhosV1 (c.toNat : Int) 46 == (!(hC c || (c == 46)) || ((c == 46) && true))) && (rhosV1 (c.toNat : Int) 0 == (!(hC c || (c == 46)) || ((c == 46) && false)))) (by decide +kernel) c
 rw [Bool.and_eq_true, beq_iff_eq, beq_iff_eq] at h1
 by_cases hx : x = 46
 ·subst hx; exact h1.1
 ·rw [show (x == 46) = false by simpa using hx, ← h1.2]
  unfold rhosV1
  rw [show (x == 46) = ((0 : Int) == 46) by rw [show (x == 46) = false by simpa using hx]; rfl]
theorem rhos_F (s : Bs) (hp : smP s) : rhosF s (fun r => r = rhosS s) := by
 unfold smP at hp
 have hb : rbetM (s.length : Int) 1 100 = (decide (1 ≤ s.length) && decide (s.length ≤ 100)) := by
  rw [bet_eq, show decide ((1 : Int) ≤ (s.length : Int)) = decide (1 ≤ s.length) from decide_eq_decide.2 (by omega), show decide ((s.length : Int) ≤ 100) = decide (s.length ≤ 100) from decide_eq_decide.2 (by omega)]
 unfold rhosS
 refine ⟨fun h => ?_, fun h => ⟨by rw [maxLen_eq]; omega, ?_⟩⟩
 ·have h : (!(rbetM (s.length : Int) 1 100)) = true := h
  rw [hb] at h
  cases hx : (decide (1 ≤ s.length) && decide (s.length ≤ 100)) with
  | false => rfl
  | true => rw [hx] at h; cases h
 ·have h : (!(rbetM (s.length : Int) 1 100)) = false := h
  rw [hb] at h
  rw [if_t (show (decide (1 ≤ s.length) && decide (s.length ≤ 100)) = true by
   cases hx : (decide (1 ≤ s.length) && decide (s.length ≤ 100)) with
   | true => rfl
   | false => rw [hx] at h; cases h)]
  have hil : (intsOf s).length = s.length := intsOf_length s
  have loop : ∀ (k i : Nat) (x : Int), i + k = s.length → hrN true s = hrN (x == 46) (s.drop i) → rhosl17 s (fun r => r = hrN true s) (k + 1) x (i : Int) := by
   intro k
   induction k with
   | zero =>
    intro i x h1 he
    rw [List.drop_of_length_le (by omega)] at he
    exact ⟨fun h => by have := of_decide_eq_true h; omega, fun _ => by rw [he]; rfl⟩
   | succ k ih =>
    intro i x h1 he
    have hi : i < s.length := by omega
    rw [drop_get (l := s) (0 : UInt8) hi, hrN] at he
    have hg := ints_getD s i hi
    have j29 : rhosj29 s (fun r => r = hrN true s) ((s.getD i 0).toNat : Int) x (i : Int) (rhosl17 s (fun r => r = hrN true s) (k + 1)) := by
     refine ⟨fun h => ?_, fun h => ?_⟩
     ·rw [hr_byte] at h
      rw [he, if_t h]
     ·rw [hr_byte] at h
      rw [Int.toNat_natCast, hg, w64 (by omega)]
      refine ih (i + 1) _ (by omega) ?_
      rw [he, if_f h]
      have : (((s.getD i 0).toNat : Int) == 46) = (s.getD i 0 == 46) := by
       rw [Bool.eq_iff_iff, beq_iff_eq, beq_iff_eq, ← UInt8.toNat_inj]
       show _ ↔ (s.getD i 0).toNat = 46
       omega
      rw [this]
    refine ⟨fun _ => ⟨by omega, by rw [Int.toNat_natCast]; omega, ?_⟩, fun h => by have := of_decide_eq_false h; omega⟩
    rw [Int.toNat_natCast, hg]
    exact ⟨fun _ => j29, fun _ => j29⟩
  exact ⟨_, loop s.length 0 46 (by omega) rfl⟩
theorem rhos_c {g : Ghost} (xh : Bs)  (hp : smP xh) : CallsG Tryz.prog 31 #[sv xh] g (.bool (rhosS xh)) :=
 (rhos_ok xh _ (rhos_F xh hp)).gives (by rintro g' H' v _ ⟨r0, rfl, rfl, hK⟩; subst hK; rfl)
/-! the two hosts -/
def goodW (w : Bs) : Bool := !(w == []) && w.all hC
theorem hostPc_eq (w : Bs) : hostPc w = goodW w := by
 unfold hostPc goodW
 rw [trim_nil, Bool.not_or, Bool.not_not]
 rfl
def headT : List Bs → Bool
 | [] => true
 | w :: r => w.all hC && r.all goodW
theorem hr_split : ∀ (s : Bs), hrN true s = (spC 46 s).all goodW ∧ hrN false s = headT (spC 46 s)
 | [] => by decide
 | c :: l => by
  obtain ⟨i1, i2⟩ := hr_split l
  rw [hrN, hrN, spC]
  by_cases hc : (c == 46) = true
  ·rw [hc, if_t rfl, Bool.or_true, i1]
   refine ⟨rfl, ?_⟩
   show (if (!true || (true && false)) = true then false else _) = ([].all hC && _)
   rfl
  ·have hc : (c == 46) = false := by simpa using hc
   rw [hc, if_f rfl, Bool.or_false, i2]
   cases hs : spC 46 l with
   | nil => exact absurd hs (spC_ne 46 l)
   | cons w r =>
    have hg : goodW (c :: w) = (hC c && w.all hC) := rfl
    show (if (!(hC c) || false) = true then false else _) = (goodW (c :: w) && r.all goodW) ∧ (if (!(hC c) || false) = true then false else _) = ((hC c && w.all hC) && r.all goodW)
    rw [hg, Bool.or_false]
    cases hC c
    ·exact ⟨rfl, rfl⟩
    ·exact ⟨rfl, rfl⟩
theorem hrN_asc : ∀ (s : Bs) (b : Bool), hrN b s = true → asc s = true
 | [], _, _ => rfl
 | c :: l, b, h => by
  rw [hrN] at h
  split at h
  ·cases h
  ·rename_i h1
   have ih := hrN_asc l _ h
   have h2 := byte_all (p := fun c => !(hC c || (c == 46)) || asc [c]) (by decide +kernel) c
   have h3 : (hC c || (c == 46)) = true := by
    cases hx : (hC c || (c == 46)) with
    | true => rfl
    | false => exact absurd (by rw [hx]; rfl) h1
   rw [h3] at h2
   rw [show c :: l = [c] ++ l from rfl, asc_app, ih]
   simpa using h2
theorem host_r (s : Bs) : hostS s = rhosS s := by
 unfold hostS rhosS
 have e : (splS s [46]).all hostPc = hrN true s := by
  rw [splC, (hr_split s).1]
  congr 1
  funext w
  exact hostPc_eq w
 by_cases h1 : s.length > 100
 ·rw [if_pos (decide_eq_true (by omega)), if_neg (by simp; omega)]
 ·rw [if_neg (by simp; omega), e]
  by_cases h0 : s.length = 0
  ·rw [List.eq_nil_of_length_eq_zero h0]; rfl
  ·rw [if_pos (by simp; omega)]
theorem low_asc (s : Bs) : asc (lowS s) = asc s := by
 unfold asc lowS
 rw [List.all_map]
 congr 1
 funext b
 have h2 := byte_all (p := fun b => decide ((lowC b).toNat < 128) == decide (b.toNat < 128)) (by decide +kernel) b
 exact beq_iff_eq.1 h2
theorem host_two (h : Bs) : hostS (smallS h) = rhosS (lowS h) ∧ (rhosS (lowS h) = true → smallS h = lowS h) := by
 have hno : ∀ s, asc s = false → rhosS s = false := fun s hs => by
  unfold rhosS
  split
  ·cases hh : hrN true s with
   | false => rfl
   | true => rw [hrN_asc s true hh] at hs; cases hs
  ·rfl
 cases ha : asc h
 ·rw [host_r, hno _ (small_hi h ha), hno (lowS h) (by rw [low_asc]; exact ha)]
  exact ⟨rfl, fun h => by cases h⟩
 ·rw [host_r, small_asc h ha]
  exact ⟨rfl, fun _ => rfl⟩
end
end Go.Proofs.YtdjcgbejnpbjlaaGreatDoor.Ub
