/- csstok.lower. -/
import Derived.Test.YtcnhdkhkadiohaaGreatDoorCsn
import Derived.Test.YtcnhdkhkadiohaaGreatDoorByt
namespace Go.Proofs.YtcnhdkhkadiohaaGreatDoor.Css
open Go Go.Eng Bld Trm
set_option maxHeartbeats 4000000
set_option maxRecDepth 100000
set_option linter.unusedSimpArgs false
set_option linter.unusedVariables false
def lowerV2 (x10l9 : Int) (yownb1_0l9 : List (Int)) : List (Int) :=
 (if ((decide ((yownb1_0l9.getD (Int.toNat x10l9) default) ≥ 65)) && (decide ((yownb1_0l9.getD (Int.toNat x10l9) default) ≤ 90))) = true then (yownb1_0l9.set (Int.toNat x10l9) (IntKind.wrap .u8 ((yownb1_0l9.getD (Int.toNat x10l9) default) + 32))) else yownb1_0l9)
def lowerj16 (x10l9 : Int) (yownb1_0l9 : List (Int)) (C9 : Int → (List (Int)) → Prop) : Prop :=
 C9 (w6 (x10l9 + 1)) (lowerV2 x10l9 yownb1_0l9)
def lowerl9b (xs : Bs) (K : Bs → Prop) (x10l9 : Int) (yownb1_0l9 : List (Int)) (C9 : Int → (List (Int)) → Prop) : Prop :=
 ((decide (x10l9 < ((intsOf xs).length : Int))) = true → (0 : Int) ≤ x10l9 ∧ Int.toNat x10l9 < yownb1_0l9.length ∧ ((((decide ((yownb1_0l9.getD (Int.toNat x10l9) default) ≥ 65)) && (decide ((yownb1_0l9.getD (Int.toNat x10l9) default) ≤ 90)))) = true → lowerj16 x10l9 yownb1_0l9 C9) ∧ ((((decide ((yownb1_0l9.getD (Int.toNat x10l9) default) ≥ 65)) && (decide ((yownb1_0l9.getD (Int.toNat x10l9) default) ≤ 90)))) = false → lowerj16 x10l9 yownb1_0l9 C9)) ∧ ((decide (x10l9 < ((intsOf xs).length : Int))) = false → K (bytesOf yownb1_0l9))
def lowerl9 (xs : Bs) (K : Bs → Prop) : Nat → Int → (List (Int)) → Prop
 | 0, _, _ => False
 | k + 1, x10l9, yownb1_0l9 => lowerl9b xs K x10l9 yownb1_0l9 (lowerl9 xs K k)
def lowerF (xs : Bs) (K : Bs → Prop) : Prop :=
 ∃ k, lowerl9 xs K k 0 (intsOf xs)
theorem lower_ok {g : Ghost} (xs : Bs) (K : Bs → Prop)
  (hF : lowerF xs K) : CallsH Tryz.prog 99 #[sv xs] g [] (fun g' H' v => ∃ (r0 : Bs), v = sv r0 ∧ H' = [] ∧ K r0) := by
 refine CallsH.enter 29 [(0, sv xs)] Tryz.func99 rfl (by kernel_rfl) (by kernel_rfl) (by kernel_rfl) fun w0 => ?_
 refine Ok.seq (Ok.region (Ok.batch 1 [(0, sv xs)] (by kernel_rfl) (Ok.nil (Ok.thenN (Ok.seq (Ok.region (Ok.batch 1 [(6, sv xs)] (by kernel_rfl) (Ok.op rfl (OpOk.bytesB (s := xs) (by kernel_rfl) Tryz.underlying9 Tryz.underlying23 Tryz.underlying5 rfl fun a1 c1 xs1 hL1 => ?_)))))))))
 refine Ok.batch 1 [(3, .slice a1 (intsOf xs).length c1)] (by kernel_rfl) (Ok.nil (Ok.thenN (Ok.seq (Ok.seq (Ok.region (Ok.bat 3 [3] [(8, .slice a1 (intsOf xs).length c1), (9, .int .i64 ((intsOf xs).length : Int)), (10, .int .i64 0)] ?_))))))
 refine Ok.nil (Ok.thenN (Ok.block ?_))
 obtain ⟨k, hF⟩ := hF
 refine Ok.loop (fun k a W => ∃ gl9 : Ghost, Gext w0 g gl9 ∧ ∃ (x10l9 : Int) (ayownb1_0l9 : Option Addr) (cyownb1_0l9 : Nat) (yownb1_0l9 : List (Int)) (xsyownb1_0l9 : List Value), RepL gl9 (.int .u8) xsyownb1_0l9 yownb1_0l9 ∧ StA 29 [(3, .slice ayownb1_0l9 yownb1_0l9.length cyownb1_0l9), (8, .slice ayownb1_0l9 yownb1_0l9.length cyownb1_0l9), (9, .int .i64 ((intsOf xs).length : Int)), (10, .int .i64 x10l9)] a ∧ StW w0 [.ownb (.slice ayownb1_0l9 yownb1_0l9.length cyownb1_0l9) 5 yownb1_0l9.length xsyownb1_0l9] gl9 W ∧ lowerl9 xs K k x10l9 yownb1_0l9) k ?_ ?_
 ·
  exact fun a W hA hW => ⟨g, (Gext.refl w0 g), 0, a1, c1, (intsOf xs), xs1, hL1, hA.sub (by kernel_rfl), hW, hF⟩
 ·
  clear hF
  rintro k9 a W ⟨gl9, hxl9, x10l9, ayownb1_0l9, cyownb1_0l9, yownb1_0l9, xsyownb1_0l9, hLyownb1_0l9, hA, hW, hF⟩
  cases k9 with
  | zero => exact (hF : False).elim
  | succ k9 =>
   refine (?_ : Ok _ _ _ _ _ _) a W hA hW
   clear hA hW
   refine Ok.seq (Ok.region (Ok.bat 1 [3, 8, 9, 10] [(11, .bool (decide (x10l9 < ((intsOf xs).length : Int))))] ?_))
   refine Ok.nil (Ok.thenN (Ok.seq (Ok.cond (b := decide (x10l9 < ((intsOf xs).length : Int))) rfl (fun hc2 => ?_) (fun hc2 => ?_))))
   ·replace hF := hF.1 hc2
    refine Ok.skip (Ok.thenN (Ok.cut (fun a W => ∃ gj16 : Ghost, Gext w0 gl9 gj16 ∧ ∃ (ayownb1_0j16 : Option Addr) (cyownb1_0j16 : Nat) (xsyownb1_0j16 : List Value), RepL gj16 (.int .u8) xsyownb1_0j16 (lowerV2 x10l9 yownb1_0l9) ∧ StA 29 [(3, .slice ayownb1_0j16 (lowerV2 x10l9 yownb1_0l9).length cyownb1_0j16), (8, .slice ayownb1_0j16 (lowerV2 x10l9 yownb1_0l9).length cyownb1_0j16), (9, .int .i64 ((intsOf xs).length : Int)), (10, .int .i64 x10l9)] a ∧ StW w0 [.ownb (.slice ayownb1_0j16 (lowerV2 x10l9 yownb1_0l9).length cyownb1_0j16) 5 (lowerV2 x10l9 yownb1_0l9).length xsyownb1_0j16] gj16 W ∧ lowerj16 x10l9 yownb1_0l9 (lowerl9 xs K k9)) ?_ ?_))
    ·
     refine Ok.block (Ok.seq (Ok.region (Ok.bat 1 [3, 8, 9, 10] [(12, .int .i64 x10l9)] ?_)))
     obtain ⟨h04, h14, hF⟩ := hF
     have he4 := get_of (l := yownb1_0l9) (default : Int) h14
     generalize hg4 : (yownb1_0l9.getD (Int.toNat x10l9) default) = e4 at he4 hF ⊢
     refine Ok.op rfl (OpOk.indexB (q := x10l9) (el := e4) 0 rfl hLyownb1_0l9 rfl rfl Tryz.underlying23 (by kernel_rfl) h04 he4 rfl fun hc3 => ?_)
     refine Ok.op rfl (OpOk.step (v := .int .u8 e4) (Yields.loadB 0 0 rfl hc3 rfl Tryz.underlying5 rfl (by kernel_rfl)) rfl rfl (Ok.bat 2 [3, 8, 9, 10] [(4, .int .i64 x10l9), (5, .int .u8 e4)] ?_))
     refine Ok.nil (Ok.thenN (Ok.seq (Ok.region (Ok.bat 3 [3, 4, 5, 8, 9, 10] [(17, .bool (decide (e4 ≥ 65)))] ?_))))
     refine Ok.midway 3 [(3, .slice ayownb1_0l9 yownb1_0l9.length cyownb1_0l9), (4, .int .i64 x10l9), (5, .int .u8 e4), (8, .slice ayownb1_0l9 yownb1_0l9.length cyownb1_0l9), (9, .int .i64 ((intsOf xs).length : Int)), (10, .int .i64 x10l9), (20, .bool ((decide (e4 ≥ 65)) && (decide (e4 ≤ 90))))] (fun hR5 => ?_) ?_
     ·refine Ok.boolAt 17 (decide (e4 ≥ 65)) rfl (fun hc6 => ?_) (fun hc6 => ?_)
      ·skip
       refine Ok.bat 3 [3, 4, 5, 8, 9, 10] [(20, .bool (decide (e4 ≤ 90)))] ?_
       refine Ok.reval 20 rfl (show (.bool (decide (e4 ≤ 90)) : Value) = .bool ((decide (e4 ≥ 65)) && (decide (e4 ≤ 90))) from congrArg Value.bool (mand_t hc6)) (Ok.bat 0 [3, 4, 5, 8, 9, 10] [(20, .bool ((decide (e4 ≥ 65)) && (decide (e4 ≤ 90))))] ?_)
       exact hR5
      ·skip
       refine Ok.bat 3 [3, 4, 5, 8, 9, 10] [(20, .bool false)] ?_
       refine Ok.reval 20 rfl (show (.bool false : Value) = .bool ((decide (e4 ≥ 65)) && (decide (e4 ≤ 90))) from congrArg Value.bool (mand_f hc6)) (Ok.bat 0 [3, 4, 5, 8, 9, 10] [(20, .bool ((decide (e4 ≥ 65)) && (decide (e4 ≤ 90))))] ?_)
       exact hR5
     refine Ok.nil (Ok.thenN (Ok.cond (b := ((decide (e4 ≥ 65)) && (decide (e4 ≤ 90)))) rfl (fun hc7 => ?_) (fun hc7 => ?_)))
     ·replace hF := hF.1 hc7
      refine Ok.region (Ok.bat 4 [3, 8, 9, 10] [(21, .slice ayownb1_0l9 yownb1_0l9.length cyownb1_0l9), (22, .int .i64 x10l9), (24, .int .u8 (IntKind.wrap .u8 (e4 + 32)))] ?_)
      refine Ok.op rfl (OpOk.indexB (q := x10l9) (el := e4) 0 rfl hLyownb1_0l9 rfl rfl Tryz.underlying23 (by kernel_rfl) h04 he4 rfl fun hc8 => ?_)
      refine Ok.op rfl (OpOk.storeB (q := Int.toNat x10l9) (el' := IntKind.wrap .u8 (e4 + 32)) 0 rfl hLyownb1_0l9 hc8 rfl rfl (by kernel_rfl) fun xs9 hL9 => ?_)
      rw [show yownb1_0l9.length = (yownb1_0l9.set (Int.toNat x10l9) (IntKind.wrap .u8 (e4 + 32))).length from (List.length_set ..).symm]
      refine Ok.nil (Ok.blockN (Ok.thenN ?_))
      subst hg4
      refine Ok.reval 3 rfl (show (.slice ayownb1_0l9 (yownb1_0l9.set (Int.toNat x10l9) (IntKind.wrap .u8 ((yownb1_0l9.getD (Int.toNat x10l9) default) + 32))).length cyownb1_0l9 : Value) = .slice ayownb1_0l9 (lowerV2 x10l9 yownb1_0l9).length cyownb1_0l9 from congrArg (fun l : List (Int) => Value.slice ayownb1_0l9 l.length cyownb1_0l9) ((if_t hc7).symm)) ?_
      refine Ok.reval 8 rfl (show (.slice ayownb1_0l9 (yownb1_0l9.set (Int.toNat x10l9) (IntKind.wrap .u8 ((yownb1_0l9.getD (Int.toNat x10l9) default) + 32))).length cyownb1_0l9 : Value) = .slice ayownb1_0l9 (lowerV2 x10l9 yownb1_0l9).length cyownb1_0l9 from congrArg (fun l : List (Int) => Value.slice ayownb1_0l9 l.length cyownb1_0l9) ((if_t hc7).symm)) ?_
      refine Ok.heapEq (H' := [.ownb (.slice ayownb1_0l9 (lowerV2 x10l9 yownb1_0l9).length cyownb1_0l9) 5 (lowerV2 x10l9 yownb1_0l9).length xs9]) (econs (congrArg (fun l : List (Int) => Ent.ownb (.slice ayownb1_0l9 l.length cyownb1_0l9) 5  l.length xs9) ((if_t hc7).symm)) rfl) ?_
      exact fun a W hA hW => ⟨gl9, (Gext.refl w0 gl9), ayownb1_0l9, cyownb1_0l9, xs9, (Eq.mp (congrArg (fun l : List (Int) => RepL gl9 (.int .u8) xs9 l) ((if_t hc7).symm)) hL9), hA.sub (by kernel_rfl), hW, hF⟩
     ·replace hF := hF.2 hc7
      refine Ok.skip (Ok.blockN (Ok.thenN ?_))
      subst hg4
      refine Ok.reval 3 rfl (show (.slice ayownb1_0l9 yownb1_0l9.length cyownb1_0l9 : Value) = .slice ayownb1_0l9 (lowerV2 x10l9 yownb1_0l9).length cyownb1_0l9 from congrArg (fun l : List (Int) => Value.slice ayownb1_0l9 l.length cyownb1_0l9) ((if_f hc7).symm)) ?_
      refine Ok.reval 8 rfl (show (.slice ayownb1_0l9 yownb1_0l9.length cyownb1_0l9 : Value) = .slice ayownb1_0l9 (lowerV2 x10l9 yownb1_0l9).length cyownb1_0l9 from congrArg (fun l : List (Int) => Value.slice ayownb1_0l9 l.length cyownb1_0l9) ((if_f hc7).symm)) ?_
      refine Ok.heapEq (H' := [.ownb (.slice ayownb1_0l9 (lowerV2 x10l9 yownb1_0l9).length cyownb1_0l9) 5 (lowerV2 x10l9 yownb1_0l9).length xsyownb1_0l9]) (econs (congrArg (fun l : List (Int) => Ent.ownb (.slice ayownb1_0l9 l.length cyownb1_0l9) 5  l.length xsyownb1_0l9) ((if_f hc7).symm)) rfl) ?_
      exact fun a W hA hW => ⟨gl9, (Gext.refl w0 gl9), ayownb1_0l9, cyownb1_0l9, xsyownb1_0l9, (Eq.mp (congrArg (fun l : List (Int) => RepL gl9 (.int .u8) xsyownb1_0l9 l) ((if_f hc7).symm)) hLyownb1_0l9), hA.sub (by kernel_rfl), hW, hF⟩
    ·
     clear hF
     rintro a W ⟨gj16, hxj16, ayownb1_0j16, cyownb1_0j16, xsyownb1_0j16, hLyownb1_0j16, hA, hW, hF⟩
     refine (?_ : Ok _ _ _ _ _ _) a W hA hW
     clear hA hW
     refine Ok.region (Ok.bat 2 [3, 8, 9] [(10, .int .i64 (w6 (x10l9 + 1)))] ?_)
     refine Ok.nil (Ok.thenN ?_)
     exact fun a W hA hW => ⟨k9, Nat.lt_succ_self _, gj16, (hxl9.trans hxj16), w6 (x10l9 + 1), ayownb1_0j16, cyownb1_0j16, (lowerV2 x10l9 yownb1_0l9), xsyownb1_0j16, hLyownb1_0j16, hA.sub (by kernel_rfl), hW, hF⟩
   ·replace hF := hF.2 hc2
    refine Ok.exit (Ok.thenE (Ok.thenE (Ok.blockHit (Ok.thenN (Ok.seq (Ok.region (Ok.batch 1 [(27, .slice ayownb1_0l9 yownb1_0l9.length cyownb1_0l9)] (by kernel_rfl) (Ok.op rfl (OpOk.step (v := sv (bytesOf yownb1_0l9)) (Yields.strOfB 0 (by kernel_rfl) rfl rfl hLyownb1_0l9 Tryz.underlying23 Tryz.underlying9 Tryz.underlying5) rfl rfl (Ok.batch 1 [(2, sv (bytesOf yownb1_0l9))] (by kernel_rfl) (Ok.nil (Ok.thenN (Ok.ret ?_)))))))))))))
    exact Ok.resP (vs := [sv (bytesOf yownb1_0l9)]) [] [] (by decide) rfl (.inl rfl) rfl (.cons (.tmp rfl) .nil) hxl9 ⟨(bytesOf yownb1_0l9), rfl, rfl, hF⟩
end Go.Proofs.YtcnhdkhkadiohaaGreatDoor.Css
