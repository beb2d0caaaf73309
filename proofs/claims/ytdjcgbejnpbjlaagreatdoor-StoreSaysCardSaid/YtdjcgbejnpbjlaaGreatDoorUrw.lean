/- Addresses: the reference's Addressed. -/
import Derived.Test.YtdjcgbejnpbjlaaGreatDoorUrv
namespace Go.Proofs.YtdjcgbejnpbjlaaGreatDoor.Ub
open Go Go.Eng Go.RowKit Go.Shelf Go.Proofs Bld Sp Ti Uc Ua Ui
set_option maxHeartbeats 4000000
set_option maxRecDepth 100000
set_option linter.unusedSimpArgs false
set_option linter.unusedVariables false
noncomputable section
def radrV0 (xs : Bs) : Bool :=
 ((!(rschS xs).2) || (!(hpfM (xs.drop (Int.toNat ((rschS xs).1.length : Int))) ([58, 47, 47] : Bs))))
def radrV1 (xs : Bs) : Bs × Bs :=
 (prtS (xs.drop (Int.toNat (w6 (((rschS xs).1.length : Int) + 3)))) ([47, 63, 35] : Bs))
def radrV2 (xs : Bs) (x12l49 : Int) : Bool :=
 ((!(((rschS xs).1 == ([104, 116, 116, 112] : Bs)) && (x12l49 == 80))) && (!(((rschS xs).1 == ([104, 116, 116, 112, 115] : Bs)) && (x12l49 == 443))))
def radrV3 (xs : Bs) (ybs7_2j39 : Int) : Bs × Bool × (JU) :=
 (tailS ((rschS xs).1, (lowS (prtS (radrV1 xs).1 ([58] : Bs)).1), ybs7_2j39, [], ([] : Bs), false, ([] : Bs), false) (radrV1 xs).2)
def radrV4 (xs : Bs) (ybs7_2j39 : Int) : List Bs :=
 (tidyS (rsegS (tpfM (radrV3 xs ybs7_2j39).1 ([47] : Bs))).1)
def radrV5 (xs : Bs) : Bool :=
 (hpfM (xs.drop (Int.toNat ((rschS xs).1.length : Int))) ([58, 47, 47] : Bs))
def radrj39 (xs : Bs) (K : (JU) → Int → Prop) (ybs7_2j39 : Int) : Prop :=
 tailP ((rschS xs).1, (lowS (prtS (radrV1 xs).1 ([58] : Bs)).1), ybs7_2j39, [], ([] : Bs), false, ([] : Bs), false) (radrV1 xs).2 ∧ smP (tpfM (radrV3 xs ybs7_2j39).1 ([47] : Bs)) ∧ ((((!(radrV3 xs ybs7_2j39).2.1) || (!(rsegS (tpfM (radrV3 xs ybs7_2j39).1 ([47] : Bs))).2))) = true → K (([] : Bs), ([] : Bs), 0, [], ([] : Bs), false, ([] : Bs), false) 3) ∧ ((((!(radrV3 xs ybs7_2j39).2.1) || (!(rsegS (tpfM (radrV3 xs ybs7_2j39).1 ([47] : Bs))).2))) = false → tidyP (rsegS (tpfM (radrV3 xs ybs7_2j39).1 ([47] : Bs))).1 ∧ K ((radrV3 xs ybs7_2j39).2.2.1, (radrV3 xs ybs7_2j39).2.2.2.1, (radrV3 xs ybs7_2j39).2.2.2.2.1, (radrV4 xs ybs7_2j39), (radrV3 xs ybs7_2j39).2.2.2.2.2.2.1, (radrV3 xs ybs7_2j39).2.2.2.2.2.2.2.1, (radrV3 xs ybs7_2j39).2.2.2.2.2.2.2.2.1, (radrV3 xs ybs7_2j39).2.2.2.2.2.2.2.2.2) 0)
def radrj78 (xs : Bs) (K : (JU) → Int → Prop) (x12l49 : Int) : Prop :=
 (((radrV2 xs x12l49)) = true → radrj39 xs K x12l49) ∧ (((radrV2 xs x12l49)) = false → radrj39 xs K 0)
def radrl49b (xs : Bs) (K : (JU) → Int → Prop) (x12l49 : Int) (x75l49 : Int) (C49 : Int → Int → Prop) : Prop :=
 ((decide (x75l49 < ((intsOf ((prtS (radrV1 xs).1 ([58] : Bs)).2.drop (Int.toNat 1))).length : Int))) = true → (0 : Int) ≤ x75l49 ∧ Int.toNat x75l49 < (intsOf ((prtS (radrV1 xs).1 ([58] : Bs)).2.drop (Int.toNat 1))).length ∧ ((((!(rbetM (w6 ((intsOf ((prtS (radrV1 xs).1 ([58] : Bs)).2.drop (Int.toNat 1))).getD (Int.toNat x75l49) default)) 48 57)) || (decide (((prtS (radrV1 xs).1 ([58] : Bs)).2.length : Int) > 6)))) = true → K (([] : Bs), ([] : Bs), 0, [], ([] : Bs), false, ([] : Bs), false) 3) ∧ ((((!(rbetM (w6 ((intsOf ((prtS (radrV1 xs).1 ([58] : Bs)).2.drop (Int.toNat 1))).getD (Int.toNat x75l49) default)) 48 57)) || (decide (((prtS (radrV1 xs).1 ([58] : Bs)).2.length : Int) > 6)))) = false → C49 (w6 ((w6 (10 * x12l49)) + (w6 (IntKind.wrap .u8 (((intsOf ((prtS (radrV1 xs).1 ([58] : Bs)).2.drop (Int.toNat 1))).getD (Int.toNat x75l49) default) - 48))))) (w6 (x75l49 + 1)))) ∧ ((decide (x75l49 < ((intsOf ((prtS (radrV1 xs).1 ([58] : Bs)).2.drop (Int.toNat 1))).length : Int))) = false → ((!(rbetM x12l49 1 65535)) = true → K (([] : Bs), ([] : Bs), 0, [], ([] : Bs), false, ([] : Bs), false) 3) ∧ ((!(rbetM x12l49 1 65535)) = false → ((!(((rschS xs).1 == ([104, 116, 116, 112] : Bs)) && (x12l49 == 80))) = true → radrj78 xs K x12l49) ∧ ((!(((rschS xs).1 == ([104, 116, 116, 112] : Bs)) && (x12l49 == 80))) = false → radrj78 xs K x12l49)))
def radrl49 (xs : Bs) (K : (JU) → Int → Prop) : Nat → Int → Int → Prop
 | 0, _, _ => False
 | k + 1, x12l49, x75l49 => radrl49b xs K x12l49 x75l49 (radrl49 xs K k)
def radrj16 (xs : Bs) (K : (JU) → Int → Prop) : Prop :=
 (((radrV0 xs)) = true → K (([] : Bs), ([] : Bs), 0, [], ([] : Bs), false, ([] : Bs), false) 3) ∧ (((radrV0 xs)) = false → (0 : Int) ≤ (w6 (((rschS xs).1.length : Int) + 3)) ∧ ((w6 (((rschS xs).1.length : Int) + 3)) : Int) ≤ (xs.length : Int) ∧ (xs.length : Int) ≤ (xs.length : Int) ∧ prtP (xs.drop (Int.toNat (w6 (((rschS xs).1.length : Int) + 3)))) ([47, 63, 35] : Bs) ∧ prtP (radrV1 xs).1 ([58] : Bs) ∧ smP (prtS (radrV1 xs).1 ([58] : Bs)).1 ∧ smP (lowS (prtS (radrV1 xs).1 ([58] : Bs)).1) ∧ ((!(rhosS (lowS (prtS (radrV1 xs).1 ([58] : Bs)).1))) = true → K (([] : Bs), ([] : Bs), 0, [], ([] : Bs), false, ([] : Bs), false) 3) ∧ ((!(rhosS (lowS (prtS (radrV1 xs).1 ([58] : Bs)).1))) = false → ((!((prtS (radrV1 xs).1 ([58] : Bs)).2 == ([] : Bs))) = true → (0 : Int) ≤ 1 ∧ (1 : Int) ≤ ((prtS (radrV1 xs).1 ([58] : Bs)).2.length : Int) ∧ ((prtS (radrV1 xs).1 ([58] : Bs)).2.length : Int) ≤ ((prtS (radrV1 xs).1 ([58] : Bs)).2.length : Int) ∧ ((prtS (radrV1 xs).1 ([58] : Bs)).2.drop (Int.toNat 1)).length ≤ maxLen ∧ ∃ k, radrl49 xs K k 0 0) ∧ ((!((prtS (radrV1 xs).1 ([58] : Bs)).2 == ([] : Bs))) = false → radrj39 xs K 0)))
def radrF (xs : Bs) (K : (JU) → Int → Prop) : Prop :=
 ((decide ((xs.length : Int) > 500)) = true → K (([] : Bs), ([] : Bs), 0, [], ([] : Bs), false, ([] : Bs), false) 2) ∧ ((decide ((xs.length : Int) > 500)) = false → smP xs ∧ ((!(rschS xs).2) = true → radrj16 xs K) ∧ ((!(rschS xs).2) = false → (0 : Int) ≤ ((rschS xs).1.length : Int) ∧ (((rschS xs).1.length : Int) : Int) ≤ (xs.length : Int) ∧ (xs.length : Int) ≤ (xs.length : Int) ∧ radrj16 xs K))
theorem radr_ok {g : Ghost} (xs : Bs) (hG0 : SomeInt g 0) (K : (JU) → Int → Prop)
  (hF : radrF xs K) : CallsH Tryz.prog 10 #[sv xs] g [] (fun g' H' v => ∃ (r0 : JU), ∃ (r1 : Int), ∃ (ar0_0 : Option Addr) (cr0_0 : Nat), v = .tuple #[.agg #[sv r0.1, sv r0.2.1, .int .i64 r0.2.2.1, .slice ar0_0 r0.2.2.2.1.length cr0_0, sv r0.2.2.2.2.1, .bool r0.2.2.2.2.2.1, sv r0.2.2.2.2.2.2.1, .bool r0.2.2.2.2.2.2.2], .int .i64 r1] ∧ Rep g' (.slice (.str)) [.slice ar0_0 r0.2.2.2.1.length cr0_0] r0.2.2.2.1 ∧ H' = [] ∧ K r0 r1) := by
 refine CallsH.enter 149 [(0, sv xs)] Tryz.func10 rfl (by kernel_rfl) (by kernel_rfl) (by kernel_rfl) fun w0 => ?_
 refine Ok.seq (Ok.region (Ok.op rfl (OpOk.alloc (z := .agg #[sv ([] : Bs), sv ([] : Bs), .int .i64 0, .slice none 0 0, sv ([] : Bs), .bool false, sv ([] : Bs), .bool false]) (cs := #[sv ([] : Bs), sv ([] : Bs), .int .i64 0, .slice none 0 0, sv ([] : Bs), .bool false, sv ([] : Bs), .bool false]) (by kernel_rfl) (by kernel_rfl) rfl fun bs2 => ?_)))
 refine Ok.batch 1 [(0, sv xs), (2, pv bs2 0)] (by kernel_rfl) (Ok.nil (Ok.thenN (Ok.seq (Ok.region (Ok.bat 1 [0, 2] [(4, .func (.func 26) #[] #[])] ?_)))))
 refine Ok.nil (Ok.thenN (Ok.seq (Ok.seq (Ok.region (Ok.bat 3 [0, 2, 4] [(21, .bool (decide ((xs.length : Int) > 500)))] ?_)))))
 refine Ok.nil (Ok.thenN (Ok.cond (b := decide ((xs.length : Int) > 500)) rfl (fun hc2 => ?_) (fun hc2 => ?_)))
 ·replace hF := hF.1 hc2
  refine Ok.seq (Ok.region (Ok.bat 1 [2] [(22, .agg #[sv ([] : Bs), sv ([] : Bs), .int .i64 0, .slice none 0 0, sv ([] : Bs), .bool false, sv ([] : Bs), .bool false])] ?_))
  refine Ok.op rfl (OpOk.sto (k := 8) (v := .agg #[sv ([] : Bs), sv ([] : Bs), .int .i64 0, .slice none 0 0, sv ([] : Bs), .bool false, sv ([] : Bs), .bool false]) 0 #[sv ([] : Bs), sv ([] : Bs), .int .i64 0, .slice none 0 0, sv ([] : Bs), .bool false, sv ([] : Bs), .bool false] rfl rfl rfl ?_)
  refine Ok.bat 1 [2] [(3, .int .i64 2)] ?_
  refine Ok.nil (Ok.thenN (Ok.ret (Ok.thenR ?_)))
  exact Ok.resP (vs := [.agg #[sv ([] : Bs), sv ([] : Bs), .int .i64 0, .slice none 0 0, sv ([] : Bs), .bool false, sv ([] : Bs), .bool false], .int .i64 2]) [] [] (by decide) rfl (.inl rfl) rfl (.cons (.cellAgg 0 8 #[sv ([] : Bs), sv ([] : Bs), .int .i64 0, .slice none 0 0, sv ([] : Bs), .bool false, sv ([] : Bs), .bool false] rfl rfl Tryz.underlying46 rfl (by kernel_rfl) (by kernel_rfl) (by kernel_rfl)) (.cons (.tmp rfl) .nil)) (Gext.refl w0 g) ⟨(([] : Bs), ([] : Bs), 0, [], ([] : Bs), false, ([] : Bs), false), 2, none, 0, rfl, Rep.nil, rfl, hF⟩
 ·replace hF := hF.2 hc2
  refine Ok.skip (Ok.thenN (Ok.seq (Ok.region (Ok.bat 1 [0, 2, 4] [(24, sv xs)] ?_))))
  obtain ⟨hp3, hF⟩ := hF
  refine Ok.op rfl (OpOk.callG (v := .tuple #[sv ((rschS xs).1), .bool (rschS xs).2]) enr (fun W hW => rsch_c xs (hG0.mono hW.sees) hp3) rfl ?_)
  refine Ok.bat 5 [0, 2, 4] [(5, sv ((rschS xs).1)), (6, .bool (rschS xs).2)] ?_
  refine Ok.nil (Ok.thenN (Ok.seq (Ok.cut (fun a W => ∃ gj16 : Ghost, Gext w0 g gj16 ∧ StA 149 [(0, sv xs), (2, pv bs2 0), (4, .func (.func 26) #[] #[]), (5, sv ((rschS xs).1)), (37, .bool (radrV0 xs))] a ∧ StW w0 [.blk bs2 (.cells #[sv ([] : Bs), sv ([] : Bs), .int .i64 0, .slice none 0 0, sv ([] : Bs), .bool false, sv ([] : Bs), .bool false] 46)] gj16 W ∧ radrj16 xs K) ?_ ?_)))
  ·
   refine Ok.region (Ok.bat 3 [0, 2, 4, 5] [(30, .bool (!(rschS xs).2))] ?_)
   refine Ok.boolAt 30 (!(rschS xs).2) rfl (fun hc42 => ?_) (fun hc42 => ?_)
   ·replace hF := hF.1 hc42
    refine Ok.bat 7 [0, 2, 4, 5] [(37, .bool true)] ?_
    refine Ok.nil (Ok.thenN (Ok.reval 37 rfl (show (.bool true : Value) = .bool (radrV0 xs) from congrArg (Value.bool) (mor_t hc42)) ?_))
    exact fun a W hA hW => ⟨g, (Gext.refl w0 g), hA.sub (by kernel_rfl), hW, hF⟩
   ·replace hF := hF.2 hc42
    refine Ok.bat 3 [0, 2, 4, 5] [(30, .bool false), (31, sv xs), (33, .int .i64 ((rschS xs).1.length : Int))] ?_
    obtain ⟨h043, h143, h243, hF⟩ := hF
    refine Ok.opYes (j := 2) (d := 30) (want := false) (b := false) rfl (by kernel_rfl) (by kernel_rfl) rfl (OpOk.step (v := sv (xs.drop (Int.toNat ((rschS xs).1.length : Int)))) (Yields.sliceStr (s := xs) (l := ((rschS xs).1.length : Int)) (h := (xs.length : Int)) (by kernel_rfl) Tryz.underlying9 (.inl ⟨_, _, rfl, rfl⟩) (.inr ⟨rfl, rfl⟩) h043 h143 h243 (xs.drop (Int.toNat ((rschS xs).1.length : Int))) (by rw [show ((xs.length : Int)).toNat = xs.length from Int.toNat_natCast _, List.take_length])) rfl rfl (Ok.opYes (j := 2) (d := 30) (want := false) (b := false) rfl (by kernel_rfl) (by kernel_rfl) rfl (OpOk.callG (v := .bool (radrV5 xs)) enr (fun W hW => hpf_c (xs.drop (Int.toNat ((rschS xs).1.length : Int))) ([58, 47, 47] : Bs)) rfl ?_)))
    refine Ok.bat 2 [0, 2, 4, 5] [(37, .bool (!(radrV5 xs)))] ?_
    refine Ok.nil (Ok.thenN (Ok.reval 37 rfl (show (.bool (!(radrV5 xs)) : Value) = .bool (radrV0 xs) from congrArg (Value.bool) (mor_f hc42)) ?_))
    exact fun a W hA hW => ⟨g, (Gext.refl w0 g), hA.sub (by kernel_rfl), hW, hF⟩
  ·
   clear hF
   rintro a W ⟨gj16, hxj16, hA, hW, hF⟩
   refine (?_ : Ok _ _ _ _ _ _) a W hA hW
   clear hA hW
   replace hG0 := hG0.mono hxj16.1
   refine Ok.cond (b := (radrV0 xs)) rfl (fun hc4 => ?_) (fun hc4 => ?_)
   ·replace hF := hF.1 hc4
    refine Ok.seq (Ok.region (Ok.bat 1 [2] [(38, .func (.func 26) #[] #[])] ?_))
    refine Ok.op rfl (OpOk.inline (args := #[]) 3 [] enr Tryz.func26 rfl rfl rfl rfl (Ok.seq (Ok.region (Ok.op rfl (OpOk.alloc (z := .agg #[sv ([] : Bs), sv ([] : Bs), .int .i64 0, .slice none 0 0, sv ([] : Bs), .bool false, sv ([] : Bs), .bool false]) (cs := #[sv ([] : Bs), sv ([] : Bs), .int .i64 0, .slice none 0 0, sv ([] : Bs), .bool false, sv ([] : Bs), .bool false]) (by kernel_rfl) (by kernel_rfl) rfl fun bs0i39 => ?_)))))
    refine Ok.batch 1 [(0, pv bs0i39 0)] (by kernel_rfl) (Ok.nil (Ok.thenN (Ok.seq (Ok.region (Ok.bat 1 [0] [(2, .agg #[sv ([] : Bs), sv ([] : Bs), .int .i64 0, .slice none 0 0, sv ([] : Bs), .bool false, sv ([] : Bs), .bool false])] ?_)))))
    refine Ok.op rfl (OpOk.sto (k := 8) (v := .agg #[sv ([] : Bs), sv ([] : Bs), .int .i64 0, .slice none 0 0, sv ([] : Bs), .bool false, sv ([] : Bs), .bool false]) 0 #[sv ([] : Bs), sv ([] : Bs), .int .i64 0, .slice none 0 0, sv ([] : Bs), .bool false, sv ([] : Bs), .bool false] rfl rfl rfl ?_)
    refine Ok.bat 1 [0] [(1, .int .i64 3)] ?_
    refine Ok.nil (Ok.thenN (Ok.ret (Ok.back (vs := [.agg #[sv ([] : Bs), sv ([] : Bs), .int .i64 0, .slice none 0 0, sv ([] : Bs), .bool false, sv ([] : Bs), .bool false], .int .i64 3]) (.inl rfl) rfl (.cons (.cellAgg 0 8 #[sv ([] : Bs), sv ([] : Bs), .int .i64 0, .slice none 0 0, sv ([] : Bs), .bool false, sv ([] : Bs), .bool false] rfl rfl Tryz.underlying46 rfl (by kernel_rfl) (by kernel_rfl) (by kernel_rfl)) (.cons (.tmp rfl) .nil)) rfl (Ok.batch 2 [(2, pv bs2 0), (40, .agg #[sv ([] : Bs), sv ([] : Bs), .int .i64 0, .slice none 0 0, sv ([] : Bs), .bool false, sv ([] : Bs), .bool false]), (41, .int .i64 3)] (by kernel_rfl) (Ok.op rfl (OpOk.sto (k := 8) (v := .agg #[sv ([] : Bs), sv ([] : Bs), .int .i64 0, .slice none 0 0, sv ([] : Bs), .bool false, sv ([] : Bs), .bool false]) 1 #[sv ([] : Bs), sv ([] : Bs), .int .i64 0, .slice none 0 0, sv ([] : Bs), .bool false, sv ([] : Bs), .bool false] rfl rfl rfl ?_))))))
    refine Ok.bat 1 [2] [(3, .int .i64 3)] ?_
    refine Ok.nil (Ok.thenN (Ok.ret (Ok.thenR ?_)))
    exact Ok.resP (vs := [.agg #[sv ([] : Bs), sv ([] : Bs), .int .i64 0, .slice none 0 0, sv ([] : Bs), .bool false, sv ([] : Bs), .bool false], .int .i64 3]) [] [] (by decide) rfl (.inl rfl) rfl (.cons (.cellAgg 1 8 #[sv ([] : Bs), sv ([] : Bs), .int .i64 0, .slice none 0 0, sv ([] : Bs), .bool false, sv ([] : Bs), .bool false] rfl rfl Tryz.underlying46 rfl (by kernel_rfl) (by kernel_rfl) (by kernel_rfl)) (.cons (.tmp rfl) .nil)) hxj16 ⟨(([] : Bs), ([] : Bs), 0, [], ([] : Bs), false, ([] : Bs), false), 3, none, 0, rfl, Rep.nil, rfl, hF⟩
   ·replace hF := hF.2 hc4
    refine Ok.skip (Ok.thenN (Ok.seq (Ok.region (Ok.bat 2 [0, 2, 4, 5] [(43, .agg #[sv ((rschS xs).1), sv ([] : Bs), .int .i64 0, .slice none 0 0, sv ([] : Bs), .bool false, sv ([] : Bs), .bool false])] ?_))))
    refine Ok.op rfl (OpOk.alloc (z := .agg #[sv ([] : Bs), sv ([] : Bs), .int .i64 0, .slice none 0 0, sv ([] : Bs), .bool false, sv ([] : Bs), .bool false]) (cs := #[sv ([] : Bs), sv ([] : Bs), .int .i64 0, .slice none 0 0, sv ([] : Bs), .bool false, sv ([] : Bs), .bool false]) (by kernel_rfl) (by kernel_rfl) rfl fun bs7 => ?_)
    refine Ok.op rfl (OpOk.sto (k := 8) (v := .agg #[sv ((rschS xs).1), sv ([] : Bs), .int .i64 0, .slice none 0 0, sv ([] : Bs), .bool false, sv ([] : Bs), .bool false]) 0 #[sv ((rschS xs).1), sv ([] : Bs), .int .i64 0, .slice none 0 0, sv ([] : Bs), .bool false, sv ([] : Bs), .bool false] rfl rfl rfl ?_)
    refine Ok.nil (Ok.thenN (Ok.seq (Ok.region (Ok.bat 4 [2, 4, 5] [(7, pv bs7 0), (45, sv xs), (48, .int .i64 (w6 (((rschS xs).1.length : Int) + 3)))] ?_))))
    obtain ⟨h07, h17, h27, hF⟩ := hF
    refine Ok.op rfl (OpOk.step (v := sv (xs.drop (Int.toNat (w6 (((rschS xs).1.length : Int) + 3))))) (Yields.sliceStr (s := xs) (l := (w6 (((rschS xs).1.length : Int) + 3))) (h := (xs.length : Int)) (by kernel_rfl) Tryz.underlying9 (.inl ⟨_, _, rfl, rfl⟩) (.inr ⟨rfl, rfl⟩) h07 h17 h27 (xs.drop (Int.toNat (w6 (((rschS xs).1.length : Int) + 3)))) (by rw [show ((xs.length : Int)).toNat = xs.length from Int.toNat_natCast _, List.take_length])) rfl rfl ?_)
    obtain ⟨hp8, hF⟩ := hF
    refine Ok.op rfl (OpOk.callG (v := .tuple #[sv ((radrV1 xs).1), sv ((radrV1 xs).2)]) enr (fun W hW => rprt_c (xs.drop (Int.toNat (w6 (((rschS xs).1.length : Int) + 3)))) ([47, 63, 35] : Bs) (hG0.mono hW.sees) hp8) rfl ?_)
    refine Ok.bat 5 [2, 4, 5, 7] [(8, sv ((radrV1 xs).1)), (9, sv ((radrV1 xs).2))] ?_
    refine Ok.nil (Ok.thenN (Ok.seq (Ok.region (Ok.bat 1 [2, 4, 5, 7, 9] [(54, sv ((radrV1 xs).1))] ?_))))
    obtain ⟨hp9, hF⟩ := hF
    refine Ok.op rfl (OpOk.callG (v := .tuple #[sv ((prtS (radrV1 xs).1 ([58] : Bs)).1), sv ((prtS (radrV1 xs).1 ([58] : Bs)).2)]) enr (fun W hW => rprt_c (radrV1 xs).1 ([58] : Bs) (hG0.mono hW.sees) hp9) rfl ?_)
    refine Ok.bat 5 [2, 4, 5, 7, 9] [(10, sv ((prtS (radrV1 xs).1 ([58] : Bs)).1)), (11, sv ((prtS (radrV1 xs).1 ([58] : Bs)).2))] ?_
    refine Ok.nil (Ok.thenN (Ok.seq (Ok.region (Ok.bat 1 [2, 4, 5, 7, 9, 11] [(58, sv ((prtS (radrV1 xs).1 ([58] : Bs)).1))] ?_))))
    obtain ⟨hp10, hF⟩ := hF
    refine Ok.op rfl (OpOk.callG (v := sv (lowS (prtS (radrV1 xs).1 ([58] : Bs)).1)) enr (fun W hW => rlow_c (prtS (radrV1 xs).1 ([58] : Bs)).1 hp10) rfl ?_)
    refine Ok.bat 1 [2, 4, 5, 7, 9, 11] [(59, sv (lowS (prtS (radrV1 xs).1 ([58] : Bs)).1)), (60, pv bs7 1)] ?_
    refine Ok.op rfl (OpOk.sto (k := 1) (v := sv (lowS (prtS (radrV1 xs).1 ([58] : Bs)).1)) 0 #[sv ((rschS xs).1), sv (lowS (prtS (radrV1 xs).1 ([58] : Bs)).1), .int .i64 0, .slice none 0 0, sv ([] : Bs), .bool false, sv ([] : Bs), .bool false] rfl rfl rfl ?_)
    refine Ok.nil (Ok.thenN (Ok.seq (Ok.seq (Ok.region (Ok.bat 1 [2, 4, 5, 7, 9, 11] [(61, pv bs7 1)] ?_)))))
    refine Ok.op rfl (OpOk.step (v := sv (lowS (prtS (radrV1 xs).1 ([58] : Bs)).1)) (Yields.load 0 rfl rfl Tryz.underlying9 rfl (by kernel_rfl)) rfl rfl ?_)
    obtain ⟨hp11, hF⟩ := hF
    refine Ok.op rfl (OpOk.callG (v := .bool (rhosS (lowS (prtS (radrV1 xs).1 ([58] : Bs)).1))) enr (fun W hW => rhos_c (lowS (prtS (radrV1 xs).1 ([58] : Bs)).1) hp11) rfl ?_)
    refine Ok.bat 1 [2, 4, 5, 7, 9, 11] [(64, .bool (!(rhosS (lowS (prtS (radrV1 xs).1 ([58] : Bs)).1))))] ?_
    refine Ok.nil (Ok.thenN (Ok.cond (b := !(rhosS (lowS (prtS (radrV1 xs).1 ([58] : Bs)).1))) rfl (fun hc12 => ?_) (fun hc12 => ?_)))
    ·replace hF := hF.1 hc12
     refine Ok.seq (Ok.region (Ok.bat 1 [2] [(65, .func (.func 26) #[] #[])] ?_))
     refine Ok.op rfl (OpOk.inline (args := #[]) 3 [] enr Tryz.func26 rfl rfl rfl rfl (Ok.seq (Ok.region (Ok.op rfl (OpOk.alloc (z := .agg #[sv ([] : Bs), sv ([] : Bs), .int .i64 0, .slice none 0 0, sv ([] : Bs), .bool false, sv ([] : Bs), .bool false]) (cs := #[sv ([] : Bs), sv ([] : Bs), .int .i64 0, .slice none 0 0, sv ([] : Bs), .bool false, sv ([] : Bs), .bool false]) (by kernel_rfl) (by kernel_rfl) rfl fun bs0i66 => ?_)))))
     refine Ok.batch 1 [(0, pv bs0i66 0)] (by kernel_rfl) (Ok.nil (Ok.thenN (Ok.seq (Ok.region (Ok.bat 1 [0] [(2, .agg #[sv ([] : Bs), sv ([] : Bs), .int .i64 0, .slice none 0 0, sv ([] : Bs), .bool false, sv ([] : Bs), .bool false])] ?_)))))
     refine Ok.op rfl (OpOk.sto (k := 8) (v := .agg #[sv ([] : Bs), sv ([] : Bs), .int .i64 0, .slice none 0 0, sv ([] : Bs), .bool false, sv ([] : Bs), .bool false]) 0 #[sv ([] : Bs), sv ([] : Bs), .int .i64 0, .slice none 0 0, sv ([] : Bs), .bool false, sv ([] : Bs), .bool false] rfl rfl rfl ?_)
     refine Ok.bat 1 [0] [(1, .int .i64 3)] ?_
     refine Ok.nil (Ok.thenN (Ok.ret (Ok.back (vs := [.agg #[sv ([] : Bs), sv ([] : Bs), .int .i64 0, .slice none 0 0, sv ([] : Bs), .bool false, sv ([] : Bs), .bool false], .int .i64 3]) (.inl rfl) rfl (.cons (.cellAgg 0 8 #[sv ([] : Bs), sv ([] : Bs), .int .i64 0, .slice none 0 0, sv ([] : Bs), .bool false, sv ([] : Bs), .bool false] rfl rfl Tryz.underlying46 rfl (by kernel_rfl) (by kernel_rfl) (by kernel_rfl)) (.cons (.tmp rfl) .nil)) rfl (Ok.batch 2 [(2, pv bs2 0), (67, .agg #[sv ([] : Bs), sv ([] : Bs), .int .i64 0, .slice none 0 0, sv ([] : Bs), .bool false, sv ([] : Bs), .bool false]), (68, .int .i64 3)] (by kernel_rfl) (Ok.op rfl (OpOk.sto (k := 8) (v := .agg #[sv ([] : Bs), sv ([] : Bs), .int .i64 0, .slice none 0 0, sv ([] : Bs), .bool false, sv ([] : Bs), .bool false]) 2 #[sv ([] : Bs), sv ([] : Bs), .int .i64 0, .slice none 0 0, sv ([] : Bs), .bool false, sv ([] : Bs), .bool false] rfl rfl rfl ?_))))))
     refine Ok.bat 1 [2] [(3, .int .i64 3)] ?_
     refine Ok.nil (Ok.thenN (Ok.ret (Ok.thenR ?_)))
     exact Ok.resP (vs := [.agg #[sv ([] : Bs), sv ([] : Bs), .int .i64 0, .slice none 0 0, sv ([] : Bs), .bool false, sv ([] : Bs), .bool false], .int .i64 3]) [] [] (by decide) rfl (.inl rfl) rfl (.cons (.cellAgg 2 8 #[sv ([] : Bs), sv ([] : Bs), .int .i64 0, .slice none 0 0, sv ([] : Bs), .bool false, sv ([] : Bs), .bool false] rfl rfl Tryz.underlying46 rfl (by kernel_rfl) (by kernel_rfl) (by kernel_rfl)) (.cons (.tmp rfl) .nil)) hxj16 ⟨(([] : Bs), ([] : Bs), 0, [], ([] : Bs), false, ([] : Bs), false), 3, none, 0, rfl, Rep.nil, rfl, hF⟩
    ·replace hF := hF.2 hc12
     refine Ok.skip (Ok.thenN (Ok.cut (fun a W => ∃ gj39 : Ghost, Gext w0 gj16 gj39 ∧ ∃ (ybs7_2j39 : Int), StA 149 [(2, pv bs2 0), (4, .func (.func 26) #[] #[]), (7, pv bs7 0), (9, sv ((radrV1 xs).2))] a ∧ StW w0 [.blk bs7 (.cells #[sv ((rschS xs).1), sv (lowS (prtS (radrV1 xs).1 ([58] : Bs)).1), .int .i64 ybs7_2j39, .slice none 0 0, sv ([] : Bs), .bool false, sv ([] : Bs), .bool false] 46), .blk bs2 (.cells #[sv ([] : Bs), sv ([] : Bs), .int .i64 0, .slice none 0 0, sv ([] : Bs), .bool false, sv ([] : Bs), .bool false] 46)] gj39 W ∧ radrj39 xs K ybs7_2j39) ?_ ?_))
     ·
      refine Ok.seq (Ok.region (Ok.bat 1 [2, 4, 5, 7, 9, 11] [(69, sv ((prtS (radrV1 xs).1 ([58] : Bs)).2))] ?_))
      refine Ok.op rfl (OpOk.step (v := .bool (!((prtS (radrV1 xs).1 ([58] : Bs)).2 == ([] : Bs)))) (Yields.strCmp (f := .neq) (a := (prtS (radrV1 xs).1 ([58] : Bs)).2) (b := ([] : Bs)) (by kernel_rfl) (by kernel_rfl) rfl) rfl rfl (Ok.nil (Ok.thenN (Ok.cond (b := !((prtS (radrV1 xs).1 ([58] : Bs)).2 == ([] : Bs))) rfl (fun hc24 => ?_) (fun hc24 => ?_)))))
      ·replace hF := hF.1 hc24
       refine Ok.seq (Ok.region (Ok.bat 1 [2, 4, 5, 7, 9, 11] [(12, .int .i64 0)] ?_))
       refine Ok.nil (Ok.thenN (Ok.seq (Ok.seq (Ok.region (Ok.bat 1 [2, 4, 5, 7, 9, 11, 12] [(71, sv ((prtS (radrV1 xs).1 ([58] : Bs)).2))] ?_)))))
       obtain ⟨h025, h125, h225, hF⟩ := hF
       refine Ok.op rfl (OpOk.step (v := sv ((prtS (radrV1 xs).1 ([58] : Bs)).2.drop (Int.toNat 1))) (Yields.sliceStr (s := (prtS (radrV1 xs).1 ([58] : Bs)).2) (l := 1) (h := ((prtS (radrV1 xs).1 ([58] : Bs)).2.length : Int)) (by kernel_rfl) Tryz.underlying9 (.inl ⟨_, _, rfl, rfl⟩) (.inr ⟨rfl, rfl⟩) h025 h125 h225 ((prtS (radrV1 xs).1 ([58] : Bs)).2.drop (Int.toNat 1)) (by rw [show (((prtS (radrV1 xs).1 ([58] : Bs)).2.length : Int)).toNat = (prtS (radrV1 xs).1 ([58] : Bs)).2.length from Int.toNat_natCast _, List.take_length])) rfl rfl ?_)
       obtain ⟨hm26, hF⟩ := hF
       refine Ok.op rfl (OpOk.bytesRo (s := (prtS (radrV1 xs).1 ([58] : Bs)).2.drop (Int.toNat 1)) (by kernel_rfl) Tryz.underlying9 Tryz.underlying74 Tryz.underlying5 hm26 rfl fun g26 a26 c26 hx26 hR26 => ?_)
       replace hG0 := hG0.mono hx26.1
       refine Ok.bat 2 [2, 4, 5, 7, 9, 11, 12] [(73, .slice a26 (intsOf ((prtS (radrV1 xs).1 ([58] : Bs)).2.drop (Int.toNat 1))).length c26), (74, .int .i64 ((intsOf ((prtS (radrV1 xs).1 ([58] : Bs)).2.drop (Int.toNat 1))).length : Int)), (75, .int .i64 0)] ?_
       refine Ok.nil (Ok.thenN (Ok.block ?_))
       obtain ⟨k, hF⟩ := hF
       refine Ok.loop (fun k a W => ∃ gl49 : Ghost, Gext w0 g26 gl49 ∧ ∃ (x12l49 : Int) (x75l49 : Int), StA 149 [(2, pv bs2 0), (4, .func (.func 26) #[] #[]), (5, sv ((rschS xs).1)), (7, pv bs7 0), (9, sv ((radrV1 xs).2)), (11, sv ((prtS (radrV1 xs).1 ([58] : Bs)).2)), (12, .int .i64 x12l49), (73, .slice a26 (intsOf ((prtS (radrV1 xs).1 ([58] : Bs)).2.drop (Int.toNat 1))).length c26), (74, .int .i64 ((intsOf ((prtS (radrV1 xs).1 ([58] : Bs)).2.drop (Int.toNat 1))).length : Int)), (75, .int .i64 x75l49)] a ∧ StW w0 [.blk bs7 (.cells #[sv ((rschS xs).1), sv (lowS (prtS (radrV1 xs).1 ([58] : Bs)).1), .int .i64 0, .slice none 0 0, sv ([] : Bs), .bool false, sv ([] : Bs), .bool false] 46), .blk bs2 (.cells #[sv ([] : Bs), sv ([] : Bs), .int .i64 0, .slice none 0 0, sv ([] : Bs), .bool false, sv ([] : Bs), .bool false] 46)] gl49 W ∧ radrl49 xs K k x12l49 x75l49) k ?_ ?_
       ·
        exact fun a W hA hW => ⟨g26, (Gext.refl w0 g26), 0, 0, hA.sub (by kernel_rfl), hW, hF⟩
       ·
        clear hF
        rintro k49 a W ⟨gl49, hxl49, x12l49, x75l49, hA, hW, hF⟩
        cases k49 with
        | zero => exact (hF : False).elim
        | succ k49 =>
         refine (?_ : Ok _ _ _ _ _ _) a W hA hW
         clear hA hW
         replace hR26 := hR26.mono hxl49.1
         replace hG0 := hG0.mono hxl49.1
         refine Ok.seq (Ok.region (Ok.bat 1 [2, 4, 5, 7, 9, 11, 12, 73, 74, 75] [(76, .bool (decide (x75l49 < ((intsOf ((prtS (radrV1 xs).1 ([58] : Bs)).2.drop (Int.toNat 1))).length : Int))))] ?_))
         refine Ok.nil (Ok.thenN (Ok.seq (Ok.cond (b := decide (x75l49 < ((intsOf ((prtS (radrV1 xs).1 ([58] : Bs)).2.drop (Int.toNat 1))).length : Int))) rfl (fun hc27 => ?_) (fun hc27 => ?_))))
         ·replace hF := hF.1 hc27
          refine Ok.skip (Ok.thenN (Ok.seq (Ok.block (Ok.seq (Ok.region ?_)))))
          obtain ⟨h029, h129, hF⟩ := hF
          have he29 := get_of (l := (intsOf ((prtS (radrV1 xs).1 ([58] : Bs)).2.drop (Int.toNat 1)))) (default : Int) h129
          generalize hg29 : ((intsOf ((prtS (radrV1 xs).1 ([58] : Bs)).2.drop (Int.toNat 1))).getD (Int.toNat x75l49) default) = e29 at he29 hF ⊢
          refine Ok.op rfl (OpOk.indexRo (e := .int .u8) (i := x75l49) (el := e29) rfl rfl Tryz.underlying74 (by kernel_rfl) hR26 h029 he29 rfl fun q28 o28 cs28 _ hat28 hr28 => ?_)
          obtain rfl := hr28
          replace hat28 : At gl49 q28 o28 [.int .u8 e29] := hat28
          refine Ok.op rfl (OpOk.step (v := .int .u8 e29) (Yields.loadRo 0 hat28 (by kernel_rfl) Tryz.underlying5 rfl (by kernel_rfl)) rfl rfl (Ok.bat 1 [2, 4, 5, 7, 9, 11, 12, 73, 74, 75] [(14, .int .u8 e29)] ?_))
          refine Ok.nil (Ok.thenN (Ok.seq (Ok.seq (Ok.region (Ok.bat 2 [2, 4, 5, 7, 9, 11, 12, 14, 73, 74, 75] [(80, .int .i64 (w6 e29))] ?_)))))
          refine Ok.op rfl (OpOk.callG (v := .bool (rbetM (w6 e29) 48 57)) enr (fun W hW => rbet_c (w6 e29) 48 57) rfl ?_)
          refine Ok.bat 2 [2, 4, 5, 7, 9, 11, 12, 14, 73, 74, 75] [(83, .bool (!(rbetM (w6 e29) 48 57)))] ?_
          refine Ok.midway 4 [(2, pv bs2 0), (4, .func (.func 26) #[] #[]), (5, sv ((rschS xs).1)), (7, pv bs7 0), (9, sv ((radrV1 xs).2)), (11, sv ((prtS (radrV1 xs).1 ([58] : Bs)).2)), (12, .int .i64 x12l49), (14, .int .u8 e29), (73, .slice a26 (intsOf ((prtS (radrV1 xs).1 ([58] : Bs)).2.drop (Int.toNat 1))).length c26), (74, .int .i64 ((intsOf ((prtS (radrV1 xs).1 ([58] : Bs)).2.drop (Int.toNat 1))).length : Int)), (75, .int .i64 x75l49), (87, .bool ((!(rbetM (w6 e29) 48 57)) || (decide (((prtS (radrV1 xs).1 ([58] : Bs)).2.length : Int) > 6))))] (fun hR30 => ?_) ?_
          ·refine Ok.boolAt 83 (!(rbetM (w6 e29) 48 57)) rfl (fun hc31 => ?_) (fun hc31 => ?_)
           ·skip
            refine Ok.bat 4 [2, 4, 5, 7, 9, 11, 12, 14, 73, 74, 75] [(87, .bool true)] ?_
            refine Ok.reval 87 rfl (show (.bool true : Value) = .bool ((!(rbetM (w6 e29) 48 57)) || (decide (((prtS (radrV1 xs).1 ([58] : Bs)).2.length : Int) > 6))) from congrArg Value.bool (mor_t hc31)) (Ok.bat 0 [2, 4, 5, 7, 9, 11, 12, 14, 73, 74, 75] [(87, .bool ((!(rbetM (w6 e29) 48 57)) || (decide (((prtS (radrV1 xs).1 ([58] : Bs)).2.length : Int) > 6))))] ?_)
            exact hR30
           ·skip
            refine Ok.bat 4 [2, 4, 5, 7, 9, 11, 12, 14, 73, 74, 75] [(87, .bool (decide (((prtS (radrV1 xs).1 ([58] : Bs)).2.length : Int) > 6)))] ?_
            refine Ok.reval 87 rfl (show (.bool (decide (((prtS (radrV1 xs).1 ([58] : Bs)).2.length : Int) > 6)) : Value) = .bool ((!(rbetM (w6 e29) 48 57)) || (decide (((prtS (radrV1 xs).1 ([58] : Bs)).2.length : Int) > 6))) from congrArg Value.bool (mor_f hc31)) (Ok.bat 0 [2, 4, 5, 7, 9, 11, 12, 14, 73, 74, 75] [(87, .bool ((!(rbetM (w6 e29) 48 57)) || (decide (((prtS (radrV1 xs).1 ([58] : Bs)).2.length : Int) > 6))))] ?_)
            exact hR30
          refine Ok.nil (Ok.thenN (Ok.cond (b := ((!(rbetM (w6 e29) 48 57)) || (decide (((prtS (radrV1 xs).1 ([58] : Bs)).2.length : Int) > 6)))) rfl (fun hc32 => ?_) (fun hc32 => ?_)))
          ·replace hF := hF.1 hc32
           refine Ok.seq (Ok.region (Ok.bat 1 [2] [(88, .func (.func 26) #[] #[])] ?_))
           refine Ok.op rfl (OpOk.inline (args := #[]) 3 [] enr Tryz.func26 rfl rfl rfl rfl (Ok.seq (Ok.region (Ok.op rfl (OpOk.alloc (z := .agg #[sv ([] : Bs), sv ([] : Bs), .int .i64 0, .slice none 0 0, sv ([] : Bs), .bool false, sv ([] : Bs), .bool false]) (cs := #[sv ([] : Bs), sv ([] : Bs), .int .i64 0, .slice none 0 0, sv ([] : Bs), .bool false, sv ([] : Bs), .bool false]) (by kernel_rfl) (by kernel_rfl) rfl fun bs0i89 => ?_)))))
           refine Ok.batch 1 [(0, pv bs0i89 0)] (by kernel_rfl) (Ok.nil (Ok.thenN (Ok.seq (Ok.region (Ok.bat 1 [0] [(2, .agg #[sv ([] : Bs), sv ([] : Bs), .int .i64 0, .slice none 0 0, sv ([] : Bs), .bool false, sv ([] : Bs), .bool false])] ?_)))))
           refine Ok.op rfl (OpOk.sto (k := 8) (v := .agg #[sv ([] : Bs), sv ([] : Bs), .int .i64 0, .slice none 0 0, sv ([] : Bs), .bool false, sv ([] : Bs), .bool false]) 0 #[sv ([] : Bs), sv ([] : Bs), .int .i64 0, .slice none 0 0, sv ([] : Bs), .bool false, sv ([] : Bs), .bool false] rfl rfl rfl ?_)
           refine Ok.bat 1 [0] [(1, .int .i64 3)] ?_
           refine Ok.nil (Ok.thenN (Ok.ret (Ok.back (vs := [.agg #[sv ([] : Bs), sv ([] : Bs), .int .i64 0, .slice none 0 0, sv ([] : Bs), .bool false, sv ([] : Bs), .bool false], .int .i64 3]) (.inl rfl) rfl (.cons (.cellAgg 0 8 #[sv ([] : Bs), sv ([] : Bs), .int .i64 0, .slice none 0 0, sv ([] : Bs), .bool false, sv ([] : Bs), .bool false] rfl rfl Tryz.underlying46 rfl (by kernel_rfl) (by kernel_rfl) (by kernel_rfl)) (.cons (.tmp rfl) .nil)) rfl (Ok.batch 2 [(2, pv bs2 0), (90, .agg #[sv ([] : Bs), sv ([] : Bs), .int .i64 0, .slice none 0 0, sv ([] : Bs), .bool false, sv ([] : Bs), .bool false]), (91, .int .i64 3)] (by kernel_rfl) (Ok.op rfl (OpOk.sto (k := 8) (v := .agg #[sv ([] : Bs), sv ([] : Bs), .int .i64 0, .slice none 0 0, sv ([] : Bs), .bool false, sv ([] : Bs), .bool false]) 2 #[sv ([] : Bs), sv ([] : Bs), .int .i64 0, .slice none 0 0, sv ([] : Bs), .bool false, sv ([] : Bs), .bool false] rfl rfl rfl ?_))))))
           refine Ok.bat 1 [2] [(3, .int .i64 3)] ?_
           refine Ok.nil (Ok.thenN (Ok.ret (Ok.thenR (Ok.blockR (Ok.thenR (Ok.thenR (Ok.blockR (Ok.thenR (Ok.thenR ?_)))))))))
           exact Ok.resP (vs := [.agg #[sv ([] : Bs), sv ([] : Bs), .int .i64 0, .slice none 0 0, sv ([] : Bs), .bool false, sv ([] : Bs), .bool false], .int .i64 3]) [] [] (by decide) rfl (.inl rfl) rfl (.cons (.cellAgg 2 8 #[sv ([] : Bs), sv ([] : Bs), .int .i64 0, .slice none 0 0, sv ([] : Bs), .bool false, sv ([] : Bs), .bool false] rfl rfl Tryz.underlying46 rfl (by kernel_rfl) (by kernel_rfl) (by kernel_rfl)) (.cons (.tmp rfl) .nil)) ((hxj16.trans hx26).trans hxl49) ⟨(([] : Bs), ([] : Bs), 0, [], ([] : Bs), false, ([] : Bs), false), 3, none, 0, rfl, Rep.nil, rfl, hF⟩
          ·replace hF := hF.2 hc32
           refine Ok.skip (Ok.thenN (Ok.region (Ok.bat 7 [2, 4, 5, 7, 9, 11, 73, 74, 75] [(12, .int .i64 (w6 ((w6 (10 * x12l49)) + (w6 (IntKind.wrap .u8 (e29 - 48))))))] ?_)))
           refine Ok.nil (Ok.blockN (Ok.thenN (Ok.region (Ok.bat 2 [2, 4, 5, 7, 9, 11, 12, 73, 74] [(75, .int .i64 (w6 (x75l49 + 1)))] ?_))))
           refine Ok.nil (Ok.thenN ?_)
           subst hg29
           exact fun a W hA hW => ⟨k49, Nat.lt_succ_self _, gl49, hxl49, w6 ((w6 (10 * x12l49)) + (w6 (IntKind.wrap .u8 (((intsOf ((prtS (radrV1 xs).1 ([58] : Bs)).2.drop (Int.toNat 1))).getD (Int.toNat x75l49) default) - 48)))), w6 (x75l49 + 1), hA.sub (by kernel_rfl), hW, hF⟩
         ·replace hF := hF.2 hc27
          refine Ok.exit (Ok.thenE (Ok.thenE (Ok.blockHit (Ok.thenN (Ok.seq (Ok.seq (Ok.region (Ok.bat 1 [2, 4, 5, 7, 9, 12] [(99, .int .i64 x12l49)] ?_))))))))
          refine Ok.op rfl (OpOk.callG (v := .bool (rbetM x12l49 1 65535)) enr (fun W hW => rbet_c x12l49 1 65535) rfl ?_)
          refine Ok.bat 1 [2, 4, 5, 7, 9, 12] [(101, .bool (!(rbetM x12l49 1 65535)))] ?_
          refine Ok.nil (Ok.thenN (Ok.cond (b := !(rbetM x12l49 1 65535)) rfl (fun hc34 => ?_) (fun hc34 => ?_)))
          ·replace hF := hF.1 hc34
           refine Ok.seq (Ok.region (Ok.bat 1 [2] [(102, .func (.func 26) #[] #[])] ?_))
           refine Ok.op rfl (OpOk.inline (args := #[]) 3 [] enr Tryz.func26 rfl rfl rfl rfl (Ok.seq (Ok.region (Ok.op rfl (OpOk.alloc (z := .agg #[sv ([] : Bs), sv ([] : Bs), .int .i64 0, .slice none 0 0, sv ([] : Bs), .bool false, sv ([] : Bs), .bool false]) (cs := #[sv ([] : Bs), sv ([] : Bs), .int .i64 0, .slice none 0 0, sv ([] : Bs), .bool false, sv ([] : Bs), .bool false]) (by kernel_rfl) (by kernel_rfl) rfl fun bs0i103 => ?_)))))
           refine Ok.batch 1 [(0, pv bs0i103 0)] (by kernel_rfl) (Ok.nil (Ok.thenN (Ok.seq (Ok.region (Ok.bat 1 [0] [(2, .agg #[sv ([] : Bs), sv ([] : Bs), .int .i64 0, .slice none 0 0, sv ([] : Bs), .bool false, sv ([] : Bs), .bool false])] ?_)))))
           refine Ok.op rfl (OpOk.sto (k := 8) (v := .agg #[sv ([] : Bs), sv ([] : Bs), .int .i64 0, .slice none 0 0, sv ([] : Bs), .bool false, sv ([] : Bs), .bool false]) 0 #[sv ([] : Bs), sv ([] : Bs), .int .i64 0, .slice none 0 0, sv ([] : Bs), .bool false, sv ([] : Bs), .bool false] rfl rfl rfl ?_)
           refine Ok.bat 1 [0] [(1, .int .i64 3)] ?_
           refine Ok.nil (Ok.thenN (Ok.ret (Ok.back (vs := [.agg #[sv ([] : Bs), sv ([] : Bs), .int .i64 0, .slice none 0 0, sv ([] : Bs), .bool false, sv ([] : Bs), .bool false], .int .i64 3]) (.inl rfl) rfl (.cons (.cellAgg 0 8 #[sv ([] : Bs), sv ([] : Bs), .int .i64 0, .slice none 0 0, sv ([] : Bs), .bool false, sv ([] : Bs), .bool false] rfl rfl Tryz.underlying46 rfl (by kernel_rfl) (by kernel_rfl) (by kernel_rfl)) (.cons (.tmp rfl) .nil)) rfl (Ok.batch 2 [(2, pv bs2 0), (104, .agg #[sv ([] : Bs), sv ([] : Bs), .int .i64 0, .slice none 0 0, sv ([] : Bs), .bool false, sv ([] : Bs), .bool false]), (105, .int .i64 3)] (by kernel_rfl) (Ok.op rfl (OpOk.sto (k := 8) (v := .agg #[sv ([] : Bs), sv ([] : Bs), .int .i64 0, .slice none 0 0, sv ([] : Bs), .bool false, sv ([] : Bs), .bool false]) 2 #[sv ([] : Bs), sv ([] : Bs), .int .i64 0, .slice none 0 0, sv ([] : Bs), .bool false, sv ([] : Bs), .bool false] rfl rfl rfl ?_))))))
           refine Ok.bat 1 [2] [(3, .int .i64 3)] ?_
           refine Ok.nil (Ok.thenN (Ok.ret (Ok.thenR (Ok.thenR ?_))))
           exact Ok.resP (vs := [.agg #[sv ([] : Bs), sv ([] : Bs), .int .i64 0, .slice none 0 0, sv ([] : Bs), .bool false, sv ([] : Bs), .bool false], .int .i64 3]) [] [] (by decide) rfl (.inl rfl) rfl (.cons (.cellAgg 2 8 #[sv ([] : Bs), sv ([] : Bs), .int .i64 0, .slice none 0 0, sv ([] : Bs), .bool false, sv ([] : Bs), .bool false] rfl rfl Tryz.underlying46 rfl (by kernel_rfl) (by kernel_rfl) (by kernel_rfl)) (.cons (.tmp rfl) .nil)) ((hxj16.trans hx26).trans hxl49) ⟨(([] : Bs), ([] : Bs), 0, [], ([] : Bs), false, ([] : Bs), false), 3, none, 0, rfl, Rep.nil, rfl, hF⟩
          ·replace hF := hF.2 hc34
           refine Ok.skip (Ok.thenN (Ok.cut (fun a W => ∃ gj78 : Ghost, Gext w0 gl49 gj78 ∧ StA 149 [(2, pv bs2 0), (4, .func (.func 26) #[] #[]), (7, pv bs7 0), (9, sv ((radrV1 xs).2)), (12, .int .i64 x12l49), (121, .bool (radrV2 xs x12l49))] a ∧ StW w0 [.blk bs7 (.cells #[sv ((rschS xs).1), sv (lowS (prtS (radrV1 xs).1 ([58] : Bs)).1), .int .i64 0, .slice none 0 0, sv ([] : Bs), .bool false, sv ([] : Bs), .bool false] 46), .blk bs2 (.cells #[sv ([] : Bs), sv ([] : Bs), .int .i64 0, .slice none 0 0, sv ([] : Bs), .bool false, sv ([] : Bs), .bool false] 46)] gj78 W ∧ radrj78 xs K x12l49) ?_ ?_))
           ·
            refine Ok.region (Ok.bat 1 [2, 4, 5, 7, 9, 12] [(106, sv ((rschS xs).1))] ?_)
            refine Ok.op rfl (OpOk.step (v := .bool ((rschS xs).1 == ([104, 116, 116, 112] : Bs))) (Yields.strCmp (f := .eql) (a := (rschS xs).1) (b := ([104, 116, 116, 112] : Bs)) (by kernel_rfl) (by kernel_rfl) rfl) rfl rfl (Ok.bat 1 [2, 4, 5, 7, 9, 12] [(108, .bool ((rschS xs).1 == ([104, 116, 116, 112] : Bs)))] ?_))
            refine Ok.midway 3 [(2, pv bs2 0), (4, .func (.func 26) #[] #[]), (5, sv ((rschS xs).1)), (7, pv bs7 0), (9, sv ((radrV1 xs).2)), (12, .int .i64 x12l49), (111, .bool (((rschS xs).1 == ([104, 116, 116, 112] : Bs)) && (x12l49 == 80)))] (fun hR37 => ?_) ?_
            ·refine Ok.boolAt 108 (((rschS xs).1 == ([104, 116, 116, 112] : Bs))) rfl (fun hc38 => ?_) (fun hc38 => ?_)
             ·skip
              refine Ok.bat 3 [2, 4, 5, 7, 9, 12] [(111, .bool (x12l49 == 80))] ?_
              refine Ok.reval 111 rfl (show (.bool (x12l49 == 80) : Value) = .bool (((rschS xs).1 == ([104, 116, 116, 112] : Bs)) && (x12l49 == 80)) from congrArg Value.bool (mand_t hc38)) (Ok.bat 0 [2, 4, 5, 7, 9, 12] [(111, .bool (((rschS xs).1 == ([104, 116, 116, 112] : Bs)) && (x12l49 == 80)))] ?_)
              exact hR37
             ·skip
              refine Ok.bat 3 [2, 4, 5, 7, 9, 12] [(111, .bool false)] ?_
              refine Ok.reval 111 rfl (show (.bool false : Value) = .bool (((rschS xs).1 == ([104, 116, 116, 112] : Bs)) && (x12l49 == 80)) from congrArg Value.bool (mand_f hc38)) (Ok.bat 0 [2, 4, 5, 7, 9, 12] [(111, .bool (((rschS xs).1 == ([104, 116, 116, 112] : Bs)) && (x12l49 == 80)))] ?_)
              exact hR37
            refine Ok.bat 2 [2, 4, 5, 7, 9, 12] [(113, .bool (!(((rschS xs).1 == ([104, 116, 116, 112] : Bs)) && (x12l49 == 80))))] ?_
            refine Ok.boolAt 113 (!(((rschS xs).1 == ([104, 116, 116, 112] : Bs)) && (x12l49 == 80))) rfl (fun hc39 => ?_) (fun hc39 => ?_)
            ·replace hF := hF.1 hc39
             refine Ok.bat 1 [2, 4, 7, 9, 12] [(113, .bool true), (114, sv ((rschS xs).1))] ?_
             refine Ok.opYes (j := 7) (d := 113) (want := true) (b := true) rfl (by kernel_rfl) (by kernel_rfl) rfl (OpOk.step (v := .bool ((rschS xs).1 == ([104, 116, 116, 112, 115] : Bs))) (Yields.strCmp (f := .eql) (a := (rschS xs).1) (b := ([104, 116, 116, 112, 115] : Bs)) (by kernel_rfl) (by kernel_rfl) rfl) rfl rfl (Ok.bat 1 [2, 4, 7, 9, 12, 113] [(116, .bool ((rschS xs).1 == ([104, 116, 116, 112, 115] : Bs)))] ?_))
             refine Ok.midway 3 [(2, pv bs2 0), (4, .func (.func 26) #[] #[]), (7, pv bs7 0), (9, sv ((radrV1 xs).2)), (12, .int .i64 x12l49), (113, .bool true), (119, .bool (((rschS xs).1 == ([104, 116, 116, 112, 115] : Bs)) && (x12l49 == 443)))] (fun hR40 => ?_) ?_
             ·refine Ok.boolAt 116 (((rschS xs).1 == ([104, 116, 116, 112, 115] : Bs))) rfl (fun hc41 => ?_) (fun hc41 => ?_)
              ·skip
               refine Ok.bat 3 [2, 4, 7, 9, 12, 113] [(119, .bool (x12l49 == 443))] ?_
               refine Ok.reval 119 rfl (show (.bool (x12l49 == 443) : Value) = .bool (((rschS xs).1 == ([104, 116, 116, 112, 115] : Bs)) && (x12l49 == 443)) from congrArg Value.bool (mand_t hc41)) (Ok.bat 0 [2, 4, 7, 9, 12, 113] [(119, .bool (((rschS xs).1 == ([104, 116, 116, 112, 115] : Bs)) && (x12l49 == 443)))] ?_)
               exact hR40
              ·skip
               refine Ok.bat 3 [2, 4, 7, 9, 12, 113] [(119, .bool false)] ?_
               refine Ok.reval 119 rfl (show (.bool false : Value) = .bool (((rschS xs).1 == ([104, 116, 116, 112, 115] : Bs)) && (x12l49 == 443)) from congrArg Value.bool (mand_f hc41)) (Ok.bat 0 [2, 4, 7, 9, 12, 113] [(119, .bool (((rschS xs).1 == ([104, 116, 116, 112, 115] : Bs)) && (x12l49 == 443)))] ?_)
               exact hR40
             refine Ok.bat 2 [2, 4, 7, 9, 12] [(121, .bool (!(((rschS xs).1 == ([104, 116, 116, 112, 115] : Bs)) && (x12l49 == 443))))] ?_
             refine Ok.nil (Ok.thenN (Ok.reval 121 rfl (show (.bool (!(((rschS xs).1 == ([104, 116, 116, 112, 115] : Bs)) && (x12l49 == 443))) : Value) = .bool (radrV2 xs x12l49) from congrArg (Value.bool) (mand_t hc39)) ?_))
             exact fun a W hA hW => ⟨gl49, (Gext.refl w0 gl49), hA.sub (by kernel_rfl), hW, hF⟩
            ·replace hF := hF.2 hc39
             refine Ok.bat 8 [2, 4, 7, 9, 12] [(121, .bool false)] ?_
             refine Ok.nil (Ok.thenN (Ok.reval 121 rfl (show (.bool false : Value) = .bool (radrV2 xs x12l49) from congrArg (Value.bool) (mand_f hc39)) ?_))
             exact fun a W hA hW => ⟨gl49, (Gext.refl w0 gl49), hA.sub (by kernel_rfl), hW, hF⟩
           ·
            clear hF
            rintro a W ⟨gj78, hxj78, hA, hW, hF⟩
            refine (?_ : Ok _ _ _ _ _ _) a W hA hW
            clear hA hW
            replace hG0 := hG0.mono hxj78.1
            refine Ok.cond (b := (radrV2 xs x12l49)) rfl (fun hc36 => ?_) (fun hc36 => ?_)
            ·replace hF := hF.1 hc36
             refine Ok.region (Ok.bat 2 [2, 4, 7, 9] [(122, .int .i64 x12l49), (123, pv bs7 2)] ?_)
             refine Ok.op rfl (OpOk.sto (k := 1) (v := .int .i64 x12l49) 0 #[sv ((rschS xs).1), sv (lowS (prtS (radrV1 xs).1 ([58] : Bs)).1), .int .i64 x12l49, .slice none 0 0, sv ([] : Bs), .bool false, sv ([] : Bs), .bool false] rfl rfl rfl ?_)
             refine Ok.nil (Ok.thenN ?_)
             exact fun a W hA hW => ⟨gj78, ((hx26.trans hxl49).trans hxj78), x12l49, hA.sub (by kernel_rfl), hW, hF⟩
            ·replace hF := hF.2 hc36
             refine Ok.skip (Ok.thenN ?_)
             exact fun a W hA hW => ⟨gj78, ((hx26.trans hxl49).trans hxj78), 0, hA.sub (by kernel_rfl), hW, hF⟩
      ·replace hF := hF.2 hc24
       refine Ok.skip (Ok.thenN ?_)
       exact fun a W hA hW => ⟨gj16, (Gext.refl w0 gj16), 0, hA.sub (by kernel_rfl), hW, hF⟩
     ·
      clear hF
      rintro a W ⟨gj39, hxj39, ybs7_2j39, hA, hW, hF⟩
      refine (?_ : Ok _ _ _ _ _ _) a W hA hW
      clear hA hW
      replace hG0 := hG0.mono hxj39.1
      refine Ok.seq (Ok.region (Ok.bat 1 [2, 4, 7] [(125, sv ((radrV1 xs).2))] ?_))
      obtain ⟨hp14, hF⟩ := hF
      refine Ok.op rfl (OpOk.callH [_] _ enr rfl (rtai_c ((rschS xs).1, (lowS (prtS (radrV1 xs).1 ([58] : Bs)).1), ybs7_2j39, [], ([] : Bs), false, ([] : Bs), false) (radrV1 xs).2 Rep.nil hG0 hp14) rfl fun g15 _ _ hx15 hV15 => ?_)
      obtain ⟨a15_0, c15_0, rfl, hR15_0, rfl⟩ := hV15
      replace hG0 := hG0.mono hx15.1
      refine Ok.bat 5 [2, 4, 7] [(15, sv ((radrV3 xs ybs7_2j39).1)), (16, .bool (radrV3 xs ybs7_2j39).2.1)] ?_
      refine Ok.nil (Ok.thenN (Ok.seq (Ok.region (Ok.bat 1 [2, 4, 7, 16] [(130, sv ((radrV3 xs ybs7_2j39).1))] ?_))))
      refine Ok.op rfl (OpOk.callG (v := sv (tpfM (radrV3 xs ybs7_2j39).1 ([47] : Bs))) enr (fun W hW => tpf_c (radrV3 xs ybs7_2j39).1 ([47] : Bs)) rfl ?_)
      obtain ⟨hp16, hF⟩ := hF
      refine Ok.op rfl (OpOk.callH [] _ enr rfl (rseg_c (tpfM (radrV3 xs ybs7_2j39).1 ([47] : Bs)) hG0 hp16) rfl fun g17 _ _ hx17 hV17 => ?_)
      obtain ⟨a17_0, c17_0, rfl, hR17_0, rfl⟩ := hV17
      replace hR15_0 := hR15_0.mono hx17.1
      replace hG0 := hG0.mono hx17.1
      refine Ok.bat 5 [2, 4, 7, 16] [(17, .slice a17_0 (rsegS (tpfM (radrV3 xs ybs7_2j39).1 ([47] : Bs))).1.length c17_0), (18, .bool (rsegS (tpfM (radrV3 xs ybs7_2j39).1 ([47] : Bs))).2)] ?_
      refine Ok.nil (Ok.thenN (Ok.seq (Ok.seq (Ok.region (Ok.bat 3 [2, 4, 7, 17, 18] [(137, .bool (!(radrV3 xs ybs7_2j39).2.1))] ?_)))))
      refine Ok.midway 3 [(2, pv bs2 0), (4, .func (.func 26) #[] #[]), (7, pv bs7 0), (17, .slice a17_0 (rsegS (tpfM (radrV3 xs ybs7_2j39).1 ([47] : Bs))).1.length c17_0), (140, .bool ((!(radrV3 xs ybs7_2j39).2.1) || (!(rsegS (tpfM (radrV3 xs ybs7_2j39).1 ([47] : Bs))).2)))] (fun hR18 => ?_) ?_
      ·refine Ok.boolAt 137 (!(radrV3 xs ybs7_2j39).2.1) rfl (fun hc19 => ?_) (fun hc19 => ?_)
       ·skip
        refine Ok.bat 3 [2, 4, 7, 17] [(140, .bool true)] ?_
        refine Ok.reval 140 rfl (show (.bool true : Value) = .bool ((!(radrV3 xs ybs7_2j39).2.1) || (!(rsegS (tpfM (radrV3 xs ybs7_2j39).1 ([47] : Bs))).2)) from congrArg Value.bool (mor_t hc19)) (Ok.bat 0 [2, 4, 7, 17] [(140, .bool ((!(radrV3 xs ybs7_2j39).2.1) || (!(rsegS (tpfM (radrV3 xs ybs7_2j39).1 ([47] : Bs))).2)))] ?_)
        exact hR18
       ·skip
        refine Ok.bat 3 [2, 4, 7, 17] [(140, .bool (!(rsegS (tpfM (radrV3 xs ybs7_2j39).1 ([47] : Bs))).2))] ?_
        refine Ok.reval 140 rfl (show (.bool (!(rsegS (tpfM (radrV3 xs ybs7_2j39).1 ([47] : Bs))).2) : Value) = .bool ((!(radrV3 xs ybs7_2j39).2.1) || (!(rsegS (tpfM (radrV3 xs ybs7_2j39).1 ([47] : Bs))).2)) from congrArg Value.bool (mor_f hc19)) (Ok.bat 0 [2, 4, 7, 17] [(140, .bool ((!(radrV3 xs ybs7_2j39).2.1) || (!(rsegS (tpfM (radrV3 xs ybs7_2j39).1 ([47] : Bs))).2)))] ?_)
        exact hR18
      refine Ok.nil (Ok.thenN (Ok.cond (b := ((!(radrV3 xs ybs7_2j39).2.1) || (!(rsegS (tpfM (radrV3 xs ybs7_2j39).1 ([47] : Bs))).2))) rfl (fun hc20 => ?_) (fun hc20 => ?_)))
      ·replace hF := hF.1 hc20
       refine Ok.seq (Ok.region (Ok.bat 1 [2] [(141, .func (.func 26) #[] #[])] ?_))
       refine Ok.op rfl (OpOk.inline (args := #[]) 3 [] enr Tryz.func26 rfl rfl rfl rfl (Ok.seq (Ok.region (Ok.op rfl (OpOk.alloc (z := .agg #[sv ([] : Bs), sv ([] : Bs), .int .i64 0, .slice none 0 0, sv ([] : Bs), .bool false, sv ([] : Bs), .bool false]) (cs := #[sv ([] : Bs), sv ([] : Bs), .int .i64 0, .slice none 0 0, sv ([] : Bs), .bool false, sv ([] : Bs), .bool false]) (by kernel_rfl) (by kernel_rfl) rfl fun bs0i142 => ?_)))))
       refine Ok.batch 1 [(0, pv bs0i142 0)] (by kernel_rfl) (Ok.nil (Ok.thenN (Ok.seq (Ok.region (Ok.bat 1 [0] [(2, .agg #[sv ([] : Bs), sv ([] : Bs), .int .i64 0, .slice none 0 0, sv ([] : Bs), .bool false, sv ([] : Bs), .bool false])] ?_)))))
       refine Ok.op rfl (OpOk.sto (k := 8) (v := .agg #[sv ([] : Bs), sv ([] : Bs), .int .i64 0, .slice none 0 0, sv ([] : Bs), .bool false, sv ([] : Bs), .bool false]) 0 #[sv ([] : Bs), sv ([] : Bs), .int .i64 0, .slice none 0 0, sv ([] : Bs), .bool false, sv ([] : Bs), .bool false] rfl rfl rfl ?_)
       refine Ok.bat 1 [0] [(1, .int .i64 3)] ?_
       refine Ok.nil (Ok.thenN (Ok.ret (Ok.back (vs := [.agg #[sv ([] : Bs), sv ([] : Bs), .int .i64 0, .slice none 0 0, sv ([] : Bs), .bool false, sv ([] : Bs), .bool false], .int .i64 3]) (.inl rfl) rfl (.cons (.cellAgg 0 8 #[sv ([] : Bs), sv ([] : Bs), .int .i64 0, .slice none 0 0, sv ([] : Bs), .bool false, sv ([] : Bs), .bool false] rfl rfl Tryz.underlying46 rfl (by kernel_rfl) (by kernel_rfl) (by kernel_rfl)) (.cons (.tmp rfl) .nil)) rfl (Ok.batch 2 [(2, pv bs2 0), (143, .agg #[sv ([] : Bs), sv ([] : Bs), .int .i64 0, .slice none 0 0, sv ([] : Bs), .bool false, sv ([] : Bs), .bool false]), (144, .int .i64 3)] (by kernel_rfl) (Ok.op rfl (OpOk.sto (k := 8) (v := .agg #[sv ([] : Bs), sv ([] : Bs), .int .i64 0, .slice none 0 0, sv ([] : Bs), .bool false, sv ([] : Bs), .bool false]) 2 #[sv ([] : Bs), sv ([] : Bs), .int .i64 0, .slice none 0 0, sv ([] : Bs), .bool false, sv ([] : Bs), .bool false] rfl rfl rfl ?_))))))
       refine Ok.bat 1 [2] [(3, .int .i64 3)] ?_
       refine Ok.nil (Ok.thenN (Ok.ret (Ok.thenR ?_)))
       exact Ok.resP (vs := [.agg #[sv ([] : Bs), sv ([] : Bs), .int .i64 0, .slice none 0 0, sv ([] : Bs), .bool false, sv ([] : Bs), .bool false], .int .i64 3]) [] [] (by decide) rfl (.inl rfl) rfl (.cons (.cellAgg 2 8 #[sv ([] : Bs), sv ([] : Bs), .int .i64 0, .slice none 0 0, sv ([] : Bs), .bool false, sv ([] : Bs), .bool false] rfl rfl Tryz.underlying46 rfl (by kernel_rfl) (by kernel_rfl) (by kernel_rfl)) (.cons (.tmp rfl) .nil)) (((hxj16.trans hxj39).trans hx15).trans hx17) ⟨(([] : Bs), ([] : Bs), 0, [], ([] : Bs), false, ([] : Bs), false), 3, none, 0, rfl, Rep.nil, rfl, hF⟩
      ·replace hF := hF.2 hc20
       refine Ok.skip (Ok.thenN (Ok.seq (Ok.region (Ok.bat 1 [2, 7] [(145, .slice a17_0 (rsegS (tpfM (radrV3 xs ybs7_2j39).1 ([47] : Bs))).1.length c17_0)] ?_))))
       obtain ⟨hp22, hF⟩ := hF
       refine Ok.op rfl (OpOk.callH [] _ enr rfl (rtid_c (rsegS (tpfM (radrV3 xs ybs7_2j39).1 ([47] : Bs))).1 hR17_0 hp22) rfl fun g23 _ _ hx23 hV23 => ?_)
       obtain ⟨a23_0, c23_0, rfl, hR23_0, rfl⟩ := hV23
       replace hR17_0 := hR17_0.mono hx23.1
       replace hR15_0 := hR15_0.mono hx23.1
       replace hG0 := hG0.mono hx23.1
       refine Ok.bat 1 [2, 7] [(146, .slice a23_0 (radrV4 xs ybs7_2j39).length c23_0), (147, pv bs7 3)] ?_
       refine Ok.op rfl (OpOk.sto (k := 1) (v := .slice a23_0 (radrV4 xs ybs7_2j39).length c23_0) 0 #[sv ((radrV3 xs ybs7_2j39).2.2.1), sv ((radrV3 xs ybs7_2j39).2.2.2.1), .int .i64 (radrV3 xs ybs7_2j39).2.2.2.2.1, .slice a23_0 (radrV4 xs ybs7_2j39).length c23_0, sv ((radrV3 xs ybs7_2j39).2.2.2.2.2.2.1), .bool (radrV3 xs ybs7_2j39).2.2.2.2.2.2.2.1, sv ((radrV3 xs ybs7_2j39).2.2.2.2.2.2.2.2.1), .bool (radrV3 xs ybs7_2j39).2.2.2.2.2.2.2.2.2] rfl rfl rfl ?_)
       refine Ok.nil (Ok.thenN (Ok.seq (Ok.region (Ok.op rfl (OpOk.step (v := .agg #[sv ((radrV3 xs ybs7_2j39).2.2.1), sv ((radrV3 xs ybs7_2j39).2.2.2.1), .int .i64 (radrV3 xs ybs7_2j39).2.2.2.2.1, .slice a23_0 (radrV4 xs ybs7_2j39).length c23_0, sv ((radrV3 xs ybs7_2j39).2.2.2.2.2.2.1), .bool (radrV3 xs ybs7_2j39).2.2.2.2.2.2.2.1, sv ((radrV3 xs ybs7_2j39).2.2.2.2.2.2.2.2.1), .bool (radrV3 xs ybs7_2j39).2.2.2.2.2.2.2.2.2]) (Yields.loadAgg 0 8 #[sv ((radrV3 xs ybs7_2j39).2.2.1), sv ((radrV3 xs ybs7_2j39).2.2.2.1), .int .i64 (radrV3 xs ybs7_2j39).2.2.2.2.1, .slice a23_0 (radrV4 xs ybs7_2j39).length c23_0, sv ((radrV3 xs ybs7_2j39).2.2.2.2.2.2.1), .bool (radrV3 xs ybs7_2j39).2.2.2.2.2.2.2.1, sv ((radrV3 xs ybs7_2j39).2.2.2.2.2.2.2.2.1), .bool (radrV3 xs ybs7_2j39).2.2.2.2.2.2.2.2.2] rfl rfl Tryz.underlying46 rfl (by kernel_rfl) (by kernel_rfl) (by kernel_rfl)) rfl rfl (Ok.op rfl (OpOk.sto (k := 8) (v := .agg #[sv ((radrV3 xs ybs7_2j39).2.2.1), sv ((radrV3 xs ybs7_2j39).2.2.2.1), .int .i64 (radrV3 xs ybs7_2j39).2.2.2.2.1, .slice a23_0 (radrV4 xs ybs7_2j39).length c23_0, sv ((radrV3 xs ybs7_2j39).2.2.2.2.2.2.1), .bool (radrV3 xs ybs7_2j39).2.2.2.2.2.2.2.1, sv ((radrV3 xs ybs7_2j39).2.2.2.2.2.2.2.2.1), .bool (radrV3 xs ybs7_2j39).2.2.2.2.2.2.2.2.2]) 1 #[sv ((radrV3 xs ybs7_2j39).2.2.1), sv ((radrV3 xs ybs7_2j39).2.2.2.1), .int .i64 (radrV3 xs ybs7_2j39).2.2.2.2.1, .slice a23_0 (radrV4 xs ybs7_2j39).length c23_0, sv ((radrV3 xs ybs7_2j39).2.2.2.2.2.2.1), .bool (radrV3 xs ybs7_2j39).2.2.2.2.2.2.2.1, sv ((radrV3 xs ybs7_2j39).2.2.2.2.2.2.2.2.1), .bool (radrV3 xs ybs7_2j39).2.2.2.2.2.2.2.2.2] rfl rfl rfl ?_)))))))
       refine Ok.bat 1 [2] [(3, .int .i64 0)] ?_
       refine Ok.nil (Ok.thenN (Ok.ret ?_))
       exact Ok.resP (vs := [.agg #[sv ((radrV3 xs ybs7_2j39).2.2.1), sv ((radrV3 xs ybs7_2j39).2.2.2.1), .int .i64 (radrV3 xs ybs7_2j39).2.2.2.2.1, .slice a23_0 (radrV4 xs ybs7_2j39).length c23_0, sv ((radrV3 xs ybs7_2j39).2.2.2.2.2.2.1), .bool (radrV3 xs ybs7_2j39).2.2.2.2.2.2.2.1, sv ((radrV3 xs ybs7_2j39).2.2.2.2.2.2.2.2.1), .bool (radrV3 xs ybs7_2j39).2.2.2.2.2.2.2.2.2], .int .i64 0]) [] [] (by decide) rfl (.inl rfl) rfl (.cons (.cellAgg 1 8 #[sv ((radrV3 xs ybs7_2j39).2.2.1), sv ((radrV3 xs ybs7_2j39).2.2.2.1), .int .i64 (radrV3 xs ybs7_2j39).2.2.2.2.1, .slice a23_0 (radrV4 xs ybs7_2j39).length c23_0, sv ((radrV3 xs ybs7_2j39).2.2.2.2.2.2.1), .bool (radrV3 xs ybs7_2j39).2.2.2.2.2.2.2.1, sv ((radrV3 xs ybs7_2j39).2.2.2.2.2.2.2.2.1), .bool (radrV3 xs ybs7_2j39).2.2.2.2.2.2.2.2.2] rfl rfl Tryz.underlying46 rfl (by kernel_rfl) (by kernel_rfl) (by kernel_rfl)) (.cons (.tmp rfl) .nil)) ((((hxj16.trans hxj39).trans hx15).trans hx17).trans hx23) ⟨((radrV3 xs ybs7_2j39).2.2.1, (radrV3 xs ybs7_2j39).2.2.2.1, (radrV3 xs ybs7_2j39).2.2.2.2.1, (radrV4 xs ybs7_2j39), (radrV3 xs ybs7_2j39).2.2.2.2.2.2.1, (radrV3 xs ybs7_2j39).2.2.2.2.2.2.2.1, (radrV3 xs ybs7_2j39).2.2.2.2.2.2.2.2.1, (radrV3 xs ybs7_2j39).2.2.2.2.2.2.2.2.2), 0, a23_0, c23_0, rfl, hR23_0, rfl, hF⟩
theorem dgV_snoc : ∀ (l : Bs) (n : Int) (c : UInt8), dgV n (l ++ [c]) = 10 * dgV n l + ((c.toNat : Int) - 48)
 | [], n, c => rfl
 | a :: l, n, c => dgV_snoc l _ c
theorem dg_wrap {n : Int} {c : UInt8} (h0 : 0 ≤ n) (h1 : n < 100000) (hc : dgC c = true) : w6 ((w6 (10 * n)) + (w6 (IntKind.wrap .u8 ((c.toNat : Int) - 48)))) = 10 * n + ((c.toNat : Int) - 48) := by
 have h2 := (dg_byte c).2 hc
 have e : IntKind.wrap .u8 ((c.toNat : Int) - 48) = (c.toNat : Int) - 48 := by
  show ((c.toNat : Int) - 48) % 256 = _
  exact Int.emod_eq_of_lt (by omega) (by omega)
 rw [e, w64 (x := 10 * n) (by omega), w64 (x := (c.toNat : Int) - 48) (by omega), w64 (by omega)]
theorem radr_F (s : Bs) : radrF s (fun a b => (a, b) = parS s) := by
 have hS := parS_eq
 refine ⟨fun h => by rw [hS]; unfold parS0; rw [if_t h]; rfl, fun h => ?_⟩
 have h5 := of_decide_eq_false h
 have hs1 : parS s = if (!((schS s).2.2) || !((restS s).2)) = true then (ju0, 3) else if (!((parP s).1)) = true then (ju0, 3) else if (!((parT s).2.1) || !((parG s).2)) = true then (ju0, 3) else (parU s, 0) := by
  rw [hS]; unfold parS0; rw [if_f h]
 clear hS
 refine ⟨by unfold smP; omega, ?_⟩
 cases hok : (schS s).2.2
 ·-- no scheme
  have hr : rschS s = ([], false) := by unfold rschS; rw [hok]; rfl
  have hv0 : radrV0 s = true := by unfold radrV0; rw [hr]; rfl
  have h3 : parS s = (ju0, 3) := by rw [hs1, hok]; rfl
  have j16 : radrj16 s (fun a b => (a, b) = parS s) := ⟨fun _ => h3.symm, fun h => by rw [hv0] at h; cases h⟩
  exact ⟨fun _ => j16, fun h => by rw [hr] at h; cases h⟩
 ·have hr : rschS s = ((schS s).1, true) := by unfold rschS; rw [hok]; rfl
  have hd := sch_drop s hok
  have hc := hpf_cons (schS s).2.1
  have hsl := (sch_len s).1
  have hdl := congrArg List.length hd
  rw [List.length_drop, List.length_cons] at hdl
  have hv0 : radrV0 s = !((restS s).2) := by
   unfold radrV0
   rw [hr]
   show (!true || !(hpfM (s.drop (Int.toNat ((schS s).1.length : Int))) [58, 47, 47])) = _
   rw [Int.toNat_natCast, hd, hc.1]; rfl
  have j16 : radrj16 s (fun a b => (a, b) = parS s) := by
   cases hok2 : (restS s).2
   ·have h3 : parS s = (ju0, 3) := by rw [hs1, hok, hok2]; rfl
    exact ⟨fun _ => h3.symm, fun h => by rw [hv0, hok2] at h; cases h⟩
   ·have hs2 : parS s = if (!((parP s).1)) = true then (ju0, 3) else if (!((parT s).2.1) || !((parG s).2)) = true then (ju0, 3) else (parU s, 0) := by
     rw [hs1, hok, hok2]; rfl
    refine ⟨(fun h => by rw [hv0, hok2] at h; cases h), fun _ => ?_⟩
    have hrest := hc.2 hok2
    have hr2 : 2 ≤ (schS s).2.1.length := by
     have : slhpM (schS s).2.1 [47, 47] = true := by
      have h2 : cpfM (schS s).2.1 [47, 47] = if (!(slhpM (schS s).2.1 [47, 47])) = true then ((schS s).2.1, false) else ((schS s).2.1.drop 2, true) := rfl
      have h3 : (cpfM (schS s).2.1 [47, 47]).2 = true := hok2
      rw [h2] at h3
      cases hx : slhpM (schS s).2.1 [47, 47]
      ·rw [hx] at h3; cases h3
      ·rfl
     have := hp_le this
     simp only [List.length_cons, List.length_nil] at this
     omega
    have hw3 : w6 (((schS s).1.length : Int) + 3) = ((schS s).1.length : Int) + 3 := w64 (by omega)
    have hdrop : s.drop (Int.toNat (w6 (((rschS s).1.length : Int) + 3))) = (restS s).1 := by
     rw [hr]
     show s.drop (Int.toNat (w6 (((schS s).1.length : Int) + 3))) = (cpfM (schS s).2.1 [47, 47]).1
     rw [hw3, hrest, show (((schS s).1.length : Int) + 3).toNat = (schS s).1.length + 3 by omega, ← List.drop_drop, hd]
     rfl
    have hV1 : radrV1 s = prtS (restS s).1 MK := by
     unfold radrV1; rw [hdrop]; rfl
    obtain ⟨a, ha⟩ : ∃ a, (prtS (restS s).1 MK).1 = a := ⟨_, rfl⟩
    obtain ⟨b, hb⟩ : ∃ b, (prtS (restS s).1 MK).2 = b := ⟨_, rfl⟩
    have hrl := rest_len s
    have hpl := prt_len (restS s).1 MK
    rw [ha, hb] at hpl
    obtain ⟨c1, c2, c3⟩ := prt_cut 58 (by decide) a
    have hcl := cutS_len 58 a
    have c4 : (prtS a [58]).2.drop 1 = (cutS a [58]).2.1 := by rw [prt_one 58 (by decide), cutS1]
    have c5 : (cutS a [58]).2.2 = true → (prtS a [58]).2.length = (cutS a [58]).2.1.length + 1 := fun hh => by
     rw [← c4, List.length_drop]
     rw [← c3] at hh
     have : (prtS a [58]).2 ≠ [] := by simpa using hh
     have := List.length_pos_iff.mpr this
     omega
    obtain ⟨hh, hhe⟩ : ∃ hh, (cutS a [58]).1 = hh := ⟨_, rfl⟩
    obtain ⟨p, hpe⟩ : ∃ p, (cutS a [58]).2.1 = p := ⟨_, rfl⟩
    have hhl : hh.length ≤ a.length := hhe ▸ hcl.1
    have hpll : p.length ≤ a.length := hpe ▸ hcl.2
    have hlow : (lowS hh).length = hh.length := by unfold lowS; rw [List.length_map]
    obtain ⟨ht1, ht2⟩ := host_two hh
    have hP : parP s = if (!(rhosS (lowS hh))) = true then (false, ((schS s).1, smallS hh, 0, [], [], false, [], false)) else if (!((cutS a [58]).2.2)) = true then (true, ((schS s).1, smallS hh, 0, [], [], false, [], false)) else
      if badP p = true then (false, ((schS s).1, smallS hh, 0, [], [], false, [], false)) else if badN (atoiS p).1 = true then (false, ((schS s).1, smallS hh, 0, [], [], false, [], false)) else
      (true, ((schS s).1, smallS hh, (if ((atoiS p).1 != uownM (schS s).1) = true then (atoiS p).1 else 0), [], [], false, [], false)) := by
     unfold parP
     rw [ha, plcS_eq]
     unfold plcS0 plcH
     rw [hhe, hpe, ht1]
    -- what follows the place
    have j39 : ∀ q, parP s = (true, ((schS s).1, lowS hh, q, [], [], false, [], false)) → radrj39 s (fun a b => (a, b) = parS s) q := by
     intro q hq
     have hV4 : radrV3 s q = parT s := by
      unfold radrV3 parT
      rw [hV1, hb, ha, c1, hhe, hr, hq]
     have hT := tail_len (parP s).2 b
     have hT : (parT s).1.length ≤ b.length := by unfold parT; rw [hb]; exact hT
     have htp := tpf_len (parT s).1 [47]
     obtain ⟨g1, g2⟩ := seg_two (tpfM (parT s).1 [47])
     have hG : parG s = segS (tpfM (parT s).1 [47]) := rfl
     have hsg := seg_len (tpfM (parT s).1 [47])
     unfold radrj39
     rw [hV4, hV1, hb]
     refine ⟨by show b.length ≤ 4000; omega, by unfold smP; omega, fun h2 => ?_, fun h2 => ?_⟩
     ·rw [hs2, hq, hG, g1, if_t h2]; rfl
     ·have h2' := h2
      rw [Bool.or_eq_false_iff] at h2'
      have hseg := g2 (by simpa using h2'.2)
      refine ⟨by unfold tidyP; rw [← hseg]; omega, ?_⟩
      have hV5 : radrV4 s q = tidyS (parG s).1 := by
       unfold radrV4
       rw [hV4, ← hseg]; rfl
      rw [hs2, hq, hG, g1, if_f h2, hV5]; rfl
    have hK3 : (parP s).1 = false → (([], [], 0, [], [], false, [], false), 3) = parS s := fun hf => by
     rw [hs2, hf]; rfl
    rw [hdrop, hV1, ha, c1, hhe, show List.drop (Int.toNat 1) (prtS a [58]).2 = p from c4.trans hpe]
    refine ⟨?_, ?_, by omega, ⟨by omega, by decide⟩, ⟨by omega, by decide⟩, by unfold smP; omega, by unfold smP; omega, fun hf => ?_, fun hf => ?_⟩
    ·rw [hr, hw3]; omega
    ·rw [hr]
     show w6 (((schS s).1.length : Int) + 3) ≤ _
     rw [hw3]; omega
    ·exact hK3 (by rw [hP, if_t hf])
    ·have hlo : smallS hh = lowS hh := ht2 (by simpa using hf)
     rw [if_f hf, hlo] at hP
     refine ⟨fun hn => ?_, fun hn => ?_⟩
     ·have hhas : (cutS a [58]).2.2 = true := by rw [← c3]; exact hn
      have hlen := c5 hhas
      rw [hpe] at hlen
      rw [hhas, if_f (show (!true) = false from rfl)] at hP
      have hpl2 : p.length ≤ 500 := by omega
      refine ⟨by omega, by omega, by omega, by rw [maxLen_eq]; omega, ?_⟩
      have hil : (intsOf p).length = p.length := intsOf_length p
      -- a port that is none
      have hbad : badP p = true → (([], [], 0, [], [], false, [], false), 3) = parS s := fun hb1 => hK3 (by rw [hP, if_t hb1])
      have loop : ∀ (k i : Nat) (n : Int), i + k = p.length → n = dgV 0 (p.take i) → (p.take i).all dgC = true → (i = 0 ∨ p.length ≤ 5) → radrl49 s (fun a b => (a, b) = parS s) (k + 1) n (i : Int) := by
       intro k
       induction k with
       | zero =>
        intro i n h1 hn1 hall hor
        rw [List.take_of_length_le (by omega)] at hn1 hall
        unfold radrl49 radrl49b
        rw [hV1, ha, show List.drop (Int.toNat 1) (prtS a [58]).2 = p from c4.trans hpe, hil]
        refine ⟨fun h => by have := of_decide_eq_true h; omega, fun _ => ?_⟩
        by_cases hpn : p = []
        ·have h0 : n = 0 := by rw [hn1, hpn]; rfl
         subst h0
         refine ⟨fun _ => hbad (by rw [badP_eq, hpn]; rfl), fun h => ?_⟩
         cases h
        ·have hl5 : p.length ≤ 5 := by
          rcases hor with h | h
          ·exact absurd (List.eq_nil_of_length_eq_zero (by omega)) hpn
          ·exact h
         have hnb : badP p = false := by
          rw [badP_eq, hall, show (p == []) = false by simpa using hpn, decide_eq_false (by omega)]; rfl
         have hat := atoi_dg hpn hall hl5
         have hbn : badN n = !(rbetM n 1 65535) := by
          rw [bet_eq]
          unfold badN
          rw [Bool.not_and, show (!(decide (1 ≤ n))) = decide (n < 1) by rw [← decide_not]; exact decide_eq_decide.2 (by omega), show (!(decide (n ≤ 65535))) = decide (n > 65535) by rw [← decide_not]; exact decide_eq_decide.2 (by omega)]
         rw [hnb, if_f rfl, hat] at hP
         change parP s = if badN (dgV 0 p) = true then _ else (true, ((schS s).1, lowS hh, (if ((dgV 0 p) != uownM (schS s).1) = true then dgV 0 p else 0), [], [], false, [], false)) at hP
         rw [← hn1] at hP
         refine ⟨fun h => hK3 (by rw [hP, if_pos (by rw [hbn]; exact h)]), fun h => ?_⟩
         have hbf : badN n = false := by rw [hbn]; exact h
         rw [if_f hbf, own_port _ _ hbf] at hP
         have j78 : radrj78 s (fun a b => (a, b) = parS s) n := by
          have hV3 : radrV2 s n = ((!(((schS s).1 == [104, 116, 116, 112]) && (n == 80))) && (!(((schS s).1 == [104, 116, 116, 112, 115]) && (n == 443)))) := by unfold radrV2; rw [hr]
          refine ⟨fun h3 => ?_, fun h3 => ?_⟩
          ·rw [hV3] at h3
           rw [if_t h3] at hP
           exact j39 n hP
          ·rw [hV3] at h3
           rw [if_f h3] at hP
           exact j39 0 hP
         exact ⟨fun _ => j78, fun _ => j78⟩
       | succ k ih =>
        intro i n h1 hn1 hall hor
        have hi : i < p.length := by omega
        have hg := ints_getD p i hi
        unfold radrl49 radrl49b
        rw [hV1, ha, show List.drop (Int.toNat 1) (prtS a [58]).2 = p from c4.trans hpe, hil, Int.toNat_natCast, hg, (dg_byte (p.getD i 0)).1]
        refine ⟨fun _ => ⟨by omega, by omega, fun h => hbad ?_, fun h => ?_⟩, fun h => by have := of_decide_eq_false h; omega⟩
        ·rw [badP_eq]
         rw [Bool.or_eq_true] at h
         rcases h with h | h
         ·have : p.all dgC = false := by
           cases hx : p.all dgC with
           | false => rfl
           | true =>
            have hm : p.getD i 0 ∈ p := by
             rw [List.getD_eq_getElem?_getD, List.getElem?_eq_getElem hi]; exact List.getElem_mem hi
            have := List.all_eq_true.1 hx _ hm
            rw [this] at h; cases h
          rw [this]; simp
         ·have := of_decide_eq_true h
          rw [decide_eq_true (show p.length > 5 by omega)]; simp
        ·rw [Bool.or_eq_false_iff] at h
         have hdg : dgC (p.getD i 0) = true := by simpa using h.1
         have hl5 := of_decide_eq_false h.2
         have hb := dg_small hall (by rw [List.length_take]; omega)
         rw [← hn1] at hb
         rw [dg_wrap hb.1 hb.2 hdg, w64 (by omega)]
         refine ih (i + 1) _ (by omega) ?_ ?_ (.inr (by omega))
         ·rw [take_snoc hi, dgV_snoc, ← hn1]
         ·rw [take_snoc hi, List.all_append, hall, List.all_cons, hdg]; rfl
      exact ⟨_, loop p.length 0 0 (by omega) rfl rfl (.inl rfl)⟩
     ·have hhas : (cutS a [58]).2.2 = false := by rw [← c3]; exact hn
      rw [hhas, if_t (show (!false) = true from rfl)] at hP
      exact j39 0 hP
  refine ⟨(fun h => by rw [hr] at h; cases h), fun _ => ⟨by omega, ?_, by omega, j16⟩⟩
  rw [hr]
  show ((schS s).1.length : Int) ≤ _
  omega
theorem radr_c {g : Ghost} (xs : Bs) (hG0 : SomeInt g 0)  : CallsH Tryz.prog 10 #[sv xs] g [] (fun g' H' v => ∃ (ar0_0 : Option Addr) (cr0_0 : Nat), v = .tuple #[.agg #[sv ((parS xs).1.1), sv ((parS xs).1.2.1), .int .i64 (parS xs).1.2.2.1, .slice ar0_0 (parS xs).1.2.2.2.1.length cr0_0, sv ((parS xs).1.2.2.2.2.1), .bool (parS xs).1.2.2.2.2.2.1, sv ((parS xs).1.2.2.2.2.2.2.1), .bool (parS xs).1.2.2.2.2.2.2.2], .int .i64 (parS xs).2] ∧ Rep g' (.slice (.str)) [.slice ar0_0 (parS xs).1.2.2.2.1.length cr0_0] (parS xs).1.2.2.2.1 ∧ H' = []) :=
 (radr_ok xs hG0 _ (radr_F xs)).mono (by rintro g' H' v _ ⟨r0, r1, ar0_0, cr0_0, rfl, hRr0_0, rfl, hK⟩; obtain ⟨rfl, rfl⟩ : r0 = (parS xs).1 ∧ r1 = (parS xs).2 := ⟨congrArg (fun z => z.1) hK, congrArg (fun z => z.2) hK⟩; exact ⟨ar0_0, cr0_0, rfl, hRr0_0, rfl⟩)
end
end Go.Proofs.YtdjcgbejnpbjlaaGreatDoor.Ub
