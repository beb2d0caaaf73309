/- strings.Index. -/
import Derived.Test.YtcnhdkhkadiohaaGreatDoorCsu
import Derived.Test.YtcnhdkhkadiohaaGreatDoorLaid
namespace Go.Proofs.YtcnhdkhkadiohaaGreatDoor.Css
open Go Go.Eng Go.RowKit Bld Trm
set_option maxHeartbeats 4000000
set_option maxRecDepth 100000
set_option linter.unusedSimpArgs false
set_option linter.unusedVariables false
def idxS (s sub : Bs) : Int := Lib.index s sub
def idxP (s _ : Bs) : Prop := s.length < 4294967281
theorem idx_c {g : Ghost} (s sub : Bs) (hG : SomeInt g 0) (hp : idxP s sub) : CallsG Tryz.prog 63 #[sv s, sv sub] g (.int .i64 (idxS s sub)) := fun W hW => by
 obtain ⟨cs, T, fz, m, h1, h2⟩ := hG
 refine (Tryz.strings_Index ⟨⟨s⟩⟩ ⟨⟨sub⟩⟩ m W hp (by rw [Lib.cell_of_heap (hW _ _ h1)]; exact h2)).mono fun e W' ⟨he, hw⟩ => ⟨he, by subst hw; exact Below.refl _ _⟩
def firstV0 (xs : Bs) : Bs :=
 (if (decide ((idxS (cpM xs ([47, 42] : Bs)).1 ([42, 47] : Bs)) ≥ 0)) = true then xs.take (Int.toNat (w6 ((idxS (cpM xs ([47, 42] : Bs)).1 ([42, 47] : Bs)) + 4))) else xs)
def firstV1 (xs : Bs) (e10 : UInt8) : Bool :=
 (((e10.toNat : Int) == 35) && ((decide ((xs.length : Int) > 1)) && ((signM ((xs.getD (Int.toNat 1) 0).toNat : Int)) || (escM (xs.drop (Int.toNat 1))))))
def firstV2 (xs : Bs) (e10 : UInt8) : Bool :=
 (((e10.toNat : Int) == 64) && (begM (xs.drop (Int.toNat 1))))
def firstV3 (xs : Bs) : Int :=
 (if (hpM (xs.drop (Int.toNat (((namedM 1 xs 0).2.1).length : Int))) ([40] : Bs)) = true then 2 else (namedM 1 xs 0).1)
def firstV4 (xs : Bs) : Bs :=
 (if (hpM (xs.drop (Int.toNat (((namedM 1 xs 0).2.1).length : Int))) ([40] : Bs)) = true then xs.take (Int.toNat (w6 ((((namedM 1 xs 0).2.1).length : Int) + 1))) else (namedM 1 xs 0).2.1)
def firstV5 (e10 : UInt8) : Bool :=
 (((e10.toNat : Int) == 40) || (((e10.toNat : Int) == 91) || ((e10.toNat : Int) == 123)))
def firstV6 (e10 : UInt8) : Bool :=
 (((e10.toNat : Int) == 41) || (((e10.toNat : Int) == 93) || ((e10.toNat : Int) == 125)))
def firstj21 (xs : Bs) (K : (Int × Bs × Bs × Int) → Prop) : Prop :=
 K (9, (firstV0 xs), ([] : Bs), 0)
def firstj72 (xs : Bs) (K : (Int × Bs × Bs × Int) → Prop) : Prop :=
 K ((firstV3 xs), (firstV4 xs), (namedM 1 xs 0).2.2.1, (namedM 1 xs 0).2.2.2)
def firstj102 (xs : Bs) (K : (Int × Bs × Bs × Int) → Prop) (e10 : UInt8) : Prop :=
 (((firstV6 e10)) = true → (0 : Int) ≤ 0 ∧ (0 : Int) ≤ 1 ∧ 1 ≤ (xs.length : Int) ∧ K (11, xs.take (Int.toNat 1), ([] : Bs), 0)) ∧ (((firstV6 e10)) = false → ((((e10.toNat : Int) == 92)) = true → (0 : Int) ≤ 0 ∧ (0 : Int) ≤ 1 ∧ 1 ≤ (xs.length : Int) ∧ K (6, xs.take (Int.toNat 1), ([] : Bs), 0)) ∧ ((((e10.toNat : Int) == 92)) = false → (0 : Int) ≤ 0 ∧ (0 : Int) ≤ 1 ∧ 1 ≤ (xs.length : Int) ∧ K (12, xs.take (Int.toNat 1), ([] : Bs), 0)))
def firstj88 (xs : Bs) (K : (Int × Bs × Bs × Int) → Prop) (e10 : UInt8) : Prop :=
 (((firstV5 e10)) = true → (0 : Int) ≤ 0 ∧ (0 : Int) ≤ 1 ∧ 1 ≤ (xs.length : Int) ∧ K (10, xs.take (Int.toNat 1), ([] : Bs), 0)) ∧ (((firstV5 e10)) = false → ((((e10.toNat : Int) == 41)) = true → firstj102 xs K e10) ∧ ((((e10.toNat : Int) == 41)) = false → ((((e10.toNat : Int) == 93)) = true → firstj102 xs K e10) ∧ ((((e10.toNat : Int) == 93)) = false → firstj102 xs K e10)))
def firstj49 (xs : Bs) (K : (Int × Bs × Bs × Int) → Prop) (e10 : UInt8) : Prop :=
 (((firstV2 xs e10)) = true → namedP 3 xs 1 ∧ K ((namedM 3 xs 1).1, (namedM 3 xs 1).2.1, (namedM 3 xs 1).2.2.1, (namedM 3 xs 1).2.2.2)) ∧ (((firstV2 xs e10)) = false → nameP xs ∧ ((decide ((numS xs).2 > 0)) = true → numberP xs (numS xs).1 (numS xs).2 ∧ K ((numberM xs (numS xs).1 (numS xs).2).1, (numberM xs (numS xs).1 (numS xs).2).2.1, (numberM xs (numS xs).1 (numS xs).2).2.2.1, (numberM xs (numS xs).1 (numS xs).2).2.2.2)) ∧ ((decide ((numS xs).2 > 0)) = false → (((begM xs)) = true → namedP 1 xs 0 ∧ (0 : Int) ≤ (((namedM 1 xs 0).2.1).length : Int) ∧ ((((namedM 1 xs 0).2.1).length : Int) : Int) ≤ (xs.length : Int) ∧ (xs.length : Int) ≤ (xs.length : Int) ∧ (((hpM (xs.drop (Int.toNat (((namedM 1 xs 0).2.1).length : Int))) ([40] : Bs))) = true → (0 : Int) ≤ 0 ∧ (0 : Int) ≤ (w6 ((((namedM 1 xs 0).2.1).length : Int) + 1)) ∧ (w6 ((((namedM 1 xs 0).2.1).length : Int) + 1)) ≤ (xs.length : Int) ∧ firstj72 xs K) ∧ (((hpM (xs.drop (Int.toNat (((namedM 1 xs 0).2.1).length : Int))) ([40] : Bs))) = false → firstj72 xs K)) ∧ (((begM xs)) = false → ((((e10.toNat : Int) == 40)) = true → firstj88 xs K e10) ∧ ((((e10.toNat : Int) == 40)) = false → ((((e10.toNat : Int) == 91)) = true → firstj88 xs K e10) ∧ ((((e10.toNat : Int) == 91)) = false → firstj88 xs K e10)))))
def firstj43 (xs : Bs) (K : (Int × Bs × Bs × Int) → Prop) (e10 : UInt8) : Prop :=
 (((firstV1 xs e10)) = true → namedP 4 xs 1 ∧ K ((namedM 4 xs 1).1, (namedM 4 xs 1).2.1, (namedM 4 xs 1).2.2.1, (namedM 4 xs 1).2.2.2)) ∧ (((firstV1 xs e10)) = false → ((((e10.toNat : Int) == 64)) = true → (0 : Int) ≤ 1 ∧ (1 : Int) ≤ (xs.length : Int) ∧ (xs.length : Int) ≤ (xs.length : Int) ∧ firstj49 xs K e10) ∧ ((((e10.toNat : Int) == 64)) = false → firstj49 xs K e10))
def firstF (xs : Bs) (K : (Int × Bs × Bs × Int) → Prop) : Prop :=
 tlP xs ([32, 9, 10, 12, 13] : Bs) ∧ ((decide ((w6 ((xs.length : Int) - ((tlS xs ([32, 9, 10, 12, 13] : Bs)).length : Int))) > 0)) = true → (0 : Int) ≤ 0 ∧ (0 : Int) ≤ (w6 ((xs.length : Int) - ((tlS xs ([32, 9, 10, 12, 13] : Bs)).length : Int))) ∧ (w6 ((xs.length : Int) - ((tlS xs ([32, 9, 10, 12, 13] : Bs)).length : Int))) ≤ (xs.length : Int) ∧ K (8, xs.take (Int.toNat (w6 ((xs.length : Int) - ((tlS xs ([32, 9, 10, 12, 13] : Bs)).length : Int)))), ([] : Bs), 0)) ∧ ((decide ((w6 ((xs.length : Int) - ((tlS xs ([32, 9, 10, 12, 13] : Bs)).length : Int))) > 0)) = false → ((cpM xs ([47, 42] : Bs)).2 = true → idxP (cpM xs ([47, 42] : Bs)).1 ([42, 47] : Bs) ∧ ((decide ((idxS (cpM xs ([47, 42] : Bs)).1 ([42, 47] : Bs)) ≥ 0)) = true → (0 : Int) ≤ 0 ∧ (0 : Int) ≤ (w6 ((idxS (cpM xs ([47, 42] : Bs)).1 ([42, 47] : Bs)) + 4)) ∧ (w6 ((idxS (cpM xs ([47, 42] : Bs)).1 ([42, 47] : Bs)) + 4)) ≤ (xs.length : Int) ∧ firstj21 xs K) ∧ ((decide ((idxS (cpM xs ([47, 42] : Bs)).1 ([42, 47] : Bs)) ≥ 0)) = false → firstj21 xs K)) ∧ ((cpM xs ([47, 42] : Bs)).2 = false → (0 : Int) ≤ 0 ∧ Int.toNat 0 < xs.length ∧ ((((((xs.getD (Int.toNat 0) 0).toNat : Int) == 39) || (((xs.getD (Int.toNat 0) 0).toNat : Int) == 34))) = true → textP xs ∧ K ((textS xs).1, (textS xs).2.1, (textS xs).2.2.1, (textS xs).2.2.2)) ∧ ((((((xs.getD (Int.toNat 0) 0).toNat : Int) == 39) || (((xs.getD (Int.toNat 0) 0).toNat : Int) == 34))) = false → (((((xs.getD (Int.toNat 0) 0).toNat : Int) == 35)) = true → ((decide ((xs.length : Int) > 1)) = true → (0 : Int) ≤ 1 ∧ Int.toNat 1 < xs.length ∧ (((signM ((xs.getD (Int.toNat 1) 0).toNat : Int))) = true → firstj43 xs K (xs.getD (Int.toNat 0) 0)) ∧ (((signM ((xs.getD (Int.toNat 1) 0).toNat : Int))) = false → (0 : Int) ≤ 1 ∧ (1 : Int) ≤ (xs.length : Int) ∧ (xs.length : Int) ≤ (xs.length : Int) ∧ firstj43 xs K (xs.getD (Int.toNat 0) 0))) ∧ ((decide ((xs.length : Int) > 1)) = false → firstj43 xs K (xs.getD (Int.toNat 0) 0))) ∧ (((((xs.getD (Int.toNat 0) 0).toNat : Int) == 35)) = false → firstj43 xs K (xs.getD (Int.toNat 0) 0)))))
theorem first_ok {g : Ghost} (xs : Bs) (hG0 : SomeInt g 0) (K : (Int × Bs × Bs × Int) → Prop)
  (hF : firstF xs K) : CallsH Tryz.prog 43 #[sv xs] g [] (fun g' H' v => ∃ (r0 : Int × Bs × Bs × Int), v = .agg #[.int .i64 r0.1, sv r0.2.1, sv r0.2.2.1, .int .i64 r0.2.2.2] ∧ H' = [] ∧ K r0) := by
 refine CallsH.enter 132 [(0, sv xs)] Tryz.func43 rfl (by kernel_rfl) (by kernel_rfl) (by kernel_rfl) fun w0 => ?_
 refine Ok.seq (Ok.region (Ok.op rfl (OpOk.box (v := sv xs) (cs := #[sv xs]) rfl (by kernel_rfl) rfl fun bs1 => ?_)))
 refine Ok.op rfl (OpOk.alloc (z := .agg #[.int .i64 0, sv ([] : Bs), sv ([] : Bs), .int .i64 0]) (cs := #[.int .i64 0, sv ([] : Bs), sv ([] : Bs), .int .i64 0]) (by kernel_rfl) (by kernel_rfl) rfl fun bs2 => ?_)
 refine Ok.nil (Ok.thenN (Ok.seq (Ok.region (Ok.batch 2 [(1, pv bs1 0), (2, pv bs2 0), (3, .func (.func 60) #[] #[pv bs1 0])] (by kernel_rfl) (Ok.nil (Ok.thenN (Ok.seq (Ok.seq (Ok.quiet' (by kernel_rfl) (by kernel_rfl) (OkQ.op rfl (OpQ.step (v := sv xs) (Yields.load 1 rfl rfl Tryz.underlying9 rfl (by kernel_rfl)) rfl rfl (OkQ.bat 1 [1, 2, 3] [(15, .int .i64 (xs.length : Int))] ?_))))))))))))
 refine OkQ.op rfl (OpQ.step (v := sv xs) (Yields.load 1 rfl rfl Tryz.underlying9 rfl (by kernel_rfl)) rfl rfl ?_)
 obtain ⟨hp3, hF⟩ := hF
 refine OkQ.op rfl (OpQ.callG (v := sv (tlS xs ([32, 9, 10, 12, 13] : Bs))) enr (fun W hW => tl_c xs ([32, 9, 10, 12, 13] : Bs) hp3) rfl ?_)
 refine OkQ.bat 3 [1, 2, 3] [(4, .int .i64 (w6 ((xs.length : Int) - ((tlS xs ([32, 9, 10, 12, 13] : Bs)).length : Int))))] ?_
 refine OkQ.nil (Ok.thenN (Ok.seq (Ok.region (Ok.bat 2 [1, 2, 3, 4] [(21, .bool (decide ((w6 ((xs.length : Int) - ((tlS xs ([32, 9, 10, 12, 13] : Bs)).length : Int))) > 0)))] ?_))))
 refine Ok.nil (Ok.thenN (Ok.cond (b := decide ((w6 ((xs.length : Int) - ((tlS xs ([32, 9, 10, 12, 13] : Bs)).length : Int))) > 0)) rfl (fun hc4 => ?_) (fun hc4 => ?_)))
 ·replace hF := hF.1 hc4
  refine Ok.seq (Ok.region (Ok.op rfl (OpOk.step (v := sv xs) (Yields.load 1 rfl rfl Tryz.underlying9 rfl (by kernel_rfl)) rfl rfl (Ok.bat 1 [2] [(22, sv xs), (23, .int .i64 (w6 ((xs.length : Int) - ((tlS xs ([32, 9, 10, 12, 13] : Bs)).length : Int))))] ?_))))
  obtain ⟨h05, h15, h25, hF⟩ := hF
  refine Ok.op rfl (OpOk.step (v := sv (xs.take (Int.toNat (w6 ((xs.length : Int) - ((tlS xs ([32, 9, 10, 12, 13] : Bs)).length : Int)))))) (Yields.sliceStr (s := xs) (l := 0) (h := (w6 ((xs.length : Int) - ((tlS xs ([32, 9, 10, 12, 13] : Bs)).length : Int)))) (by kernel_rfl) Tryz.underlying9 (.inr ⟨rfl, rfl⟩) (.inl ⟨_, _, rfl, rfl⟩) h05 h15 h25 (xs.take (Int.toNat (w6 ((xs.length : Int) - ((tlS xs ([32, 9, 10, 12, 13] : Bs)).length : Int))))) (by simp)) rfl rfl (Ok.bat 1 [2] [(25, .agg #[.int .i64 8, sv (xs.take (Int.toNat (w6 ((xs.length : Int) - ((tlS xs ([32, 9, 10, 12, 13] : Bs)).length : Int))))), sv ([] : Bs), .int .i64 0])] ?_))
  refine Ok.op rfl (OpOk.sto (k := 4) (v := .agg #[.int .i64 8, sv (xs.take (Int.toNat (w6 ((xs.length : Int) - ((tlS xs ([32, 9, 10, 12, 13] : Bs)).length : Int))))), sv ([] : Bs), .int .i64 0]) 0 #[.int .i64 8, sv (xs.take (Int.toNat (w6 ((xs.length : Int) - ((tlS xs ([32, 9, 10, 12, 13] : Bs)).length : Int))))), sv ([] : Bs), .int .i64 0] rfl rfl rfl ?_)
  refine Ok.nil (Ok.thenN (Ok.ret (Ok.thenR ?_)))
  exact Ok.resP (vs := [.agg #[.int .i64 8, sv (xs.take (Int.toNat (w6 ((xs.length : Int) - ((tlS xs ([32, 9, 10, 12, 13] : Bs)).length : Int))))), sv ([] : Bs), .int .i64 0]]) [] [] (by decide) rfl (.inl rfl) rfl (.cons (.cellAgg 0 4 #[.int .i64 8, sv (xs.take (Int.toNat (w6 ((xs.length : Int) - ((tlS xs ([32, 9, 10, 12, 13] : Bs)).length : Int))))), sv ([] : Bs), .int .i64 0] rfl rfl Tryz.underlying78 rfl (by kernel_rfl) (by kernel_rfl) (by kernel_rfl)) .nil) (Gext.refl w0 g) ⟨(8, xs.take (Int.toNat (w6 ((xs.length : Int) - ((tlS xs ([32, 9, 10, 12, 13] : Bs)).length : Int)))), ([] : Bs), 0), rfl, rfl, hF⟩
 ·replace hF := hF.2 hc4
  refine Ok.skip (Ok.thenN (Ok.seq (Ok.seq (Ok.region (Ok.op rfl (OpOk.step (v := sv xs) (Yields.load 1 rfl rfl Tryz.underlying9 rfl (by kernel_rfl)) rfl rfl (Ok.op rfl (OpOk.callG (v := .tuple #[sv ((cpM xs ([47, 42] : Bs)).1), .bool (cpM xs ([47, 42] : Bs)).2]) enr (fun W hW => cp_c xs ([47, 42] : Bs)) rfl ?_))))))))
  refine Ok.bat 5 [1, 2, 3] [(5, sv ((cpM xs ([47, 42] : Bs)).1)), (6, .bool (cpM xs ([47, 42] : Bs)).2)] ?_
  refine Ok.nil (Ok.thenN (Ok.seq (Ok.region (Ok.bat 1 [1, 2, 3, 5] [(31, .bool (cpM xs ([47, 42] : Bs)).2)] ?_))))
  refine Ok.nil (Ok.thenN (Ok.cond (b := (cpM xs ([47, 42] : Bs)).2) rfl (fun hc6 => ?_) (fun hc6 => ?_)))
  ·replace hF := hF.1 hc6
   refine Ok.cut (fun a W => StA 132 [(1, pv bs1 0), (2, pv bs2 0)] a ∧ StW w0 [.blk bs2 (.cells #[.int .i64 0, sv ([] : Bs), sv ([] : Bs), .int .i64 0] 78), .blk bs1 (.cells #[sv (firstV0 xs)] 9)] g W ∧ firstj21 xs K) ?_ ?_
   ·
    refine Ok.seq (Ok.region (Ok.bat 1 [1, 2] [(32, sv ((cpM xs ([47, 42] : Bs)).1))] ?_))
    obtain ⟨hp7, hF⟩ := hF
    refine Ok.op rfl (OpOk.callG (v := .int .i64 (idxS (cpM xs ([47, 42] : Bs)).1 ([42, 47] : Bs))) enr (fun W hW => idx_c (cpM xs ([47, 42] : Bs)).1 ([42, 47] : Bs) (hG0.mono hW.sees) hp7) rfl ?_)
    refine Ok.bat 1 [1, 2] [(7, .int .i64 (idxS (cpM xs ([47, 42] : Bs)).1 ([42, 47] : Bs)))] ?_
    refine Ok.nil (Ok.thenN (Ok.seq (Ok.region (Ok.bat 2 [1, 2, 7] [(35, .bool (decide ((idxS (cpM xs ([47, 42] : Bs)).1 ([42, 47] : Bs)) ≥ 0)))] ?_))))
    refine Ok.nil (Ok.thenN (Ok.cond (b := decide ((idxS (cpM xs ([47, 42] : Bs)).1 ([42, 47] : Bs)) ≥ 0)) rfl (fun hc8 => ?_) (fun hc8 => ?_)))
    ·replace hF := hF.1 hc8
     refine Ok.region (Ok.op rfl (OpOk.step (v := sv xs) (Yields.load 1 rfl rfl Tryz.underlying9 rfl (by kernel_rfl)) rfl rfl (Ok.bat 2 [1, 2] [(36, sv xs), (38, .int .i64 (w6 ((idxS (cpM xs ([47, 42] : Bs)).1 ([42, 47] : Bs)) + 4)))] ?_)))
     obtain ⟨h09, h19, h29, hF⟩ := hF
     refine Ok.op rfl (OpOk.step (v := sv (xs.take (Int.toNat (w6 ((idxS (cpM xs ([47, 42] : Bs)).1 ([42, 47] : Bs)) + 4))))) (Yields.sliceStr (s := xs) (l := 0) (h := (w6 ((idxS (cpM xs ([47, 42] : Bs)).1 ([42, 47] : Bs)) + 4))) (by kernel_rfl) Tryz.underlying9 (.inr ⟨rfl, rfl⟩) (.inl ⟨_, _, rfl, rfl⟩) h09 h19 h29 (xs.take (Int.toNat (w6 ((idxS (cpM xs ([47, 42] : Bs)).1 ([42, 47] : Bs)) + 4)))) (by simp)) rfl rfl (Ok.op rfl (OpOk.sto (k := 1) (v := sv (xs.take (Int.toNat (w6 ((idxS (cpM xs ([47, 42] : Bs)).1 ([42, 47] : Bs)) + 4))))) 1 #[sv (xs.take (Int.toNat (w6 ((idxS (cpM xs ([47, 42] : Bs)).1 ([42, 47] : Bs)) + 4))))] rfl rfl rfl ?_)))
     refine Ok.nil (Ok.thenN (Ok.heapEq (H' := [.blk bs2 (.cells #[.int .i64 0, sv ([] : Bs), sv ([] : Bs), .int .i64 0] 78), .blk bs1 (.cells #[sv (firstV0 xs)] 9)]) (econs (rfl) (econs (congrArg (fun l : List Value => Ent.blk bs1 (.cells ⟨l⟩ 9)) (lcons (congrArg ((fun s : Bs => Value.string ⟨⟨s⟩⟩)) ((if_t hc8).symm)) rfl)) rfl)) ?_))
     exact fun a W hA hW => ⟨hA.sub (by kernel_rfl), hW, hF⟩
    ·replace hF := hF.2 hc8
     refine Ok.skip (Ok.thenN (Ok.heapEq (H' := [.blk bs2 (.cells #[.int .i64 0, sv ([] : Bs), sv ([] : Bs), .int .i64 0] 78), .blk bs1 (.cells #[sv (firstV0 xs)] 9)]) (econs (rfl) (econs (congrArg (fun l : List Value => Ent.blk bs1 (.cells ⟨l⟩ 9)) (lcons (congrArg ((fun s : Bs => Value.string ⟨⟨s⟩⟩)) ((if_f hc8).symm)) rfl)) rfl)) ?_))
     exact fun a W hA hW => ⟨hA.sub (by kernel_rfl), hW, hF⟩
   ·
    clear hF
    rintro a W ⟨hA, hW, hF⟩
    refine (?_ : Ok _ _ _ _ _ _) a W hA hW
    clear hA hW
    refine Ok.seq (Ok.region (Ok.op rfl (OpOk.step (v := sv (firstV0 xs)) (Yields.load 1 rfl rfl Tryz.underlying9 rfl (by kernel_rfl)) rfl rfl (Ok.bat 1 [2] [(41, .agg #[.int .i64 9, sv (firstV0 xs), sv ([] : Bs), .int .i64 0])] ?_))))
    refine Ok.op rfl (OpOk.sto (k := 4) (v := .agg #[.int .i64 9, sv (firstV0 xs), sv ([] : Bs), .int .i64 0]) 0 #[.int .i64 9, sv (firstV0 xs), sv ([] : Bs), .int .i64 0] rfl rfl rfl ?_)
    refine Ok.nil (Ok.thenN (Ok.ret (Ok.thenR ?_)))
    exact Ok.resP (vs := [.agg #[.int .i64 9, sv (firstV0 xs), sv ([] : Bs), .int .i64 0]]) [] [] (by decide) rfl (.inl rfl) rfl (.cons (.cellAgg 0 4 #[.int .i64 9, sv (firstV0 xs), sv ([] : Bs), .int .i64 0] rfl rfl Tryz.underlying78 rfl (by kernel_rfl) (by kernel_rfl) (by kernel_rfl)) .nil) (Gext.refl w0 g) ⟨(9, (firstV0 xs), ([] : Bs), 0), rfl, rfl, hF⟩
  ·replace hF := hF.2 hc6
   refine Ok.skip (Ok.thenN (Ok.seq (Ok.seq (Ok.region (Ok.op rfl (OpOk.step (v := sv xs) (Yields.load 1 rfl rfl Tryz.underlying9 rfl (by kernel_rfl)) rfl rfl ?_))))))
   obtain ⟨h010, h110, hF⟩ := hF
   have he10 := get_of (l := xs) (0 : UInt8) h110
   generalize hg10 : (xs.getD (Int.toNat 0) 0) = e10 at he10 hF ⊢
   refine Ok.op rfl (OpOk.step (v := .int .u8 (e10.toNat : Int)) (Yields.indexStr (k := .i64) (i := 0) (s := xs) (b := e10) (by kernel_rfl) (by kernel_rfl) Tryz.underlying9 h010 he10) rfl rfl (Ok.bat 1 [1, 2, 3] [(8, .int .u8 (e10.toNat : Int))] ?_))
   refine Ok.nil (Ok.thenN (Ok.block (Ok.seq (Ok.region (Ok.bat 3 [1, 2, 3, 8] [(47, .bool ((e10.toNat : Int) == 39))] ?_)))))
   refine Ok.midway 3 [(1, pv bs1 0), (2, pv bs2 0), (3, .func (.func 60) #[] #[pv bs1 0]), (8, .int .u8 (e10.toNat : Int)), (50, .bool (((e10.toNat : Int) == 39) || ((e10.toNat : Int) == 34)))] (fun hR11 => ?_) ?_
   ·refine Ok.boolAt 47 (((e10.toNat : Int) == 39)) rfl (fun hc12 => ?_) (fun hc12 => ?_)
    ·skip
     refine Ok.bat 3 [1, 2, 3, 8] [(50, .bool true)] ?_
     refine Ok.reval 50 rfl (show (.bool true : Value) = .bool (((e10.toNat : Int) == 39) || ((e10.toNat : Int) == 34)) from congrArg Value.bool (mor_t hc12)) (Ok.bat 0 [1, 2, 3, 8] [(50, .bool (((e10.toNat : Int) == 39) || ((e10.toNat : Int) == 34)))] ?_)
     exact hR11
    ·skip
     refine Ok.bat 3 [1, 2, 3, 8] [(50, .bool ((e10.toNat : Int) == 34))] ?_
     refine Ok.reval 50 rfl (show (.bool ((e10.toNat : Int) == 34) : Value) = .bool (((e10.toNat : Int) == 39) || ((e10.toNat : Int) == 34)) from congrArg Value.bool (mor_f hc12)) (Ok.bat 0 [1, 2, 3, 8] [(50, .bool (((e10.toNat : Int) == 39) || ((e10.toNat : Int) == 34)))] ?_)
     exact hR11
   refine Ok.bat 1 [1, 2, 3, 8] [(44, .bool (((e10.toNat : Int) == 39) || ((e10.toNat : Int) == 34)))] ?_
   refine Ok.nil (Ok.thenN (Ok.cond (b := (((e10.toNat : Int) == 39) || ((e10.toNat : Int) == 34))) rfl (fun hc13 => ?_) (fun hc13 => ?_)))
   ·replace hF := hF.1 hc13
    refine Ok.seq (Ok.region (Ok.op rfl (OpOk.step (v := sv xs) (Yields.load 1 rfl rfl Tryz.underlying9 rfl (by kernel_rfl)) rfl rfl ?_)))
    obtain ⟨hp14, hF⟩ := hF
    refine Ok.op rfl (OpOk.callG (v := .agg #[.int .i64 (textS xs).1, sv ((textS xs).2.1), sv ((textS xs).2.2.1), .int .i64 (textS xs).2.2.2]) enr (fun W hW => text_c xs hp14) rfl ?_)
    refine Ok.op rfl (OpOk.sto (k := 4) (v := .agg #[.int .i64 (textS xs).1, sv ((textS xs).2.1), sv ((textS xs).2.2.1), .int .i64 (textS xs).2.2.2]) 0 #[.int .i64 (textS xs).1, sv ((textS xs).2.1), sv ((textS xs).2.2.1), .int .i64 (textS xs).2.2.2] rfl rfl rfl ?_)
    refine Ok.nil (Ok.thenN (Ok.ret (Ok.blockR (Ok.thenR ?_))))
    exact Ok.resP (vs := [.agg #[.int .i64 (textS xs).1, sv ((textS xs).2.1), sv ((textS xs).2.2.1), .int .i64 (textS xs).2.2.2]]) [] [] (by decide) rfl (.inl rfl) rfl (.cons (.cellAgg 0 4 #[.int .i64 (textS xs).1, sv ((textS xs).2.1), sv ((textS xs).2.2.1), .int .i64 (textS xs).2.2.2] rfl rfl Tryz.underlying78 rfl (by kernel_rfl) (by kernel_rfl) (by kernel_rfl)) .nil) (Gext.refl w0 g) ⟨((textS xs).1, (textS xs).2.1, (textS xs).2.2.1, (textS xs).2.2.2), rfl, rfl, hF⟩
   ·replace hF := hF.2 hc13
    refine Ok.cut (fun a W => StA 132 [(1, pv bs1 0), (2, pv bs2 0), (3, .func (.func 60) #[] #[pv bs1 0]), (8, .int .u8 (e10.toNat : Int)), (53, .bool (firstV1 xs e10))] a ∧ StW w0 [.blk bs2 (.cells #[.int .i64 0, sv ([] : Bs), sv ([] : Bs), .int .i64 0] 78), .blk bs1 (.cells #[sv xs] 9)] g W ∧ firstj43 xs K e10) ?_ ?_
    ·
     refine Ok.region (Ok.bat 3 [1, 2, 3, 8] [(56, .bool ((e10.toNat : Int) == 35))] ?_)
     refine Ok.boolAt 56 (((e10.toNat : Int) == 35)) rfl (fun hc45 => ?_) (fun hc45 => ?_)
     ·replace hF := hF.1 hc45
      refine Ok.opYes (j := 2) (d := 56) (want := true) (b := true) rfl (by kernel_rfl) (by kernel_rfl) rfl (OpOk.step (v := sv xs) (Yields.load 1 rfl rfl Tryz.underlying9 rfl (by kernel_rfl)) rfl rfl (Ok.bat 4 [1, 2, 3, 8] [(61, .bool (decide ((xs.length : Int) > 1)))] ?_))
      refine Ok.boolAt 61 (decide ((xs.length : Int) > 1)) rfl (fun hc46 => ?_) (fun hc46 => ?_)
      ·replace hF := hF.1 hc46
       refine Ok.opYes (j := 7) (d := 61) (want := true) (b := true) rfl (by kernel_rfl) (by kernel_rfl) rfl (OpOk.step (v := sv xs) (Yields.load 1 rfl rfl Tryz.underlying9 rfl (by kernel_rfl)) rfl rfl ?_)
       obtain ⟨h047, h147, hF⟩ := hF
       have he47 := get_of (l := xs) (0 : UInt8) h147
       generalize hg47 : (xs.getD (Int.toNat 1) 0) = e47 at he47 hF ⊢
       refine Ok.opYes (j := 7) (d := 61) (want := true) (b := true) rfl (by kernel_rfl) (by kernel_rfl) rfl (OpOk.step (v := .int .u8 (e47.toNat : Int)) (Yields.indexStr (k := .i64) (i := 1) (s := xs) (b := e47) (by kernel_rfl) (by kernel_rfl) Tryz.underlying9 h047 he47) rfl rfl (Ok.opYes (j := 7) (d := 61) (want := true) (b := true) rfl (by kernel_rfl) (by kernel_rfl) rfl (OpOk.callG (v := .bool (signM (e47.toNat : Int))) enr (fun W hW => sign_c (e47.toNat : Int)) rfl ?_)))
       refine Ok.bat 1 [1, 2, 3, 8] [(61, .bool true), (65, .bool (signM (e47.toNat : Int)))] ?_
       refine Ok.boolAt 65 ((signM (e47.toNat : Int))) rfl (fun hc48 => ?_) (fun hc48 => ?_)
       ·replace hF := hF.1 hc48
        refine Ok.bat 6 [1, 2, 3, 8] [(53, .bool true)] ?_
        refine Ok.nil (Ok.thenN ?_)
        subst hg47
        refine Ok.reval 53 rfl (show (.bool true : Value) = .bool (firstV1 xs e10) from congrArg (Value.bool) ((Eq.trans ((Eq.trans (mor_t hc48) (mand_t hc46))) (mand_t hc45)))) ?_
        exact fun a W hA hW => ⟨hA.sub (by kernel_rfl), hW, hF⟩
       ·replace hF := hF.2 hc48
        refine Ok.opYes (j := 11) (d := 65) (want := false) (b := false) rfl (by kernel_rfl) (by kernel_rfl) rfl (OpOk.step (v := sv xs) (Yields.load 1 rfl rfl Tryz.underlying9 rfl (by kernel_rfl)) rfl rfl ?_)
        obtain ⟨h049, h149, h249, hF⟩ := hF
        refine Ok.opYes (j := 11) (d := 65) (want := false) (b := false) rfl (by kernel_rfl) (by kernel_rfl) rfl (OpOk.step (v := sv (xs.drop (Int.toNat 1))) (Yields.sliceStr (s := xs) (l := 1) (h := (xs.length : Int)) (by kernel_rfl) Tryz.underlying9 (.inl ⟨_, _, rfl, rfl⟩) (.inr ⟨rfl, rfl⟩) h049 h149 h249 (xs.drop (Int.toNat 1)) (by rw [show ((xs.length : Int)).toNat = xs.length from Int.toNat_natCast _, List.take_length])) rfl rfl (Ok.opYes (j := 11) (d := 65) (want := false) (b := false) rfl (by kernel_rfl) (by kernel_rfl) rfl (OpOk.callG (v := .bool (escM (xs.drop (Int.toNat 1)))) enr (fun W hW => esc_c (xs.drop (Int.toNat 1))) rfl ?_)))
        refine Ok.bat 3 [1, 2, 3, 8] [(53, .bool (escM (xs.drop (Int.toNat 1))))] ?_
        refine Ok.nil (Ok.thenN ?_)
        subst hg47
        refine Ok.reval 53 rfl (show (.bool (escM (xs.drop (Int.toNat 1))) : Value) = .bool (firstV1 xs e10) from congrArg (Value.bool) ((Eq.trans ((Eq.trans (mor_f hc48) (mand_t hc46))) (mand_t hc45)))) ?_
        exact fun a W hA hW => ⟨hA.sub (by kernel_rfl), hW, hF⟩
      ·replace hF := hF.2 hc46
       refine Ok.bat 10 [1, 2, 3, 8] [(53, .bool false)] ?_
       refine Ok.nil (Ok.thenN (Ok.reval 53 rfl (show (.bool false : Value) = .bool (firstV1 xs e10) from congrArg (Value.bool) ((Eq.trans (mand_f hc46) (mand_t hc45)))) ?_))
       exact fun a W hA hW => ⟨hA.sub (by kernel_rfl), hW, hF⟩
     ·replace hF := hF.2 hc45
      refine Ok.bat 15 [1, 2, 3, 8] [(53, .bool false)] ?_
      refine Ok.nil (Ok.thenN (Ok.reval 53 rfl (show (.bool false : Value) = .bool (firstV1 xs e10) from congrArg (Value.bool) (mand_f hc45)) ?_))
      exact fun a W hA hW => ⟨hA.sub (by kernel_rfl), hW, hF⟩
    ·
     clear hF
     rintro a W ⟨hA, hW, hF⟩
     refine (?_ : Ok _ _ _ _ _ _) a W hA hW
     clear hA hW
     refine Ok.cond (b := (firstV1 xs e10)) rfl (fun hc15 => ?_) (fun hc15 => ?_)
     ·replace hF := hF.1 hc15
      refine Ok.seq (Ok.region (Ok.op rfl (OpOk.step (v := sv xs) (Yields.load 1 rfl rfl Tryz.underlying9 rfl (by kernel_rfl)) rfl rfl ?_)))
      obtain ⟨hp16, hF⟩ := hF
      refine Ok.op rfl (OpOk.callG (v := .agg #[.int .i64 (namedM 4 xs 1).1, sv ((namedM 4 xs 1).2.1), sv ((namedM 4 xs 1).2.2.1), .int .i64 (namedM 4 xs 1).2.2.2]) enr (fun W hW => named_c 4 xs 1 hp16) rfl ?_)
      refine Ok.op rfl (OpOk.sto (k := 4) (v := .agg #[.int .i64 (namedM 4 xs 1).1, sv ((namedM 4 xs 1).2.1), sv ((namedM 4 xs 1).2.2.1), .int .i64 (namedM 4 xs 1).2.2.2]) 0 #[.int .i64 (namedM 4 xs 1).1, sv ((namedM 4 xs 1).2.1), sv ((namedM 4 xs 1).2.2.1), .int .i64 (namedM 4 xs 1).2.2.2] rfl rfl rfl ?_)
      refine Ok.nil (Ok.thenN (Ok.ret (Ok.blockR (Ok.thenR ?_))))
      exact Ok.resP (vs := [.agg #[.int .i64 (namedM 4 xs 1).1, sv ((namedM 4 xs 1).2.1), sv ((namedM 4 xs 1).2.2.1), .int .i64 (namedM 4 xs 1).2.2.2]]) [] [] (by decide) rfl (.inl rfl) rfl (.cons (.cellAgg 0 4 #[.int .i64 (namedM 4 xs 1).1, sv ((namedM 4 xs 1).2.1), sv ((namedM 4 xs 1).2.2.1), .int .i64 (namedM 4 xs 1).2.2.2] rfl rfl Tryz.underlying78 rfl (by kernel_rfl) (by kernel_rfl) (by kernel_rfl)) .nil) (Gext.refl w0 g) ⟨((namedM 4 xs 1).1, (namedM 4 xs 1).2.1, (namedM 4 xs 1).2.2.1, (namedM 4 xs 1).2.2.2), rfl, rfl, hF⟩
     ·replace hF := hF.2 hc15
      refine Ok.cut (fun a W => StA 132 [(1, pv bs1 0), (2, pv bs2 0), (3, .func (.func 60) #[] #[pv bs1 0]), (73, .bool (firstV2 xs e10))] a ∧ StW w0 [.blk bs2 (.cells #[.int .i64 0, sv ([] : Bs), sv ([] : Bs), .int .i64 0] 78), .blk bs1 (.cells #[sv xs] 9)] g W ∧ firstj49 xs K e10) ?_ ?_
      ·
       refine Ok.region (Ok.bat 3 [1, 2, 3] [(76, .bool ((e10.toNat : Int) == 64))] ?_)
       refine Ok.boolAt 76 (((e10.toNat : Int) == 64)) rfl (fun hc43 => ?_) (fun hc43 => ?_)
       ·replace hF := hF.1 hc43
        refine Ok.opYes (j := 2) (d := 76) (want := true) (b := true) rfl (by kernel_rfl) (by kernel_rfl) rfl (OpOk.step (v := sv xs) (Yields.load 1 rfl rfl Tryz.underlying9 rfl (by kernel_rfl)) rfl rfl ?_)
        obtain ⟨h044, h144, h244, hF⟩ := hF
        refine Ok.opYes (j := 2) (d := 76) (want := true) (b := true) rfl (by kernel_rfl) (by kernel_rfl) rfl (OpOk.step (v := sv (xs.drop (Int.toNat 1))) (Yields.sliceStr (s := xs) (l := 1) (h := (xs.length : Int)) (by kernel_rfl) Tryz.underlying9 (.inl ⟨_, _, rfl, rfl⟩) (.inr ⟨rfl, rfl⟩) h044 h144 h244 (xs.drop (Int.toNat 1)) (by rw [show ((xs.length : Int)).toNat = xs.length from Int.toNat_natCast _, List.take_length])) rfl rfl (Ok.opYes (j := 2) (d := 76) (want := true) (b := true) rfl (by kernel_rfl) (by kernel_rfl) rfl (OpOk.callG (v := .bool (begM (xs.drop (Int.toNat 1)))) enr (fun W hW => beg_c (xs.drop (Int.toNat 1))) rfl ?_)))
        refine Ok.bat 2 [1, 2, 3] [(73, .bool (begM (xs.drop (Int.toNat 1))))] ?_
        refine Ok.nil (Ok.thenN (Ok.reval 73 rfl (show (.bool (begM (xs.drop (Int.toNat 1))) : Value) = .bool (firstV2 xs e10) from congrArg (Value.bool) (mand_t hc43)) ?_))
        exact fun a W hA hW => ⟨hA.sub (by kernel_rfl), hW, hF⟩
       ·replace hF := hF.2 hc43
        refine Ok.bat 5 [1, 2, 3] [(73, .bool false)] ?_
        refine Ok.nil (Ok.thenN (Ok.reval 73 rfl (show (.bool false : Value) = .bool (firstV2 xs e10) from congrArg (Value.bool) (mand_f hc43)) ?_))
        exact fun a W hA hW => ⟨hA.sub (by kernel_rfl), hW, hF⟩
      ·
       clear hF
       rintro a W ⟨hA, hW, hF⟩
       refine (?_ : Ok _ _ _ _ _ _) a W hA hW
       clear hA hW
       refine Ok.cond (b := (firstV2 xs e10)) rfl (fun hc17 => ?_) (fun hc17 => ?_)
       ·replace hF := hF.1 hc17
        refine Ok.seq (Ok.region (Ok.op rfl (OpOk.step (v := sv xs) (Yields.load 1 rfl rfl Tryz.underlying9 rfl (by kernel_rfl)) rfl rfl ?_)))
        obtain ⟨hp18, hF⟩ := hF
        refine Ok.op rfl (OpOk.callG (v := .agg #[.int .i64 (namedM 3 xs 1).1, sv ((namedM 3 xs 1).2.1), sv ((namedM 3 xs 1).2.2.1), .int .i64 (namedM 3 xs 1).2.2.2]) enr (fun W hW => named_c 3 xs 1 hp18) rfl ?_)
        refine Ok.op rfl (OpOk.sto (k := 4) (v := .agg #[.int .i64 (namedM 3 xs 1).1, sv ((namedM 3 xs 1).2.1), sv ((namedM 3 xs 1).2.2.1), .int .i64 (namedM 3 xs 1).2.2.2]) 0 #[.int .i64 (namedM 3 xs 1).1, sv ((namedM 3 xs 1).2.1), sv ((namedM 3 xs 1).2.2.1), .int .i64 (namedM 3 xs 1).2.2.2] rfl rfl rfl ?_)
        refine Ok.nil (Ok.thenN (Ok.ret (Ok.blockR (Ok.thenR ?_))))
        exact Ok.resP (vs := [.agg #[.int .i64 (namedM 3 xs 1).1, sv ((namedM 3 xs 1).2.1), sv ((namedM 3 xs 1).2.2.1), .int .i64 (namedM 3 xs 1).2.2.2]]) [] [] (by decide) rfl (.inl rfl) rfl (.cons (.cellAgg 0 4 #[.int .i64 (namedM 3 xs 1).1, sv ((namedM 3 xs 1).2.1), sv ((namedM 3 xs 1).2.2.1), .int .i64 (namedM 3 xs 1).2.2.2] rfl rfl Tryz.underlying78 rfl (by kernel_rfl) (by kernel_rfl) (by kernel_rfl)) .nil) (Gext.refl w0 g) ⟨((namedM 3 xs 1).1, (namedM 3 xs 1).2.1, (namedM 3 xs 1).2.2.1, (namedM 3 xs 1).2.2.2), rfl, rfl, hF⟩
       ·replace hF := hF.2 hc17
        refine Ok.skip (Ok.blockN (Ok.thenN (Ok.seq (Ok.seq (Ok.region (Ok.op rfl (OpOk.step (v := sv xs) (Yields.load 1 rfl rfl Tryz.underlying9 rfl (by kernel_rfl)) rfl rfl ?_)))))))
        obtain ⟨hp19, hF⟩ := hF
        refine Ok.op rfl (OpOk.callG (v := .tuple #[.int .i64 (numS xs).1, .int .i64 (numS xs).2]) enr (fun W hW => numb_c xs hp19) rfl ?_)
        refine Ok.bat 5 [1, 2, 3] [(9, .int .i64 (numS xs).1), (10, .int .i64 (numS xs).2)] ?_
        refine Ok.nil (Ok.thenN (Ok.seq (Ok.region (Ok.bat 2 [1, 2, 3, 9, 10] [(89, .bool (decide ((numS xs).2 > 0)))] ?_))))
        refine Ok.nil (Ok.thenN (Ok.cond (b := decide ((numS xs).2 > 0)) rfl (fun hc20 => ?_) (fun hc20 => ?_)))
        ·replace hF := hF.1 hc20
         refine Ok.seq (Ok.region (Ok.op rfl (OpOk.step (v := sv xs) (Yields.load 1 rfl rfl Tryz.underlying9 rfl (by kernel_rfl)) rfl rfl (Ok.bat 2 [2] [(90, sv xs), (91, .int .i64 (numS xs).1), (92, .int .i64 (numS xs).2)] ?_))))
         obtain ⟨hp21, hF⟩ := hF
         refine Ok.op rfl (OpOk.callG (v := .agg #[.int .i64 (numberM xs (numS xs).1 (numS xs).2).1, sv ((numberM xs (numS xs).1 (numS xs).2).2.1), sv ((numberM xs (numS xs).1 (numS xs).2).2.2.1), .int .i64 (numberM xs (numS xs).1 (numS xs).2).2.2.2]) enr (fun W hW => number_c xs (numS xs).1 (numS xs).2 hp21) rfl ?_)
         refine Ok.op rfl (OpOk.sto (k := 4) (v := .agg #[.int .i64 (numberM xs (numS xs).1 (numS xs).2).1, sv ((numberM xs (numS xs).1 (numS xs).2).2.1), sv ((numberM xs (numS xs).1 (numS xs).2).2.2.1), .int .i64 (numberM xs (numS xs).1 (numS xs).2).2.2.2]) 0 #[.int .i64 (numberM xs (numS xs).1 (numS xs).2).1, sv ((numberM xs (numS xs).1 (numS xs).2).2.1), sv ((numberM xs (numS xs).1 (numS xs).2).2.2.1), .int .i64 (numberM xs (numS xs).1 (numS xs).2).2.2.2] rfl rfl rfl ?_)
         refine Ok.nil (Ok.thenN (Ok.ret (Ok.thenR ?_)))
         exact Ok.resP (vs := [.agg #[.int .i64 (numberM xs (numS xs).1 (numS xs).2).1, sv ((numberM xs (numS xs).1 (numS xs).2).2.1), sv ((numberM xs (numS xs).1 (numS xs).2).2.2.1), .int .i64 (numberM xs (numS xs).1 (numS xs).2).2.2.2]]) [] [] (by decide) rfl (.inl rfl) rfl (.cons (.cellAgg 0 4 #[.int .i64 (numberM xs (numS xs).1 (numS xs).2).1, sv ((numberM xs (numS xs).1 (numS xs).2).2.1), sv ((numberM xs (numS xs).1 (numS xs).2).2.2.1), .int .i64 (numberM xs (numS xs).1 (numS xs).2).2.2.2] rfl rfl Tryz.underlying78 rfl (by kernel_rfl) (by kernel_rfl) (by kernel_rfl)) .nil) (Gext.refl w0 g) ⟨((numberM xs (numS xs).1 (numS xs).2).1, (numberM xs (numS xs).1 (numS xs).2).2.1, (numberM xs (numS xs).1 (numS xs).2).2.2.1, (numberM xs (numS xs).1 (numS xs).2).2.2.2), rfl, rfl, hF⟩
        ·replace hF := hF.2 hc20
         refine Ok.skip (Ok.thenN (Ok.seq (Ok.seq (Ok.region (Ok.op rfl (OpOk.step (v := sv xs) (Yields.load 1 rfl rfl Tryz.underlying9 rfl (by kernel_rfl)) rfl rfl (Ok.op rfl (OpOk.callG (v := .bool (begM xs)) enr (fun W hW => beg_c xs) rfl ?_))))))))
         refine Ok.nil (Ok.thenN (Ok.cond (b := (begM xs)) rfl (fun hc22 => ?_) (fun hc22 => ?_)))
         ·replace hF := hF.1 hc22
          refine Ok.seq (Ok.region (Ok.op rfl (OpOk.step (v := sv xs) (Yields.load 1 rfl rfl Tryz.underlying9 rfl (by kernel_rfl)) rfl rfl ?_)))
          obtain ⟨hp23, hF⟩ := hF
          refine Ok.op rfl (OpOk.callG (v := .agg #[.int .i64 (namedM 1 xs 0).1, sv ((namedM 1 xs 0).2.1), sv ((namedM 1 xs 0).2.2.1), .int .i64 (namedM 1 xs 0).2.2.2]) enr (fun W hW => named_c 1 xs 0 hp23) rfl ?_)
          refine Ok.op rfl (OpOk.alloc (z := .agg #[.int .i64 0, sv ([] : Bs), sv ([] : Bs), .int .i64 0]) (cs := #[.int .i64 0, sv ([] : Bs), sv ([] : Bs), .int .i64 0]) (by kernel_rfl) (by kernel_rfl) rfl fun bs11 => ?_)
          refine Ok.op rfl (OpOk.sto (k := 4) (v := .agg #[.int .i64 (namedM 1 xs 0).1, sv ((namedM 1 xs 0).2.1), sv ((namedM 1 xs 0).2.2.1), .int .i64 (namedM 1 xs 0).2.2.2]) 0 #[.int .i64 (namedM 1 xs 0).1, sv ((namedM 1 xs 0).2.1), sv ((namedM 1 xs 0).2.2.1), .int .i64 (namedM 1 xs 0).2.2.2] rfl rfl rfl ?_)
          refine Ok.nil (Ok.thenN (Ok.cut (fun a W => StA 132 [(2, pv bs2 0), (11, pv bs11 0)] a ∧ StW w0 [.blk bs11 (.cells #[.int .i64 (firstV3 xs), sv (firstV4 xs), sv ((namedM 1 xs 0).2.2.1), .int .i64 (namedM 1 xs 0).2.2.2] 78), .blk bs2 (.cells #[.int .i64 0, sv ([] : Bs), sv ([] : Bs), .int .i64 0] 78)] g W ∧ firstj72 xs K) ?_ ?_))
          ·
           refine Ok.seq (Ok.region (Ok.bat 1 [1, 2] [(11, pv bs11 0), (98, pv bs11 1)] ?_))
           refine Ok.op rfl (OpOk.step (v := sv ((namedM 1 xs 0).2.1)) (Yields.load 0 rfl rfl Tryz.underlying9 rfl (by kernel_rfl)) rfl rfl (Ok.bat 2 [1, 2, 11] [(12, .int .i64 (((namedM 1 xs 0).2.1).length : Int))] ?_))
           refine Ok.nil (Ok.thenN (Ok.seq (Ok.region (Ok.op rfl (OpOk.step (v := sv xs) (Yields.load 2 rfl rfl Tryz.underlying9 rfl (by kernel_rfl)) rfl rfl (Ok.bat 1 [1, 2, 11, 12] [(101, sv xs), (102, .int .i64 (((namedM 1 xs 0).2.1).length : Int))] ?_))))))
           obtain ⟨h025, h125, h225, hF⟩ := hF
           refine Ok.op rfl (OpOk.step (v := sv (xs.drop (Int.toNat (((namedM 1 xs 0).2.1).length : Int)))) (Yields.sliceStr (s := xs) (l := (((namedM 1 xs 0).2.1).length : Int)) (h := (xs.length : Int)) (by kernel_rfl) Tryz.underlying9 (.inl ⟨_, _, rfl, rfl⟩) (.inr ⟨rfl, rfl⟩) h025 h125 h225 (xs.drop (Int.toNat (((namedM 1 xs 0).2.1).length : Int))) (by rw [show ((xs.length : Int)).toNat = xs.length from Int.toNat_natCast _, List.take_length])) rfl rfl (Ok.op rfl (OpOk.callG (v := .bool (hpM (xs.drop (Int.toNat (((namedM 1 xs 0).2.1).length : Int))) ([40] : Bs))) enr (fun W hW => hp_c (xs.drop (Int.toNat (((namedM 1 xs 0).2.1).length : Int))) ([40] : Bs)) rfl ?_)))
           refine Ok.nil (Ok.thenN (Ok.cond (b := (hpM (xs.drop (Int.toNat (((namedM 1 xs 0).2.1).length : Int))) ([40] : Bs))) rfl (fun hc26 => ?_) (fun hc26 => ?_)))
           ·replace hF := hF.1 hc26
            refine Ok.mix [] [] [.blk bs2 (.cells #[.int .i64 0, sv ([] : Bs), sv ([] : Bs), .int .i64 0] 78), .blk bs1 (.cells #[sv xs] 9)] [(0, true), (1, true), (2, true), (3, true), (4, true), (5, false), (6, true), (7, false)] (by kernel_rfl) (by kernel_rfl) (.cons _ (.cons_cons _ (.cons_cons _ .slnil))) (OkM.head rfl rfl (show _ = [.blk bs2 (.cells #[.int .i64 0, sv ([] : Bs), sv ([] : Bs), .int .i64 0] 78), .blk bs1 (.cells #[sv xs] 9)] from rfl) (OpQ.step (v := sv xs) (Yields.load 1 rfl rfl Tryz.underlying9 rfl (by kernel_rfl)) rfl rfl (OkM.bat 2 [2, 11] [(105, sv xs), (107, .int .i64 (w6 ((((namedM 1 xs 0).2.1).length : Int) + 1)))] ?_)))
            obtain ⟨h027, h127, h227, hF⟩ := hF
            refine OkM.head rfl rfl (show _ = [.blk bs2 (.cells #[.int .i64 0, sv ([] : Bs), sv ([] : Bs), .int .i64 0] 78), .blk bs1 (.cells #[sv xs] 9)] from rfl) (OpQ.step (v := sv (xs.take (Int.toNat (w6 ((((namedM 1 xs 0).2.1).length : Int) + 1))))) (Yields.sliceStr (s := xs) (l := 0) (h := (w6 ((((namedM 1 xs 0).2.1).length : Int) + 1))) (by kernel_rfl) Tryz.underlying9 (.inr ⟨rfl, rfl⟩) (.inl ⟨_, _, rfl, rfl⟩) h027 h127 h227 (xs.take (Int.toNat (w6 ((((namedM 1 xs 0).2.1).length : Int) + 1)))) (by simp)) rfl rfl (OkM.bat 1 [2, 11] [(108, sv (xs.take (Int.toNat (w6 ((((namedM 1 xs 0).2.1).length : Int) + 1))))), (109, pv bs11 0)] ?_))
            refine OkM.tail rfl rfl (OpOk.sto (k := 1) (v := .int .i64 2) 0 #[.int .i64 2, sv ((namedM 1 xs 0).2.1), sv ((namedM 1 xs 0).2.2.1), .int .i64 (namedM 1 xs 0).2.2.2] rfl rfl rfl ?_)
            refine OkM.leaf (i := 5) (show _ = [.blk bs2 (.cells #[.int .i64 0, sv ([] : Bs), sv ([] : Bs), .int .i64 0] 78), .blk bs1 (.cells #[sv xs] 9)] from rfl) (Gle.refl _) (.cons _ (.cons_cons _ (.cons_cons _ .slnil))) (OkM.bat 1 [2, 11, 108] [(110, pv bs11 1)] ?_)
            refine OkM.tail rfl rfl (OpOk.sto (k := 1) (v := sv (xs.take (Int.toNat (w6 ((((namedM 1 xs 0).2.1).length : Int) + 1))))) 0 #[.int .i64 2, sv (xs.take (Int.toNat (w6 ((((namedM 1 xs 0).2.1).length : Int) + 1)))), sv ((namedM 1 xs 0).2.2.1), .int .i64 (namedM 1 xs 0).2.2.2] rfl rfl rfl ?_)
            refine OkM.leaf (i := 7) (show _ = [.blk bs2 (.cells #[.int .i64 0, sv ([] : Bs), sv ([] : Bs), .int .i64 0] 78), .blk bs1 (.cells #[sv xs] 9)] from rfl) (Gle.refl _) (.cons _ (.cons_cons _ (.cons_cons _ .slnil))) (OkM.nil (Ok.thenN (Ok.heapEq (H' := [.blk bs11 (.cells #[.int .i64 (firstV3 xs), sv (firstV4 xs), sv ((namedM 1 xs 0).2.2.1), .int .i64 (namedM 1 xs 0).2.2.2] 78), .blk bs2 (.cells #[.int .i64 0, sv ([] : Bs), sv ([] : Bs), .int .i64 0] 78), .blk bs1 (.cells #[sv xs] 9)]) (econs (congrArg (fun l : List Value => Ent.blk bs11 (.cells ⟨l⟩ 78)) (lcons (congrArg (Value.int .i64) ((if_t hc26).symm)) (lcons (congrArg ((fun s : Bs => Value.string ⟨⟨s⟩⟩)) ((if_t hc26).symm)) (lcons (rfl) (lcons (rfl) rfl))))) (econs (rfl) (econs (rfl) rfl))) ?_)))
            exact fun a W hA hW => ⟨hA.sub (by kernel_rfl), hW.sub (.cons_cons _ (.cons_cons _ (.cons _ .slnil))), hF⟩
           ·replace hF := hF.2 hc26
            refine Ok.skip (Ok.thenN (Ok.heapEq (H' := [.blk bs11 (.cells #[.int .i64 (firstV3 xs), sv (firstV4 xs), sv ((namedM 1 xs 0).2.2.1), .int .i64 (namedM 1 xs 0).2.2.2] 78), .blk bs2 (.cells #[.int .i64 0, sv ([] : Bs), sv ([] : Bs), .int .i64 0] 78), .blk bs1 (.cells #[sv xs] 9)]) (econs (congrArg (fun l : List Value => Ent.blk bs11 (.cells ⟨l⟩ 78)) (lcons (congrArg (Value.int .i64) ((if_f hc26).symm)) (lcons (congrArg ((fun s : Bs => Value.string ⟨⟨s⟩⟩)) ((if_f hc26).symm)) (lcons (rfl) (lcons (rfl) rfl))))) (econs (rfl) (econs (rfl) rfl))) ?_))
            exact fun a W hA hW => ⟨hA.sub (by kernel_rfl), hW.sub (.cons_cons _ (.cons_cons _ (.cons _ .slnil))), hF⟩
          ·
           clear hF
           rintro a W ⟨hA, hW, hF⟩
           refine (?_ : Ok _ _ _ _ _ _) a W hA hW
           clear hA hW
           refine Ok.seq (Ok.region (Ok.op rfl (OpOk.step (v := .agg #[.int .i64 (firstV3 xs), sv (firstV4 xs), sv ((namedM 1 xs 0).2.2.1), .int .i64 (namedM 1 xs 0).2.2.2]) (Yields.loadAgg 0 4 #[.int .i64 (firstV3 xs), sv (firstV4 xs), sv ((namedM 1 xs 0).2.2.1), .int .i64 (namedM 1 xs 0).2.2.2] rfl rfl Tryz.underlying78 rfl (by kernel_rfl) (by kernel_rfl) (by kernel_rfl)) rfl rfl (Ok.op rfl (OpOk.sto (k := 4) (v := .agg #[.int .i64 (firstV3 xs), sv (firstV4 xs), sv ((namedM 1 xs 0).2.2.1), .int .i64 (namedM 1 xs 0).2.2.2]) 1 #[.int .i64 (firstV3 xs), sv (firstV4 xs), sv ((namedM 1 xs 0).2.2.1), .int .i64 (namedM 1 xs 0).2.2.2] rfl rfl rfl ?_)))))
           refine Ok.nil (Ok.thenN (Ok.ret (Ok.thenR ?_)))
           exact Ok.resP (vs := [.agg #[.int .i64 (firstV3 xs), sv (firstV4 xs), sv ((namedM 1 xs 0).2.2.1), .int .i64 (namedM 1 xs 0).2.2.2]]) [] [] (by decide) rfl (.inl rfl) rfl (.cons (.cellAgg 1 4 #[.int .i64 (firstV3 xs), sv (firstV4 xs), sv ((namedM 1 xs 0).2.2.1), .int .i64 (namedM 1 xs 0).2.2.2] rfl rfl Tryz.underlying78 rfl (by kernel_rfl) (by kernel_rfl) (by kernel_rfl)) .nil) (Gext.refl w0 g) ⟨((firstV3 xs), (firstV4 xs), (namedM 1 xs 0).2.2.1, (namedM 1 xs 0).2.2.2), rfl, rfl, hF⟩
         ·replace hF := hF.2 hc22
          refine Ok.skip (Ok.thenN (Ok.seq (Ok.seq (Ok.region (Ok.op rfl (OpOk.step (v := sv xs) (Yields.load 1 rfl rfl Tryz.underlying9 rfl (by kernel_rfl)) rfl rfl (Ok.op rfl (OpOk.step (v := .int .u8 (e10.toNat : Int)) (Yields.indexStr (k := .i64) (i := 0) (s := xs) (b := e10) (by kernel_rfl) (by kernel_rfl) Tryz.underlying9 h010 he10) rfl rfl (Ok.nil (Ok.thenN (Ok.block (Ok.cut (fun a W => StA 132 [(2, pv bs2 0), (3, .func (.func 60) #[] #[pv bs1 0]), (113, .int .u8 (e10.toNat : Int)), (114, .bool (firstV5 e10))] a ∧ StW w0 [.blk bs2 (.cells #[.int .i64 0, sv ([] : Bs), sv ([] : Bs), .int .i64 0] 78), .blk bs1 (.cells #[sv xs] 9)] g W ∧ firstj88 xs K e10) ?_ ?_))))))))))))
          ·
           refine Ok.seq (Ok.region (Ok.bat 2 [2, 3] [(113, .int .u8 (e10.toNat : Int)), (114, .bool ((e10.toNat : Int) == 40))] ?_))
           refine Ok.nil (Ok.thenN (Ok.cond (b := ((e10.toNat : Int) == 40)) rfl (fun hc41 => ?_) (fun hc41 => ?_)))
           ·replace hF := hF.1 hc41
            refine Ok.skip (Ok.thenN (Ok.reval 114 rfl (show (.bool ((e10.toNat : Int) == 40) : Value) = .bool (firstV5 e10) from congrArg (Value.bool) ((Eq.trans (hc41) (mor_t hc41)))) ?_))
            exact fun a W hA hW => ⟨hA.sub (by kernel_rfl), hW, hF⟩
           ·replace hF := hF.2 hc41
            refine Ok.seq (Ok.region (Ok.bat 2 [2, 3, 113] [(114, .bool ((e10.toNat : Int) == 91))] ?_))
            refine Ok.nil (Ok.thenN (Ok.cond (b := ((e10.toNat : Int) == 91)) rfl (fun hc42 => ?_) (fun hc42 => ?_)))
            ·replace hF := hF.1 hc42
             refine Ok.skip (Ok.thenN (Ok.reval 114 rfl (show (.bool ((e10.toNat : Int) == 91) : Value) = .bool (firstV5 e10) from congrArg (Value.bool) ((Eq.trans ((Eq.trans (hc42) (mor_t hc42))) (mor_f hc41)))) ?_))
             exact fun a W hA hW => ⟨hA.sub (by kernel_rfl), hW, hF⟩
            ·replace hF := hF.2 hc42
             refine Ok.region (Ok.bat 2 [2, 3, 113] [(114, .bool ((e10.toNat : Int) == 123))] ?_)
             refine Ok.nil (Ok.thenN (Ok.reval 114 rfl (show (.bool ((e10.toNat : Int) == 123) : Value) = .bool (firstV5 e10) from congrArg (Value.bool) ((Eq.trans (mor_f hc42) (mor_f hc41)))) ?_))
             exact fun a W hA hW => ⟨hA.sub (by kernel_rfl), hW, hF⟩
          ·
           clear hF
           rintro a W ⟨hA, hW, hF⟩
           refine (?_ : Ok _ _ _ _ _ _) a W hA hW
           clear hA hW
           refine Ok.cond (b := (firstV5 e10)) rfl (fun hc28 => ?_) (fun hc28 => ?_)
           ·replace hF := hF.1 hc28
            refine Ok.seq (Ok.region (Ok.bat 1 [2] [(118, .func (.func 60) #[] #[pv bs1 0])] ?_))
            refine Ok.op rfl (OpOk.inline (args := #[.int .i64 10, pv bs1 0]) 8 [(0, .int .i64 10), (1, pv bs1 0)] enr Tryz.func60 rfl rfl rfl rfl (Ok.seq (Ok.region (Ok.op rfl (OpOk.alloc (z := .agg #[.int .i64 0, sv ([] : Bs), sv ([] : Bs), .int .i64 0]) (cs := #[.int .i64 0, sv ([] : Bs), sv ([] : Bs), .int .i64 0]) (by kernel_rfl) (by kernel_rfl) rfl fun bs3i119 => ?_)))))
            refine Ok.nil (Ok.thenN (Ok.seq (Ok.region (Ok.batch 1 [(1, pv bs1 0), (3, pv bs3i119 0), (4, .int .i64 10)] (by kernel_rfl) (Ok.op rfl (OpOk.step (v := sv xs) (Yields.load 2 rfl rfl Tryz.underlying9 rfl (by kernel_rfl)) rfl rfl ?_))))))
            obtain ⟨h030, h130, h230, hF⟩ := hF
            refine Ok.op rfl (OpOk.step (v := sv (xs.take (Int.toNat 1))) (Yields.sliceStr (s := xs) (l := 0) (h := 1) (by kernel_rfl) Tryz.underlying9 (.inr ⟨rfl, rfl⟩) (.inl ⟨_, _, rfl, rfl⟩) h030 h130 h230 (xs.take (Int.toNat 1)) (by simp)) rfl rfl (Ok.bat 1 [3] [(7, .agg #[.int .i64 10, sv (xs.take (Int.toNat 1)), sv ([] : Bs), .int .i64 0])] ?_))
            refine Ok.op rfl (OpOk.sto (k := 4) (v := .agg #[.int .i64 10, sv (xs.take (Int.toNat 1)), sv ([] : Bs), .int .i64 0]) 0 #[.int .i64 10, sv (xs.take (Int.toNat 1)), sv ([] : Bs), .int .i64 0] rfl rfl rfl ?_)
            refine Ok.nil (Ok.thenN (Ok.ret (Ok.back (vs := [.agg #[.int .i64 10, sv (xs.take (Int.toNat 1)), sv ([] : Bs), .int .i64 0]]) (.inl rfl) rfl (.cons (.cellAgg 0 4 #[.int .i64 10, sv (xs.take (Int.toNat 1)), sv ([] : Bs), .int .i64 0] rfl rfl Tryz.underlying78 rfl (by kernel_rfl) (by kernel_rfl) (by kernel_rfl)) .nil) rfl (Ok.op rfl (OpOk.sto (k := 4) (v := .agg #[.int .i64 10, sv (xs.take (Int.toNat 1)), sv ([] : Bs), .int .i64 0]) 1 #[.int .i64 10, sv (xs.take (Int.toNat 1)), sv ([] : Bs), .int .i64 0] rfl rfl rfl ?_)))))
            refine Ok.nil (Ok.thenN (Ok.ret (Ok.blockR (Ok.thenR ?_))))
            exact Ok.resP (vs := [.agg #[.int .i64 10, sv (xs.take (Int.toNat 1)), sv ([] : Bs), .int .i64 0]]) [] [] (by decide) rfl (.inl rfl) rfl (.cons (.cellAgg 1 4 #[.int .i64 10, sv (xs.take (Int.toNat 1)), sv ([] : Bs), .int .i64 0] rfl rfl Tryz.underlying78 rfl (by kernel_rfl) (by kernel_rfl) (by kernel_rfl)) .nil) (Gext.refl w0 g) ⟨(10, xs.take (Int.toNat 1), ([] : Bs), 0), rfl, rfl, hF⟩
           ·replace hF := hF.2 hc28
            refine Ok.cut (fun a W => StA 132 [(2, pv bs2 0), (3, .func (.func 60) #[] #[pv bs1 0]), (113, .int .u8 (e10.toNat : Int)), (120, .bool (firstV6 e10))] a ∧ StW w0 [.blk bs2 (.cells #[.int .i64 0, sv ([] : Bs), sv ([] : Bs), .int .i64 0] 78), .blk bs1 (.cells #[sv xs] 9)] g W ∧ firstj102 xs K e10) ?_ ?_
            ·
             refine Ok.seq (Ok.region (Ok.bat 2 [2, 3, 113] [(120, .bool ((e10.toNat : Int) == 41))] ?_))
             refine Ok.nil (Ok.thenN (Ok.cond (b := ((e10.toNat : Int) == 41)) rfl (fun hc39 => ?_) (fun hc39 => ?_)))
             ·replace hF := hF.1 hc39
              refine Ok.skip (Ok.thenN (Ok.reval 120 rfl (show (.bool ((e10.toNat : Int) == 41) : Value) = .bool (firstV6 e10) from congrArg (Value.bool) ((Eq.trans (hc39) (mor_t hc39)))) ?_))
              exact fun a W hA hW => ⟨hA.sub (by kernel_rfl), hW, hF⟩
             ·replace hF := hF.2 hc39
              refine Ok.seq (Ok.region (Ok.bat 2 [2, 3, 113] [(120, .bool ((e10.toNat : Int) == 93))] ?_))
              refine Ok.nil (Ok.thenN (Ok.cond (b := ((e10.toNat : Int) == 93)) rfl (fun hc40 => ?_) (fun hc40 => ?_)))
              ·replace hF := hF.1 hc40
               refine Ok.skip (Ok.thenN (Ok.reval 120 rfl (show (.bool ((e10.toNat : Int) == 93) : Value) = .bool (firstV6 e10) from congrArg (Value.bool) ((Eq.trans ((Eq.trans (hc40) (mor_t hc40))) (mor_f hc39)))) ?_))
               exact fun a W hA hW => ⟨hA.sub (by kernel_rfl), hW, hF⟩
              ·replace hF := hF.2 hc40
               refine Ok.region (Ok.bat 2 [2, 3, 113] [(120, .bool ((e10.toNat : Int) == 125))] ?_)
               refine Ok.nil (Ok.thenN (Ok.reval 120 rfl (show (.bool ((e10.toNat : Int) == 125) : Value) = .bool (firstV6 e10) from congrArg (Value.bool) ((Eq.trans (mor_f hc40) (mor_f hc39)))) ?_))
               exact fun a W hA hW => ⟨hA.sub (by kernel_rfl), hW, hF⟩
            ·
             clear hF
             rintro a W ⟨hA, hW, hF⟩
             refine (?_ : Ok _ _ _ _ _ _) a W hA hW
             clear hA hW
             refine Ok.cond (b := (firstV6 e10)) rfl (fun hc31 => ?_) (fun hc31 => ?_)
             ·replace hF := hF.1 hc31
              refine Ok.seq (Ok.region (Ok.bat 1 [2] [(124, .func (.func 60) #[] #[pv bs1 0])] ?_))
              refine Ok.op rfl (OpOk.inline (args := #[.int .i64 11, pv bs1 0]) 8 [(0, .int .i64 11), (1, pv bs1 0)] enr Tryz.func60 rfl rfl rfl rfl (Ok.seq (Ok.region (Ok.op rfl (OpOk.alloc (z := .agg #[.int .i64 0, sv ([] : Bs), sv ([] : Bs), .int .i64 0]) (cs := #[.int .i64 0, sv ([] : Bs), sv ([] : Bs), .int .i64 0]) (by kernel_rfl) (by kernel_rfl) rfl fun bs3i125 => ?_)))))
              refine Ok.nil (Ok.thenN (Ok.seq (Ok.region (Ok.batch 1 [(1, pv bs1 0), (3, pv bs3i125 0), (4, .int .i64 11)] (by kernel_rfl) (Ok.op rfl (OpOk.step (v := sv xs) (Yields.load 2 rfl rfl Tryz.underlying9 rfl (by kernel_rfl)) rfl rfl ?_))))))
              obtain ⟨h033, h133, h233, hF⟩ := hF
              refine Ok.op rfl (OpOk.step (v := sv (xs.take (Int.toNat 1))) (Yields.sliceStr (s := xs) (l := 0) (h := 1) (by kernel_rfl) Tryz.underlying9 (.inr ⟨rfl, rfl⟩) (.inl ⟨_, _, rfl, rfl⟩) h033 h133 h233 (xs.take (Int.toNat 1)) (by simp)) rfl rfl (Ok.bat 1 [3] [(7, .agg #[.int .i64 11, sv (xs.take (Int.toNat 1)), sv ([] : Bs), .int .i64 0])] ?_))
              refine Ok.op rfl (OpOk.sto (k := 4) (v := .agg #[.int .i64 11, sv (xs.take (Int.toNat 1)), sv ([] : Bs), .int .i64 0]) 0 #[.int .i64 11, sv (xs.take (Int.toNat 1)), sv ([] : Bs), .int .i64 0] rfl rfl rfl ?_)
              refine Ok.nil (Ok.thenN (Ok.ret (Ok.back (vs := [.agg #[.int .i64 11, sv (xs.take (Int.toNat 1)), sv ([] : Bs), .int .i64 0]]) (.inl rfl) rfl (.cons (.cellAgg 0 4 #[.int .i64 11, sv (xs.take (Int.toNat 1)), sv ([] : Bs), .int .i64 0] rfl rfl Tryz.underlying78 rfl (by kernel_rfl) (by kernel_rfl) (by kernel_rfl)) .nil) rfl (Ok.op rfl (OpOk.sto (k := 4) (v := .agg #[.int .i64 11, sv (xs.take (Int.toNat 1)), sv ([] : Bs), .int .i64 0]) 1 #[.int .i64 11, sv (xs.take (Int.toNat 1)), sv ([] : Bs), .int .i64 0] rfl rfl rfl ?_)))))
              refine Ok.nil (Ok.thenN (Ok.ret (Ok.blockR (Ok.thenR ?_))))
              exact Ok.resP (vs := [.agg #[.int .i64 11, sv (xs.take (Int.toNat 1)), sv ([] : Bs), .int .i64 0]]) [] [] (by decide) rfl (.inl rfl) rfl (.cons (.cellAgg 1 4 #[.int .i64 11, sv (xs.take (Int.toNat 1)), sv ([] : Bs), .int .i64 0] rfl rfl Tryz.underlying78 rfl (by kernel_rfl) (by kernel_rfl) (by kernel_rfl)) .nil) (Gext.refl w0 g) ⟨(11, xs.take (Int.toNat 1), ([] : Bs), 0), rfl, rfl, hF⟩
             ·replace hF := hF.2 hc31
              refine Ok.seq (Ok.region (Ok.bat 2 [2, 3] [(126, .bool ((e10.toNat : Int) == 92))] ?_))
              refine Ok.nil (Ok.thenN (Ok.cond (b := ((e10.toNat : Int) == 92)) rfl (fun hc34 => ?_) (fun hc34 => ?_)))
              ·replace hF := hF.1 hc34
               refine Ok.seq (Ok.region (Ok.bat 1 [2] [(128, .func (.func 60) #[] #[pv bs1 0])] ?_))
               refine Ok.op rfl (OpOk.inline (args := #[.int .i64 6, pv bs1 0]) 8 [(0, .int .i64 6), (1, pv bs1 0)] enr Tryz.func60 rfl rfl rfl rfl (Ok.seq (Ok.region (Ok.op rfl (OpOk.alloc (z := .agg #[.int .i64 0, sv ([] : Bs), sv ([] : Bs), .int .i64 0]) (cs := #[.int .i64 0, sv ([] : Bs), sv ([] : Bs), .int .i64 0]) (by kernel_rfl) (by kernel_rfl) rfl fun bs3i129 => ?_)))))
               refine Ok.nil (Ok.thenN (Ok.seq (Ok.region (Ok.batch 1 [(1, pv bs1 0), (3, pv bs3i129 0), (4, .int .i64 6)] (by kernel_rfl) (Ok.op rfl (OpOk.step (v := sv xs) (Yields.load 2 rfl rfl Tryz.underlying9 rfl (by kernel_rfl)) rfl rfl ?_))))))
               obtain ⟨h036, h136, h236, hF⟩ := hF
               refine Ok.op rfl (OpOk.step (v := sv (xs.take (Int.toNat 1))) (Yields.sliceStr (s := xs) (l := 0) (h := 1) (by kernel_rfl) Tryz.underlying9 (.inr ⟨rfl, rfl⟩) (.inl ⟨_, _, rfl, rfl⟩) h036 h136 h236 (xs.take (Int.toNat 1)) (by simp)) rfl rfl (Ok.bat 1 [3] [(7, .agg #[.int .i64 6, sv (xs.take (Int.toNat 1)), sv ([] : Bs), .int .i64 0])] ?_))
               refine Ok.op rfl (OpOk.sto (k := 4) (v := .agg #[.int .i64 6, sv (xs.take (Int.toNat 1)), sv ([] : Bs), .int .i64 0]) 0 #[.int .i64 6, sv (xs.take (Int.toNat 1)), sv ([] : Bs), .int .i64 0] rfl rfl rfl ?_)
               refine Ok.nil (Ok.thenN (Ok.ret (Ok.back (vs := [.agg #[.int .i64 6, sv (xs.take (Int.toNat 1)), sv ([] : Bs), .int .i64 0]]) (.inl rfl) rfl (.cons (.cellAgg 0 4 #[.int .i64 6, sv (xs.take (Int.toNat 1)), sv ([] : Bs), .int .i64 0] rfl rfl Tryz.underlying78 rfl (by kernel_rfl) (by kernel_rfl) (by kernel_rfl)) .nil) rfl (Ok.op rfl (OpOk.sto (k := 4) (v := .agg #[.int .i64 6, sv (xs.take (Int.toNat 1)), sv ([] : Bs), .int .i64 0]) 1 #[.int .i64 6, sv (xs.take (Int.toNat 1)), sv ([] : Bs), .int .i64 0] rfl rfl rfl ?_)))))
               refine Ok.nil (Ok.thenN (Ok.ret (Ok.blockR (Ok.thenR ?_))))
               exact Ok.resP (vs := [.agg #[.int .i64 6, sv (xs.take (Int.toNat 1)), sv ([] : Bs), .int .i64 0]]) [] [] (by decide) rfl (.inl rfl) rfl (.cons (.cellAgg 1 4 #[.int .i64 6, sv (xs.take (Int.toNat 1)), sv ([] : Bs), .int .i64 0] rfl rfl Tryz.underlying78 rfl (by kernel_rfl) (by kernel_rfl) (by kernel_rfl)) .nil) (Gext.refl w0 g) ⟨(6, xs.take (Int.toNat 1), ([] : Bs), 0), rfl, rfl, hF⟩
              ·replace hF := hF.2 hc34
               refine Ok.skip (Ok.blockN (Ok.thenN (Ok.seq (Ok.region (Ok.bat 1 [2] [(130, .func (.func 60) #[] #[pv bs1 0])] ?_)))))
               refine Ok.op rfl (OpOk.inline (args := #[.int .i64 12, pv bs1 0]) 8 [(0, .int .i64 12), (1, pv bs1 0)] enr Tryz.func60 rfl rfl rfl rfl (Ok.seq (Ok.region (Ok.op rfl (OpOk.alloc (z := .agg #[.int .i64 0, sv ([] : Bs), sv ([] : Bs), .int .i64 0]) (cs := #[.int .i64 0, sv ([] : Bs), sv ([] : Bs), .int .i64 0]) (by kernel_rfl) (by kernel_rfl) rfl fun bs3i131 => ?_)))))
               refine Ok.nil (Ok.thenN (Ok.seq (Ok.region (Ok.batch 1 [(1, pv bs1 0), (3, pv bs3i131 0), (4, .int .i64 12)] (by kernel_rfl) (Ok.op rfl (OpOk.step (v := sv xs) (Yields.load 2 rfl rfl Tryz.underlying9 rfl (by kernel_rfl)) rfl rfl ?_))))))
               obtain ⟨h038, h138, h238, hF⟩ := hF
               refine Ok.op rfl (OpOk.step (v := sv (xs.take (Int.toNat 1))) (Yields.sliceStr (s := xs) (l := 0) (h := 1) (by kernel_rfl) Tryz.underlying9 (.inr ⟨rfl, rfl⟩) (.inl ⟨_, _, rfl, rfl⟩) h038 h138 h238 (xs.take (Int.toNat 1)) (by simp)) rfl rfl (Ok.bat 1 [3] [(7, .agg #[.int .i64 12, sv (xs.take (Int.toNat 1)), sv ([] : Bs), .int .i64 0])] ?_))
               refine Ok.op rfl (OpOk.sto (k := 4) (v := .agg #[.int .i64 12, sv (xs.take (Int.toNat 1)), sv ([] : Bs), .int .i64 0]) 0 #[.int .i64 12, sv (xs.take (Int.toNat 1)), sv ([] : Bs), .int .i64 0] rfl rfl rfl ?_)
               refine Ok.nil (Ok.thenN (Ok.ret (Ok.back (vs := [.agg #[.int .i64 12, sv (xs.take (Int.toNat 1)), sv ([] : Bs), .int .i64 0]]) (.inl rfl) rfl (.cons (.cellAgg 0 4 #[.int .i64 12, sv (xs.take (Int.toNat 1)), sv ([] : Bs), .int .i64 0] rfl rfl Tryz.underlying78 rfl (by kernel_rfl) (by kernel_rfl) (by kernel_rfl)) .nil) rfl (Ok.op rfl (OpOk.sto (k := 4) (v := .agg #[.int .i64 12, sv (xs.take (Int.toNat 1)), sv ([] : Bs), .int .i64 0]) 1 #[.int .i64 12, sv (xs.take (Int.toNat 1)), sv ([] : Bs), .int .i64 0] rfl rfl rfl ?_)))))
               refine Ok.nil (Ok.thenN (Ok.ret ?_))
               exact Ok.resP (vs := [.agg #[.int .i64 12, sv (xs.take (Int.toNat 1)), sv ([] : Bs), .int .i64 0]]) [] [] (by decide) rfl (.inl rfl) rfl (.cons (.cellAgg 1 4 #[.int .i64 12, sv (xs.take (Int.toNat 1)), sv ([] : Bs), .int .i64 0] rfl rfl Tryz.underlying78 rfl (by kernel_rfl) (by kernel_rfl) (by kernel_rfl)) .nil) (Gext.refl w0 g) ⟨(12, xs.take (Int.toNat 1), ([] : Bs), 0), rfl, rfl, hF⟩
def firstP (s : Bs) : Prop := nameP s ∧ s ≠ [] ∧ s.length < 4294967281
theorem sp_ok {s : Bs} (h : nameP s) (c : Bs) : 0 ≤ w6 ((s.length : Int) - ((tlS s c).length : Int)) ∧ w6 ((s.length : Int) - ((tlS s c).length : Int)) ≤ s.length := by
 have := tlS_len s c
 unfold nameP at h
 rw [w64 (by omega)]
 omega
theorem numS_ok {s : Bs} (h : nameP s) : 0 ≤ (numS s).2 ∧ (numS s).2 ≤ s.length := by
 have h1 := end_ok h
 have h2 := v2_ok h
 unfold numS
 split
 ·simp
 ·unfold numbV3
  unfold nameP at h
  generalize w6 ((numbV1 s) + (digitsM (s.drop (Int.toNat (numbV1 s))))) = e at h1 h2 ⊢
  split
  ·rename_i hc
   have := h2.2 (of_decide_eq_true hc)
   rw [w64 (x := 1 + numbV2 s) (by omega), w64 (by omega)]
   omega
  ·omega
theorem cp_len (s p : Bs) : (cpM s p).1.length ≤ s.length := by
 unfold cpM slcpM
 split <;> simp
theorem idx_len : ∀ (s sub : Bs), 0 ≤ Lib.index s sub → Lib.index s sub + sub.length ≤ s.length
 | [], sub => by
  unfold Lib.index
  split
  ·rename_i h; intro _; rw [List.isEmpty_iff.1 h]; simp
  ·intro h; omega
 | b :: l, sub => by
  unfold Lib.index
  split
  ·rename_i h
   intro _
   have := (List.isPrefixOf_iff_prefix.1 h).length_le
   omega
  ·split
   ·intro h; omega
   ·rename_i h1 h2
    intro h
    have h3 := Lib.index_ge l sub
    have : Lib.index l sub ≠ -1 := by simpa using h2
    have := idx_len l sub (by omega)
    simp only [List.length_cons]
    omega
theorem note_ok {s : Bs} (h : nameP s) (h1 : (cpM s ([47, 42] : Bs)).2 = true) (h2 : decide ((idxS (cpM s ([47, 42] : Bs)).1 ([42, 47] : Bs)) ≥ 0) = true) :
  0 ≤ w6 ((idxS (cpM s ([47, 42] : Bs)).1 ([42, 47] : Bs)) + 4) ∧ w6 ((idxS (cpM s ([47, 42] : Bs)).1 ([42, 47] : Bs)) + 4) ≤ s.length := by
 have h2 := of_decide_eq_true h2
 have h3 := idx_len (cpM s ([47, 42] : Bs)).1 ([42, 47] : Bs) h2
 have h4 : (cpM s ([47, 42] : Bs)).1.length + 2 = s.length := by
  unfold cpM slcpM at h1 ⊢
  cases hc : slhpM s ([47, 42] : Bs)
  ·rw [hc, if_t (show (!false) = true from rfl)] at h1; cases h1
  ·rw [if_f (show (!true) = false from rfl)]
   have := slhp_len hc
   simp at this
   simp
   omega
 unfold idxS at h2 ⊢
 unfold nameP at h
 simp only [List.length_cons, List.length_nil] at h3
 rw [w64 (by omega)]
 omega
theorem named_len (k : Int) (s : Bs) : ((namedM k s 0).2.1).length ≤ s.length := by
 unfold namedM
 simp only [List.length_take]
 omega
theorem named_par {k : Int} {s : Bs} (h : nameP s) (h1 : hpM (s.drop (Int.toNat (((namedM k s 0).2.1).length : Int))) ([40] : Bs) = true) :
  0 ≤ w6 ((((namedM k s 0).2.1).length : Int) + 1) ∧ w6 ((((namedM k s 0).2.1).length : Int) + 1) ≤ s.length := by
 have h2 := named_len k s
 have h3 := slhp_len (s := s.drop (Int.toNat (((namedM k s 0).2.1).length : Int))) (p := [40]) h1
 rw [List.length_drop] at h3
 simp at h3
 unfold nameP at h
 rw [w64 (by omega)]
 omega
set_option maxHeartbeats 4000000
def firstj21M (xs : Bs) : (Int × Bs × Bs × Int) := (9, (firstV0 xs), ([] : Bs), 0)
theorem firstj21_A (xs : Bs) (hp : firstP xs) (P : (Int × Bs × Bs × Int) → Prop) (h : P (firstj21M xs)) : firstj21 xs (fun k0 => P k0) := by
 unfold firstj21M at h
 unfold firstj21
 exact h
def firstj72M (xs : Bs) : (Int × Bs × Bs × Int) := ((firstV3 xs), (firstV4 xs), (namedM 1 xs 0).2.2.1, (namedM 1 xs 0).2.2.2)
theorem firstj72_A (xs : Bs) (hp : firstP xs) (P : (Int × Bs × Bs × Int) → Prop) (h : P (firstj72M xs)) : firstj72 xs (fun k0 => P k0) := by
 unfold firstj72M at h
 unfold firstj72
 exact h
def firstj102M (xs : Bs) (e10 : UInt8) : (Int × Bs × Bs × Int) := (if (firstV6 e10) = true then (11, xs.take (Int.toNat 1), ([] : Bs), 0) else (if ((e10.toNat : Int) == 92) = true then (6, xs.take (Int.toNat 1), ([] : Bs), 0) else (12, xs.take (Int.toNat 1), ([] : Bs), 0)))
theorem firstj102_A (xs : Bs) (e10 : UInt8) (hp : firstP xs) (P : (Int × Bs × Bs × Int) → Prop) (h : P (firstj102M xs e10)) : firstj102 xs (fun k0 => P k0) e10 := by
 unfold firstj102M at h
 unfold firstj102
 refine ⟨fun hc0 => ?_, fun hc0 => ?_⟩
 ·rw [if_t hc0] at h
  refine ⟨?_, ?_, ?_, ?_⟩
  ·first | (have := List.length_pos_iff.mpr hp.2.1; omega) | exact hp.1 | exact Int.ofNat_le.2 (named_len _ _) | exact (named_par hp.1 (by assumption)).2 | exact (named_par hp.1 (by assumption)).1 | exact ⟨hp.1, (numS_ok hp.1).1, (numS_ok hp.1).2⟩ | exact ⟨hp.1, by omega, by (have := List.length_pos_iff.mpr hp.2.1; omega)⟩ | exact ⟨hp.1, hp.2.1⟩ | exact (note_ok hp.1 (by assumption) (by assumption)).2 | exact (note_ok hp.1 (by assumption) (by assumption)).1 | (have := cp_len xs ([47, 42] : Bs); have := hp.2.2; unfold idxP; omega) | exact (sp_ok hp.1 _).2 | exact (sp_ok hp.1 _).1 | exact ⟨by decide, by decide, by decide⟩ | omega | assumption | exact trivial | (have h0 := List.length_pos_iff.mpr (by assumption); omega) | (simp; omega) | (simp at *; omega)
  ·first | (have := List.length_pos_iff.mpr hp.2.1; omega) | exact hp.1 | exact Int.ofNat_le.2 (named_len _ _) | exact (named_par hp.1 (by assumption)).2 | exact (named_par hp.1 (by assumption)).1 | exact ⟨hp.1, (numS_ok hp.1).1, (numS_ok hp.1).2⟩ | exact ⟨hp.1, by omega, by (have := List.length_pos_iff.mpr hp.2.1; omega)⟩ | exact ⟨hp.1, hp.2.1⟩ | exact (note_ok hp.1 (by assumption) (by assumption)).2 | exact (note_ok hp.1 (by assumption) (by assumption)).1 | (have := cp_len xs ([47, 42] : Bs); have := hp.2.2; unfold idxP; omega) | exact (sp_ok hp.1 _).2 | exact (sp_ok hp.1 _).1 | exact ⟨by decide, by decide, by decide⟩ | omega | assumption | exact trivial | (have h0 := List.length_pos_iff.mpr (by assumption); omega) | (simp; omega) | (simp at *; omega)
  ·first | (have := List.length_pos_iff.mpr hp.2.1; omega) | exact hp.1 | exact Int.ofNat_le.2 (named_len _ _) | exact (named_par hp.1 (by assumption)).2 | exact (named_par hp.1 (by assumption)).1 | exact ⟨hp.1, (numS_ok hp.1).1, (numS_ok hp.1).2⟩ | exact ⟨hp.1, by omega, by (have := List.length_pos_iff.mpr hp.2.1; omega)⟩ | exact ⟨hp.1, hp.2.1⟩ | exact (note_ok hp.1 (by assumption) (by assumption)).2 | exact (note_ok hp.1 (by assumption) (by assumption)).1 | (have := cp_len xs ([47, 42] : Bs); have := hp.2.2; unfold idxP; omega) | exact (sp_ok hp.1 _).2 | exact (sp_ok hp.1 _).1 | exact ⟨by decide, by decide, by decide⟩ | omega | assumption | exact trivial | (have h0 := List.length_pos_iff.mpr (by assumption); omega) | (simp; omega) | (simp at *; omega)
  exact h
 ·rw [if_f hc0] at h
  refine ⟨fun hc1 => ?_, fun hc1 => ?_⟩
  ·rw [if_t hc1] at h
   have hd1 := hc1; try simp only [Bool.and_eq_true, Bool.or_eq_true, Bool.and_eq_false_iff, Bool.or_eq_false_iff, Bool.not_eq_true', Bool.not_eq_false', decide_eq_true_eq, decide_eq_false_iff_not, beq_iff_eq, beq_eq_false_iff_ne, ne_eq] at hd1
   refine ⟨?_, ?_, ?_, ?_⟩
   ·first | (have := List.length_pos_iff.mpr hp.2.1; omega) | exact hp.1 | exact Int.ofNat_le.2 (named_len _ _) | exact (named_par hp.1 (by assumption)).2 | exact (named_par hp.1 (by assumption)).1 | exact ⟨hp.1, (numS_ok hp.1).1, (numS_ok hp.1).2⟩ | exact ⟨hp.1, by omega, by (have := List.length_pos_iff.mpr hp.2.1; omega)⟩ | exact ⟨hp.1, hp.2.1⟩ | exact (note_ok hp.1 (by assumption) (by assumption)).2 | exact (note_ok hp.1 (by assumption) (by assumption)).1 | (have := cp_len xs ([47, 42] : Bs); have := hp.2.2; unfold idxP; omega) | exact (sp_ok hp.1 _).2 | exact (sp_ok hp.1 _).1 | exact ⟨by decide, by decide, by decide⟩ | omega | assumption | exact trivial | (have h0 := List.length_pos_iff.mpr (by assumption); omega) | (simp; omega) | (simp at *; omega)
   ·first | (have := List.length_pos_iff.mpr hp.2.1; omega) | exact hp.1 | exact Int.ofNat_le.2 (named_len _ _) | exact (named_par hp.1 (by assumption)).2 | exact (named_par hp.1 (by assumption)).1 | exact ⟨hp.1, (numS_ok hp.1).1, (numS_ok hp.1).2⟩ | exact ⟨hp.1, by omega, by (have := List.length_pos_iff.mpr hp.2.1; omega)⟩ | exact ⟨hp.1, hp.2.1⟩ | exact (note_ok hp.1 (by assumption) (by assumption)).2 | exact (note_ok hp.1 (by assumption) (by assumption)).1 | (have := cp_len xs ([47, 42] : Bs); have := hp.2.2; unfold idxP; omega) | exact (sp_ok hp.1 _).2 | exact (sp_ok hp.1 _).1 | exact ⟨by decide, by decide, by decide⟩ | omega | assumption | exact trivial | (have h0 := List.length_pos_iff.mpr (by assumption); omega) | (simp; omega) | (simp at *; omega)
   ·first | (have := List.length_pos_iff.mpr hp.2.1; omega) | exact hp.1 | exact Int.ofNat_le.2 (named_len _ _) | exact (named_par hp.1 (by assumption)).2 | exact (named_par hp.1 (by assumption)).1 | exact ⟨hp.1, (numS_ok hp.1).1, (numS_ok hp.1).2⟩ | exact ⟨hp.1, by omega, by (have := List.length_pos_iff.mpr hp.2.1; omega)⟩ | exact ⟨hp.1, hp.2.1⟩ | exact (note_ok hp.1 (by assumption) (by assumption)).2 | exact (note_ok hp.1 (by assumption) (by assumption)).1 | (have := cp_len xs ([47, 42] : Bs); have := hp.2.2; unfold idxP; omega) | exact (sp_ok hp.1 _).2 | exact (sp_ok hp.1 _).1 | exact ⟨by decide, by decide, by decide⟩ | omega | assumption | exact trivial | (have h0 := List.length_pos_iff.mpr (by assumption); omega) | (simp; omega) | (simp at *; omega)
   exact h
  ·rw [if_f hc1] at h
   have hd1 := hc1; try simp only [Bool.and_eq_true, Bool.or_eq_true, Bool.and_eq_false_iff, Bool.or_eq_false_iff, Bool.not_eq_true', Bool.not_eq_false', decide_eq_true_eq, decide_eq_false_iff_not, beq_iff_eq, beq_eq_false_iff_ne, ne_eq] at hd1
   refine ⟨?_, ?_, ?_, ?_⟩
   ·first | (have := List.length_pos_iff.mpr hp.2.1; omega) | exact hp.1 | exact Int.ofNat_le.2 (named_len _ _) | exact (named_par hp.1 (by assumption)).2 | exact (named_par hp.1 (by assumption)).1 | exact ⟨hp.1, (numS_ok hp.1).1, (numS_ok hp.1).2⟩ | exact ⟨hp.1, by omega, by (have := List.length_pos_iff.mpr hp.2.1; omega)⟩ | exact ⟨hp.1, hp.2.1⟩ | exact (note_ok hp.1 (by assumption) (by assumption)).2 | exact (note_ok hp.1 (by assumption) (by assumption)).1 | (have := cp_len xs ([47, 42] : Bs); have := hp.2.2; unfold idxP; omega) | exact (sp_ok hp.1 _).2 | exact (sp_ok hp.1 _).1 | exact ⟨by decide, by decide, by decide⟩ | omega | assumption | exact trivial | (have h0 := List.length_pos_iff.mpr (by assumption); omega) | (simp; omega) | (simp at *; omega)
   ·first | (have := List.length_pos_iff.mpr hp.2.1; omega) | exact hp.1 | exact Int.ofNat_le.2 (named_len _ _) | exact (named_par hp.1 (by assumption)).2 | exact (named_par hp.1 (by assumption)).1 | exact ⟨hp.1, (numS_ok hp.1).1, (numS_ok hp.1).2⟩ | exact ⟨hp.1, by omega, by (have := List.length_pos_iff.mpr hp.2.1; omega)⟩ | exact ⟨hp.1, hp.2.1⟩ | exact (note_ok hp.1 (by assumption) (by assumption)).2 | exact (note_ok hp.1 (by assumption) (by assumption)).1 | (have := cp_len xs ([47, 42] : Bs); have := hp.2.2; unfold idxP; omega) | exact (sp_ok hp.1 _).2 | exact (sp_ok hp.1 _).1 | exact ⟨by decide, by decide, by decide⟩ | omega | assumption | exact trivial | (have h0 := List.length_pos_iff.mpr (by assumption); omega) | (simp; omega) | (simp at *; omega)
   ·first | (have := List.length_pos_iff.mpr hp.2.1; omega) | exact hp.1 | exact Int.ofNat_le.2 (named_len _ _) | exact (named_par hp.1 (by assumption)).2 | exact (named_par hp.1 (by assumption)).1 | exact ⟨hp.1, (numS_ok hp.1).1, (numS_ok hp.1).2⟩ | exact ⟨hp.1, by omega, by (have := List.length_pos_iff.mpr hp.2.1; omega)⟩ | exact ⟨hp.1, hp.2.1⟩ | exact (note_ok hp.1 (by assumption) (by assumption)).2 | exact (note_ok hp.1 (by assumption) (by assumption)).1 | (have := cp_len xs ([47, 42] : Bs); have := hp.2.2; unfold idxP; omega) | exact (sp_ok hp.1 _).2 | exact (sp_ok hp.1 _).1 | exact ⟨by decide, by decide, by decide⟩ | omega | assumption | exact trivial | (have h0 := List.length_pos_iff.mpr (by assumption); omega) | (simp; omega) | (simp at *; omega)
   exact h
def firstj88M (xs : Bs) (e10 : UInt8) : (Int × Bs × Bs × Int) := (if (firstV5 e10) = true then (10, xs.take (Int.toNat 1), ([] : Bs), 0) else (firstj102M xs e10))
theorem firstj88_A (xs : Bs) (e10 : UInt8) (hp : firstP xs) (P : (Int × Bs × Bs × Int) → Prop) (h : P (firstj88M xs e10)) : firstj88 xs (fun k0 => P k0) e10 := by
 unfold firstj88M at h
 unfold firstj88
 refine ⟨fun hc0 => ?_, fun hc0 => ?_⟩
 ·rw [if_t hc0] at h
  refine ⟨?_, ?_, ?_, ?_⟩
  ·first | (have := List.length_pos_iff.mpr hp.2.1; omega) | exact hp.1 | exact Int.ofNat_le.2 (named_len _ _) | exact (named_par hp.1 (by assumption)).2 | exact (named_par hp.1 (by assumption)).1 | exact ⟨hp.1, (numS_ok hp.1).1, (numS_ok hp.1).2⟩ | exact ⟨hp.1, by omega, by (have := List.length_pos_iff.mpr hp.2.1; omega)⟩ | exact ⟨hp.1, hp.2.1⟩ | exact (note_ok hp.1 (by assumption) (by assumption)).2 | exact (note_ok hp.1 (by assumption) (by assumption)).1 | (have := cp_len xs ([47, 42] : Bs); have := hp.2.2; unfold idxP; omega) | exact (sp_ok hp.1 _).2 | exact (sp_ok hp.1 _).1 | exact ⟨by decide, by decide, by decide⟩ | omega | assumption | exact trivial | (have h0 := List.length_pos_iff.mpr (by assumption); omega) | (simp; omega) | (simp at *; omega)
  ·first | (have := List.length_pos_iff.mpr hp.2.1; omega) | exact hp.1 | exact Int.ofNat_le.2 (named_len _ _) | exact (named_par hp.1 (by assumption)).2 | exact (named_par hp.1 (by assumption)).1 | exact ⟨hp.1, (numS_ok hp.1).1, (numS_ok hp.1).2⟩ | exact ⟨hp.1, by omega, by (have := List.length_pos_iff.mpr hp.2.1; omega)⟩ | exact ⟨hp.1, hp.2.1⟩ | exact (note_ok hp.1 (by assumption) (by assumption)).2 | exact (note_ok hp.1 (by assumption) (by assumption)).1 | (have := cp_len xs ([47, 42] : Bs); have := hp.2.2; unfold idxP; omega) | exact (sp_ok hp.1 _).2 | exact (sp_ok hp.1 _).1 | exact ⟨by decide, by decide, by decide⟩ | omega | assumption | exact trivial | (have h0 := List.length_pos_iff.mpr (by assumption); omega) | (simp; omega) | (simp at *; omega)
  ·first | (have := List.length_pos_iff.mpr hp.2.1; omega) | exact hp.1 | exact Int.ofNat_le.2 (named_len _ _) | exact (named_par hp.1 (by assumption)).2 | exact (named_par hp.1 (by assumption)).1 | exact ⟨hp.1, (numS_ok hp.1).1, (numS_ok hp.1).2⟩ | exact ⟨hp.1, by omega, by (have := List.length_pos_iff.mpr hp.2.1; omega)⟩ | exact ⟨hp.1, hp.2.1⟩ | exact (note_ok hp.1 (by assumption) (by assumption)).2 | exact (note_ok hp.1 (by assumption) (by assumption)).1 | (have := cp_len xs ([47, 42] : Bs); have := hp.2.2; unfold idxP; omega) | exact (sp_ok hp.1 _).2 | exact (sp_ok hp.1 _).1 | exact ⟨by decide, by decide, by decide⟩ | omega | assumption | exact trivial | (have h0 := List.length_pos_iff.mpr (by assumption); omega) | (simp; omega) | (simp at *; omega)
  exact h
 ·rw [if_f hc0] at h
  refine ⟨fun hc1 => ?_, fun hc1 => ?_⟩
  ·skip
   have hd1 := hc1; try simp only [Bool.and_eq_true, Bool.or_eq_true, Bool.and_eq_false_iff, Bool.or_eq_false_iff, Bool.not_eq_true', Bool.not_eq_false', decide_eq_true_eq, decide_eq_false_iff_not, beq_iff_eq, beq_eq_false_iff_ne, ne_eq] at hd1
   exact firstj102_A xs e10 (by first | (have := List.length_pos_iff.mpr hp.2.1; omega) | exact hp.1 | exact Int.ofNat_le.2 (named_len _ _) | exact (named_par hp.1 (by assumption)).2 | exact (named_par hp.1 (by assumption)).1 | exact ⟨hp.1, (numS_ok hp.1).1, (numS_ok hp.1).2⟩ | exact ⟨hp.1, by omega, by (have := List.length_pos_iff.mpr hp.2.1; omega)⟩ | exact ⟨hp.1, hp.2.1⟩ | exact (note_ok hp.1 (by assumption) (by assumption)).2 | exact (note_ok hp.1 (by assumption) (by assumption)).1 | (have := cp_len xs ([47, 42] : Bs); have := hp.2.2; unfold idxP; omega) | exact (sp_ok hp.1 _).2 | exact (sp_ok hp.1 _).1 | exact ⟨by decide, by decide, by decide⟩ | omega | assumption | exact trivial | (have h0 := List.length_pos_iff.mpr (by assumption); omega) | (simp; omega) | (simp at *; omega)) _ h
  ·skip
   have hd1 := hc1; try simp only [Bool.and_eq_true, Bool.or_eq_true, Bool.and_eq_false_iff, Bool.or_eq_false_iff, Bool.not_eq_true', Bool.not_eq_false', decide_eq_true_eq, decide_eq_false_iff_not, beq_iff_eq, beq_eq_false_iff_ne, ne_eq] at hd1
   refine ⟨fun hc2 => ?_, fun hc2 => ?_⟩
   ·skip
    have hd2 := hc2; try simp only [Bool.and_eq_true, Bool.or_eq_true, Bool.and_eq_false_iff, Bool.or_eq_false_iff, Bool.not_eq_true', Bool.not_eq_false', decide_eq_true_eq, decide_eq_false_iff_not, beq_iff_eq, beq_eq_false_iff_ne, ne_eq] at hd2
    exact firstj102_A xs e10 (by first | (have := List.length_pos_iff.mpr hp.2.1; omega) | exact hp.1 | exact Int.ofNat_le.2 (named_len _ _) | exact (named_par hp.1 (by assumption)).2 | exact (named_par hp.1 (by assumption)).1 | exact ⟨hp.1, (numS_ok hp.1).1, (numS_ok hp.1).2⟩ | exact ⟨hp.1, by omega, by (have := List.length_pos_iff.mpr hp.2.1; omega)⟩ | exact ⟨hp.1, hp.2.1⟩ | exact (note_ok hp.1 (by assumption) (by assumption)).2 | exact (note_ok hp.1 (by assumption) (by assumption)).1 | (have := cp_len xs ([47, 42] : Bs); have := hp.2.2; unfold idxP; omega) | exact (sp_ok hp.1 _).2 | exact (sp_ok hp.1 _).1 | exact ⟨by decide, by decide, by decide⟩ | omega | assumption | exact trivial | (have h0 := List.length_pos_iff.mpr (by assumption); omega) | (simp; omega) | (simp at *; omega)) _ h
   ·skip
    have hd2 := hc2; try simp only [Bool.and_eq_true, Bool.or_eq_true, Bool.and_eq_false_iff, Bool.or_eq_false_iff, Bool.not_eq_true', Bool.not_eq_false', decide_eq_true_eq, decide_eq_false_iff_not, beq_iff_eq, beq_eq_false_iff_ne, ne_eq] at hd2
    exact firstj102_A xs e10 (by first | (have := List.length_pos_iff.mpr hp.2.1; omega) | exact hp.1 | exact Int.ofNat_le.2 (named_len _ _) | exact (named_par hp.1 (by assumption)).2 | exact (named_par hp.1 (by assumption)).1 | exact ⟨hp.1, (numS_ok hp.1).1, (numS_ok hp.1).2⟩ | exact ⟨hp.1, by omega, by (have := List.length_pos_iff.mpr hp.2.1; omega)⟩ | exact ⟨hp.1, hp.2.1⟩ | exact (note_ok hp.1 (by assumption) (by assumption)).2 | exact (note_ok hp.1 (by assumption) (by assumption)).1 | (have := cp_len xs ([47, 42] : Bs); have := hp.2.2; unfold idxP; omega) | exact (sp_ok hp.1 _).2 | exact (sp_ok hp.1 _).1 | exact ⟨by decide, by decide, by decide⟩ | omega | assumption | exact trivial | (have h0 := List.length_pos_iff.mpr (by assumption); omega) | (simp; omega) | (simp at *; omega)) _ h
def firstj49M (xs : Bs) (e10 : UInt8) : (Int × Bs × Bs × Int) := (if (firstV2 xs e10) = true then ((namedM 3 xs 1).1, (namedM 3 xs 1).2.1, (namedM 3 xs 1).2.2.1, (namedM 3 xs 1).2.2.2) else (if (decide ((numS xs).2 > 0)) = true then ((numberM xs (numS xs).1 (numS xs).2).1, (numberM xs (numS xs).1 (numS xs).2).2.1, (numberM xs (numS xs).1 (numS xs).2).2.2.1, (numberM xs (numS xs).1 (numS xs).2).2.2.2) else (if (begM xs) = true then (firstj72M xs) else (firstj88M xs e10))))
theorem firstj49_A (xs : Bs) (e10 : UInt8) (hp : firstP xs) (P : (Int × Bs × Bs × Int) → Prop) (h : P (firstj49M xs e10)) : firstj49 xs (fun k0 => P k0) e10 := by
 unfold firstj49M at h
 unfold firstj49
 refine ⟨fun hc0 => ?_, fun hc0 => ?_⟩
 ·rw [if_t hc0] at h
  refine ⟨?_, ?_⟩
  ·first | (have := List.length_pos_iff.mpr hp.2.1; omega) | exact hp.1 | exact Int.ofNat_le.2 (named_len _ _) | exact (named_par hp.1 (by assumption)).2 | exact (named_par hp.1 (by assumption)).1 | exact ⟨hp.1, (numS_ok hp.1).1, (numS_ok hp.1).2⟩ | exact ⟨hp.1, by omega, by (have := List.length_pos_iff.mpr hp.2.1; omega)⟩ | exact ⟨hp.1, hp.2.1⟩ | exact (note_ok hp.1 (by assumption) (by assumption)).2 | exact (note_ok hp.1 (by assumption) (by assumption)).1 | (have := cp_len xs ([47, 42] : Bs); have := hp.2.2; unfold idxP; omega) | exact (sp_ok hp.1 _).2 | exact (sp_ok hp.1 _).1 | exact ⟨by decide, by decide, by decide⟩ | omega | assumption | exact trivial | (have h0 := List.length_pos_iff.mpr (by assumption); omega) | (simp; omega) | (simp at *; omega)
  exact h
 ·rw [if_f hc0] at h
  refine ⟨?_, ?_⟩
  ·first | (have := List.length_pos_iff.mpr hp.2.1; omega) | exact hp.1 | exact Int.ofNat_le.2 (named_len _ _) | exact (named_par hp.1 (by assumption)).2 | exact (named_par hp.1 (by assumption)).1 | exact ⟨hp.1, (numS_ok hp.1).1, (numS_ok hp.1).2⟩ | exact ⟨hp.1, by omega, by (have := List.length_pos_iff.mpr hp.2.1; omega)⟩ | exact ⟨hp.1, hp.2.1⟩ | exact (note_ok hp.1 (by assumption) (by assumption)).2 | exact (note_ok hp.1 (by assumption) (by assumption)).1 | (have := cp_len xs ([47, 42] : Bs); have := hp.2.2; unfold idxP; omega) | exact (sp_ok hp.1 _).2 | exact (sp_ok hp.1 _).1 | exact ⟨by decide, by decide, by decide⟩ | omega | assumption | exact trivial | (have h0 := List.length_pos_iff.mpr (by assumption); omega) | (simp; omega) | (simp at *; omega)
  refine ⟨fun hc1 => ?_, fun hc1 => ?_⟩
  ·rw [if_t hc1] at h
   have hd1 := hc1; try simp only [Bool.and_eq_true, Bool.or_eq_true, Bool.and_eq_false_iff, Bool.or_eq_false_iff, Bool.not_eq_true', Bool.not_eq_false', decide_eq_true_eq, decide_eq_false_iff_not, beq_iff_eq, beq_eq_false_iff_ne, ne_eq] at hd1
   refine ⟨?_, ?_⟩
   ·first | (have := List.length_pos_iff.mpr hp.2.1; omega) | exact hp.1 | exact Int.ofNat_le.2 (named_len _ _) | exact (named_par hp.1 (by assumption)).2 | exact (named_par hp.1 (by assumption)).1 | exact ⟨hp.1, (numS_ok hp.1).1, (numS_ok hp.1).2⟩ | exact ⟨hp.1, by omega, by (have := List.length_pos_iff.mpr hp.2.1; omega)⟩ | exact ⟨hp.1, hp.2.1⟩ | exact (note_ok hp.1 (by assumption) (by assumption)).2 | exact (note_ok hp.1 (by assumption) (by assumption)).1 | (have := cp_len xs ([47, 42] : Bs); have := hp.2.2; unfold idxP; omega) | exact (sp_ok hp.1 _).2 | exact (sp_ok hp.1 _).1 | exact ⟨by decide, by decide, by decide⟩ | omega | assumption | exact trivial | (have h0 := List.length_pos_iff.mpr (by assumption); omega) | (simp; omega) | (simp at *; omega)
   exact h
  ·rw [if_f hc1] at h
   have hd1 := hc1; try simp only [Bool.and_eq_true, Bool.or_eq_true, Bool.and_eq_false_iff, Bool.or_eq_false_iff, Bool.not_eq_true', Bool.not_eq_false', decide_eq_true_eq, decide_eq_false_iff_not, beq_iff_eq, beq_eq_false_iff_ne, ne_eq] at hd1
   refine ⟨fun hc2 => ?_, fun hc2 => ?_⟩
   ·rw [if_t hc2] at h
    refine ⟨?_, ?_⟩
    ·first | (have := List.length_pos_iff.mpr hp.2.1; omega) | exact hp.1 | exact Int.ofNat_le.2 (named_len _ _) | exact (named_par hp.1 (by assumption)).2 | exact (named_par hp.1 (by assumption)).1 | exact ⟨hp.1, (numS_ok hp.1).1, (numS_ok hp.1).2⟩ | exact ⟨hp.1, by omega, by (have := List.length_pos_iff.mpr hp.2.1; omega)⟩ | exact ⟨hp.1, hp.2.1⟩ | exact (note_ok hp.1 (by assumption) (by assumption)).2 | exact (note_ok hp.1 (by assumption) (by assumption)).1 | (have := cp_len xs ([47, 42] : Bs); have := hp.2.2; unfold idxP; omega) | exact (sp_ok hp.1 _).2 | exact (sp_ok hp.1 _).1 | exact ⟨by decide, by decide, by decide⟩ | omega | assumption | exact trivial | (have h0 := List.length_pos_iff.mpr (by assumption); omega) | (simp; omega) | (simp at *; omega)
    refine ⟨?_, ?_, ?_, ?_⟩
    ·first | (have := List.length_pos_iff.mpr hp.2.1; omega) | exact hp.1 | exact Int.ofNat_le.2 (named_len _ _) | exact (named_par hp.1 (by assumption)).2 | exact (named_par hp.1 (by assumption)).1 | exact ⟨hp.1, (numS_ok hp.1).1, (numS_ok hp.1).2⟩ | exact ⟨hp.1, by omega, by (have := List.length_pos_iff.mpr hp.2.1; omega)⟩ | exact ⟨hp.1, hp.2.1⟩ | exact (note_ok hp.1 (by assumption) (by assumption)).2 | exact (note_ok hp.1 (by assumption) (by assumption)).1 | (have := cp_len xs ([47, 42] : Bs); have := hp.2.2; unfold idxP; omega) | exact (sp_ok hp.1 _).2 | exact (sp_ok hp.1 _).1 | exact ⟨by decide, by decide, by decide⟩ | omega | assumption | exact trivial | (have h0 := List.length_pos_iff.mpr (by assumption); omega) | (simp; omega) | (simp at *; omega)
    ·first | (have := List.length_pos_iff.mpr hp.2.1; omega) | exact hp.1 | exact Int.ofNat_le.2 (named_len _ _) | exact (named_par hp.1 (by assumption)).2 | exact (named_par hp.1 (by assumption)).1 | exact ⟨hp.1, (numS_ok hp.1).1, (numS_ok hp.1).2⟩ | exact ⟨hp.1, by omega, by (have := List.length_pos_iff.mpr hp.2.1; omega)⟩ | exact ⟨hp.1, hp.2.1⟩ | exact (note_ok hp.1 (by assumption) (by assumption)).2 | exact (note_ok hp.1 (by assumption) (by assumption)).1 | (have := cp_len xs ([47, 42] : Bs); have := hp.2.2; unfold idxP; omega) | exact (sp_ok hp.1 _).2 | exact (sp_ok hp.1 _).1 | exact ⟨by decide, by decide, by decide⟩ | omega | assumption | exact trivial | (have h0 := List.length_pos_iff.mpr (by assumption); omega) | (simp; omega) | (simp at *; omega)
    ·first | (have := List.length_pos_iff.mpr hp.2.1; omega) | exact hp.1 | exact Int.ofNat_le.2 (named_len _ _) | exact (named_par hp.1 (by assumption)).2 | exact (named_par hp.1 (by assumption)).1 | exact ⟨hp.1, (numS_ok hp.1).1, (numS_ok hp.1).2⟩ | exact ⟨hp.1, by omega, by (have := List.length_pos_iff.mpr hp.2.1; omega)⟩ | exact ⟨hp.1, hp.2.1⟩ | exact (note_ok hp.1 (by assumption) (by assumption)).2 | exact (note_ok hp.1 (by assumption) (by assumption)).1 | (have := cp_len xs ([47, 42] : Bs); have := hp.2.2; unfold idxP; omega) | exact (sp_ok hp.1 _).2 | exact (sp_ok hp.1 _).1 | exact ⟨by decide, by decide, by decide⟩ | omega | assumption | exact trivial | (have h0 := List.length_pos_iff.mpr (by assumption); omega) | (simp; omega) | (simp at *; omega)
    refine ⟨fun hc3 => ?_, fun hc3 => ?_⟩
    ·skip
     refine ⟨?_, ?_, ?_, ?_⟩
     ·first | (have := List.length_pos_iff.mpr hp.2.1; omega) | exact hp.1 | exact Int.ofNat_le.2 (named_len _ _) | exact (named_par hp.1 (by assumption)).2 | exact (named_par hp.1 (by assumption)).1 | exact ⟨hp.1, (numS_ok hp.1).1, (numS_ok hp.1).2⟩ | exact ⟨hp.1, by omega, by (have := List.length_pos_iff.mpr hp.2.1; omega)⟩ | exact ⟨hp.1, hp.2.1⟩ | exact (note_ok hp.1 (by assumption) (by assumption)).2 | exact (note_ok hp.1 (by assumption) (by assumption)).1 | (have := cp_len xs ([47, 42] : Bs); have := hp.2.2; unfold idxP; omega) | exact (sp_ok hp.1 _).2 | exact (sp_ok hp.1 _).1 | exact ⟨by decide, by decide, by decide⟩ | omega | assumption | exact trivial | (have h0 := List.length_pos_iff.mpr (by assumption); omega) | (simp; omega) | (simp at *; omega)
     ·first | (have := List.length_pos_iff.mpr hp.2.1; omega) | exact hp.1 | exact Int.ofNat_le.2 (named_len _ _) | exact (named_par hp.1 (by assumption)).2 | exact (named_par hp.1 (by assumption)).1 | exact ⟨hp.1, (numS_ok hp.1).1, (numS_ok hp.1).2⟩ | exact ⟨hp.1, by omega, by (have := List.length_pos_iff.mpr hp.2.1; omega)⟩ | exact ⟨hp.1, hp.2.1⟩ | exact (note_ok hp.1 (by assumption) (by assumption)).2 | exact (note_ok hp.1 (by assumption) (by assumption)).1 | (have := cp_len xs ([47, 42] : Bs); have := hp.2.2; unfold idxP; omega) | exact (sp_ok hp.1 _).2 | exact (sp_ok hp.1 _).1 | exact ⟨by decide, by decide, by decide⟩ | omega | assumption | exact trivial | (have h0 := List.length_pos_iff.mpr (by assumption); omega) | (simp; omega) | (simp at *; omega)
     ·first | (have := List.length_pos_iff.mpr hp.2.1; omega) | exact hp.1 | exact Int.ofNat_le.2 (named_len _ _) | exact (named_par hp.1 (by assumption)).2 | exact (named_par hp.1 (by assumption)).1 | exact ⟨hp.1, (numS_ok hp.1).1, (numS_ok hp.1).2⟩ | exact ⟨hp.1, by omega, by (have := List.length_pos_iff.mpr hp.2.1; omega)⟩ | exact ⟨hp.1, hp.2.1⟩ | exact (note_ok hp.1 (by assumption) (by assumption)).2 | exact (note_ok hp.1 (by assumption) (by assumption)).1 | (have := cp_len xs ([47, 42] : Bs); have := hp.2.2; unfold idxP; omega) | exact (sp_ok hp.1 _).2 | exact (sp_ok hp.1 _).1 | exact ⟨by decide, by decide, by decide⟩ | omega | assumption | exact trivial | (have h0 := List.length_pos_iff.mpr (by assumption); omega) | (simp; omega) | (simp at *; omega)
     exact firstj72_A xs (by first | (have := List.length_pos_iff.mpr hp.2.1; omega) | exact hp.1 | exact Int.ofNat_le.2 (named_len _ _) | exact (named_par hp.1 (by assumption)).2 | exact (named_par hp.1 (by assumption)).1 | exact ⟨hp.1, (numS_ok hp.1).1, (numS_ok hp.1).2⟩ | exact ⟨hp.1, by omega, by (have := List.length_pos_iff.mpr hp.2.1; omega)⟩ | exact ⟨hp.1, hp.2.1⟩ | exact (note_ok hp.1 (by assumption) (by assumption)).2 | exact (note_ok hp.1 (by assumption) (by assumption)).1 | (have := cp_len xs ([47, 42] : Bs); have := hp.2.2; unfold idxP; omega) | exact (sp_ok hp.1 _).2 | exact (sp_ok hp.1 _).1 | exact ⟨by decide, by decide, by decide⟩ | omega | assumption | exact trivial | (have h0 := List.length_pos_iff.mpr (by assumption); omega) | (simp; omega) | (simp at *; omega)) _ h
    ·skip
     exact firstj72_A xs (by first | (have := List.length_pos_iff.mpr hp.2.1; omega) | exact hp.1 | exact Int.ofNat_le.2 (named_len _ _) | exact (named_par hp.1 (by assumption)).2 | exact (named_par hp.1 (by assumption)).1 | exact ⟨hp.1, (numS_ok hp.1).1, (numS_ok hp.1).2⟩ | exact ⟨hp.1, by omega, by (have := List.length_pos_iff.mpr hp.2.1; omega)⟩ | exact ⟨hp.1, hp.2.1⟩ | exact (note_ok hp.1 (by assumption) (by assumption)).2 | exact (note_ok hp.1 (by assumption) (by assumption)).1 | (have := cp_len xs ([47, 42] : Bs); have := hp.2.2; unfold idxP; omega) | exact (sp_ok hp.1 _).2 | exact (sp_ok hp.1 _).1 | exact ⟨by decide, by decide, by decide⟩ | omega | assumption | exact trivial | (have h0 := List.length_pos_iff.mpr (by assumption); omega) | (simp; omega) | (simp at *; omega)) _ h
   ·rw [if_f hc2] at h
    refine ⟨fun hc3 => ?_, fun hc3 => ?_⟩
    ·skip
     have hd3 := hc3; try simp only [Bool.and_eq_true, Bool.or_eq_true, Bool.and_eq_false_iff, Bool.or_eq_false_iff, Bool.not_eq_true', Bool.not_eq_false', decide_eq_true_eq, decide_eq_false_iff_not, beq_iff_eq, beq_eq_false_iff_ne, ne_eq] at hd3
     exact firstj88_A xs e10 (by first | (have := List.length_pos_iff.mpr hp.2.1; omega) | exact hp.1 | exact Int.ofNat_le.2 (named_len _ _) | exact (named_par hp.1 (by assumption)).2 | exact (named_par hp.1 (by assumption)).1 | exact ⟨hp.1, (numS_ok hp.1).1, (numS_ok hp.1).2⟩ | exact ⟨hp.1, by omega, by (have := List.length_pos_iff.mpr hp.2.1; omega)⟩ | exact ⟨hp.1, hp.2.1⟩ | exact (note_ok hp.1 (by assumption) (by assumption)).2 | exact (note_ok hp.1 (by assumption) (by assumption)).1 | (have := cp_len xs ([47, 42] : Bs); have := hp.2.2; unfold idxP; omega) | exact (sp_ok hp.1 _).2 | exact (sp_ok hp.1 _).1 | exact ⟨by decide, by decide, by decide⟩ | omega | assumption | exact trivial | (have h0 := List.length_pos_iff.mpr (by assumption); omega) | (simp; omega) | (simp at *; omega)) _ h
    ·skip
     have hd3 := hc3; try simp only [Bool.and_eq_true, Bool.or_eq_true, Bool.and_eq_false_iff, Bool.or_eq_false_iff, Bool.not_eq_true', Bool.not_eq_false', decide_eq_true_eq, decide_eq_false_iff_not, beq_iff_eq, beq_eq_false_iff_ne, ne_eq] at hd3
     refine ⟨fun hc4 => ?_, fun hc4 => ?_⟩
     ·skip
      have hd4 := hc4; try simp only [Bool.and_eq_true, Bool.or_eq_true, Bool.and_eq_false_iff, Bool.or_eq_false_iff, Bool.not_eq_true', Bool.not_eq_false', decide_eq_true_eq, decide_eq_false_iff_not, beq_iff_eq, beq_eq_false_iff_ne, ne_eq] at hd4
      exact firstj88_A xs e10 (by first | (have := List.length_pos_iff.mpr hp.2.1; omega) | exact hp.1 | exact Int.ofNat_le.2 (named_len _ _) | exact (named_par hp.1 (by assumption)).2 | exact (named_par hp.1 (by assumption)).1 | exact ⟨hp.1, (numS_ok hp.1).1, (numS_ok hp.1).2⟩ | exact ⟨hp.1, by omega, by (have := List.length_pos_iff.mpr hp.2.1; omega)⟩ | exact ⟨hp.1, hp.2.1⟩ | exact (note_ok hp.1 (by assumption) (by assumption)).2 | exact (note_ok hp.1 (by assumption) (by assumption)).1 | (have := cp_len xs ([47, 42] : Bs); have := hp.2.2; unfold idxP; omega) | exact (sp_ok hp.1 _).2 | exact (sp_ok hp.1 _).1 | exact ⟨by decide, by decide, by decide⟩ | omega | assumption | exact trivial | (have h0 := List.length_pos_iff.mpr (by assumption); omega) | (simp; omega) | (simp at *; omega)) _ h
     ·skip
      have hd4 := hc4; try simp only [Bool.and_eq_true, Bool.or_eq_true, Bool.and_eq_false_iff, Bool.or_eq_false_iff, Bool.not_eq_true', Bool.not_eq_false', decide_eq_true_eq, decide_eq_false_iff_not, beq_iff_eq, beq_eq_false_iff_ne, ne_eq] at hd4
      exact firstj88_A xs e10 (by first | (have := List.length_pos_iff.mpr hp.2.1; omega) | exact hp.1 | exact Int.ofNat_le.2 (named_len _ _) | exact (named_par hp.1 (by assumption)).2 | exact (named_par hp.1 (by assumption)).1 | exact ⟨hp.1, (numS_ok hp.1).1, (numS_ok hp.1).2⟩ | exact ⟨hp.1, by omega, by (have := List.length_pos_iff.mpr hp.2.1; omega)⟩ | exact ⟨hp.1, hp.2.1⟩ | exact (note_ok hp.1 (by assumption) (by assumption)).2 | exact (note_ok hp.1 (by assumption) (by assumption)).1 | (have := cp_len xs ([47, 42] : Bs); have := hp.2.2; unfold idxP; omega) | exact (sp_ok hp.1 _).2 | exact (sp_ok hp.1 _).1 | exact ⟨by decide, by decide, by decide⟩ | omega | assumption | exact trivial | (have h0 := List.length_pos_iff.mpr (by assumption); omega) | (simp; omega) | (simp at *; omega)) _ h
def firstj43M (xs : Bs) (e10 : UInt8) : (Int × Bs × Bs × Int) := (if (firstV1 xs e10) = true then ((namedM 4 xs 1).1, (namedM 4 xs 1).2.1, (namedM 4 xs 1).2.2.1, (namedM 4 xs 1).2.2.2) else (firstj49M xs e10))
theorem firstj43_A (xs : Bs) (e10 : UInt8) (hp : firstP xs) (P : (Int × Bs × Bs × Int) → Prop) (h : P (firstj43M xs e10)) : firstj43 xs (fun k0 => P k0) e10 := by
 unfold firstj43M at h
 unfold firstj43
 refine ⟨fun hc0 => ?_, fun hc0 => ?_⟩
 ·rw [if_t hc0] at h
  refine ⟨?_, ?_⟩
  ·first | (have := List.length_pos_iff.mpr hp.2.1; omega) | exact hp.1 | exact Int.ofNat_le.2 (named_len _ _) | exact (named_par hp.1 (by assumption)).2 | exact (named_par hp.1 (by assumption)).1 | exact ⟨hp.1, (numS_ok hp.1).1, (numS_ok hp.1).2⟩ | exact ⟨hp.1, by omega, by (have := List.length_pos_iff.mpr hp.2.1; omega)⟩ | exact ⟨hp.1, hp.2.1⟩ | exact (note_ok hp.1 (by assumption) (by assumption)).2 | exact (note_ok hp.1 (by assumption) (by assumption)).1 | (have := cp_len xs ([47, 42] : Bs); have := hp.2.2; unfold idxP; omega) | exact (sp_ok hp.1 _).2 | exact (sp_ok hp.1 _).1 | exact ⟨by decide, by decide, by decide⟩ | omega | assumption | exact trivial | (have h0 := List.length_pos_iff.mpr (by assumption); omega) | (simp; omega) | (simp at *; omega)
  exact h
 ·rw [if_f hc0] at h
  refine ⟨fun hc1 => ?_, fun hc1 => ?_⟩
  ·skip
   have hd1 := hc1; try simp only [Bool.and_eq_true, Bool.or_eq_true, Bool.and_eq_false_iff, Bool.or_eq_false_iff, Bool.not_eq_true', Bool.not_eq_false', decide_eq_true_eq, decide_eq_false_iff_not, beq_iff_eq, beq_eq_false_iff_ne, ne_eq] at hd1
   refine ⟨?_, ?_, ?_, ?_⟩
   ·first | (have := List.length_pos_iff.mpr hp.2.1; omega) | exact hp.1 | exact Int.ofNat_le.2 (named_len _ _) | exact (named_par hp.1 (by assumption)).2 | exact (named_par hp.1 (by assumption)).1 | exact ⟨hp.1, (numS_ok hp.1).1, (numS_ok hp.1).2⟩ | exact ⟨hp.1, by omega, by (have := List.length_pos_iff.mpr hp.2.1; omega)⟩ | exact ⟨hp.1, hp.2.1⟩ | exact (note_ok hp.1 (by assumption) (by assumption)).2 | exact (note_ok hp.1 (by assumption) (by assumption)).1 | (have := cp_len xs ([47, 42] : Bs); have := hp.2.2; unfold idxP; omega) | exact (sp_ok hp.1 _).2 | exact (sp_ok hp.1 _).1 | exact ⟨by decide, by decide, by decide⟩ | omega | assumption | exact trivial | (have h0 := List.length_pos_iff.mpr (by assumption); omega) | (simp; omega) | (simp at *; omega)
   ·first | (have := List.length_pos_iff.mpr hp.2.1; omega) | exact hp.1 | exact Int.ofNat_le.2 (named_len _ _) | exact (named_par hp.1 (by assumption)).2 | exact (named_par hp.1 (by assumption)).1 | exact ⟨hp.1, (numS_ok hp.1).1, (numS_ok hp.1).2⟩ | exact ⟨hp.1, by omega, by (have := List.length_pos_iff.mpr hp.2.1; omega)⟩ | exact ⟨hp.1, hp.2.1⟩ | exact (note_ok hp.1 (by assumption) (by assumption)).2 | exact (note_ok hp.1 (by assumption) (by assumption)).1 | (have := cp_len xs ([47, 42] : Bs); have := hp.2.2; unfold idxP; omega) | exact (sp_ok hp.1 _).2 | exact (sp_ok hp.1 _).1 | exact ⟨by decide, by decide, by decide⟩ | omega | assumption | exact trivial | (have h0 := List.length_pos_iff.mpr (by assumption); omega) | (simp; omega) | (simp at *; omega)
   ·first | (have := List.length_pos_iff.mpr hp.2.1; omega) | exact hp.1 | exact Int.ofNat_le.2 (named_len _ _) | exact (named_par hp.1 (by assumption)).2 | exact (named_par hp.1 (by assumption)).1 | exact ⟨hp.1, (numS_ok hp.1).1, (numS_ok hp.1).2⟩ | exact ⟨hp.1, by omega, by (have := List.length_pos_iff.mpr hp.2.1; omega)⟩ | exact ⟨hp.1, hp.2.1⟩ | exact (note_ok hp.1 (by assumption) (by assumption)).2 | exact (note_ok hp.1 (by assumption) (by assumption)).1 | (have := cp_len xs ([47, 42] : Bs); have := hp.2.2; unfold idxP; omega) | exact (sp_ok hp.1 _).2 | exact (sp_ok hp.1 _).1 | exact ⟨by decide, by decide, by decide⟩ | omega | assumption | exact trivial | (have h0 := List.length_pos_iff.mpr (by assumption); omega) | (simp; omega) | (simp at *; omega)
   exact firstj49_A xs e10 (by first | (have := List.length_pos_iff.mpr hp.2.1; omega) | exact hp.1 | exact Int.ofNat_le.2 (named_len _ _) | exact (named_par hp.1 (by assumption)).2 | exact (named_par hp.1 (by assumption)).1 | exact ⟨hp.1, (numS_ok hp.1).1, (numS_ok hp.1).2⟩ | exact ⟨hp.1, by omega, by (have := List.length_pos_iff.mpr hp.2.1; omega)⟩ | exact ⟨hp.1, hp.2.1⟩ | exact (note_ok hp.1 (by assumption) (by assumption)).2 | exact (note_ok hp.1 (by assumption) (by assumption)).1 | (have := cp_len xs ([47, 42] : Bs); have := hp.2.2; unfold idxP; omega) | exact (sp_ok hp.1 _).2 | exact (sp_ok hp.1 _).1 | exact ⟨by decide, by decide, by decide⟩ | omega | assumption | exact trivial | (have h0 := List.length_pos_iff.mpr (by assumption); omega) | (simp; omega) | (simp at *; omega)) _ h
  ·skip
   have hd1 := hc1; try simp only [Bool.and_eq_true, Bool.or_eq_true, Bool.and_eq_false_iff, Bool.or_eq_false_iff, Bool.not_eq_true', Bool.not_eq_false', decide_eq_true_eq, decide_eq_false_iff_not, beq_iff_eq, beq_eq_false_iff_ne, ne_eq] at hd1
   exact firstj49_A xs e10 (by first | (have := List.length_pos_iff.mpr hp.2.1; omega) | exact hp.1 | exact Int.ofNat_le.2 (named_len _ _) | exact (named_par hp.1 (by assumption)).2 | exact (named_par hp.1 (by assumption)).1 | exact ⟨hp.1, (numS_ok hp.1).1, (numS_ok hp.1).2⟩ | exact ⟨hp.1, by omega, by (have := List.length_pos_iff.mpr hp.2.1; omega)⟩ | exact ⟨hp.1, hp.2.1⟩ | exact (note_ok hp.1 (by assumption) (by assumption)).2 | exact (note_ok hp.1 (by assumption) (by assumption)).1 | (have := cp_len xs ([47, 42] : Bs); have := hp.2.2; unfold idxP; omega) | exact (sp_ok hp.1 _).2 | exact (sp_ok hp.1 _).1 | exact ⟨by decide, by decide, by decide⟩ | omega | assumption | exact trivial | (have h0 := List.length_pos_iff.mpr (by assumption); omega) | (simp; omega) | (simp at *; omega)) _ h
def firstM (xs : Bs) : (Int × Bs × Bs × Int) := (if (decide ((w6 ((xs.length : Int) - ((tlS xs ([32, 9, 10, 12, 13] : Bs)).length : Int))) > 0)) = true then (8, xs.take (Int.toNat (w6 ((xs.length : Int) - ((tlS xs ([32, 9, 10, 12, 13] : Bs)).length : Int)))), ([] : Bs), 0) else (if (cpM xs ([47, 42] : Bs)).2 = true then (firstj21M xs) else (if ((((xs.getD (Int.toNat 0) 0).toNat : Int) == 39) || (((xs.getD (Int.toNat 0) 0).toNat : Int) == 34)) = true then ((textS xs).1, (textS xs).2.1, (textS xs).2.2.1, (textS xs).2.2.2) else (firstj43M xs (xs.getD (Int.toNat 0) 0)))))
theorem firstF_A (xs : Bs) (hp : firstP xs) (P : (Int × Bs × Bs × Int) → Prop) (h : P (firstM xs)) : firstF xs (fun k0 => P k0) := by
 unfold firstM at h
 unfold firstF
 refine ⟨?_, ?_⟩
 ·first | (have := List.length_pos_iff.mpr hp.2.1; omega) | exact hp.1 | exact Int.ofNat_le.2 (named_len _ _) | exact (named_par hp.1 (by assumption)).2 | exact (named_par hp.1 (by assumption)).1 | exact ⟨hp.1, (numS_ok hp.1).1, (numS_ok hp.1).2⟩ | exact ⟨hp.1, by omega, by (have := List.length_pos_iff.mpr hp.2.1; omega)⟩ | exact ⟨hp.1, hp.2.1⟩ | exact (note_ok hp.1 (by assumption) (by assumption)).2 | exact (note_ok hp.1 (by assumption) (by assumption)).1 | (have := cp_len xs ([47, 42] : Bs); have := hp.2.2; unfold idxP; omega) | exact (sp_ok hp.1 _).2 | exact (sp_ok hp.1 _).1 | exact ⟨by decide, by decide, by decide⟩ | omega | assumption | exact trivial | (have h0 := List.length_pos_iff.mpr (by assumption); omega) | (simp; omega) | (simp at *; omega)
 refine ⟨fun hc0 => ?_, fun hc0 => ?_⟩
 ·rw [if_t hc0] at h
  have hd0 := hc0; try simp only [Bool.and_eq_true, Bool.or_eq_true, Bool.and_eq_false_iff, Bool.or_eq_false_iff, Bool.not_eq_true', Bool.not_eq_false', decide_eq_true_eq, decide_eq_false_iff_not, beq_iff_eq, beq_eq_false_iff_ne, ne_eq] at hd0
  refine ⟨?_, ?_, ?_, ?_⟩
  ·first | (have := List.length_pos_iff.mpr hp.2.1; omega) | exact hp.1 | exact Int.ofNat_le.2 (named_len _ _) | exact (named_par hp.1 (by assumption)).2 | exact (named_par hp.1 (by assumption)).1 | exact ⟨hp.1, (numS_ok hp.1).1, (numS_ok hp.1).2⟩ | exact ⟨hp.1, by omega, by (have := List.length_pos_iff.mpr hp.2.1; omega)⟩ | exact ⟨hp.1, hp.2.1⟩ | exact (note_ok hp.1 (by assumption) (by assumption)).2 | exact (note_ok hp.1 (by assumption) (by assumption)).1 | (have := cp_len xs ([47, 42] : Bs); have := hp.2.2; unfold idxP; omega) | exact (sp_ok hp.1 _).2 | exact (sp_ok hp.1 _).1 | exact ⟨by decide, by decide, by decide⟩ | omega | assumption | exact trivial | (have h0 := List.length_pos_iff.mpr (by assumption); omega) | (simp; omega) | (simp at *; omega)
  ·first | (have := List.length_pos_iff.mpr hp.2.1; omega) | exact hp.1 | exact Int.ofNat_le.2 (named_len _ _) | exact (named_par hp.1 (by assumption)).2 | exact (named_par hp.1 (by assumption)).1 | exact ⟨hp.1, (numS_ok hp.1).1, (numS_ok hp.1).2⟩ | exact ⟨hp.1, by omega, by (have := List.length_pos_iff.mpr hp.2.1; omega)⟩ | exact ⟨hp.1, hp.2.1⟩ | exact (note_ok hp.1 (by assumption) (by assumption)).2 | exact (note_ok hp.1 (by assumption) (by assumption)).1 | (have := cp_len xs ([47, 42] : Bs); have := hp.2.2; unfold idxP; omega) | exact (sp_ok hp.1 _).2 | exact (sp_ok hp.1 _).1 | exact ⟨by decide, by decide, by decide⟩ | omega | assumption | exact trivial | (have h0 := List.length_pos_iff.mpr (by assumption); omega) | (simp; omega) | (simp at *; omega)
  ·first | (have := List.length_pos_iff.mpr hp.2.1; omega) | exact hp.1 | exact Int.ofNat_le.2 (named_len _ _) | exact (named_par hp.1 (by assumption)).2 | exact (named_par hp.1 (by assumption)).1 | exact ⟨hp.1, (numS_ok hp.1).1, (numS_ok hp.1).2⟩ | exact ⟨hp.1, by omega, by (have := List.length_pos_iff.mpr hp.2.1; omega)⟩ | exact ⟨hp.1, hp.2.1⟩ | exact (note_ok hp.1 (by assumption) (by assumption)).2 | exact (note_ok hp.1 (by assumption) (by assumption)).1 | (have := cp_len xs ([47, 42] : Bs); have := hp.2.2; unfold idxP; omega) | exact (sp_ok hp.1 _).2 | exact (sp_ok hp.1 _).1 | exact ⟨by decide, by decide, by decide⟩ | omega | assumption | exact trivial | (have h0 := List.length_pos_iff.mpr (by assumption); omega) | (simp; omega) | (simp at *; omega)
  exact h
 ·rw [if_f hc0] at h
  have hd0 := hc0; try simp only [Bool.and_eq_true, Bool.or_eq_true, Bool.and_eq_false_iff, Bool.or_eq_false_iff, Bool.not_eq_true', Bool.not_eq_false', decide_eq_true_eq, decide_eq_false_iff_not, beq_iff_eq, beq_eq_false_iff_ne, ne_eq] at hd0
  refine ⟨fun hc1 => ?_, fun hc1 => ?_⟩
  ·rw [if_t hc1] at h
   refine ⟨?_, ?_⟩
   ·first | (have := List.length_pos_iff.mpr hp.2.1; omega) | exact hp.1 | exact Int.ofNat_le.2 (named_len _ _) | exact (named_par hp.1 (by assumption)).2 | exact (named_par hp.1 (by assumption)).1 | exact ⟨hp.1, (numS_ok hp.1).1, (numS_ok hp.1).2⟩ | exact ⟨hp.1, by omega, by (have := List.length_pos_iff.mpr hp.2.1; omega)⟩ | exact ⟨hp.1, hp.2.1⟩ | exact (note_ok hp.1 (by assumption) (by assumption)).2 | exact (note_ok hp.1 (by assumption) (by assumption)).1 | (have := cp_len xs ([47, 42] : Bs); have := hp.2.2; unfold idxP; omega) | exact (sp_ok hp.1 _).2 | exact (sp_ok hp.1 _).1 | exact ⟨by decide, by decide, by decide⟩ | omega | assumption | exact trivial | (have h0 := List.length_pos_iff.mpr (by assumption); omega) | (simp; omega) | (simp at *; omega)
   refine ⟨fun hc2 => ?_, fun hc2 => ?_⟩
   ·skip
    have hd2 := hc2; try simp only [Bool.and_eq_true, Bool.or_eq_true, Bool.and_eq_false_iff, Bool.or_eq_false_iff, Bool.not_eq_true', Bool.not_eq_false', decide_eq_true_eq, decide_eq_false_iff_not, beq_iff_eq, beq_eq_false_iff_ne, ne_eq] at hd2
    refine ⟨?_, ?_, ?_, ?_⟩
    ·first | (have := List.length_pos_iff.mpr hp.2.1; omega) | exact hp.1 | exact Int.ofNat_le.2 (named_len _ _) | exact (named_par hp.1 (by assumption)).2 | exact (named_par hp.1 (by assumption)).1 | exact ⟨hp.1, (numS_ok hp.1).1, (numS_ok hp.1).2⟩ | exact ⟨hp.1, by omega, by (have := List.length_pos_iff.mpr hp.2.1; omega)⟩ | exact ⟨hp.1, hp.2.1⟩ | exact (note_ok hp.1 (by assumption) (by assumption)).2 | exact (note_ok hp.1 (by assumption) (by assumption)).1 | (have := cp_len xs ([47, 42] : Bs); have := hp.2.2; unfold idxP; omega) | exact (sp_ok hp.1 _).2 | exact (sp_ok hp.1 _).1 | exact ⟨by decide, by decide, by decide⟩ | omega | assumption | exact trivial | (have h0 := List.length_pos_iff.mpr (by assumption); omega) | (simp; omega) | (simp at *; omega)
    ·first | (have := List.length_pos_iff.mpr hp.2.1; omega) | exact hp.1 | exact Int.ofNat_le.2 (named_len _ _) | exact (named_par hp.1 (by assumption)).2 | exact (named_par hp.1 (by assumption)).1 | exact ⟨hp.1, (numS_ok hp.1).1, (numS_ok hp.1).2⟩ | exact ⟨hp.1, by omega, by (have := List.length_pos_iff.mpr hp.2.1; omega)⟩ | exact ⟨hp.1, hp.2.1⟩ | exact (note_ok hp.1 (by assumption) (by assumption)).2 | exact (note_ok hp.1 (by assumption) (by assumption)).1 | (have := cp_len xs ([47, 42] : Bs); have := hp.2.2; unfold idxP; omega) | exact (sp_ok hp.1 _).2 | exact (sp_ok hp.1 _).1 | exact ⟨by decide, by decide, by decide⟩ | omega | assumption | exact trivial | (have h0 := List.length_pos_iff.mpr (by assumption); omega) | (simp; omega) | (simp at *; omega)
    ·first | (have := List.length_pos_iff.mpr hp.2.1; omega) | exact hp.1 | exact Int.ofNat_le.2 (named_len _ _) | exact (named_par hp.1 (by assumption)).2 | exact (named_par hp.1 (by assumption)).1 | exact ⟨hp.1, (numS_ok hp.1).1, (numS_ok hp.1).2⟩ | exact ⟨hp.1, by omega, by (have := List.length_pos_iff.mpr hp.2.1; omega)⟩ | exact ⟨hp.1, hp.2.1⟩ | exact (note_ok hp.1 (by assumption) (by assumption)).2 | exact (note_ok hp.1 (by assumption) (by assumption)).1 | (have := cp_len xs ([47, 42] : Bs); have := hp.2.2; unfold idxP; omega) | exact (sp_ok hp.1 _).2 | exact (sp_ok hp.1 _).1 | exact ⟨by decide, by decide, by decide⟩ | omega | assumption | exact trivial | (have h0 := List.length_pos_iff.mpr (by assumption); omega) | (simp; omega) | (simp at *; omega)
    exact firstj21_A xs (by first | (have := List.length_pos_iff.mpr hp.2.1; omega) | exact hp.1 | exact Int.ofNat_le.2 (named_len _ _) | exact (named_par hp.1 (by assumption)).2 | exact (named_par hp.1 (by assumption)).1 | exact ⟨hp.1, (numS_ok hp.1).1, (numS_ok hp.1).2⟩ | exact ⟨hp.1, by omega, by (have := List.length_pos_iff.mpr hp.2.1; omega)⟩ | exact ⟨hp.1, hp.2.1⟩ | exact (note_ok hp.1 (by assumption) (by assumption)).2 | exact (note_ok hp.1 (by assumption) (by assumption)).1 | (have := cp_len xs ([47, 42] : Bs); have := hp.2.2; unfold idxP; omega) | exact (sp_ok hp.1 _).2 | exact (sp_ok hp.1 _).1 | exact ⟨by decide, by decide, by decide⟩ | omega | assumption | exact trivial | (have h0 := List.length_pos_iff.mpr (by assumption); omega) | (simp; omega) | (simp at *; omega)) _ h
   ·skip
    have hd2 := hc2; try simp only [Bool.and_eq_true, Bool.or_eq_true, Bool.and_eq_false_iff, Bool.or_eq_false_iff, Bool.not_eq_true', Bool.not_eq_false', decide_eq_true_eq, decide_eq_false_iff_not, beq_iff_eq, beq_eq_false_iff_ne, ne_eq] at hd2
    exact firstj21_A xs (by first | (have := List.length_pos_iff.mpr hp.2.1; omega) | exact hp.1 | exact Int.ofNat_le.2 (named_len _ _) | exact (named_par hp.1 (by assumption)).2 | exact (named_par hp.1 (by assumption)).1 | exact ⟨hp.1, (numS_ok hp.1).1, (numS_ok hp.1).2⟩ | exact ⟨hp.1, by omega, by (have := List.length_pos_iff.mpr hp.2.1; omega)⟩ | exact ⟨hp.1, hp.2.1⟩ | exact (note_ok hp.1 (by assumption) (by assumption)).2 | exact (note_ok hp.1 (by assumption) (by assumption)).1 | (have := cp_len xs ([47, 42] : Bs); have := hp.2.2; unfold idxP; omega) | exact (sp_ok hp.1 _).2 | exact (sp_ok hp.1 _).1 | exact ⟨by decide, by decide, by decide⟩ | omega | assumption | exact trivial | (have h0 := List.length_pos_iff.mpr (by assumption); omega) | (simp; omega) | (simp at *; omega)) _ h
  ·rw [if_f hc1] at h
   refine ⟨?_, ?_, ?_⟩
   ·first | (have := List.length_pos_iff.mpr hp.2.1; omega) | exact hp.1 | exact Int.ofNat_le.2 (named_len _ _) | exact (named_par hp.1 (by assumption)).2 | exact (named_par hp.1 (by assumption)).1 | exact ⟨hp.1, (numS_ok hp.1).1, (numS_ok hp.1).2⟩ | exact ⟨hp.1, by omega, by (have := List.length_pos_iff.mpr hp.2.1; omega)⟩ | exact ⟨hp.1, hp.2.1⟩ | exact (note_ok hp.1 (by assumption) (by assumption)).2 | exact (note_ok hp.1 (by assumption) (by assumption)).1 | (have := cp_len xs ([47, 42] : Bs); have := hp.2.2; unfold idxP; omega) | exact (sp_ok hp.1 _).2 | exact (sp_ok hp.1 _).1 | exact ⟨by decide, by decide, by decide⟩ | omega | assumption | exact trivial | (have h0 := List.length_pos_iff.mpr (by assumption); omega) | (simp; omega) | (simp at *; omega)
   ·first | (have := List.length_pos_iff.mpr hp.2.1; omega) | exact hp.1 | exact Int.ofNat_le.2 (named_len _ _) | exact (named_par hp.1 (by assumption)).2 | exact (named_par hp.1 (by assumption)).1 | exact ⟨hp.1, (numS_ok hp.1).1, (numS_ok hp.1).2⟩ | exact ⟨hp.1, by omega, by (have := List.length_pos_iff.mpr hp.2.1; omega)⟩ | exact ⟨hp.1, hp.2.1⟩ | exact (note_ok hp.1 (by assumption) (by assumption)).2 | exact (note_ok hp.1 (by assumption) (by assumption)).1 | (have := cp_len xs ([47, 42] : Bs); have := hp.2.2; unfold idxP; omega) | exact (sp_ok hp.1 _).2 | exact (sp_ok hp.1 _).1 | exact ⟨by decide, by decide, by decide⟩ | omega | assumption | exact trivial | (have h0 := List.length_pos_iff.mpr (by assumption); omega) | (simp; omega) | (simp at *; omega)
   refine ⟨fun hc2 => ?_, fun hc2 => ?_⟩
   ·rw [if_t hc2] at h
    have hd2 := hc2; try simp only [Bool.and_eq_true, Bool.or_eq_true, Bool.and_eq_false_iff, Bool.or_eq_false_iff, Bool.not_eq_true', Bool.not_eq_false', decide_eq_true_eq, decide_eq_false_iff_not, beq_iff_eq, beq_eq_false_iff_ne, ne_eq] at hd2
    refine ⟨?_, ?_⟩
    ·first | (have := List.length_pos_iff.mpr hp.2.1; omega) | exact hp.1 | exact Int.ofNat_le.2 (named_len _ _) | exact (named_par hp.1 (by assumption)).2 | exact (named_par hp.1 (by assumption)).1 | exact ⟨hp.1, (numS_ok hp.1).1, (numS_ok hp.1).2⟩ | exact ⟨hp.1, by omega, by (have := List.length_pos_iff.mpr hp.2.1; omega)⟩ | exact ⟨hp.1, hp.2.1⟩ | exact (note_ok hp.1 (by assumption) (by assumption)).2 | exact (note_ok hp.1 (by assumption) (by assumption)).1 | (have := cp_len xs ([47, 42] : Bs); have := hp.2.2; unfold idxP; omega) | exact (sp_ok hp.1 _).2 | exact (sp_ok hp.1 _).1 | exact ⟨by decide, by decide, by decide⟩ | omega | assumption | exact trivial | (have h0 := List.length_pos_iff.mpr (by assumption); omega) | (simp; omega) | (simp at *; omega)
    exact h
   ·rw [if_f hc2] at h
    have hd2 := hc2; try simp only [Bool.and_eq_true, Bool.or_eq_true, Bool.and_eq_false_iff, Bool.or_eq_false_iff, Bool.not_eq_true', Bool.not_eq_false', decide_eq_true_eq, decide_eq_false_iff_not, beq_iff_eq, beq_eq_false_iff_ne, ne_eq] at hd2
    refine ⟨fun hc3 => ?_, fun hc3 => ?_⟩
    ·skip
     have hd3 := hc3; try simp only [Bool.and_eq_true, Bool.or_eq_true, Bool.and_eq_false_iff, Bool.or_eq_false_iff, Bool.not_eq_true', Bool.not_eq_false', decide_eq_true_eq, decide_eq_false_iff_not, beq_iff_eq, beq_eq_false_iff_ne, ne_eq] at hd3
     refine ⟨fun hc4 => ?_, fun hc4 => ?_⟩
     ·skip
      have hd4 := of_decide_eq_true hc4
      refine ⟨?_, ?_, ?_⟩
      ·first | (have := List.length_pos_iff.mpr hp.2.1; omega) | exact hp.1 | exact Int.ofNat_le.2 (named_len _ _) | exact (named_par hp.1 (by assumption)).2 | exact (named_par hp.1 (by assumption)).1 | exact ⟨hp.1, (numS_ok hp.1).1, (numS_ok hp.1).2⟩ | exact ⟨hp.1, by omega, by (have := List.length_pos_iff.mpr hp.2.1; omega)⟩ | exact ⟨hp.1, hp.2.1⟩ | exact (note_ok hp.1 (by assumption) (by assumption)).2 | exact (note_ok hp.1 (by assumption) (by assumption)).1 | (have := cp_len xs ([47, 42] : Bs); have := hp.2.2; unfold idxP; omega) | exact (sp_ok hp.1 _).2 | exact (sp_ok hp.1 _).1 | exact ⟨by decide, by decide, by decide⟩ | omega | assumption | exact trivial | (have h0 := List.length_pos_iff.mpr (by assumption); omega) | (simp; omega) | (simp at *; omega)
      ·first | (have := List.length_pos_iff.mpr hp.2.1; omega) | exact hp.1 | exact Int.ofNat_le.2 (named_len _ _) | exact (named_par hp.1 (by assumption)).2 | exact (named_par hp.1 (by assumption)).1 | exact ⟨hp.1, (numS_ok hp.1).1, (numS_ok hp.1).2⟩ | exact ⟨hp.1, by omega, by (have := List.length_pos_iff.mpr hp.2.1; omega)⟩ | exact ⟨hp.1, hp.2.1⟩ | exact (note_ok hp.1 (by assumption) (by assumption)).2 | exact (note_ok hp.1 (by assumption) (by assumption)).1 | (have := cp_len xs ([47, 42] : Bs); have := hp.2.2; unfold idxP; omega) | exact (sp_ok hp.1 _).2 | exact (sp_ok hp.1 _).1 | exact ⟨by decide, by decide, by decide⟩ | omega | assumption | exact trivial | (have h0 := List.length_pos_iff.mpr (by assumption); omega) | (simp; omega) | (simp at *; omega)
      refine ⟨fun hc5 => ?_, fun hc5 => ?_⟩
      ·skip
       exact firstj43_A xs (xs.getD (Int.toNat 0) 0) (by first | (have := List.length_pos_iff.mpr hp.2.1; omega) | exact hp.1 | exact Int.ofNat_le.2 (named_len _ _) | exact (named_par hp.1 (by assumption)).2 | exact (named_par hp.1 (by assumption)).1 | exact ⟨hp.1, (numS_ok hp.1).1, (numS_ok hp.1).2⟩ | exact ⟨hp.1, by omega, by (have := List.length_pos_iff.mpr hp.2.1; omega)⟩ | exact ⟨hp.1, hp.2.1⟩ | exact (note_ok hp.1 (by assumption) (by assumption)).2 | exact (note_ok hp.1 (by assumption) (by assumption)).1 | (have := cp_len xs ([47, 42] : Bs); have := hp.2.2; unfold idxP; omega) | exact (sp_ok hp.1 _).2 | exact (sp_ok hp.1 _).1 | exact ⟨by decide, by decide, by decide⟩ | omega | assumption | exact trivial | (have h0 := List.length_pos_iff.mpr (by assumption); omega) | (simp; omega) | (simp at *; omega)) _ h
      ·skip
       refine ⟨?_, ?_, ?_, ?_⟩
       ·first | (have := List.length_pos_iff.mpr hp.2.1; omega) | exact hp.1 | exact Int.ofNat_le.2 (named_len _ _) | exact (named_par hp.1 (by assumption)).2 | exact (named_par hp.1 (by assumption)).1 | exact ⟨hp.1, (numS_ok hp.1).1, (numS_ok hp.1).2⟩ | exact ⟨hp.1, by omega, by (have := List.length_pos_iff.mpr hp.2.1; omega)⟩ | exact ⟨hp.1, hp.2.1⟩ | exact (note_ok hp.1 (by assumption) (by assumption)).2 | exact (note_ok hp.1 (by assumption) (by assumption)).1 | (have := cp_len xs ([47, 42] : Bs); have := hp.2.2; unfold idxP; omega) | exact (sp_ok hp.1 _).2 | exact (sp_ok hp.1 _).1 | exact ⟨by decide, by decide, by decide⟩ | omega | assumption | exact trivial | (have h0 := List.length_pos_iff.mpr (by assumption); omega) | (simp; omega) | (simp at *; omega)
       ·first | (have := List.length_pos_iff.mpr hp.2.1; omega) | exact hp.1 | exact Int.ofNat_le.2 (named_len _ _) | exact (named_par hp.1 (by assumption)).2 | exact (named_par hp.1 (by assumption)).1 | exact ⟨hp.1, (numS_ok hp.1).1, (numS_ok hp.1).2⟩ | exact ⟨hp.1, by omega, by (have := List.length_pos_iff.mpr hp.2.1; omega)⟩ | exact ⟨hp.1, hp.2.1⟩ | exact (note_ok hp.1 (by assumption) (by assumption)).2 | exact (note_ok hp.1 (by assumption) (by assumption)).1 | (have := cp_len xs ([47, 42] : Bs); have := hp.2.2; unfold idxP; omega) | exact (sp_ok hp.1 _).2 | exact (sp_ok hp.1 _).1 | exact ⟨by decide, by decide, by decide⟩ | omega | assumption | exact trivial | (have h0 := List.length_pos_iff.mpr (by assumption); omega) | (simp; omega) | (simp at *; omega)
       ·first | (have := List.length_pos_iff.mpr hp.2.1; omega) | exact hp.1 | exact Int.ofNat_le.2 (named_len _ _) | exact (named_par hp.1 (by assumption)).2 | exact (named_par hp.1 (by assumption)).1 | exact ⟨hp.1, (numS_ok hp.1).1, (numS_ok hp.1).2⟩ | exact ⟨hp.1, by omega, by (have := List.length_pos_iff.mpr hp.2.1; omega)⟩ | exact ⟨hp.1, hp.2.1⟩ | exact (note_ok hp.1 (by assumption) (by assumption)).2 | exact (note_ok hp.1 (by assumption) (by assumption)).1 | (have := cp_len xs ([47, 42] : Bs); have := hp.2.2; unfold idxP; omega) | exact (sp_ok hp.1 _).2 | exact (sp_ok hp.1 _).1 | exact ⟨by decide, by decide, by decide⟩ | omega | assumption | exact trivial | (have h0 := List.length_pos_iff.mpr (by assumption); omega) | (simp; omega) | (simp at *; omega)
       exact firstj43_A xs (xs.getD (Int.toNat 0) 0) (by first | (have := List.length_pos_iff.mpr hp.2.1; omega) | exact hp.1 | exact Int.ofNat_le.2 (named_len _ _) | exact (named_par hp.1 (by assumption)).2 | exact (named_par hp.1 (by assumption)).1 | exact ⟨hp.1, (numS_ok hp.1).1, (numS_ok hp.1).2⟩ | exact ⟨hp.1, by omega, by (have := List.length_pos_iff.mpr hp.2.1; omega)⟩ | exact ⟨hp.1, hp.2.1⟩ | exact (note_ok hp.1 (by assumption) (by assumption)).2 | exact (note_ok hp.1 (by assumption) (by assumption)).1 | (have := cp_len xs ([47, 42] : Bs); have := hp.2.2; unfold idxP; omega) | exact (sp_ok hp.1 _).2 | exact (sp_ok hp.1 _).1 | exact ⟨by decide, by decide, by decide⟩ | omega | assumption | exact trivial | (have h0 := List.length_pos_iff.mpr (by assumption); omega) | (simp; omega) | (simp at *; omega)) _ h
     ·skip
      have hd4 := of_decide_eq_false hc4
      exact firstj43_A xs (xs.getD (Int.toNat 0) 0) (by first | (have := List.length_pos_iff.mpr hp.2.1; omega) | exact hp.1 | exact Int.ofNat_le.2 (named_len _ _) | exact (named_par hp.1 (by assumption)).2 | exact (named_par hp.1 (by assumption)).1 | exact ⟨hp.1, (numS_ok hp.1).1, (numS_ok hp.1).2⟩ | exact ⟨hp.1, by omega, by (have := List.length_pos_iff.mpr hp.2.1; omega)⟩ | exact ⟨hp.1, hp.2.1⟩ | exact (note_ok hp.1 (by assumption) (by assumption)).2 | exact (note_ok hp.1 (by assumption) (by assumption)).1 | (have := cp_len xs ([47, 42] : Bs); have := hp.2.2; unfold idxP; omega) | exact (sp_ok hp.1 _).2 | exact (sp_ok hp.1 _).1 | exact ⟨by decide, by decide, by decide⟩ | omega | assumption | exact trivial | (have h0 := List.length_pos_iff.mpr (by assumption); omega) | (simp; omega) | (simp at *; omega)) _ h
    ·skip
     have hd3 := hc3; try simp only [Bool.and_eq_true, Bool.or_eq_true, Bool.and_eq_false_iff, Bool.or_eq_false_iff, Bool.not_eq_true', Bool.not_eq_false', decide_eq_true_eq, decide_eq_false_iff_not, beq_iff_eq, beq_eq_false_iff_ne, ne_eq] at hd3
     exact firstj43_A xs (xs.getD (Int.toNat 0) 0) (by first | (have := List.length_pos_iff.mpr hp.2.1; omega) | exact hp.1 | exact Int.ofNat_le.2 (named_len _ _) | exact (named_par hp.1 (by assumption)).2 | exact (named_par hp.1 (by assumption)).1 | exact ⟨hp.1, (numS_ok hp.1).1, (numS_ok hp.1).2⟩ | exact ⟨hp.1, by omega, by (have := List.length_pos_iff.mpr hp.2.1; omega)⟩ | exact ⟨hp.1, hp.2.1⟩ | exact (note_ok hp.1 (by assumption) (by assumption)).2 | exact (note_ok hp.1 (by assumption) (by assumption)).1 | (have := cp_len xs ([47, 42] : Bs); have := hp.2.2; unfold idxP; omega) | exact (sp_ok hp.1 _).2 | exact (sp_ok hp.1 _).1 | exact ⟨by decide, by decide, by decide⟩ | omega | assumption | exact trivial | (have h0 := List.length_pos_iff.mpr (by assumption); omega) | (simp; omega) | (simp at *; omega)) _ h
theorem first_F (xs : Bs) (hp : firstP xs) : firstF xs (fun k0 => k0 = firstM xs) :=
 firstF_A xs hp (fun z => z = firstM xs) rfl
theorem first_c {g : Ghost} (xs : Bs) (hG0 : SomeInt g 0)  (hp : firstP xs) : CallsG Tryz.prog 43 #[sv xs] g (.agg #[.int .i64 (firstM xs).1, sv ((firstM xs).2.1), sv ((firstM xs).2.2.1), .int .i64 (firstM xs).2.2.2]) :=
 (first_ok xs hG0 _ (first_F xs hp)).gives (by rintro g' H' v _ ⟨r0, rfl, rfl, hK⟩; subst hK; rfl)
end Go.Proofs.YtcnhdkhkadiohaaGreatDoor.Css
