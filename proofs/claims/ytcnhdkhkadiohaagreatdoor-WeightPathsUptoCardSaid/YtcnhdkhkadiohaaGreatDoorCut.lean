/- csstok: Cut and Text. -/
import Derived.Test.YtcnhdkhkadiohaaGreatDoorIdx
namespace Go.Proofs.YtcnhdkhkadiohaaGreatDoor.Css
open Go Go.Eng Bld Trm
set_option maxHeartbeats 4000000
set_option maxRecDepth 100000
set_option linter.unusedSimpArgs false
set_option linter.unusedVariables false
def cutl7b (K : (List (Int × Bs × Bs × Int)) → Prop) (x0l7 : Bs) (yown1_0l7 : List (Int × Bs × Bs × Int)) (C7 : Bs → (List (Int × Bs × Bs × Int)) → Prop) : Prop :=
 ((!(x0l7 == ([] : Bs))) = true → firstP x0l7 ∧ (yown1_0l7 ++ ([((firstM x0l7).1, (firstM x0l7).2.1, (firstM x0l7).2.2.1, (firstM x0l7).2.2.2)] : List (Int × Bs × Bs × Int))).length ≤ 2932031007402 ∧ (0 : Int) ≤ (((firstM x0l7).2.1).length : Int) ∧ ((((firstM x0l7).2.1).length : Int) : Int) ≤ (x0l7.length : Int) ∧ (x0l7.length : Int) ≤ (x0l7.length : Int) ∧ C7 (x0l7.drop (Int.toNat (((firstM x0l7).2.1).length : Int))) (yown1_0l7 ++ ([((firstM x0l7).1, (firstM x0l7).2.1, (firstM x0l7).2.2.1, (firstM x0l7).2.2.2)] : List (Int × Bs × Bs × Int)))) ∧ ((!(x0l7 == ([] : Bs))) = false → K yown1_0l7)
def cutl7 (K : (List (Int × Bs × Bs × Int)) → Prop) : Nat → Bs → (List (Int × Bs × Bs × Int)) → Prop
 | 0, _, _ => False
 | k + 1, x0l7, yown1_0l7 => cutl7b K x0l7 yown1_0l7 (cutl7 K k)
def cutF (xs : Bs) (K : (List (Int × Bs × Bs × Int)) → Prop) : Prop :=
 ∃ k, cutl7 K k xs ([] : List (Int × Bs × Bs × Int))
theorem cut_ok {g : Ghost} (xs : Bs) (hG0 : SomeInt g 0) (K : (List (Int × Bs × Bs × Int)) → Prop)
  (hF : cutF xs K) : CallsH Tryz.prog 27 #[sv xs] g [] (fun g' H' v => ∃ (r0 : List (Int × Bs × Bs × Int)), ∃ (ar0_0 : Option Addr) (cr0_0 : Nat), v = .slice ar0_0 r0.length cr0_0 ∧ Rep g' (.slice (.pair (.int .i64) (.pair (.str) (.pair (.str) (.int .i64))))) [.slice ar0_0 r0.length cr0_0] r0 ∧ H' = [] ∧ K r0) := by
 refine CallsH.enter 19 [(0, sv xs)] Tryz.func27 rfl (by kernel_rfl) (by kernel_rfl) (by kernel_rfl) fun w0 => ?_
 refine Ok.seq (Ok.region (Ok.batch 1 [(0, sv xs)] (by kernel_rfl) (Ok.nil (Ok.thenN (Ok.seq (Ok.region (Ok.bat 1 [0] [(3, .slice none 0 0)] ?_)))))))
 have hL1 : RepL g (.pair (.int .i64) (.pair (.str) (.pair (.str) (.int .i64)))) [] [] := rfl
 refine Ok.ownNil 78 4 (Ok.nil (Ok.thenN (Ok.seq (Ok.block ?_))))
 obtain ⟨k, hF⟩ := hF
 refine Ok.loop (fun k a W => ∃ gl7 : Ghost, Gext w0 g gl7 ∧ ∃ (x0l7 : Bs) (ayown1_0l7 : Option Addr) (cyown1_0l7 : Nat) (yown1_0l7 : List (Int × Bs × Bs × Int)) (xsyown1_0l7 : List Value), RepL gl7 (.pair (.int .i64) (.pair (.str) (.pair (.str) (.int .i64)))) xsyown1_0l7 yown1_0l7 ∧ StA 19 [(0, sv x0l7), (3, .slice ayown1_0l7 yown1_0l7.length cyown1_0l7)] a ∧ StW w0 [.own (.slice ayown1_0l7 yown1_0l7.length cyown1_0l7) 78 4 yown1_0l7.length xsyown1_0l7] gl7 W ∧ cutl7 K k x0l7 yown1_0l7) k ?_ ?_
 ·
  exact fun a W hA hW => ⟨g, (Gext.refl w0 g), xs, none, 0, ([] : List (Int × Bs × Bs × Int)), [], hL1, hA.sub (by kernel_rfl), hW, hF⟩
 ·
  clear hF
  rintro k7 a W ⟨gl7, hxl7, x0l7, ayown1_0l7, cyown1_0l7, yown1_0l7, xsyown1_0l7, hLyown1_0l7, hA, hW, hF⟩
  cases k7 with
  | zero => exact (hF : False).elim
  | succ k7 =>
   refine (?_ : Ok _ _ _ _ _ _) a W hA hW
   clear hA hW
   replace hG0 := hG0.mono hxl7.1
   refine Ok.seq (Ok.seq (Ok.region (Ok.bat 1 [0, 3] [(5, sv x0l7)] ?_)))
   refine Ok.op rfl (OpOk.step (v := .bool (!(x0l7 == ([] : Bs)))) (Yields.strCmp (f := .neq) (a := x0l7) (b := ([] : Bs)) (by kernel_rfl) (by kernel_rfl) rfl) rfl rfl (Ok.nil (Ok.thenN (Ok.cond (b := !(x0l7 == ([] : Bs))) rfl (fun hc2 => ?_) (fun hc2 => ?_)))))
   ·replace hF := hF.1 hc2
    refine Ok.skip (Ok.thenN (Ok.block (Ok.seq (Ok.region (Ok.bat 1 [0, 3] [(7, sv x0l7)] ?_)))))
    obtain ⟨hp3, hF⟩ := hF
    refine Ok.op rfl (OpOk.callG (v := .agg #[.int .i64 (firstM x0l7).1, sv ((firstM x0l7).2.1), sv ((firstM x0l7).2.2.1), .int .i64 (firstM x0l7).2.2.2]) enr (fun W hW => first_c x0l7 (hG0.mono hW.sees) hp3) rfl ?_)
    refine Ok.op rfl (OpOk.alloc (z := .agg #[.int .i64 0, sv ([] : Bs), sv ([] : Bs), .int .i64 0]) (cs := #[.int .i64 0, sv ([] : Bs), sv ([] : Bs), .int .i64 0]) (by kernel_rfl) (by kernel_rfl) rfl fun bs4 => ?_)
    refine Ok.op rfl (OpOk.sto (k := 4) (v := .agg #[.int .i64 (firstM x0l7).1, sv ((firstM x0l7).2.1), sv ((firstM x0l7).2.2.1), .int .i64 (firstM x0l7).2.2.2]) 0 #[.int .i64 (firstM x0l7).1, sv ((firstM x0l7).2.1), sv ((firstM x0l7).2.2.1), .int .i64 (firstM x0l7).2.2.2] rfl rfl rfl ?_)
    refine Ok.nil (Ok.thenN (Ok.seq (Ok.region (Ok.bat 1 [0] [(4, pv bs4 0), (9, .slice ayown1_0l7 yown1_0l7.length cyown1_0l7)] ?_))))
    refine Ok.op rfl (OpOk.step (v := .agg #[.int .i64 (firstM x0l7).1, sv ((firstM x0l7).2.1), sv ((firstM x0l7).2.2.1), .int .i64 (firstM x0l7).2.2.2]) (Yields.loadAgg 0 4 #[.int .i64 (firstM x0l7).1, sv ((firstM x0l7).2.1), sv ((firstM x0l7).2.2.1), .int .i64 (firstM x0l7).2.2.2] rfl rfl Tryz.underlying78 rfl (by kernel_rfl) (by kernel_rfl) (by kernel_rfl)) rfl rfl ?_)
    have hL5 : RepL gl7 (.pair (.int .i64) (.pair (.str) (.pair (.str) (.int .i64)))) ([.int .i64 (firstM x0l7).1, sv ((firstM x0l7).2.1), sv ((firstM x0l7).2.2.1), .int .i64 (firstM x0l7).2.2.2] : List Value) ([((firstM x0l7).1, (firstM x0l7).2.1, (firstM x0l7).2.2.1, (firstM x0l7).2.2.2)] : List (Int × Bs × Bs × Int)) := (RepL.consN (c := [.int .i64 (firstM x0l7).1, sv ((firstM x0l7).2.1), sv ((firstM x0l7).2.2.1), .int .i64 (firstM x0l7).2.2.2]) ⟨[.int .i64 (firstM x0l7).1], [sv ((firstM x0l7).2.1), sv ((firstM x0l7).2.2.1), .int .i64 (firstM x0l7).2.2.2], rfl, rfl, ⟨[sv ((firstM x0l7).2.1)], [sv ((firstM x0l7).2.2.1), .int .i64 (firstM x0l7).2.2.2], rfl, rfl, ⟨[sv ((firstM x0l7).2.2.1)], [.int .i64 (firstM x0l7).2.2.2], rfl, rfl, rfl⟩⟩⟩ rfl)
    refine Ok.op rfl (OpOk.lit (E := 78) (.pair (.int .i64) (.pair (.str) (.pair (.str) (.int .i64)))) ([((firstM x0l7).1, (firstM x0l7).2.1, (firstM x0l7).2.2.1, (firstM x0l7).2.2.2)] : List (Int × Bs × Bs × Int)) ([.int .i64 (firstM x0l7).1, sv ((firstM x0l7).2.1), sv ((firstM x0l7).2.2.1), .int .i64 (firstM x0l7).2.2.2] : List Value) (by kernel_rfl) (by kernel_rfl) rfl (by kernel_rfl) hL5 rfl fun b5 => ?_)
    obtain ⟨hb6, hF⟩ := hF
    refine Ok.op rfl (OpOk.append' (e := .pair (.int .i64) (.pair (.str) (.pair (.str) (.int .i64)))) 48 2932031007402 2 0 rfl rfl rfl rfl hLyown1_0l7 hL5 Tryz.underlying56 (by kernel_rfl) (by kernel_rfl) (by kernel_rfl) hb6 rfl fun a6 c6 xs6 hL6 => ?_)
    refine Ok.bat 1 [0, 4] [(3, .slice a6 (yown1_0l7 ++ ([((firstM x0l7).1, (firstM x0l7).2.1, (firstM x0l7).2.2.1, (firstM x0l7).2.2.2)] : List (Int × Bs × Bs × Int))).length c6)] ?_
    refine Ok.nil (Ok.thenN (Ok.region (Ok.bat 2 [3] [(13, sv x0l7), (14, pv bs4 1)] ?_)))
    refine Ok.op rfl (OpOk.step (v := sv ((firstM x0l7).2.1)) (Yields.load 1 rfl rfl Tryz.underlying9 rfl (by kernel_rfl)) rfl rfl (Ok.bat 1 [3, 13] [(16, .int .i64 (((firstM x0l7).2.1).length : Int))] ?_))
    obtain ⟨h07, h17, h27, hF⟩ := hF
    refine Ok.op rfl (OpOk.step (v := sv (x0l7.drop (Int.toNat (((firstM x0l7).2.1).length : Int)))) (Yields.sliceStr (s := x0l7) (l := (((firstM x0l7).2.1).length : Int)) (h := (x0l7.length : Int)) (by kernel_rfl) Tryz.underlying9 (.inl ⟨_, _, rfl, rfl⟩) (.inr ⟨rfl, rfl⟩) h07 h17 h27 (x0l7.drop (Int.toNat (((firstM x0l7).2.1).length : Int))) (by rw [show ((x0l7.length : Int)).toNat = x0l7.length from Int.toNat_natCast _, List.take_length])) rfl rfl (Ok.bat 1 [3] [(0, sv (x0l7.drop (Int.toNat (((firstM x0l7).2.1).length : Int))))] ?_))
    refine Ok.nil (Ok.blockN (Ok.thenN ?_))
    exact fun a W hA hW => ⟨k7, Nat.lt_succ_self _, gl7, hxl7, x0l7.drop (Int.toNat (((firstM x0l7).2.1).length : Int)), a6, c6, (yown1_0l7 ++ ([((firstM x0l7).1, (firstM x0l7).2.1, (firstM x0l7).2.2.1, (firstM x0l7).2.2.2)] : List (Int × Bs × Bs × Int))), xs6, hL6, hA.sub (by kernel_rfl), hW.sub (.cons _ (.cons _ (.cons_cons _ .slnil))), hF⟩
   ·replace hF := hF.2 hc2
    refine Ok.exit (Ok.thenE (Ok.thenE (Ok.blockHit (Ok.thenN (Ok.seq (Ok.region (Ok.batch 2 [(2, .slice ayown1_0l7 yown1_0l7.length cyown1_0l7)] (by kernel_rfl) (Ok.nil (Ok.thenN (Ok.ret (Ok.frz 0 rfl hLyown1_0l7 fun g8 hx8 hRf8 => ?_)))))))))))
    replace hG0 := hG0.mono hx8.1
    exact Ok.resH (vs := [.slice ayown1_0l7 yown1_0l7.length cyown1_0l7]) (.inl rfl) rfl (.cons (.tmp rfl) .nil) (hxl7.trans hx8) ⟨yown1_0l7, ayown1_0l7, cyown1_0l7, rfl, hRf8, rfl, hF⟩
end Go.Proofs.YtcnhdkhkadiohaaGreatDoor.Css
