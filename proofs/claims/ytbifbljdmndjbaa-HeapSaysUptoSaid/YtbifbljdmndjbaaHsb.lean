/- Heaps: the second law. -/
import Derived.Test.YtbifbljdmndjbaaHsa
import Derived.Test.YtbifbljdmndjbaaIts
import Derived.Test.YtbifbljdmndjbaaUp
namespace Go.Proofs.Ytbifbljdmndjbaa.Hp
open Go Go.Eng Go.RowKit Sr
set_option linter.unusedVariables false
def lhsV0 (xh : List (Int × List (List UInt8) × List (JV))) (xroots : List (JV)) (yown25_0l35 : List (Int × List (List UInt8) × List (JV))) : Bool :=
  (((ieqS ((hReS xh xroots).1) (Sr.srtS (rrcS xh xroots))) && (((hReS xh xroots).2) == 0)) && (((rscS ((hSwS xh xroots).1) yown25_0l35) && (((hSwS xh xroots).2) == 0)) && ((rscS ((hMoS xh xroots).1) ((rmcS xh xroots).1)) && ((veqS ((hMoS xh xroots).2.1) ((rmcS xh xroots).2)) && (((hMoS xh xroots).2.2) == 0)))))
def lhsj50 (xh : List (Int × List (List UInt8) × List (JV))) (xroots : List (JV)) (K : Bool → Prop) (yown25_0l35 : List (Int × List (List UInt8) × List (JV))) : Prop :=
  K (lhsV0 xh xroots yown25_0l35)
def lhsl35b (xh : List (Int × List (List UInt8) × List (JV))) (xroots : List (JV)) (K : Bool → Prop) (x89l35 : Int) (yown25_0l35 : List (Int × List (List UInt8) × List (JV))) (C35 : Int → (List (Int × List (List UInt8) × List (JV))) → Prop) : Prop :=
  ((decide (x89l35 < ((rrcS xh xroots).length : Int))) = true → (0 : Int) ≤ x89l35 ∧ Int.toNat x89l35 < (rrcS xh xroots).length ∧ (0 : Int) ≤ ((rrcS xh xroots).getD (Int.toNat x89l35) default) ∧ Int.toNat ((rrcS xh xroots).getD (Int.toNat x89l35) default) < xh.length ∧ (0 : Int) ≤ ((rrcS xh xroots).getD (Int.toNat x89l35) default) ∧ Int.toNat ((rrcS xh xroots).getD (Int.toNat x89l35) default) < yown25_0l35.length ∧ C35 (IntKind.wrap .i64 (x89l35 + 1)) (yown25_0l35.set (Int.toNat ((rrcS xh xroots).getD (Int.toNat x89l35) default)) (xh.getD (Int.toNat ((rrcS xh xroots).getD (Int.toNat x89l35) default)) default))) ∧ ((decide (x89l35 < ((rrcS xh xroots).length : Int))) = false → rrcQ xh xroots ∧ It.svP (rrcS xh xroots) ∧ ieqP ((hReS xh xroots).1) (Sr.srtS (rrcS xh xroots)) ∧ ((((ieqS ((hReS xh xroots).1) (Sr.srtS (rrcS xh xroots))) && (((hReS xh xroots).2) == 0))) = true → rscP ((hSwS xh xroots).1) yown25_0l35 ∧ ((((rscS ((hSwS xh xroots).1) yown25_0l35) && (((hSwS xh xroots).2) == 0))) = true → rscP ((hMoS xh xroots).1) ((rmcS xh xroots).1) ∧ (((rscS ((hMoS xh xroots).1) ((rmcS xh xroots).1))) = true → veqP ((hMoS xh xroots).2.1) ((rmcS xh xroots).2) ∧ lhsj50 xh xroots K yown25_0l35) ∧ (((rscS ((hMoS xh xroots).1) ((rmcS xh xroots).1))) = false → lhsj50 xh xroots K yown25_0l35)) ∧ ((((rscS ((hSwS xh xroots).1) yown25_0l35) && (((hSwS xh xroots).2) == 0))) = false → lhsj50 xh xroots K yown25_0l35)) ∧ ((((ieqS ((hReS xh xroots).1) (Sr.srtS (rrcS xh xroots))) && (((hReS xh xroots).2) == 0))) = false → lhsj50 xh xroots K yown25_0l35))
def lhsl35 (xh : List (Int × List (List UInt8) × List (JV))) (xroots : List (JV)) (K : Bool → Prop) : Nat → Int → (List (Int × List (List UInt8) × List (JV))) → Prop
  | 0, _, _ => False
  | k + 1, x89l35, yown25_0l35 => lhsl35b xh xroots K x89l35 yown25_0l35 (lhsl35 xh xroots K k)
def lhsF (xh : List (Int × List (List UInt8) × List (JV))) (xroots : List (JV)) (K : Bool → Prop) : Prop :=
  haskP xh xroots ∧ haskP xh xroots ∧ hMoP xh xroots ∧ rcrP xh ∧ ((((hchkS xh) != (hchkS xh))) = true → K false) ∧ ((((hchkS xh) != (hchkS xh))) = false → haskP xh xroots ∧ ((((haskS xh xroots) != 0)) = true → K ((((((((((hReS xh xroots).1).length : Int) == 0) && (((hReS xh xroots).2) == (haskS xh xroots))) && ((((hSwS xh xroots).1).length : Int) == 0)) && (((hSwS xh xroots).2) == (haskS xh xroots))) && ((((hMoS xh xroots).1).length : Int) == 0)) && ((((hMoS xh xroots).2.1).length : Int) == 0)) && (((hMoS xh xroots).2.2) == (haskS xh xroots)))) ∧ ((((haskS xh xroots) != 0)) = false → rrcQ xh xroots ∧ (0 : Int) ≤ (xh.length : Int) ∧ (xh.length : Int) ≤ 2513169434916 ∧ ∃ k, lhsl35 xh xroots K k 0 (List.replicate (Int.toNat (xh.length : Int)) ((0, [], []) : Int × List (List UInt8) × List (JV)))))
set_option maxHeartbeats 4000000 in
set_option maxRecDepth 100000 in
set_option linter.unusedVariables false in
theorem lhs_ok {g : Ghost} {axh_0 : Option Addr} {cxh_0 : Nat} (xh : List (Int × List (List UInt8) × List (JV))) {axroots_0 : Option Addr} {cxroots_0 : Nat} (xroots : List (JV)) (hRxh_0 : Rep g (.slice (.pair (.int .i64) (.pair (.slice (.str)) (.slice (.pair (.int .i64) (.pair (.int .i64) (.str))))))) [.slice axh_0 xh.length cxh_0] xh) (hRxroots_0 : Rep g (.slice (.pair (.int .i64) (.pair (.int .i64) (.str)))) [.slice axroots_0 xroots.length cxroots_0] xroots) (K : Bool → Prop)
    (hF : lhsF xh xroots K) : CallsH Try.prog 6 #[.slice axh_0 xh.length cxh_0, .slice axroots_0 xroots.length cxroots_0] g [] (fun g' H' v => ∃ (r0 : Bool), v = .bool r0 ∧ H' = [] ∧ K r0) := by
  refine CallsH.enter 139 [(0, .slice axh_0 xh.length cxh_0), (1, .slice axroots_0 xroots.length cxroots_0)] Try.func6 rfl (by kernel_rfl) (by kernel_rfl) (by kernel_rfl) fun w0 => ?_
  refine Ok.seq ?_
  refine Ok.region ?_
  refine Ok.batch 1 [(0, .slice axh_0 xh.length cxh_0), (1, .slice axroots_0 xroots.length cxroots_0)] (by kernel_rfl) ?_
  refine Ok.nil ?_
  refine Ok.thenN ?_
  refine Ok.seq ?_
  refine Ok.region ?_
  refine Ok.batch 2 [(0, .slice axh_0 xh.length cxh_0), (1, .slice axroots_0 xroots.length cxroots_0), (20, .slice axh_0 xh.length cxh_0), (21, .slice axroots_0 xroots.length cxroots_0)] (by kernel_rfl) ?_
  obtain ⟨hp1, hF⟩ := hF
  refine Ok.op rfl (OpOk.callH [] [] (enters (by kernel_rfl) (fun _ => by kernel_rfl)) rfl (hRe_c xh xroots hRxh_0 hRxroots_0 hp1) rfl fun g2 _ _ hx2 hV2 => ?_)
  obtain ⟨a2_0, c2_0, rfl, hR2_0, rfl⟩ := hV2
  replace hRxh_0 := hRxh_0.mono hx2.1
  replace hRxroots_0 := hRxroots_0.mono hx2.1
  refine Ok.batch 5 [(0, .slice axh_0 xh.length cxh_0), (1, .slice axroots_0 xroots.length cxroots_0), (5, .slice a2_0 ((hReS xh xroots).1).length c2_0), (6, .int .i64 ((hReS xh xroots).2))] (by kernel_rfl) ?_
  refine Ok.nil ?_
  refine Ok.thenN ?_
  refine Ok.seq ?_
  refine Ok.region ?_
  refine Ok.batch 2 [(0, .slice axh_0 xh.length cxh_0), (1, .slice axroots_0 xroots.length cxroots_0), (5, .slice a2_0 ((hReS xh xroots).1).length c2_0), (6, .int .i64 ((hReS xh xroots).2)), (26, .slice axh_0 xh.length cxh_0), (27, .slice axroots_0 xroots.length cxroots_0)] (by kernel_rfl) ?_
  obtain ⟨hp3, hF⟩ := hF
  refine Ok.op rfl (OpOk.callH [] [] (enters (by kernel_rfl) (fun _ => by kernel_rfl)) rfl (hSw_c xh xroots hRxh_0 hRxroots_0 hp3) rfl fun g4 _ _ hx4 hV4 => ?_)
  obtain ⟨a4_0, c4_0, rfl, hR4_0, rfl⟩ := hV4
  replace hRxh_0 := hRxh_0.mono hx4.1
  replace hRxroots_0 := hRxroots_0.mono hx4.1
  replace hR2_0 := hR2_0.mono hx4.1
  refine Ok.batch 5 [(0, .slice axh_0 xh.length cxh_0), (1, .slice axroots_0 xroots.length cxroots_0), (5, .slice a2_0 ((hReS xh xroots).1).length c2_0), (6, .int .i64 ((hReS xh xroots).2)), (7, .slice a4_0 ((hSwS xh xroots).1).length c4_0), (8, .int .i64 ((hSwS xh xroots).2))] (by kernel_rfl) ?_
  refine Ok.nil ?_
  refine Ok.thenN ?_
  refine Ok.seq ?_
  refine Ok.region ?_
  refine Ok.batch 2 [(0, .slice axh_0 xh.length cxh_0), (1, .slice axroots_0 xroots.length cxroots_0), (5, .slice a2_0 ((hReS xh xroots).1).length c2_0), (6, .int .i64 ((hReS xh xroots).2)), (7, .slice a4_0 ((hSwS xh xroots).1).length c4_0), (8, .int .i64 ((hSwS xh xroots).2)), (32, .slice axh_0 xh.length cxh_0), (33, .slice axroots_0 xroots.length cxroots_0)] (by kernel_rfl) ?_
  obtain ⟨hp5, hF⟩ := hF
  refine Ok.op rfl (OpOk.callH [] [] (enters (by kernel_rfl) (fun _ => by kernel_rfl)) rfl (hMo_c xh xroots hRxh_0 hRxroots_0 hp5) rfl fun g6 _ _ hx6 hV6 => ?_)
  obtain ⟨a6_0, c6_0, a6_2, c6_2, rfl, hR6_0, hR6_2, rfl⟩ := hV6
  replace hRxh_0 := hRxh_0.mono hx6.1
  replace hRxroots_0 := hRxroots_0.mono hx6.1
  replace hR2_0 := hR2_0.mono hx6.1
  replace hR4_0 := hR4_0.mono hx6.1
  refine Ok.batch 7 [(0, .slice axh_0 xh.length cxh_0), (1, .slice axroots_0 xroots.length cxroots_0), (5, .slice a2_0 ((hReS xh xroots).1).length c2_0), (6, .int .i64 ((hReS xh xroots).2)), (7, .slice a4_0 ((hSwS xh xroots).1).length c4_0), (8, .int .i64 ((hSwS xh xroots).2)), (9, .slice a6_0 ((hMoS xh xroots).1).length c6_0), (10, .slice a6_2 ((hMoS xh xroots).2.1).length c6_2), (11, .int .i64 ((hMoS xh xroots).2.2))] (by kernel_rfl) ?_
  refine Ok.nil ?_
  refine Ok.thenN ?_
  refine Ok.seq ?_
  refine Ok.seq ?_
  refine Ok.region ?_
  refine Ok.batch 1 [(0, .slice axh_0 xh.length cxh_0), (1, .slice axroots_0 xroots.length cxroots_0), (5, .slice a2_0 ((hReS xh xroots).1).length c2_0), (6, .int .i64 ((hReS xh xroots).2)), (7, .slice a4_0 ((hSwS xh xroots).1).length c4_0), (8, .int .i64 ((hSwS xh xroots).2)), (9, .slice a6_0 ((hMoS xh xroots).1).length c6_0), (10, .slice a6_2 ((hMoS xh xroots).2.1).length c6_2), (11, .int .i64 ((hMoS xh xroots).2.2)), (38, .slice axh_0 xh.length cxh_0)] (by kernel_rfl) ?_
  refine Ok.op rfl (OpOk.callG (v := .int .i64 (hchkS xh)) (enters (by kernel_rfl) (fun _ => by kernel_rfl)) (fun W hW => hchk_c xh (hRxh_0.mono hW.sees)) rfl ?_)
  refine Ok.batch 1 [(0, .slice axh_0 xh.length cxh_0), (1, .slice axroots_0 xroots.length cxroots_0), (5, .slice a2_0 ((hReS xh xroots).1).length c2_0), (6, .int .i64 ((hReS xh xroots).2)), (7, .slice a4_0 ((hSwS xh xroots).1).length c4_0), (8, .int .i64 ((hSwS xh xroots).2)), (9, .slice a6_0 ((hMoS xh xroots).1).length c6_0), (10, .slice a6_2 ((hMoS xh xroots).2.1).length c6_2), (11, .int .i64 ((hMoS xh xroots).2.2)), (39, .int .i64 (hchkS xh)), (40, .slice axh_0 xh.length cxh_0)] (by kernel_rfl) ?_
  obtain ⟨hp7, hF⟩ := hF
  refine Ok.op rfl (OpOk.callG (v := .int .i64 (hchkS xh)) (enters (by kernel_rfl) (fun _ => by kernel_rfl)) (fun W hW => rcr_c xh (hRxh_0.mono hW.sees) hp7) rfl ?_)
  refine Ok.batch 1 [(0, .slice axh_0 xh.length cxh_0), (1, .slice axroots_0 xroots.length cxroots_0), (5, .slice a2_0 ((hReS xh xroots).1).length c2_0), (6, .int .i64 ((hReS xh xroots).2)), (7, .slice a4_0 ((hSwS xh xroots).1).length c4_0), (8, .int .i64 ((hSwS xh xroots).2)), (9, .slice a6_0 ((hMoS xh xroots).1).length c6_0), (10, .slice a6_2 ((hMoS xh xroots).2.1).length c6_2), (11, .int .i64 ((hMoS xh xroots).2.2)), (42, .bool ((hchkS xh) != (hchkS xh)))] (by kernel_rfl) ?_
  refine Ok.nil ?_
  refine Ok.thenN ?_
  refine Ok.cond (b := ((hchkS xh) != (hchkS xh))) rfl (fun hc8 => ?_) (fun hc8 => ?_)
  · replace hF := hF.1 hc8
    refine Ok.seq ?_
    refine Ok.region ?_
    refine Ok.batch 1 [(4, .bool false)] (by kernel_rfl) ?_
    refine Ok.nil ?_
    refine Ok.thenN ?_
    refine Ok.ret ?_
    refine Ok.thenR ?_
    exact Ok.resH (vs := [.bool false]) (.inl rfl) rfl (.cons (.tmp rfl) .nil) ((hx2.trans hx4).trans hx6) ⟨false, rfl, rfl, hF⟩
  · replace hF := hF.2 hc8
    refine Ok.skip ?_
    refine Ok.thenN ?_
    refine Ok.seq ?_
    refine Ok.seq ?_
    refine Ok.region ?_
    refine Ok.batch 2 [(0, .slice axh_0 xh.length cxh_0), (1, .slice axroots_0 xroots.length cxroots_0), (5, .slice a2_0 ((hReS xh xroots).1).length c2_0), (6, .int .i64 ((hReS xh xroots).2)), (7, .slice a4_0 ((hSwS xh xroots).1).length c4_0), (8, .int .i64 ((hSwS xh xroots).2)), (9, .slice a6_0 ((hMoS xh xroots).1).length c6_0), (10, .slice a6_2 ((hMoS xh xroots).2.1).length c6_2), (11, .int .i64 ((hMoS xh xroots).2.2)), (43, .slice axh_0 xh.length cxh_0), (44, .slice axroots_0 xroots.length cxroots_0)] (by kernel_rfl) ?_
    obtain ⟨hp9, hF⟩ := hF
    refine Ok.op rfl (OpOk.callG (v := .int .i64 (haskS xh xroots)) (enters (by kernel_rfl) (fun _ => by kernel_rfl)) (fun W hW => rha_c xh xroots (hRxh_0.mono hW.sees) (hRxroots_0.mono hW.sees) hp9) rfl ?_)
    refine Ok.batch 1 [(0, .slice axh_0 xh.length cxh_0), (1, .slice axroots_0 xroots.length cxroots_0), (5, .slice a2_0 ((hReS xh xroots).1).length c2_0), (6, .int .i64 ((hReS xh xroots).2)), (7, .slice a4_0 ((hSwS xh xroots).1).length c4_0), (8, .int .i64 ((hSwS xh xroots).2)), (9, .slice a6_0 ((hMoS xh xroots).1).length c6_0), (10, .slice a6_2 ((hMoS xh xroots).2.1).length c6_2), (11, .int .i64 ((hMoS xh xroots).2.2)), (12, .int .i64 (haskS xh xroots))] (by kernel_rfl) ?_
    refine Ok.nil ?_
    refine Ok.thenN ?_
    refine Ok.seq ?_
    refine Ok.region ?_
    refine Ok.batch 2 [(0, .slice axh_0 xh.length cxh_0), (1, .slice axroots_0 xroots.length cxroots_0), (5, .slice a2_0 ((hReS xh xroots).1).length c2_0), (6, .int .i64 ((hReS xh xroots).2)), (7, .slice a4_0 ((hSwS xh xroots).1).length c4_0), (8, .int .i64 ((hSwS xh xroots).2)), (9, .slice a6_0 ((hMoS xh xroots).1).length c6_0), (10, .slice a6_2 ((hMoS xh xroots).2.1).length c6_2), (11, .int .i64 ((hMoS xh xroots).2.2)), (12, .int .i64 (haskS xh xroots)), (47, .bool ((haskS xh xroots) != 0))] (by kernel_rfl) ?_
    refine Ok.nil ?_
    refine Ok.thenN ?_
    refine Ok.cond (b := ((haskS xh xroots) != 0)) rfl (fun hc10 => ?_) (fun hc10 => ?_)
    · replace hF := hF.1 hc10
      refine Ok.seq ?_
      refine Ok.region ?_
      refine Ok.batch 4 [(6, .int .i64 ((hReS xh xroots).2)), (7, .slice a4_0 ((hSwS xh xroots).1).length c4_0), (8, .int .i64 ((hSwS xh xroots).2)), (9, .slice a6_0 ((hMoS xh xroots).1).length c6_0), (10, .slice a6_2 ((hMoS xh xroots).2.1).length c6_2), (11, .int .i64 ((hMoS xh xroots).2.2)), (12, .int .i64 (haskS xh xroots)), (51, .bool ((((hReS xh xroots).1).length : Int) == 0))] (by kernel_rfl) ?_
      refine Ok.midway 4 [(7, .slice a4_0 ((hSwS xh xroots).1).length c4_0), (8, .int .i64 ((hSwS xh xroots).2)), (9, .slice a6_0 ((hMoS xh xroots).1).length c6_0), (10, .slice a6_2 ((hMoS xh xroots).2.1).length c6_2), (11, .int .i64 ((hMoS xh xroots).2.2)), (12, .int .i64 (haskS xh xroots)), (55, .bool (((((hReS xh xroots).1).length : Int) == 0) && (((hReS xh xroots).2) == (haskS xh xroots))))] (fun hR11 => ?_) ?_
      · refine Ok.boolAt 51 (((((hReS xh xroots).1).length : Int) == 0)) rfl (fun hc12 => ?_) (fun hc12 => ?_)
        · skip
          refine Ok.batch 4 [(7, .slice a4_0 ((hSwS xh xroots).1).length c4_0), (8, .int .i64 ((hSwS xh xroots).2)), (9, .slice a6_0 ((hMoS xh xroots).1).length c6_0), (10, .slice a6_2 ((hMoS xh xroots).2.1).length c6_2), (11, .int .i64 ((hMoS xh xroots).2.2)), (12, .int .i64 (haskS xh xroots)), (55, .bool (((hReS xh xroots).2) == (haskS xh xroots)))] (by kernel_rfl) ?_
          refine Ok.reval 55 rfl (show (.bool (((hReS xh xroots).2) == (haskS xh xroots)) : Value) = .bool (((((hReS xh xroots).1).length : Int) == 0) && (((hReS xh xroots).2) == (haskS xh xroots))) from congrArg Value.bool (mand_t hc12)) ?_
          refine Ok.batch 0 [(7, .slice a4_0 ((hSwS xh xroots).1).length c4_0), (8, .int .i64 ((hSwS xh xroots).2)), (9, .slice a6_0 ((hMoS xh xroots).1).length c6_0), (10, .slice a6_2 ((hMoS xh xroots).2.1).length c6_2), (11, .int .i64 ((hMoS xh xroots).2.2)), (12, .int .i64 (haskS xh xroots)), (55, .bool (((((hReS xh xroots).1).length : Int) == 0) && (((hReS xh xroots).2) == (haskS xh xroots))))] (by kernel_rfl) ?_
          exact hR11
        · skip
          refine Ok.batch 4 [(7, .slice a4_0 ((hSwS xh xroots).1).length c4_0), (8, .int .i64 ((hSwS xh xroots).2)), (9, .slice a6_0 ((hMoS xh xroots).1).length c6_0), (10, .slice a6_2 ((hMoS xh xroots).2.1).length c6_2), (11, .int .i64 ((hMoS xh xroots).2.2)), (12, .int .i64 (haskS xh xroots)), (55, .bool false)] (by kernel_rfl) ?_
          refine Ok.reval 55 rfl (show (.bool false : Value) = .bool (((((hReS xh xroots).1).length : Int) == 0) && (((hReS xh xroots).2) == (haskS xh xroots))) from congrArg Value.bool (mand_f hc12)) ?_
          refine Ok.batch 0 [(7, .slice a4_0 ((hSwS xh xroots).1).length c4_0), (8, .int .i64 ((hSwS xh xroots).2)), (9, .slice a6_0 ((hMoS xh xroots).1).length c6_0), (10, .slice a6_2 ((hMoS xh xroots).2.1).length c6_2), (11, .int .i64 ((hMoS xh xroots).2.2)), (12, .int .i64 (haskS xh xroots)), (55, .bool (((((hReS xh xroots).1).length : Int) == 0) && (((hReS xh xroots).2) == (haskS xh xroots))))] (by kernel_rfl) ?_
          exact hR11
      refine Ok.batch 1 [(7, .slice a4_0 ((hSwS xh xroots).1).length c4_0), (8, .int .i64 ((hSwS xh xroots).2)), (9, .slice a6_0 ((hMoS xh xroots).1).length c6_0), (10, .slice a6_2 ((hMoS xh xroots).2.1).length c6_2), (11, .int .i64 ((hMoS xh xroots).2.2)), (12, .int .i64 (haskS xh xroots)), (56, .bool (((((hReS xh xroots).1).length : Int) == 0) && (((hReS xh xroots).2) == (haskS xh xroots))))] (by kernel_rfl) ?_
      refine Ok.midway 4 [(8, .int .i64 ((hSwS xh xroots).2)), (9, .slice a6_0 ((hMoS xh xroots).1).length c6_0), (10, .slice a6_2 ((hMoS xh xroots).2.1).length c6_2), (11, .int .i64 ((hMoS xh xroots).2.2)), (12, .int .i64 (haskS xh xroots)), (60, .bool ((((((hReS xh xroots).1).length : Int) == 0) && (((hReS xh xroots).2) == (haskS xh xroots))) && ((((hSwS xh xroots).1).length : Int) == 0)))] (fun hR13 => ?_) ?_
      · refine Ok.boolAt 56 ((((((hReS xh xroots).1).length : Int) == 0) && (((hReS xh xroots).2) == (haskS xh xroots)))) rfl (fun hc14 => ?_) (fun hc14 => ?_)
        · skip
          refine Ok.batch 4 [(8, .int .i64 ((hSwS xh xroots).2)), (9, .slice a6_0 ((hMoS xh xroots).1).length c6_0), (10, .slice a6_2 ((hMoS xh xroots).2.1).length c6_2), (11, .int .i64 ((hMoS xh xroots).2.2)), (12, .int .i64 (haskS xh xroots)), (60, .bool ((((hSwS xh xroots).1).length : Int) == 0))] (by kernel_rfl) ?_
          refine Ok.reval 60 rfl (show (.bool ((((hSwS xh xroots).1).length : Int) == 0) : Value) = .bool ((((((hReS xh xroots).1).length : Int) == 0) && (((hReS xh xroots).2) == (haskS xh xroots))) && ((((hSwS xh xroots).1).length : Int) == 0)) from congrArg Value.bool (mand_t hc14)) ?_
          refine Ok.batch 0 [(8, .int .i64 ((hSwS xh xroots).2)), (9, .slice a6_0 ((hMoS xh xroots).1).length c6_0), (10, .slice a6_2 ((hMoS xh xroots).2.1).length c6_2), (11, .int .i64 ((hMoS xh xroots).2.2)), (12, .int .i64 (haskS xh xroots)), (60, .bool ((((((hReS xh xroots).1).length : Int) == 0) && (((hReS xh xroots).2) == (haskS xh xroots))) && ((((hSwS xh xroots).1).length : Int) == 0)))] (by kernel_rfl) ?_
          exact hR13
        · skip
          refine Ok.batch 4 [(8, .int .i64 ((hSwS xh xroots).2)), (9, .slice a6_0 ((hMoS xh xroots).1).length c6_0), (10, .slice a6_2 ((hMoS xh xroots).2.1).length c6_2), (11, .int .i64 ((hMoS xh xroots).2.2)), (12, .int .i64 (haskS xh xroots)), (60, .bool false)] (by kernel_rfl) ?_
          refine Ok.reval 60 rfl (show (.bool false : Value) = .bool ((((((hReS xh xroots).1).length : Int) == 0) && (((hReS xh xroots).2) == (haskS xh xroots))) && ((((hSwS xh xroots).1).length : Int) == 0)) from congrArg Value.bool (mand_f hc14)) ?_
          refine Ok.batch 0 [(8, .int .i64 ((hSwS xh xroots).2)), (9, .slice a6_0 ((hMoS xh xroots).1).length c6_0), (10, .slice a6_2 ((hMoS xh xroots).2.1).length c6_2), (11, .int .i64 ((hMoS xh xroots).2.2)), (12, .int .i64 (haskS xh xroots)), (60, .bool ((((((hReS xh xroots).1).length : Int) == 0) && (((hReS xh xroots).2) == (haskS xh xroots))) && ((((hSwS xh xroots).1).length : Int) == 0)))] (by kernel_rfl) ?_
          exact hR13
      refine Ok.batch 1 [(8, .int .i64 ((hSwS xh xroots).2)), (9, .slice a6_0 ((hMoS xh xroots).1).length c6_0), (10, .slice a6_2 ((hMoS xh xroots).2.1).length c6_2), (11, .int .i64 ((hMoS xh xroots).2.2)), (12, .int .i64 (haskS xh xroots)), (61, .bool ((((((hReS xh xroots).1).length : Int) == 0) && (((hReS xh xroots).2) == (haskS xh xroots))) && ((((hSwS xh xroots).1).length : Int) == 0)))] (by kernel_rfl) ?_
      refine Ok.midway 4 [(9, .slice a6_0 ((hMoS xh xroots).1).length c6_0), (10, .slice a6_2 ((hMoS xh xroots).2.1).length c6_2), (11, .int .i64 ((hMoS xh xroots).2.2)), (12, .int .i64 (haskS xh xroots)), (65, .bool (((((((hReS xh xroots).1).length : Int) == 0) && (((hReS xh xroots).2) == (haskS xh xroots))) && ((((hSwS xh xroots).1).length : Int) == 0)) && (((hSwS xh xroots).2) == (haskS xh xroots))))] (fun hR15 => ?_) ?_
      · refine Ok.boolAt 61 (((((((hReS xh xroots).1).length : Int) == 0) && (((hReS xh xroots).2) == (haskS xh xroots))) && ((((hSwS xh xroots).1).length : Int) == 0))) rfl (fun hc16 => ?_) (fun hc16 => ?_)
        · skip
          refine Ok.batch 4 [(9, .slice a6_0 ((hMoS xh xroots).1).length c6_0), (10, .slice a6_2 ((hMoS xh xroots).2.1).length c6_2), (11, .int .i64 ((hMoS xh xroots).2.2)), (12, .int .i64 (haskS xh xroots)), (65, .bool (((hSwS xh xroots).2) == (haskS xh xroots)))] (by kernel_rfl) ?_
          refine Ok.reval 65 rfl (show (.bool (((hSwS xh xroots).2) == (haskS xh xroots)) : Value) = .bool (((((((hReS xh xroots).1).length : Int) == 0) && (((hReS xh xroots).2) == (haskS xh xroots))) && ((((hSwS xh xroots).1).length : Int) == 0)) && (((hSwS xh xroots).2) == (haskS xh xroots))) from congrArg Value.bool (mand_t hc16)) ?_
          refine Ok.batch 0 [(9, .slice a6_0 ((hMoS xh xroots).1).length c6_0), (10, .slice a6_2 ((hMoS xh xroots).2.1).length c6_2), (11, .int .i64 ((hMoS xh xroots).2.2)), (12, .int .i64 (haskS xh xroots)), (65, .bool (((((((hReS xh xroots).1).length : Int) == 0) && (((hReS xh xroots).2) == (haskS xh xroots))) && ((((hSwS xh xroots).1).length : Int) == 0)) && (((hSwS xh xroots).2) == (haskS xh xroots))))] (by kernel_rfl) ?_
          exact hR15
        · skip
          refine Ok.batch 4 [(9, .slice a6_0 ((hMoS xh xroots).1).length c6_0), (10, .slice a6_2 ((hMoS xh xroots).2.1).length c6_2), (11, .int .i64 ((hMoS xh xroots).2.2)), (12, .int .i64 (haskS xh xroots)), (65, .bool false)] (by kernel_rfl) ?_
          refine Ok.reval 65 rfl (show (.bool false : Value) = .bool (((((((hReS xh xroots).1).length : Int) == 0) && (((hReS xh xroots).2) == (haskS xh xroots))) && ((((hSwS xh xroots).1).length : Int) == 0)) && (((hSwS xh xroots).2) == (haskS xh xroots))) from congrArg Value.bool (mand_f hc16)) ?_
          refine Ok.batch 0 [(9, .slice a6_0 ((hMoS xh xroots).1).length c6_0), (10, .slice a6_2 ((hMoS xh xroots).2.1).length c6_2), (11, .int .i64 ((hMoS xh xroots).2.2)), (12, .int .i64 (haskS xh xroots)), (65, .bool (((((((hReS xh xroots).1).length : Int) == 0) && (((hReS xh xroots).2) == (haskS xh xroots))) && ((((hSwS xh xroots).1).length : Int) == 0)) && (((hSwS xh xroots).2) == (haskS xh xroots))))] (by kernel_rfl) ?_
          exact hR15
      refine Ok.batch 1 [(9, .slice a6_0 ((hMoS xh xroots).1).length c6_0), (10, .slice a6_2 ((hMoS xh xroots).2.1).length c6_2), (11, .int .i64 ((hMoS xh xroots).2.2)), (12, .int .i64 (haskS xh xroots)), (66, .bool (((((((hReS xh xroots).1).length : Int) == 0) && (((hReS xh xroots).2) == (haskS xh xroots))) && ((((hSwS xh xroots).1).length : Int) == 0)) && (((hSwS xh xroots).2) == (haskS xh xroots))))] (by kernel_rfl) ?_
      refine Ok.midway 4 [(10, .slice a6_2 ((hMoS xh xroots).2.1).length c6_2), (11, .int .i64 ((hMoS xh xroots).2.2)), (12, .int .i64 (haskS xh xroots)), (70, .bool ((((((((hReS xh xroots).1).length : Int) == 0) && (((hReS xh xroots).2) == (haskS xh xroots))) && ((((hSwS xh xroots).1).length : Int) == 0)) && (((hSwS xh xroots).2) == (haskS xh xroots))) && ((((hMoS xh xroots).1).length : Int) == 0)))] (fun hR17 => ?_) ?_
      · refine Ok.boolAt 66 ((((((((hReS xh xroots).1).length : Int) == 0) && (((hReS xh xroots).2) == (haskS xh xroots))) && ((((hSwS xh xroots).1).length : Int) == 0)) && (((hSwS xh xroots).2) == (haskS xh xroots)))) rfl (fun hc18 => ?_) (fun hc18 => ?_)
        · skip
          refine Ok.batch 4 [(10, .slice a6_2 ((hMoS xh xroots).2.1).length c6_2), (11, .int .i64 ((hMoS xh xroots).2.2)), (12, .int .i64 (haskS xh xroots)), (70, .bool ((((hMoS xh xroots).1).length : Int) == 0))] (by kernel_rfl) ?_
          refine Ok.reval 70 rfl (show (.bool ((((hMoS xh xroots).1).length : Int) == 0) : Value) = .bool ((((((((hReS xh xroots).1).length : Int) == 0) && (((hReS xh xroots).2) == (haskS xh xroots))) && ((((hSwS xh xroots).1).length : Int) == 0)) && (((hSwS xh xroots).2) == (haskS xh xroots))) && ((((hMoS xh xroots).1).length : Int) == 0)) from congrArg Value.bool (mand_t hc18)) ?_
          refine Ok.batch 0 [(10, .slice a6_2 ((hMoS xh xroots).2.1).length c6_2), (11, .int .i64 ((hMoS xh xroots).2.2)), (12, .int .i64 (haskS xh xroots)), (70, .bool ((((((((hReS xh xroots).1).length : Int) == 0) && (((hReS xh xroots).2) == (haskS xh xroots))) && ((((hSwS xh xroots).1).length : Int) == 0)) && (((hSwS xh xroots).2) == (haskS xh xroots))) && ((((hMoS xh xroots).1).length : Int) == 0)))] (by kernel_rfl) ?_
          exact hR17
        · skip
          refine Ok.batch 4 [(10, .slice a6_2 ((hMoS xh xroots).2.1).length c6_2), (11, .int .i64 ((hMoS xh xroots).2.2)), (12, .int .i64 (haskS xh xroots)), (70, .bool false)] (by kernel_rfl) ?_
          refine Ok.reval 70 rfl (show (.bool false : Value) = .bool ((((((((hReS xh xroots).1).length : Int) == 0) && (((hReS xh xroots).2) == (haskS xh xroots))) && ((((hSwS xh xroots).1).length : Int) == 0)) && (((hSwS xh xroots).2) == (haskS xh xroots))) && ((((hMoS xh xroots).1).length : Int) == 0)) from congrArg Value.bool (mand_f hc18)) ?_
          refine Ok.batch 0 [(10, .slice a6_2 ((hMoS xh xroots).2.1).length c6_2), (11, .int .i64 ((hMoS xh xroots).2.2)), (12, .int .i64 (haskS xh xroots)), (70, .bool ((((((((hReS xh xroots).1).length : Int) == 0) && (((hReS xh xroots).2) == (haskS xh xroots))) && ((((hSwS xh xroots).1).length : Int) == 0)) && (((hSwS xh xroots).2) == (haskS xh xroots))) && ((((hMoS xh xroots).1).length : Int) == 0)))] (by kernel_rfl) ?_
          exact hR17
      refine Ok.batch 1 [(10, .slice a6_2 ((hMoS xh xroots).2.1).length c6_2), (11, .int .i64 ((hMoS xh xroots).2.2)), (12, .int .i64 (haskS xh xroots)), (71, .bool ((((((((hReS xh xroots).1).length : Int) == 0) && (((hReS xh xroots).2) == (haskS xh xroots))) && ((((hSwS xh xroots).1).length : Int) == 0)) && (((hSwS xh xroots).2) == (haskS xh xroots))) && ((((hMoS xh xroots).1).length : Int) == 0)))] (by kernel_rfl) ?_
      refine Ok.midway 4 [(11, .int .i64 ((hMoS xh xroots).2.2)), (12, .int .i64 (haskS xh xroots)), (75, .bool (((((((((hReS xh xroots).1).length : Int) == 0) && (((hReS xh xroots).2) == (haskS xh xroots))) && ((((hSwS xh xroots).1).length : Int) == 0)) && (((hSwS xh xroots).2) == (haskS xh xroots))) && ((((hMoS xh xroots).1).length : Int) == 0)) && ((((hMoS xh xroots).2.1).length : Int) == 0)))] (fun hR19 => ?_) ?_
      · refine Ok.boolAt 71 (((((((((hReS xh xroots).1).length : Int) == 0) && (((hReS xh xroots).2) == (haskS xh xroots))) && ((((hSwS xh xroots).1).length : Int) == 0)) && (((hSwS xh xroots).2) == (haskS xh xroots))) && ((((hMoS xh xroots).1).length : Int) == 0))) rfl (fun hc20 => ?_) (fun hc20 => ?_)
        · skip
          refine Ok.batch 4 [(11, .int .i64 ((hMoS xh xroots).2.2)), (12, .int .i64 (haskS xh xroots)), (75, .bool ((((hMoS xh xroots).2.1).length : Int) == 0))] (by kernel_rfl) ?_
          refine Ok.reval 75 rfl (show (.bool ((((hMoS xh xroots).2.1).length : Int) == 0) : Value) = .bool (((((((((hReS xh xroots).1).length : Int) == 0) && (((hReS xh xroots).2) == (haskS xh xroots))) && ((((hSwS xh xroots).1).length : Int) == 0)) && (((hSwS xh xroots).2) == (haskS xh xroots))) && ((((hMoS xh xroots).1).length : Int) == 0)) && ((((hMoS xh xroots).2.1).length : Int) == 0)) from congrArg Value.bool (mand_t hc20)) ?_
          refine Ok.batch 0 [(11, .int .i64 ((hMoS xh xroots).2.2)), (12, .int .i64 (haskS xh xroots)), (75, .bool (((((((((hReS xh xroots).1).length : Int) == 0) && (((hReS xh xroots).2) == (haskS xh xroots))) && ((((hSwS xh xroots).1).length : Int) == 0)) && (((hSwS xh xroots).2) == (haskS xh xroots))) && ((((hMoS xh xroots).1).length : Int) == 0)) && ((((hMoS xh xroots).2.1).length : Int) == 0)))] (by kernel_rfl) ?_
          exact hR19
        · skip
          refine Ok.batch 4 [(11, .int .i64 ((hMoS xh xroots).2.2)), (12, .int .i64 (haskS xh xroots)), (75, .bool false)] (by kernel_rfl) ?_
          refine Ok.reval 75 rfl (show (.bool false : Value) = .bool (((((((((hReS xh xroots).1).length : Int) == 0) && (((hReS xh xroots).2) == (haskS xh xroots))) && ((((hSwS xh xroots).1).length : Int) == 0)) && (((hSwS xh xroots).2) == (haskS xh xroots))) && ((((hMoS xh xroots).1).length : Int) == 0)) && ((((hMoS xh xroots).2.1).length : Int) == 0)) from congrArg Value.bool (mand_f hc20)) ?_
          refine Ok.batch 0 [(11, .int .i64 ((hMoS xh xroots).2.2)), (12, .int .i64 (haskS xh xroots)), (75, .bool (((((((((hReS xh xroots).1).length : Int) == 0) && (((hReS xh xroots).2) == (haskS xh xroots))) && ((((hSwS xh xroots).1).length : Int) == 0)) && (((hSwS xh xroots).2) == (haskS xh xroots))) && ((((hMoS xh xroots).1).length : Int) == 0)) && ((((hMoS xh xroots).2.1).length : Int) == 0)))] (by kernel_rfl) ?_
          exact hR19
      refine Ok.batch 1 [(11, .int .i64 ((hMoS xh xroots).2.2)), (12, .int .i64 (haskS xh xroots)), (76, .bool (((((((((hReS xh xroots).1).length : Int) == 0) && (((hReS xh xroots).2) == (haskS xh xroots))) && ((((hSwS xh xroots).1).length : Int) == 0)) && (((hSwS xh xroots).2) == (haskS xh xroots))) && ((((hMoS xh xroots).1).length : Int) == 0)) && ((((hMoS xh xroots).2.1).length : Int) == 0)))] (by kernel_rfl) ?_
      refine Ok.midway 4 [(80, .bool ((((((((((hReS xh xroots).1).length : Int) == 0) && (((hReS xh xroots).2) == (haskS xh xroots))) && ((((hSwS xh xroots).1).length : Int) == 0)) && (((hSwS xh xroots).2) == (haskS xh xroots))) && ((((hMoS xh xroots).1).length : Int) == 0)) && ((((hMoS xh xroots).2.1).length : Int) == 0)) && (((hMoS xh xroots).2.2) == (haskS xh xroots))))] (fun hR21 => ?_) ?_
      · refine Ok.boolAt 76 ((((((((((hReS xh xroots).1).length : Int) == 0) && (((hReS xh xroots).2) == (haskS xh xroots))) && ((((hSwS xh xroots).1).length : Int) == 0)) && (((hSwS xh xroots).2) == (haskS xh xroots))) && ((((hMoS xh xroots).1).length : Int) == 0)) && ((((hMoS xh xroots).2.1).length : Int) == 0))) rfl (fun hc22 => ?_) (fun hc22 => ?_)
        · skip
          refine Ok.batch 4 [(80, .bool (((hMoS xh xroots).2.2) == (haskS xh xroots)))] (by kernel_rfl) ?_
          refine Ok.reval 80 rfl (show (.bool (((hMoS xh xroots).2.2) == (haskS xh xroots)) : Value) = .bool ((((((((((hReS xh xroots).1).length : Int) == 0) && (((hReS xh xroots).2) == (haskS xh xroots))) && ((((hSwS xh xroots).1).length : Int) == 0)) && (((hSwS xh xroots).2) == (haskS xh xroots))) && ((((hMoS xh xroots).1).length : Int) == 0)) && ((((hMoS xh xroots).2.1).length : Int) == 0)) && (((hMoS xh xroots).2.2) == (haskS xh xroots))) from congrArg Value.bool (mand_t hc22)) ?_
          refine Ok.batch 0 [(80, .bool ((((((((((hReS xh xroots).1).length : Int) == 0) && (((hReS xh xroots).2) == (haskS xh xroots))) && ((((hSwS xh xroots).1).length : Int) == 0)) && (((hSwS xh xroots).2) == (haskS xh xroots))) && ((((hMoS xh xroots).1).length : Int) == 0)) && ((((hMoS xh xroots).2.1).length : Int) == 0)) && (((hMoS xh xroots).2.2) == (haskS xh xroots))))] (by kernel_rfl) ?_
          exact hR21
        · skip
          refine Ok.batch 4 [(80, .bool false)] (by kernel_rfl) ?_
          refine Ok.reval 80 rfl (show (.bool false : Value) = .bool ((((((((((hReS xh xroots).1).length : Int) == 0) && (((hReS xh xroots).2) == (haskS xh xroots))) && ((((hSwS xh xroots).1).length : Int) == 0)) && (((hSwS xh xroots).2) == (haskS xh xroots))) && ((((hMoS xh xroots).1).length : Int) == 0)) && ((((hMoS xh xroots).2.1).length : Int) == 0)) && (((hMoS xh xroots).2.2) == (haskS xh xroots))) from congrArg Value.bool (mand_f hc22)) ?_
          refine Ok.batch 0 [(80, .bool ((((((((((hReS xh xroots).1).length : Int) == 0) && (((hReS xh xroots).2) == (haskS xh xroots))) && ((((hSwS xh xroots).1).length : Int) == 0)) && (((hSwS xh xroots).2) == (haskS xh xroots))) && ((((hMoS xh xroots).1).length : Int) == 0)) && ((((hMoS xh xroots).2.1).length : Int) == 0)) && (((hMoS xh xroots).2.2) == (haskS xh xroots))))] (by kernel_rfl) ?_
          exact hR21
      refine Ok.batch 1 [(4, .bool ((((((((((hReS xh xroots).1).length : Int) == 0) && (((hReS xh xroots).2) == (haskS xh xroots))) && ((((hSwS xh xroots).1).length : Int) == 0)) && (((hSwS xh xroots).2) == (haskS xh xroots))) && ((((hMoS xh xroots).1).length : Int) == 0)) && ((((hMoS xh xroots).2.1).length : Int) == 0)) && (((hMoS xh xroots).2.2) == (haskS xh xroots))))] (by kernel_rfl) ?_
      refine Ok.nil ?_
      refine Ok.thenN ?_
      refine Ok.ret ?_
      refine Ok.thenR ?_
      exact Ok.resH (vs := [.bool ((((((((((hReS xh xroots).1).length : Int) == 0) && (((hReS xh xroots).2) == (haskS xh xroots))) && ((((hSwS xh xroots).1).length : Int) == 0)) && (((hSwS xh xroots).2) == (haskS xh xroots))) && ((((hMoS xh xroots).1).length : Int) == 0)) && ((((hMoS xh xroots).2.1).length : Int) == 0)) && (((hMoS xh xroots).2.2) == (haskS xh xroots)))]) (.inl rfl) rfl (.cons (.tmp rfl) .nil) ((hx2.trans hx4).trans hx6) ⟨((((((((((hReS xh xroots).1).length : Int) == 0) && (((hReS xh xroots).2) == (haskS xh xroots))) && ((((hSwS xh xroots).1).length : Int) == 0)) && (((hSwS xh xroots).2) == (haskS xh xroots))) && ((((hMoS xh xroots).1).length : Int) == 0)) && ((((hMoS xh xroots).2.1).length : Int) == 0)) && (((hMoS xh xroots).2.2) == (haskS xh xroots))), rfl, rfl, hF⟩
    · replace hF := hF.2 hc10
      refine Ok.skip ?_
      refine Ok.thenN ?_
      refine Ok.seq ?_
      refine Ok.region ?_
      refine Ok.batch 2 [(0, .slice axh_0 xh.length cxh_0), (1, .slice axroots_0 xroots.length cxroots_0), (5, .slice a2_0 ((hReS xh xroots).1).length c2_0), (6, .int .i64 ((hReS xh xroots).2)), (7, .slice a4_0 ((hSwS xh xroots).1).length c4_0), (8, .int .i64 ((hSwS xh xroots).2)), (9, .slice a6_0 ((hMoS xh xroots).1).length c6_0), (10, .slice a6_2 ((hMoS xh xroots).2.1).length c6_2), (11, .int .i64 ((hMoS xh xroots).2.2)), (81, .slice axh_0 xh.length cxh_0), (82, .slice axroots_0 xroots.length cxroots_0)] (by kernel_rfl) ?_
      obtain ⟨hp23, hF⟩ := hF
      refine Ok.op rfl (OpOk.callH [] [] (enters (by kernel_rfl) (fun _ => by kernel_rfl)) rfl (rrc_c xh xroots hRxh_0 hRxroots_0 hp23) rfl fun g24 _ _ hx24 hV24 => ?_)
      obtain ⟨a24_0, c24_0, rfl, hR24_0, rfl⟩ := hV24
      replace hRxh_0 := hRxh_0.mono hx24.1
      replace hRxroots_0 := hRxroots_0.mono hx24.1
      replace hR2_0 := hR2_0.mono hx24.1
      replace hR4_0 := hR4_0.mono hx24.1
      replace hR6_0 := hR6_0.mono hx24.1
      replace hR6_2 := hR6_2.mono hx24.1
      refine Ok.batch 1 [(0, .slice axh_0 xh.length cxh_0), (1, .slice axroots_0 xroots.length cxroots_0), (5, .slice a2_0 ((hReS xh xroots).1).length c2_0), (6, .int .i64 ((hReS xh xroots).2)), (7, .slice a4_0 ((hSwS xh xroots).1).length c4_0), (8, .int .i64 ((hSwS xh xroots).2)), (9, .slice a6_0 ((hMoS xh xroots).1).length c6_0), (10, .slice a6_2 ((hMoS xh xroots).2.1).length c6_2), (11, .int .i64 ((hMoS xh xroots).2.2)), (13, .slice a24_0 (rrcS xh xroots).length c24_0)] (by kernel_rfl) ?_
      refine Ok.nil ?_
      refine Ok.thenN ?_
      refine Ok.seq ?_
      refine Ok.region ?_
      refine Ok.batch 2 [(0, .slice axh_0 xh.length cxh_0), (1, .slice axroots_0 xroots.length cxroots_0), (5, .slice a2_0 ((hReS xh xroots).1).length c2_0), (6, .int .i64 ((hReS xh xroots).2)), (7, .slice a4_0 ((hSwS xh xroots).1).length c4_0), (8, .int .i64 ((hSwS xh xroots).2)), (9, .slice a6_0 ((hMoS xh xroots).1).length c6_0), (10, .slice a6_2 ((hMoS xh xroots).2.1).length c6_2), (11, .int .i64 ((hMoS xh xroots).2.2)), (13, .slice a24_0 (rrcS xh xroots).length c24_0), (85, .int .i64 (xh.length : Int))] (by kernel_rfl) ?_
      obtain ⟨h025, h125, hF⟩ := hF
      refine Ok.op rfl (OpOk.makeZero (e := .pair (.int .i64) (.pair (.slice (.str)) (.slice (.pair (.int .i64) (.pair (.int .i64) (.str)))))) (E := 72) (nn := (xh.length : Int)) (y := (0, [], [])) (z := .agg #[.int .i64 0, .slice none 0 0, .slice none 0 0]) 56 2513169434916 rfl rfl Try.underlying22 (by kernel_rfl) (by kernel_rfl) (by kernel_rfl) ⟨[.int .i64 0], [.slice none 0 0, .slice none 0 0], rfl, rfl, ⟨[.slice none 0 0], [.slice none 0 0], rfl, Rep.nil, Rep.nil⟩⟩ h025 h125 rfl fun a25 c25 xs25 hL25 => ?_)
      refine Ok.batch 1 [(0, .slice axh_0 xh.length cxh_0), (1, .slice axroots_0 xroots.length cxroots_0), (5, .slice a2_0 ((hReS xh xroots).1).length c2_0), (6, .int .i64 ((hReS xh xroots).2)), (7, .slice a4_0 ((hSwS xh xroots).1).length c4_0), (8, .int .i64 ((hSwS xh xroots).2)), (9, .slice a6_0 ((hMoS xh xroots).1).length c6_0), (10, .slice a6_2 ((hMoS xh xroots).2.1).length c6_2), (11, .int .i64 ((hMoS xh xroots).2.2)), (13, .slice a24_0 (rrcS xh xroots).length c24_0), (14, .slice a25 (List.replicate (Int.toNat (xh.length : Int)) ((0, [], []) : Int × List (List UInt8) × List (JV))).length c25)] (by kernel_rfl) ?_
      refine Ok.nil ?_
      refine Ok.thenN ?_
      refine Ok.seq ?_
      refine Ok.seq ?_
      refine Ok.region ?_
      refine Ok.batch 3 [(0, .slice axh_0 xh.length cxh_0), (1, .slice axroots_0 xroots.length cxroots_0), (5, .slice a2_0 ((hReS xh xroots).1).length c2_0), (6, .int .i64 ((hReS xh xroots).2)), (7, .slice a4_0 ((hSwS xh xroots).1).length c4_0), (8, .int .i64 ((hSwS xh xroots).2)), (9, .slice a6_0 ((hMoS xh xroots).1).length c6_0), (10, .slice a6_2 ((hMoS xh xroots).2.1).length c6_2), (11, .int .i64 ((hMoS xh xroots).2.2)), (13, .slice a24_0 (rrcS xh xroots).length c24_0), (14, .slice a25 (List.replicate (Int.toNat (xh.length : Int)) ((0, [], []) : Int × List (List UInt8) × List (JV))).length c25), (87, .slice a24_0 (rrcS xh xroots).length c24_0), (88, .int .i64 ((rrcS xh xroots).length : Int)), (89, .int .i64 0)] (by kernel_rfl) ?_
      refine Ok.nil ?_
      refine Ok.thenN ?_
      refine Ok.block ?_
      obtain ⟨k, hF⟩ := hF
      refine Ok.loop (fun k a W => ∃ gl35 : Ghost, Gext w0 g24 gl35 ∧ ∃ (x89l35 : Int) (ayown25_0l35 : Option Addr) (cyown25_0l35 : Nat) (yown25_0l35 : List (Int × List (List UInt8) × List (JV))) (xsyown25_0l35 : List Value), RepL gl35 (.pair (.int .i64) (.pair (.slice (.str)) (.slice (.pair (.int .i64) (.pair (.int .i64) (.str)))))) xsyown25_0l35 yown25_0l35 ∧ StA 139 [(0, .slice axh_0 xh.length cxh_0), (1, .slice axroots_0 xroots.length cxroots_0), (5, .slice a2_0 ((hReS xh xroots).1).length c2_0), (6, .int .i64 ((hReS xh xroots).2)), (7, .slice a4_0 ((hSwS xh xroots).1).length c4_0), (8, .int .i64 ((hSwS xh xroots).2)), (9, .slice a6_0 ((hMoS xh xroots).1).length c6_0), (10, .slice a6_2 ((hMoS xh xroots).2.1).length c6_2), (11, .int .i64 ((hMoS xh xroots).2.2)), (13, .slice a24_0 (rrcS xh xroots).length c24_0), (14, .slice ayown25_0l35 yown25_0l35.length cyown25_0l35), (87, .slice a24_0 (rrcS xh xroots).length c24_0), (88, .int .i64 ((rrcS xh xroots).length : Int)), (89, .int .i64 x89l35)] a ∧ StW w0 [.own (.slice ayown25_0l35 yown25_0l35.length cyown25_0l35) 72 3 yown25_0l35.length xsyown25_0l35] gl35 W ∧ lhsl35 xh xroots K k x89l35 yown25_0l35) k ?_ ?_
      ·
        exact fun a W hA hW => ⟨g24, (Gext.refl w0 g24), 0, a25, c25, (List.replicate (Int.toNat (xh.length : Int)) ((0, [], []) : Int × List (List UInt8) × List (JV))), xs25, hL25, hA.sub (by kernel_rfl), hW, hF⟩
      ·
        clear hF
        rintro k35 a W ⟨gl35, hxl35, x89l35, ayown25_0l35, cyown25_0l35, yown25_0l35, xsyown25_0l35, hLyown25_0l35, hA, hW, hF⟩
        cases k35 with
        | zero => exact (hF : False).elim
        | succ k35 =>
          refine (?_ : Ok _ _ _ _ _ _) a W hA hW
          clear hA hW
          replace hRxh_0 := hRxh_0.mono hxl35.1
          replace hRxroots_0 := hRxroots_0.mono hxl35.1
          replace hR2_0 := hR2_0.mono hxl35.1
          replace hR4_0 := hR4_0.mono hxl35.1
          replace hR6_0 := hR6_0.mono hxl35.1
          replace hR6_2 := hR6_2.mono hxl35.1
          replace hR24_0 := hR24_0.mono hxl35.1
          refine Ok.seq ?_
          refine Ok.region ?_
          refine Ok.batch 1 [(0, .slice axh_0 xh.length cxh_0), (1, .slice axroots_0 xroots.length cxroots_0), (5, .slice a2_0 ((hReS xh xroots).1).length c2_0), (6, .int .i64 ((hReS xh xroots).2)), (7, .slice a4_0 ((hSwS xh xroots).1).length c4_0), (8, .int .i64 ((hSwS xh xroots).2)), (9, .slice a6_0 ((hMoS xh xroots).1).length c6_0), (10, .slice a6_2 ((hMoS xh xroots).2.1).length c6_2), (11, .int .i64 ((hMoS xh xroots).2.2)), (13, .slice a24_0 (rrcS xh xroots).length c24_0), (14, .slice ayown25_0l35 yown25_0l35.length cyown25_0l35), (87, .slice a24_0 (rrcS xh xroots).length c24_0), (88, .int .i64 ((rrcS xh xroots).length : Int)), (89, .int .i64 x89l35), (90, .bool (decide (x89l35 < ((rrcS xh xroots).length : Int))))] (by kernel_rfl) ?_
          refine Ok.nil ?_
          refine Ok.thenN ?_
          refine Ok.seq ?_
          refine Ok.cond (b := decide (x89l35 < ((rrcS xh xroots).length : Int))) rfl (fun hc26 => ?_) (fun hc26 => ?_)
          · replace hF := hF.1 hc26
            refine Ok.skip ?_
            refine Ok.thenN ?_
            refine Ok.seq ?_
            refine Ok.block ?_
            refine Ok.seq ?_
            refine Ok.region ?_
            obtain ⟨h028, h128, hF⟩ := hF
            have he28 := get_of (l := (rrcS xh xroots)) (default : Int) h128
            generalize hg28 : ((rrcS xh xroots).getD (Int.toNat x89l35) default) = e28 at he28 hF ⊢
            refine Ok.op rfl (OpOk.indexRo (e := .int .i64) (i := x89l35) (el := e28) rfl rfl Try.underlying61 (by kernel_rfl) hR24_0 h028 he28 rfl fun q27 o27 cs27 _ hat27 hr27 => ?_)
            obtain rfl := hr27
            replace hat27 : At gl35 q27 o27 [.int .i64 e28] := hat27
            refine Ok.op rfl (OpOk.step (v := .int .i64 e28) (Yields.loadRo 0 hat27 (by kernel_rfl) Try.underlying3 rfl (by kernel_rfl)) rfl rfl ?_)
            refine Ok.batch 1 [(0, .slice axh_0 xh.length cxh_0), (1, .slice axroots_0 xroots.length cxroots_0), (5, .slice a2_0 ((hReS xh xroots).1).length c2_0), (6, .int .i64 ((hReS xh xroots).2)), (7, .slice a4_0 ((hSwS xh xroots).1).length c4_0), (8, .int .i64 ((hSwS xh xroots).2)), (9, .slice a6_0 ((hMoS xh xroots).1).length c6_0), (10, .slice a6_2 ((hMoS xh xroots).2.1).length c6_2), (11, .int .i64 ((hMoS xh xroots).2.2)), (13, .slice a24_0 (rrcS xh xroots).length c24_0), (14, .slice ayown25_0l35 yown25_0l35.length cyown25_0l35), (16, .int .i64 e28), (87, .slice a24_0 (rrcS xh xroots).length c24_0), (88, .int .i64 ((rrcS xh xroots).length : Int)), (89, .int .i64 x89l35)] (by kernel_rfl) ?_
            refine Ok.nil ?_
            refine Ok.thenN ?_
            refine Ok.region ?_
            refine Ok.batch 4 [(0, .slice axh_0 xh.length cxh_0), (1, .slice axroots_0 xroots.length cxroots_0), (5, .slice a2_0 ((hReS xh xroots).1).length c2_0), (6, .int .i64 ((hReS xh xroots).2)), (7, .slice a4_0 ((hSwS xh xroots).1).length c4_0), (8, .int .i64 ((hSwS xh xroots).2)), (9, .slice a6_0 ((hMoS xh xroots).1).length c6_0), (10, .slice a6_2 ((hMoS xh xroots).2.1).length c6_2), (11, .int .i64 ((hMoS xh xroots).2.2)), (13, .slice a24_0 (rrcS xh xroots).length c24_0), (14, .slice ayown25_0l35 yown25_0l35.length cyown25_0l35), (87, .slice a24_0 (rrcS xh xroots).length c24_0), (88, .int .i64 ((rrcS xh xroots).length : Int)), (89, .int .i64 x89l35), (93, .slice ayown25_0l35 yown25_0l35.length cyown25_0l35), (94, .int .i64 e28), (95, .slice axh_0 xh.length cxh_0), (96, .int .i64 e28)] (by kernel_rfl) ?_
            obtain ⟨h030, h130, hF⟩ := hF
            have he30 := get_of (l := xh) (default : Int × List (List UInt8) × List (JV)) h130
            generalize hg30 : (xh.getD (Int.toNat e28) default) = e30 at he30 hF ⊢
            refine Ok.op rfl (OpOk.indexRo (e := .pair (.int .i64) (.pair (.slice (.str)) (.slice (.pair (.int .i64) (.pair (.int .i64) (.str)))))) (i := e28) (el := e30) rfl rfl Try.underlying22 (by kernel_rfl) hRxh_0 h030 he30 rfl fun q29 o29 cs29 _ hat29 hr29 => ?_)
            obtain ⟨_, _, rfl, rfl, ⟨_, _, rfl, ⟨a29_1, c29_1, rfl, hm29_1, hr29_1⟩, ⟨a29_2, c29_2, rfl, hm29_2, hr29_2⟩⟩⟩ := hr29
            have hR29_1 : Rep gl35 (.slice (.str)) [.slice a29_1 e30.2.1.length c29_1] e30.2.1 := ⟨a29_1, c29_1, rfl, hm29_1, hr29_1⟩
            have hR29_2 : Rep gl35 (.slice (.pair (.int .i64) (.pair (.int .i64) (.str)))) [.slice a29_2 e30.2.2.length c29_2] e30.2.2 := ⟨a29_2, c29_2, rfl, hm29_2, hr29_2⟩
            replace hat29 : At gl35 q29 o29 [.int .i64 e30.1, .slice a29_1 e30.2.1.length c29_1, .slice a29_2 e30.2.2.length c29_2] := hat29
            refine Ok.op rfl (OpOk.step (v := .agg #[.int .i64 e30.1, .slice a29_1 e30.2.1.length c29_1, .slice a29_2 e30.2.2.length c29_2]) (Yields.loadAggRo 0 3 #[.int .i64 e30.1, .slice a29_1 e30.2.1.length c29_1, .slice a29_2 e30.2.2.length c29_2] hat29 (by kernel_rfl) Try.underlying72 rfl (by kernel_rfl) (by kernel_rfl) (by kernel_rfl)) rfl rfl ?_)
            obtain ⟨h032, h132, hF⟩ := hF
            have he32 := get_of (l := yown25_0l35) (default : Int × List (List UInt8) × List (JV)) h132
            generalize hg32 : (yown25_0l35.getD (Int.toNat e28) default) = e32 at he32 hF ⊢
            refine Ok.op rfl (OpOk.indexOwn (e := .pair (.int .i64) (.pair (.slice (.str)) (.slice (.pair (.int .i64) (.pair (.int .i64) (.str)))))) (q := e28) (el := e32) 0 rfl hLyown25_0l35 rfl rfl Try.underlying22 (by kernel_rfl) (by kernel_rfl) h032 he32 rfl fun cs31 _ hr31 hc31 => ?_)
            obtain ⟨_, _, rfl, rfl, ⟨_, _, rfl, ⟨a31_1, c31_1, rfl, hm31_1, hr31_1⟩, ⟨a31_2, c31_2, rfl, hm31_2, hr31_2⟩⟩⟩ := hr31
            have hR31_1 : Rep gl35 (.slice (.str)) [.slice a31_1 e32.2.1.length c31_1] e32.2.1 := ⟨a31_1, c31_1, rfl, hm31_1, hr31_1⟩
            have hR31_2 : Rep gl35 (.slice (.pair (.int .i64) (.pair (.int .i64) (.str)))) [.slice a31_2 e32.2.2.length c31_2] e32.2.2 := ⟨a31_2, c31_2, rfl, hm31_2, hr31_2⟩
            replace hc31 : ∀ j v, ([.int .i64 e32.1, .slice a31_1 e32.2.1.length c31_1, .slice a31_2 e32.2.2.length c31_2] : List Value)[j]? = some v → xsyown25_0l35[Int.toNat e28 * 3 + j]? = some v := hc31
            refine Ok.op rfl (OpOk.storeOwn (e := .pair (.int .i64) (.pair (.slice (.str)) (.slice (.pair (.int .i64) (.pair (.int .i64) (.str)))))) (q := Int.toNat e28) (cells := [.int .i64 e32.1, .slice a31_1 e32.2.1.length c31_1, .slice a31_2 e32.2.2.length c31_2]) (vs := [.int .i64 e30.1, .slice a29_1 e30.2.1.length c29_1, .slice a29_2 e30.2.2.length c29_2]) (el' := e30) 0 0 3 rfl hLyown25_0l35 hc31 (by kernel_rfl) rfl rfl rfl (by kernel_rfl) (by kernel_rfl) (by kernel_rfl) (by kernel_rfl) (by kernel_rfl) (show Rep _ _ [.int .i64 e30.1, .slice a29_1 e30.2.1.length c29_1, .slice a29_2 e30.2.2.length c29_2] _ from ⟨[.int .i64 e30.1], [.slice a29_1 e30.2.1.length c29_1, .slice a29_2 e30.2.2.length c29_2], rfl, rfl, ⟨[.slice a29_1 e30.2.1.length c29_1], [.slice a29_2 e30.2.2.length c29_2], rfl, hR29_1, hR29_2⟩⟩) fun xs33 hL33 => ?_)
            rw [show yown25_0l35.length = (yown25_0l35.set (Int.toNat e28) e30).length from (List.length_set ..).symm]
            refine Ok.nil ?_
            refine Ok.blockN ?_
            refine Ok.thenN ?_
            refine Ok.region ?_
            refine Ok.batch 2 [(0, .slice axh_0 xh.length cxh_0), (1, .slice axroots_0 xroots.length cxroots_0), (5, .slice a2_0 ((hReS xh xroots).1).length c2_0), (6, .int .i64 ((hReS xh xroots).2)), (7, .slice a4_0 ((hSwS xh xroots).1).length c4_0), (8, .int .i64 ((hSwS xh xroots).2)), (9, .slice a6_0 ((hMoS xh xroots).1).length c6_0), (10, .slice a6_2 ((hMoS xh xroots).2.1).length c6_2), (11, .int .i64 ((hMoS xh xroots).2.2)), (13, .slice a24_0 (rrcS xh xroots).length c24_0), (14, .slice ayown25_0l35 (yown25_0l35.set (Int.toNat e28) e30).length cyown25_0l35), (87, .slice a24_0 (rrcS xh xroots).length c24_0), (88, .int .i64 ((rrcS xh xroots).length : Int)), (89, .int .i64 (IntKind.wrap .i64 (x89l35 + 1)))] (by kernel_rfl) ?_
            refine Ok.nil ?_
            refine Ok.thenN ?_
            subst hg32
            subst hg30
            subst hg28
            exact fun a W hA hW => ⟨k35, Nat.lt_succ_self _, gl35, hxl35, IntKind.wrap .i64 (x89l35 + 1), ayown25_0l35, cyown25_0l35, (yown25_0l35.set (Int.toNat ((rrcS xh xroots).getD (Int.toNat x89l35) default)) (xh.getD (Int.toNat ((rrcS xh xroots).getD (Int.toNat x89l35) default)) default)), xs33, hL33, hA.sub (by kernel_rfl), hW, hF⟩
          · replace hF := hF.2 hc26
            refine Ok.exit ?_
            refine Ok.thenE ?_
            refine Ok.thenE ?_
            refine Ok.blockHit ?_
            refine Ok.thenN ?_
            refine Ok.seq ?_
            refine Ok.region ?_
            refine Ok.batch 2 [(5, .slice a2_0 ((hReS xh xroots).1).length c2_0), (6, .int .i64 ((hReS xh xroots).2)), (7, .slice a4_0 ((hSwS xh xroots).1).length c4_0), (8, .int .i64 ((hSwS xh xroots).2)), (9, .slice a6_0 ((hMoS xh xroots).1).length c6_0), (10, .slice a6_2 ((hMoS xh xroots).2.1).length c6_2), (11, .int .i64 ((hMoS xh xroots).2.2)), (13, .slice a24_0 (rrcS xh xroots).length c24_0), (14, .slice ayown25_0l35 yown25_0l35.length cyown25_0l35), (102, .slice axh_0 xh.length cxh_0), (103, .slice axroots_0 xroots.length cxroots_0)] (by kernel_rfl) ?_
            obtain ⟨hp34, hF⟩ := hF
            refine Ok.op rfl (OpOk.callH [] [.own (.slice ayown25_0l35 yown25_0l35.length cyown25_0l35) 72 3 yown25_0l35.length xsyown25_0l35] (enters (by kernel_rfl) (fun _ => by kernel_rfl)) rfl (rmc_c xh xroots hRxh_0 hRxroots_0 hp34) rfl fun g35 _ _ hx35 hV35 => ?_)
            obtain ⟨a35_0, c35_0, a35_2, c35_2, rfl, hR35_0, hR35_2, rfl⟩ := hV35
            replace hR2_0 := hR2_0.mono hx35.1
            replace hR4_0 := hR4_0.mono hx35.1
            replace hR6_0 := hR6_0.mono hx35.1
            replace hR6_2 := hR6_2.mono hx35.1
            replace hR24_0 := hR24_0.mono hx35.1
            replace hLyown25_0l35 := hLyown25_0l35.mono hx35.1
            replace hRxh_0 := hRxh_0.mono hx35.1
            replace hRxroots_0 := hRxroots_0.mono hx35.1
            refine Ok.batch 5 [(5, .slice a2_0 ((hReS xh xroots).1).length c2_0), (6, .int .i64 ((hReS xh xroots).2)), (7, .slice a4_0 ((hSwS xh xroots).1).length c4_0), (8, .int .i64 ((hSwS xh xroots).2)), (9, .slice a6_0 ((hMoS xh xroots).1).length c6_0), (10, .slice a6_2 ((hMoS xh xroots).2.1).length c6_2), (11, .int .i64 ((hMoS xh xroots).2.2)), (13, .slice a24_0 (rrcS xh xroots).length c24_0), (14, .slice ayown25_0l35 yown25_0l35.length cyown25_0l35), (17, .slice a35_0 ((rmcS xh xroots).1).length c35_0), (18, .slice a35_2 ((rmcS xh xroots).2).length c35_2)] (by kernel_rfl) ?_
            refine Ok.nil ?_
            refine Ok.thenN ?_
            refine Ok.cut (fun a W => ∃ gj50 : Ghost, Gext w0 g35 gj50 ∧ StA 139 [(4, .bool (lhsV0 xh xroots yown25_0l35))] a ∧ StW w0 [] gj50 W ∧ lhsj50 xh xroots K yown25_0l35) ?_ ?_
            ·
              refine Ok.region ?_
              refine Ok.batch 2 [(6, .int .i64 ((hReS xh xroots).2)), (7, .slice a4_0 ((hSwS xh xroots).1).length c4_0), (8, .int .i64 ((hSwS xh xroots).2)), (9, .slice a6_0 ((hMoS xh xroots).1).length c6_0), (10, .slice a6_2 ((hMoS xh xroots).2.1).length c6_2), (11, .int .i64 ((hMoS xh xroots).2.2)), (14, .slice ayown25_0l35 yown25_0l35.length cyown25_0l35), (17, .slice a35_0 ((rmcS xh xroots).1).length c35_0), (18, .slice a35_2 ((rmcS xh xroots).2).length c35_2), (107, .slice a2_0 ((hReS xh xroots).1).length c2_0), (108, .slice a24_0 (rrcS xh xroots).length c24_0)] (by kernel_rfl) ?_
              refine Ok.op rfl (OpOk.inline (args := #[.slice a24_0 (rrcS xh xroots).length c24_0]) 4 [(0, .slice a24_0 (rrcS xh xroots).length c24_0)] (enters (by kernel_rfl) (fun _ => by kernel_rfl)) Try.func32 rfl rfl rfl rfl ?_)
              refine Ok.seq ?_
              refine Ok.region ?_
              refine Ok.op rfl (OpOk.box (v := .slice a24_0 (rrcS xh xroots).length c24_0) (cs := #[.slice a24_0 (rrcS xh xroots).length c24_0]) rfl (by kernel_rfl) rfl fun b36 => ?_)
              refine Ok.batch 1 [(1, .pointer (some ⟨b36, 0, none⟩))] (by kernel_rfl) ?_
              refine Ok.nil ?_
              refine Ok.thenN ?_
              refine Ok.seq ?_
              refine Ok.region ?_
              refine Ok.batch 2 [(2, .func (.func 66) #[] #[.pointer (some ⟨b36, 0, none⟩)])] (by kernel_rfl) ?_
              refine Ok.nil ?_
              refine Ok.thenN ?_
              refine Ok.ret ?_
              refine Ok.back (vs := [.func (.func 66) #[] #[.pointer (some ⟨b36, 0, none⟩)]]) (.inl rfl) rfl (.cons (.tmp rfl) .nil) rfl ?_
              obtain ⟨hp37, hF⟩ := hF
              refine Ok.op rfl (OpOk.callH [.blk b36 (.cells #[.slice a24_0 (rrcS xh xroots).length c24_0] 61)] [.own (.slice ayown25_0l35 yown25_0l35.length cyown25_0l35) 72 3 yown25_0l35.length xsyown25_0l35] (enters (by kernel_rfl) (fun _ => by kernel_rfl)) rfl (It.sv_c (rrcS xh xroots) hR24_0 hp37) rfl fun g38 _ _ hx38 hV38 => ?_)
              obtain ⟨a38_0, c38_0, xs38_0, rfl, hL38_0, rfl⟩ := hV38
              replace hR4_0 := hR4_0.mono hx38.1
              replace hR6_0 := hR6_0.mono hx38.1
              replace hR6_2 := hR6_2.mono hx38.1
              replace hLyown25_0l35 := hLyown25_0l35.mono hx38.1
              replace hR35_0 := hR35_0.mono hx38.1
              replace hR35_2 := hR35_2.mono hx38.1
              replace hR2_0 := hR2_0.mono hx38.1
              obtain ⟨hp39, hF⟩ := hF
              refine Ok.op rfl (OpOk.callG (v := .bool (ieqS ((hReS xh xroots).1) (Sr.srtS (rrcS xh xroots)))) (enters (by kernel_rfl) (fun _ => by kernel_rfl)) (fun W hW => ieq_c ((hReS xh xroots).1) (Sr.srtS (rrcS xh xroots)) (hR2_0.mono hW.sees) (hW.seeOwn 0 rfl hL38_0) hp39) rfl ?_)
              refine Ok.batch 1 [(6, .int .i64 ((hReS xh xroots).2)), (7, .slice a4_0 ((hSwS xh xroots).1).length c4_0), (8, .int .i64 ((hSwS xh xroots).2)), (9, .slice a6_0 ((hMoS xh xroots).1).length c6_0), (10, .slice a6_2 ((hMoS xh xroots).2.1).length c6_2), (11, .int .i64 ((hMoS xh xroots).2.2)), (14, .slice ayown25_0l35 yown25_0l35.length cyown25_0l35), (17, .slice a35_0 ((rmcS xh xroots).1).length c35_0), (18, .slice a35_2 ((rmcS xh xroots).2).length c35_2), (112, .bool (ieqS ((hReS xh xroots).1) (Sr.srtS (rrcS xh xroots))))] (by kernel_rfl) ?_
              refine Ok.midway 3 [(7, .slice a4_0 ((hSwS xh xroots).1).length c4_0), (8, .int .i64 ((hSwS xh xroots).2)), (9, .slice a6_0 ((hMoS xh xroots).1).length c6_0), (10, .slice a6_2 ((hMoS xh xroots).2.1).length c6_2), (11, .int .i64 ((hMoS xh xroots).2.2)), (14, .slice ayown25_0l35 yown25_0l35.length cyown25_0l35), (17, .slice a35_0 ((rmcS xh xroots).1).length c35_0), (18, .slice a35_2 ((rmcS xh xroots).2).length c35_2), (115, .bool ((ieqS ((hReS xh xroots).1) (Sr.srtS (rrcS xh xroots))) && (((hReS xh xroots).2) == 0)))] (fun hR40 => ?_) ?_
              · refine Ok.boolAt 112 ((ieqS ((hReS xh xroots).1) (Sr.srtS (rrcS xh xroots)))) rfl (fun hc41 => ?_) (fun hc41 => ?_)
                · skip
                  refine Ok.batch 3 [(7, .slice a4_0 ((hSwS xh xroots).1).length c4_0), (8, .int .i64 ((hSwS xh xroots).2)), (9, .slice a6_0 ((hMoS xh xroots).1).length c6_0), (10, .slice a6_2 ((hMoS xh xroots).2.1).length c6_2), (11, .int .i64 ((hMoS xh xroots).2.2)), (14, .slice ayown25_0l35 yown25_0l35.length cyown25_0l35), (17, .slice a35_0 ((rmcS xh xroots).1).length c35_0), (18, .slice a35_2 ((rmcS xh xroots).2).length c35_2), (115, .bool (((hReS xh xroots).2) == 0))] (by kernel_rfl) ?_
                  refine Ok.reval 115 rfl (show (.bool (((hReS xh xroots).2) == 0) : Value) = .bool ((ieqS ((hReS xh xroots).1) (Sr.srtS (rrcS xh xroots))) && (((hReS xh xroots).2) == 0)) from congrArg Value.bool (mand_t hc41)) ?_
                  refine Ok.batch 0 [(7, .slice a4_0 ((hSwS xh xroots).1).length c4_0), (8, .int .i64 ((hSwS xh xroots).2)), (9, .slice a6_0 ((hMoS xh xroots).1).length c6_0), (10, .slice a6_2 ((hMoS xh xroots).2.1).length c6_2), (11, .int .i64 ((hMoS xh xroots).2.2)), (14, .slice ayown25_0l35 yown25_0l35.length cyown25_0l35), (17, .slice a35_0 ((rmcS xh xroots).1).length c35_0), (18, .slice a35_2 ((rmcS xh xroots).2).length c35_2), (115, .bool ((ieqS ((hReS xh xroots).1) (Sr.srtS (rrcS xh xroots))) && (((hReS xh xroots).2) == 0)))] (by kernel_rfl) ?_
                  exact hR40
                · skip
                  refine Ok.batch 3 [(7, .slice a4_0 ((hSwS xh xroots).1).length c4_0), (8, .int .i64 ((hSwS xh xroots).2)), (9, .slice a6_0 ((hMoS xh xroots).1).length c6_0), (10, .slice a6_2 ((hMoS xh xroots).2.1).length c6_2), (11, .int .i64 ((hMoS xh xroots).2.2)), (14, .slice ayown25_0l35 yown25_0l35.length cyown25_0l35), (17, .slice a35_0 ((rmcS xh xroots).1).length c35_0), (18, .slice a35_2 ((rmcS xh xroots).2).length c35_2), (115, .bool false)] (by kernel_rfl) ?_
                  refine Ok.reval 115 rfl (show (.bool false : Value) = .bool ((ieqS ((hReS xh xroots).1) (Sr.srtS (rrcS xh xroots))) && (((hReS xh xroots).2) == 0)) from congrArg Value.bool (mand_f hc41)) ?_
                  refine Ok.batch 0 [(7, .slice a4_0 ((hSwS xh xroots).1).length c4_0), (8, .int .i64 ((hSwS xh xroots).2)), (9, .slice a6_0 ((hMoS xh xroots).1).length c6_0), (10, .slice a6_2 ((hMoS xh xroots).2.1).length c6_2), (11, .int .i64 ((hMoS xh xroots).2.2)), (14, .slice ayown25_0l35 yown25_0l35.length cyown25_0l35), (17, .slice a35_0 ((rmcS xh xroots).1).length c35_0), (18, .slice a35_2 ((rmcS xh xroots).2).length c35_2), (115, .bool ((ieqS ((hReS xh xroots).1) (Sr.srtS (rrcS xh xroots))) && (((hReS xh xroots).2) == 0)))] (by kernel_rfl) ?_
                  exact hR40
              refine Ok.batch 1 [(7, .slice a4_0 ((hSwS xh xroots).1).length c4_0), (8, .int .i64 ((hSwS xh xroots).2)), (9, .slice a6_0 ((hMoS xh xroots).1).length c6_0), (10, .slice a6_2 ((hMoS xh xroots).2.1).length c6_2), (11, .int .i64 ((hMoS xh xroots).2.2)), (14, .slice ayown25_0l35 yown25_0l35.length cyown25_0l35), (17, .slice a35_0 ((rmcS xh xroots).1).length c35_0), (18, .slice a35_2 ((rmcS xh xroots).2).length c35_2), (116, .bool ((ieqS ((hReS xh xroots).1) (Sr.srtS (rrcS xh xroots))) && (((hReS xh xroots).2) == 0)))] (by kernel_rfl) ?_
              refine Ok.boolAt 116 (((ieqS ((hReS xh xroots).1) (Sr.srtS (rrcS xh xroots))) && (((hReS xh xroots).2) == 0))) rfl (fun hc42 => ?_) (fun hc42 => ?_)
              · replace hF := hF.1 hc42
                refine Ok.batch 2 [(8, .int .i64 ((hSwS xh xroots).2)), (9, .slice a6_0 ((hMoS xh xroots).1).length c6_0), (10, .slice a6_2 ((hMoS xh xroots).2.1).length c6_2), (11, .int .i64 ((hMoS xh xroots).2.2)), (17, .slice a35_0 ((rmcS xh xroots).1).length c35_0), (18, .slice a35_2 ((rmcS xh xroots).2).length c35_2), (116, .bool true), (117, .slice a4_0 ((hSwS xh xroots).1).length c4_0), (118, .slice ayown25_0l35 yown25_0l35.length cyown25_0l35)] (by kernel_rfl) ?_
                obtain ⟨hp43, hF⟩ := hF
                refine Ok.opYes (j := 9) (d := 116) (want := true) (b := true) rfl (by kernel_rfl) (by kernel_rfl) rfl (OpOk.callG (v := .bool (rscS ((hSwS xh xroots).1) yown25_0l35)) (enters (by kernel_rfl) (fun _ => by kernel_rfl)) (fun W hW => rsc_c ((hSwS xh xroots).1) yown25_0l35 (hR4_0.mono hW.sees) (hW.seeOwn 1 rfl hLyown25_0l35) hp43) rfl ?_)
                refine Ok.batch 2 [(8, .int .i64 ((hSwS xh xroots).2)), (9, .slice a6_0 ((hMoS xh xroots).1).length c6_0), (10, .slice a6_2 ((hMoS xh xroots).2.1).length c6_2), (11, .int .i64 ((hMoS xh xroots).2.2)), (17, .slice a35_0 ((rmcS xh xroots).1).length c35_0), (18, .slice a35_2 ((rmcS xh xroots).2).length c35_2), (121, .bool (rscS ((hSwS xh xroots).1) yown25_0l35))] (by kernel_rfl) ?_
                refine Ok.midway 3 [(9, .slice a6_0 ((hMoS xh xroots).1).length c6_0), (10, .slice a6_2 ((hMoS xh xroots).2.1).length c6_2), (11, .int .i64 ((hMoS xh xroots).2.2)), (17, .slice a35_0 ((rmcS xh xroots).1).length c35_0), (18, .slice a35_2 ((rmcS xh xroots).2).length c35_2), (124, .bool ((rscS ((hSwS xh xroots).1) yown25_0l35) && (((hSwS xh xroots).2) == 0)))] (fun hR44 => ?_) ?_
                · refine Ok.boolAt 121 ((rscS ((hSwS xh xroots).1) yown25_0l35)) rfl (fun hc45 => ?_) (fun hc45 => ?_)
                  · skip
                    refine Ok.batch 3 [(9, .slice a6_0 ((hMoS xh xroots).1).length c6_0), (10, .slice a6_2 ((hMoS xh xroots).2.1).length c6_2), (11, .int .i64 ((hMoS xh xroots).2.2)), (17, .slice a35_0 ((rmcS xh xroots).1).length c35_0), (18, .slice a35_2 ((rmcS xh xroots).2).length c35_2), (124, .bool (((hSwS xh xroots).2) == 0))] (by kernel_rfl) ?_
                    refine Ok.reval 124 rfl (show (.bool (((hSwS xh xroots).2) == 0) : Value) = .bool ((rscS ((hSwS xh xroots).1) yown25_0l35) && (((hSwS xh xroots).2) == 0)) from congrArg Value.bool (mand_t hc45)) ?_
                    refine Ok.batch 0 [(9, .slice a6_0 ((hMoS xh xroots).1).length c6_0), (10, .slice a6_2 ((hMoS xh xroots).2.1).length c6_2), (11, .int .i64 ((hMoS xh xroots).2.2)), (17, .slice a35_0 ((rmcS xh xroots).1).length c35_0), (18, .slice a35_2 ((rmcS xh xroots).2).length c35_2), (124, .bool ((rscS ((hSwS xh xroots).1) yown25_0l35) && (((hSwS xh xroots).2) == 0)))] (by kernel_rfl) ?_
                    exact hR44
                  · skip
                    refine Ok.batch 3 [(9, .slice a6_0 ((hMoS xh xroots).1).length c6_0), (10, .slice a6_2 ((hMoS xh xroots).2.1).length c6_2), (11, .int .i64 ((hMoS xh xroots).2.2)), (17, .slice a35_0 ((rmcS xh xroots).1).length c35_0), (18, .slice a35_2 ((rmcS xh xroots).2).length c35_2), (124, .bool false)] (by kernel_rfl) ?_
                    refine Ok.reval 124 rfl (show (.bool false : Value) = .bool ((rscS ((hSwS xh xroots).1) yown25_0l35) && (((hSwS xh xroots).2) == 0)) from congrArg Value.bool (mand_f hc45)) ?_
                    refine Ok.batch 0 [(9, .slice a6_0 ((hMoS xh xroots).1).length c6_0), (10, .slice a6_2 ((hMoS xh xroots).2.1).length c6_2), (11, .int .i64 ((hMoS xh xroots).2.2)), (17, .slice a35_0 ((rmcS xh xroots).1).length c35_0), (18, .slice a35_2 ((rmcS xh xroots).2).length c35_2), (124, .bool ((rscS ((hSwS xh xroots).1) yown25_0l35) && (((hSwS xh xroots).2) == 0)))] (by kernel_rfl) ?_
                    exact hR44
                refine Ok.batch 1 [(9, .slice a6_0 ((hMoS xh xroots).1).length c6_0), (10, .slice a6_2 ((hMoS xh xroots).2.1).length c6_2), (11, .int .i64 ((hMoS xh xroots).2.2)), (17, .slice a35_0 ((rmcS xh xroots).1).length c35_0), (18, .slice a35_2 ((rmcS xh xroots).2).length c35_2), (125, .bool ((rscS ((hSwS xh xroots).1) yown25_0l35) && (((hSwS xh xroots).2) == 0)))] (by kernel_rfl) ?_
                refine Ok.boolAt 125 (((rscS ((hSwS xh xroots).1) yown25_0l35) && (((hSwS xh xroots).2) == 0))) rfl (fun hc46 => ?_) (fun hc46 => ?_)
                · replace hF := hF.1 hc46
                  refine Ok.batch 2 [(10, .slice a6_2 ((hMoS xh xroots).2.1).length c6_2), (11, .int .i64 ((hMoS xh xroots).2.2)), (18, .slice a35_2 ((rmcS xh xroots).2).length c35_2), (125, .bool true), (126, .slice a6_0 ((hMoS xh xroots).1).length c6_0), (127, .slice a35_0 ((rmcS xh xroots).1).length c35_0)] (by kernel_rfl) ?_
                  obtain ⟨hp47, hF⟩ := hF
                  refine Ok.opYes (j := 18) (d := 125) (want := true) (b := true) rfl (by kernel_rfl) (by kernel_rfl) rfl (OpOk.callG (v := .bool (rscS ((hMoS xh xroots).1) ((rmcS xh xroots).1))) (enters (by kernel_rfl) (fun _ => by kernel_rfl)) (fun W hW => rsc_c ((hMoS xh xroots).1) ((rmcS xh xroots).1) (hR6_0.mono hW.sees) (hR35_0.mono hW.sees) hp47) rfl ?_)
                  refine Ok.batch 2 [(10, .slice a6_2 ((hMoS xh xroots).2.1).length c6_2), (11, .int .i64 ((hMoS xh xroots).2.2)), (18, .slice a35_2 ((rmcS xh xroots).2).length c35_2), (130, .bool (rscS ((hMoS xh xroots).1) ((rmcS xh xroots).1)))] (by kernel_rfl) ?_
                  refine Ok.boolAt 130 ((rscS ((hMoS xh xroots).1) ((rmcS xh xroots).1))) rfl (fun hc48 => ?_) (fun hc48 => ?_)
                  · replace hF := hF.1 hc48
                    refine Ok.batch 2 [(11, .int .i64 ((hMoS xh xroots).2.2)), (130, .bool true), (131, .slice a6_2 ((hMoS xh xroots).2.1).length c6_2), (132, .slice a35_2 ((rmcS xh xroots).2).length c35_2)] (by kernel_rfl) ?_
                    obtain ⟨hp49, hF⟩ := hF
                    refine Ok.opYes (j := 23) (d := 130) (want := true) (b := true) rfl (by kernel_rfl) (by kernel_rfl) rfl (OpOk.callG (v := .bool (veqS ((hMoS xh xroots).2.1) ((rmcS xh xroots).2))) (enters (by kernel_rfl) (fun _ => by kernel_rfl)) (fun W hW => veq_c ((hMoS xh xroots).2.1) ((rmcS xh xroots).2) (hR6_2.mono hW.sees) (hR35_2.mono hW.sees) hp49) rfl ?_)
                    refine Ok.batch 2 [(11, .int .i64 ((hMoS xh xroots).2.2)), (135, .bool (veqS ((hMoS xh xroots).2.1) ((rmcS xh xroots).2)))] (by kernel_rfl) ?_
                    refine Ok.midway 3 [(138, .bool ((veqS ((hMoS xh xroots).2.1) ((rmcS xh xroots).2)) && (((hMoS xh xroots).2.2) == 0)))] (fun hR50 => ?_) ?_
                    · refine Ok.boolAt 135 ((veqS ((hMoS xh xroots).2.1) ((rmcS xh xroots).2))) rfl (fun hc51 => ?_) (fun hc51 => ?_)
                      · skip
                        refine Ok.batch 3 [(138, .bool (((hMoS xh xroots).2.2) == 0))] (by kernel_rfl) ?_
                        refine Ok.reval 138 rfl (show (.bool (((hMoS xh xroots).2.2) == 0) : Value) = .bool ((veqS ((hMoS xh xroots).2.1) ((rmcS xh xroots).2)) && (((hMoS xh xroots).2.2) == 0)) from congrArg Value.bool (mand_t hc51)) ?_
                        refine Ok.batch 0 [(138, .bool ((veqS ((hMoS xh xroots).2.1) ((rmcS xh xroots).2)) && (((hMoS xh xroots).2.2) == 0)))] (by kernel_rfl) ?_
                        exact hR50
                      · skip
                        refine Ok.batch 3 [(138, .bool false)] (by kernel_rfl) ?_
                        refine Ok.reval 138 rfl (show (.bool false : Value) = .bool ((veqS ((hMoS xh xroots).2.1) ((rmcS xh xroots).2)) && (((hMoS xh xroots).2.2) == 0)) from congrArg Value.bool (mand_f hc51)) ?_
                        refine Ok.batch 0 [(138, .bool ((veqS ((hMoS xh xroots).2.1) ((rmcS xh xroots).2)) && (((hMoS xh xroots).2.2) == 0)))] (by kernel_rfl) ?_
                        exact hR50
                    refine Ok.batch 1 [(4, .bool ((veqS ((hMoS xh xroots).2.1) ((rmcS xh xroots).2)) && (((hMoS xh xroots).2.2) == 0)))] (by kernel_rfl) ?_
                    refine Ok.nil ?_
                    refine Ok.thenN ?_
                    refine Ok.reval 4 rfl (show (.bool ((veqS ((hMoS xh xroots).2.1) ((rmcS xh xroots).2)) && (((hMoS xh xroots).2.2) == 0)) : Value) = .bool (lhsV0 xh xroots yown25_0l35) from congrArg (Value.bool) ((Eq.trans ((Eq.trans (mand_t hc48) (mand_t hc46))) (mand_t hc42)))) ?_
                    exact fun a W hA hW => ⟨g38, hx38, hA.sub (by kernel_rfl), hW.sub (.cons _ (.cons _ .slnil)), hF⟩
                  · replace hF := hF.2 hc48
                    refine Ok.batch 9 [(4, .bool false)] (by kernel_rfl) ?_
                    refine Ok.nil ?_
                    refine Ok.thenN ?_
                    refine Ok.reval 4 rfl (show (.bool false : Value) = .bool (lhsV0 xh xroots yown25_0l35) from congrArg (Value.bool) ((Eq.trans ((Eq.trans (mand_f hc48) (mand_t hc46))) (mand_t hc42)))) ?_
                    exact fun a W hA hW => ⟨g38, hx38, hA.sub (by kernel_rfl), hW.sub (.cons _ (.cons _ .slnil)), hF⟩
                · replace hF := hF.2 hc46
                  refine Ok.batch 14 [(4, .bool false)] (by kernel_rfl) ?_
                  refine Ok.nil ?_
                  refine Ok.thenN ?_
                  refine Ok.reval 4 rfl (show (.bool false : Value) = .bool (lhsV0 xh xroots yown25_0l35) from congrArg (Value.bool) ((Eq.trans (mand_f hc46) (mand_t hc42)))) ?_
                  exact fun a W hA hW => ⟨g38, hx38, hA.sub (by kernel_rfl), hW.sub (.cons _ (.cons _ .slnil)), hF⟩
              · replace hF := hF.2 hc42
                refine Ok.batch 23 [(4, .bool false)] (by kernel_rfl) ?_
                refine Ok.nil ?_
                refine Ok.thenN ?_
                refine Ok.reval 4 rfl (show (.bool false : Value) = .bool (lhsV0 xh xroots yown25_0l35) from congrArg (Value.bool) (mand_f hc42)) ?_
                exact fun a W hA hW => ⟨g38, hx38, hA.sub (by kernel_rfl), hW.sub (.cons _ (.cons _ .slnil)), hF⟩
            ·
              clear hF
              rintro a W ⟨gj50, hxj50, hA, hW, hF⟩
              refine (?_ : Ok _ _ _ _ _ _) a W hA hW
              clear hA hW
              refine Ok.ret ?_
              exact Ok.resH (vs := [.bool (lhsV0 xh xroots yown25_0l35)]) (.inl rfl) rfl (.cons (.tmp rfl) .nil) ((((((hx2.trans hx4).trans hx6).trans hx24).trans hxl35).trans hx35).trans hxj50) ⟨(lhsV0 xh xroots yown25_0l35), rfl, rfl, hF⟩
def lhsQ (h : List JC) (l : List JV) : Prop := rcrP h ∧ l.length ≤ 1048576
theorem same_refl : ∀ l : List JC, rscS l l = true := by
  intro l
  unfold rscS cefS
  rw [beq_self_eq_true, Bool.true_and]
  induction l with
  | nil => rfl
  | cons x l ih => rw [zipB, ih]; unfold hsmS; rw [beq_self_eq_true]; rfl
theorem swept_len (h : List JC) : ∀ (l : List Int) (o : List JC), (l.foldl (put h) o).length = o.length
  | [], _ => rfl
  | x :: l, o => by rw [List.foldl_cons, swept_len h l]; unfold put; rw [List.length_set]
theorem swept_mem {h : List JC} (H : HV h) : ∀ (l : List Int) (o : List JC), (∀ n ∈ l, n.toNat < h.length) → (∀ c ∈ o, c.2.1.length ≤ 200 ∧ c.2.2.length ≤ 200) → ∀ c ∈ l.foldl (put h) o, c.2.1.length ≤ 200 ∧ c.2.2.length ≤ 200
  | [], _, _, ho => ho
  | x :: l, o, hl, ho => by
    refine swept_mem H l _ (fun n hn => hl n (List.mem_cons_of_mem _ hn)) fun c hc => ?_
    rcases List.mem_or_eq_of_mem_set hc with hc | rfl
    · exact ho c hc
    · have := H.small _ (mem_getD default (hl x (List.mem_cons_self ..)))
      omega
theorem lhs_G (h : List JC) (l : List JV) (hp : lhsQ h l) : lhsF h l (fun r => r = true) := by
  obtain ⟨hr, hl⟩ := hp
  have hm : l.length ≤ maxLen := by rw [maxLen_eq]; omega
  refine ⟨⟨hr, hm⟩, ⟨hr, hm⟩, ⟨hr, by omega⟩, hr, fun h1 => by simp at h1, fun _ => ⟨⟨hr, hm⟩, fun h1 => ?_, fun h1 => ?_⟩⟩
  · have e1 : hReS h l = ([], haskS h l) := by unfold hReS; rw [if_t h1]
    have e2 : hSwS h l = ([], haskS h l) := by unfold hSwS; rw [if_t h1]
    have e3 : hMoS h l = ([], [], haskS h l) := by unfold hMoS; rw [if_t h1]
    rw [e1, e2, e3]; simp
  have hz : haskS h l = 0 := by simpa using h1
  obtain ⟨hz1, hfit⟩ := ask_both hz
  have H := hv_of hz1
  have h300 := H.few
  have hq : rrcQ h l := ⟨hz, by omega⟩
  have I : Inv h (order h l) := (comes_ok H (fun v hv => fit_ref (hfit v hv)) (start_inv h)).1
  have hcnt := I.cnt
  have e1 : hReS h l = (srtS (order h l).2, 0) := by unfold hReS; rw [if_f h1]
  have e2 : hSwS h l = (swept h (order h l).2, 0) := by unfold hSwS; rw [if_f h1]
  have e3 : hMoS h l = ((rmcS h l).1, (rmcS h l).2, 0) := by unfold hMoS; rw [if_f h1]; rfl
  have eo : rrcS h l = (order h l).2 := rfl
  have hsl : (srtS (order h l).2).length ≤ 1000000 := by unfold srtS; rw [List.length_mergeSort]; omega
  have c1 := mo_cells H (l := l) (fun v hv => fit_ref (hfit v hv))
  have hsw : ∀ c ∈ swept h (order h l).2, c.2.1.length ≤ 200 ∧ c.2.2.length ≤ 200 := swept_mem H _ _ (fun n hn => by have := I.ran n hn; omega) fun c hc => by
    rw [List.eq_of_mem_replicate hc]; simp
  have hswl : (swept h (order h l).2).length ≤ 1000000 := by unfold swept; rw [swept_len, List.length_replicate]; omega
  have hlm : (rmcS h l).2.length ≤ 1100000 := by unfold rmcS; rw [List.length_map]; omega
  have j50 : lhsj50 h l (fun r => r = true) (swept h (order h l).2) := by
    unfold lhsj50 lhsV0
    rw [e1, e2, e3, eo]
    simp only [same_refl, beq_self_eq_true, Bool.and_true, Bool.true_and]
    unfold ieqS veqS
    rw [beq_self_eq_true, beq_self_eq_true]; rfl
  have loop : ∀ (k i : Nat) (out : List JC), i + k = (order h l).2.length → out.length = h.length → swept h (order h l).2 = ((order h l).2.drop i).foldl (put h) out → lhsl35 h l (fun r => r = true) (k + 1) (i : Int) out := by
    intro k
    induction k with
    | zero =>
      intro i out hi ho he
      rw [List.drop_of_length_le (by omega)] at he
      obtain rfl : swept h (order h l).2 = out := he
      rw [lhsl35]
      unfold lhsl35b
      rw [e1, e2, e3, eo]
      refine ⟨fun h2 => by have := of_decide_eq_true h2; omega, fun _ => ⟨hq, by unfold It.svP; omega, ⟨hsl, hsl⟩, fun _ => ⟨⟨hswl, fun x hx y hy => ?_⟩, fun _ => ⟨⟨c1.1, fun x hx y hy => ?_⟩, fun _ => ⟨⟨hlm, hlm⟩, j50⟩, fun _ => j50⟩, fun _ => j50⟩, fun _ => j50⟩⟩
      · have q1 := hsw x hx
        have q2 := hsw y hy
        exact ⟨⟨by omega, by omega⟩, ⟨by omega, by omega⟩⟩
      · have q1 := c1.2 x hx
        have q2 := c1.2 y hy
        exact ⟨⟨by omega, by omega⟩, ⟨by omega, by omega⟩⟩
    | succ k ih =>
      intro i out hi ho he
      rw [drop_get (l := (order h l).2) default (by omega), List.foldl_cons] at he
      have hn := I.ran _ (mem_getD default (show i < (order h l).2.length by omega))
      rw [lhsl35]
      unfold lhsl35b
      rw [eo, Int.toNat_natCast]
      refine ⟨fun _ => ⟨by omega, by omega, hn.1, by omega, hn.1, by omega, ?_⟩, fun h2 => by have := of_decide_eq_false h2; omega⟩
      rw [w64 (by omega)]
      exact ih (i + 1) _ (by omega) (by rw [List.length_set]; exact ho) he
  exact ⟨hq, by omega, by omega, _, by rw [Int.toNat_natCast]; exact loop (order h l).2.length 0 _ (by omega) (by rw [List.length_replicate]) rfl⟩
def lhsP (h : List JC) (l : List JV) : Prop := DomU (.slice (.pair (.int .i64) (.pair (.slice (.str)) (.slice (.pair (.int .i64) (.pair (.int .i64) (.str))))))) h ∧ DomU (.slice (.pair (.int .i64) (.pair (.int .i64) (.str)))) l
theorem sumLen {α : Type} {f : α → Nat} (hf : ∀ x, 1 ≤ f x) : ∀ l : List α, l.length ≤ (l.map f).sum
  | [] => Nat.le_refl _
  | x :: l => by
    have := sumLen hf l
    have := hf x
    rw [List.length_cons, List.map_cons, List.sum_cons]; omega
theorem lhs_F (h : List JC) (l : List JV) (hp : lhsP h l) : lhsF h l (fun r => r = true) := by
  refine lhs_G h l ⟨⟨hp.1.1.1.1, fun c hc => ⟨(hp.1.1.1.2 c hc).2.1.1, (hp.1.1.1.2 c hc).2.2.1⟩⟩, ?_⟩
  have h1 : (l.map (bulkT (.pair (.int .i64) (.pair (.int .i64) .str)))).sum + 1 ≤ 1048576 := hp.2.2
  have := sumLen (f := bulkT (.pair (.int .i64) (.pair (.int .i64) .str))) (fun q => by show 1 ≤ 1 + _; omega) l
  omega
set_option linter.unusedVariables false in
theorem lhs_c {g : Ghost} {axh_0 : Option Addr} {cxh_0 : Nat} (xh : List (Int × List (List UInt8) × List (Int × Int × List UInt8))) {axroots_0 : Option Addr} {cxroots_0 : Nat} (xroots : List (Int × Int × List UInt8)) (hRxh_0 : Rep g (.slice (.pair (.int .i64) (.pair (.slice (.str)) (.slice (.pair (.int .i64) (.pair (.int .i64) (.str))))))) [.slice axh_0 xh.length cxh_0] xh) (hRxroots_0 : Rep g (.slice (.pair (.int .i64) (.pair (.int .i64) (.str)))) [.slice axroots_0 xroots.length cxroots_0] xroots)  (hp : lhsP xh xroots) : CallsG Try.prog 6 #[.slice axh_0 xh.length cxh_0, .slice axroots_0 xroots.length cxroots_0] g (.bool ((fun _ _ => true) xh xroots)) :=
  (lhs_ok xh xroots hRxh_0 hRxroots_0 _ (lhs_F xh xroots hp)).gives (by rintro g' H' v _ ⟨r0, rfl, rfl, hK⟩; subst hK; rfl)
end Go.Proofs.Ytbifbljdmndjbaa.Hp
