/- Addresses: the reference's Tidied, segmentsOf, TailOf, OriginOf, SameUrl. -/
import Derived.Test.YthgabkffamgfaaaGreatDoorUrs
namespace Go.Proofs.YthgabkffamgfaaaGreatDoor.Ub
open Go Go.Eng Go.RowKit Go.Shelf Go.Proofs Bld Sp Ti Uc Ua Ui
set_option linter.unusedVariables false
noncomputable section
/-! Tidied -/
def rtidV0 (e4 : List UInt8) : Bool :=
  ((!(e4 == ([46] : List UInt8))) && (!(e4 == ([46, 46] : List UInt8))))
def rtidV3 (xl : List (List UInt8)) (yown1_0l9 : List (List UInt8)) : Bool :=
  (if (decide ((xl.length : Int) > 0)) = true then (((xl.getD (Int.toNat (IntKind.wrap .i64 ((xl.length : Int) - 1))) default) == ([46] : List UInt8)) || (((xl.getD (Int.toNat (IntKind.wrap .i64 ((xl.length : Int) - 1))) default) == ([46, 46] : List UInt8)) || ((yown1_0l9.length : Int) == 0))) else ((yown1_0l9.length : Int) == 0))
def rtidV4 (xl : List (List UInt8)) (yown1_0l9 : List (List UInt8)) : List (List UInt8) :=
  (if (rtidV3 xl yown1_0l9) = true then (yown1_0l9 ++ ([([] : List UInt8)] : List (List UInt8))) else yown1_0l9)
def rtidV5 (xl : List (List UInt8)) (x8l9 : Int) (yown1_0l9 : List (List UInt8)) : List (List UInt8) :=
  (if (((xl.getD (Int.toNat x8l9) default) == ([46, 46] : List UInt8)) && (decide ((yown1_0l9.length : Int) > 0))) = true then (yown1_0l9.take (Int.toNat (IntKind.wrap .i64 ((yown1_0l9.length : Int) - 1)))) else (if (rtidV0 (xl.getD (Int.toNat x8l9) default)) = true then (yown1_0l9 ++ ([(xl.getD (Int.toNat x8l9) default)] : List (List UInt8))) else yown1_0l9))
def rtidj16 (xl : List (List UInt8)) (x8l9 : Int) (yown1_0l9 : List (List UInt8)) (C9 : Int → (List (List UInt8)) → Prop) : Prop :=
  C9 (IntKind.wrap .i64 (x8l9 + 1)) (rtidV5 xl x8l9 yown1_0l9)
def rtidj25 (xl : List (List UInt8)) (e4 : List UInt8) (x8l9 : Int) (yown1_0l9 : List (List UInt8)) (C9 : Int → (List (List UInt8)) → Prop) : Prop :=
  (((rtidV0 e4)) = true → (yown1_0l9 ++ ([e4] : List (List UInt8))).length ≤ 8796093022208 ∧ rtidj16 xl x8l9 yown1_0l9 C9) ∧ (((rtidV0 e4)) = false → rtidj16 xl x8l9 yown1_0l9 C9)
def rtidj31 (xl : List (List UInt8)) (K : (List (List UInt8)) → Prop) (yown1_0l9 : List (List UInt8)) : Prop :=
  K (rtidV4 xl yown1_0l9)
def rtidj32 (xl : List (List UInt8)) (K : (List (List UInt8)) → Prop) (yown1_0l9 : List (List UInt8)) : Prop :=
  (((rtidV3 xl yown1_0l9)) = true → (yown1_0l9 ++ ([([] : List UInt8)] : List (List UInt8))).length ≤ 8796093022208 ∧ rtidj31 xl K yown1_0l9) ∧ (((rtidV3 xl yown1_0l9)) = false → rtidj31 xl K yown1_0l9)
def rtidl9b (xl : List (List UInt8)) (K : (List (List UInt8)) → Prop) (x8l9 : Int) (yown1_0l9 : List (List UInt8)) (C9 : Int → (List (List UInt8)) → Prop) : Prop :=
  ((decide (x8l9 < (xl.length : Int))) = true → (0 : Int) ≤ x8l9 ∧ Int.toNat x8l9 < xl.length ∧ (((((xl.getD (Int.toNat x8l9) default) == ([46, 46] : List UInt8)) && (decide ((yown1_0l9.length : Int) > 0)))) = true → (0 : Int) ≤ (IntKind.wrap .i64 ((yown1_0l9.length : Int) - 1)) ∧ (IntKind.wrap .i64 ((yown1_0l9.length : Int) - 1)) ≤ (yown1_0l9.length : Int) ∧ rtidj16 xl x8l9 yown1_0l9 C9) ∧ (((((xl.getD (Int.toNat x8l9) default) == ([46, 46] : List UInt8)) && (decide ((yown1_0l9.length : Int) > 0)))) = false → ((!((xl.getD (Int.toNat x8l9) default) == ([46] : List UInt8))) = true → rtidj25 xl (xl.getD (Int.toNat x8l9) default) x8l9 yown1_0l9 C9) ∧ ((!((xl.getD (Int.toNat x8l9) default) == ([46] : List UInt8))) = false → rtidj25 xl (xl.getD (Int.toNat x8l9) default) x8l9 yown1_0l9 C9))) ∧ ((decide (x8l9 < (xl.length : Int))) = false → ((decide ((xl.length : Int) > 0)) = true → (0 : Int) ≤ (IntKind.wrap .i64 ((xl.length : Int) - 1)) ∧ Int.toNat (IntKind.wrap .i64 ((xl.length : Int) - 1)) < xl.length ∧ ((((xl.getD (Int.toNat (IntKind.wrap .i64 ((xl.length : Int) - 1))) default) == ([46] : List UInt8))) = true → rtidj32 xl K yown1_0l9) ∧ ((((xl.getD (Int.toNat (IntKind.wrap .i64 ((xl.length : Int) - 1))) default) == ([46] : List UInt8))) = false → rtidj32 xl K yown1_0l9)) ∧ ((decide ((xl.length : Int) > 0)) = false → rtidj32 xl K yown1_0l9))
def rtidl9 (xl : List (List UInt8)) (K : (List (List UInt8)) → Prop) : Nat → Int → (List (List UInt8)) → Prop
  | 0, _, _ => False
  | k + 1, x8l9, yown1_0l9 => rtidl9b xl K x8l9 yown1_0l9 (rtidl9 xl K k)
def rtidF (xl : List (List UInt8)) (K : (List (List UInt8)) → Prop) : Prop :=
  ∃ k, rtidl9 xl K k 0 ([] : List (List UInt8))
set_option maxHeartbeats 4000000 in
set_option maxRecDepth 100000 in
set_option linter.unusedVariables false in
theorem rtid_ok {g : Ghost} {axl_0 : Option Addr} {cxl_0 : Nat} (xl : List (List UInt8)) (hRxl_0 : Rep g (.slice (.str)) [.slice axl_0 xl.length cxl_0] xl) (K : (List (List UInt8)) → Prop)
    (hF : rtidF xl K) : CallsH Tryz.prog 35 #[.slice axl_0 xl.length cxl_0] g [] (fun g' H' v => ∃ (r0 : List (List UInt8)), ∃ (ar0_0 : Option Addr) (cr0_0 : Nat), v = .slice ar0_0 r0.length cr0_0 ∧ Rep g' (.slice (.str)) [.slice ar0_0 r0.length cr0_0] r0 ∧ H' = [] ∧ K r0) := by
  refine CallsH.enter 67 [(0, .slice axl_0 xl.length cxl_0)] Tryz.func35 rfl (by kernel_rfl) (by kernel_rfl) (by kernel_rfl) fun w0 => ?_
  refine Ok.seq ?_
  refine Ok.region ?_
  refine Ok.batch 1 [(0, .slice axl_0 xl.length cxl_0)] (by kernel_rfl) ?_
  refine Ok.nil ?_
  refine Ok.thenN ?_
  refine Ok.seq ?_
  refine Ok.region ?_
  refine Ok.batch 1 [(0, .slice axl_0 xl.length cxl_0), (3, .slice none 0 0)] (by kernel_rfl) ?_
  have hL1 : RepL g (.str) [] [] := rfl
  refine Ok.ownNil 9 1 ?_
  refine Ok.nil ?_
  refine Ok.thenN ?_
  refine Ok.seq ?_
  refine Ok.seq ?_
  refine Ok.region ?_
  refine Ok.batch 3 [(0, .slice axl_0 xl.length cxl_0), (3, .slice none ([] : List (List UInt8)).length 0), (6, .slice axl_0 xl.length cxl_0), (7, .int .i64 (xl.length : Int)), (8, .int .i64 0)] (by kernel_rfl) ?_
  refine Ok.nil ?_
  refine Ok.thenN ?_
  refine Ok.block ?_
  obtain ⟨k, hF⟩ := hF
  refine Ok.loop (fun k a W => ∃ gl9 : Ghost, Gext w0 g gl9 ∧ ∃ (x8l9 : Int) (ayown1_0l9 : Option Addr) (cyown1_0l9 : Nat) (yown1_0l9 : List (List UInt8)) (xsyown1_0l9 : List Value), RepL gl9 (.str) xsyown1_0l9 yown1_0l9 ∧ StA 67 [(0, .slice axl_0 xl.length cxl_0), (3, .slice ayown1_0l9 yown1_0l9.length cyown1_0l9), (6, .slice axl_0 xl.length cxl_0), (7, .int .i64 (xl.length : Int)), (8, .int .i64 x8l9)] a ∧ StW w0 [.own (.slice ayown1_0l9 yown1_0l9.length cyown1_0l9) 9 1 yown1_0l9.length xsyown1_0l9] gl9 W ∧ rtidl9 xl K k x8l9 yown1_0l9) k ?_ ?_
  ·
    exact fun a W hA hW => ⟨g, (Gext.refl w0 g), 0, none, 0, ([] : List (List UInt8)), [], hL1, hA.sub (by kernel_rfl), hW, hF⟩
  ·
    clear hF
    rintro k9 a W ⟨gl9, hxl9, x8l9, ayown1_0l9, cyown1_0l9, yown1_0l9, xsyown1_0l9, hLyown1_0l9, hA, hW, hF⟩
    cases k9 with
    | zero => exact (hF : False).elim
    | succ k9 =>
      refine (?_ : Ok _ _ _ _ _ _) a W hA hW
      clear hA hW
      replace hRxl_0 := hRxl_0.mono hxl9.1
      refine Ok.seq ?_
      refine Ok.region ?_
      refine Ok.batch 1 [(0, .slice axl_0 xl.length cxl_0), (3, .slice ayown1_0l9 yown1_0l9.length cyown1_0l9), (6, .slice axl_0 xl.length cxl_0), (7, .int .i64 (xl.length : Int)), (8, .int .i64 x8l9), (9, .bool (decide (x8l9 < (xl.length : Int))))] (by kernel_rfl) ?_
      refine Ok.nil ?_
      refine Ok.thenN ?_
      refine Ok.seq ?_
      refine Ok.cond (b := decide (x8l9 < (xl.length : Int))) rfl (fun hc2 => ?_) (fun hc2 => ?_)
      · replace hF := hF.1 hc2
        refine Ok.skip ?_
        refine Ok.thenN ?_
        refine Ok.cut (fun a W => ∃ gj16 : Ghost, Gext w0 gl9 gj16 ∧ ∃ (ayown1_0j16 : Option Addr) (cyown1_0j16 : Nat) (xsyown1_0j16 : List Value), RepL gj16 (.str) xsyown1_0j16 (rtidV5 xl x8l9 yown1_0l9) ∧ StA 67 [(0, .slice axl_0 xl.length cxl_0), (3, .slice ayown1_0j16 (rtidV5 xl x8l9 yown1_0l9).length cyown1_0j16), (6, .slice axl_0 xl.length cxl_0), (7, .int .i64 (xl.length : Int)), (8, .int .i64 x8l9)] a ∧ StW w0 [.own (.slice ayown1_0j16 (rtidV5 xl x8l9 yown1_0l9).length cyown1_0j16) 9 1 (rtidV5 xl x8l9 yown1_0l9).length xsyown1_0j16] gj16 W ∧ rtidj16 xl x8l9 yown1_0l9 (rtidl9 xl K k9)) ?_ ?_
        ·
          refine Ok.block ?_
          refine Ok.seq ?_
          refine Ok.region ?_
          obtain ⟨h04, h14, hF⟩ := hF
          have he4 := get_of (l := xl) (default : List UInt8) h14
          generalize hg4 : (xl.getD (Int.toNat x8l9) default) = e4 at he4 hF ⊢
          refine Ok.op rfl (OpOk.indexRo (e := .str) (i := x8l9) (el := e4) rfl rfl Tryz.underlying22 (by kernel_rfl) hRxl_0 h04 he4 rfl fun q3 o3 cs3 _ hat3 hr3 => ?_)
          obtain rfl := hr3
          replace hat3 : At gl9 q3 o3 [.string ⟨⟨e4⟩⟩] := hat3
          refine Ok.op rfl (OpOk.step (v := .string ⟨⟨e4⟩⟩) (Yields.loadRo 0 hat3 (by kernel_rfl) Tryz.underlying9 rfl (by kernel_rfl)) rfl rfl ?_)
          refine Ok.batch 1 [(0, .slice axl_0 xl.length cxl_0), (3, .slice ayown1_0l9 yown1_0l9.length cyown1_0l9), (5, .string ⟨⟨e4⟩⟩), (6, .slice axl_0 xl.length cxl_0), (7, .int .i64 (xl.length : Int)), (8, .int .i64 x8l9)] (by kernel_rfl) ?_
          refine Ok.nil ?_
          refine Ok.thenN ?_
          refine Ok.block ?_
          refine Ok.seq ?_
          refine Ok.region ?_
          refine Ok.batch 1 [(0, .slice axl_0 xl.length cxl_0), (3, .slice ayown1_0l9 yown1_0l9.length cyown1_0l9), (5, .string ⟨⟨e4⟩⟩), (6, .slice axl_0 xl.length cxl_0), (7, .int .i64 (xl.length : Int)), (8, .int .i64 x8l9), (13, .string ⟨⟨e4⟩⟩)] (by kernel_rfl) ?_
          refine Ok.op rfl (OpOk.step (v := .bool (e4 == ([46, 46] : List UInt8))) (Yields.strCmp (f := .eql) (a := e4) (b := ([46, 46] : List UInt8)) (by kernel_rfl) (by kernel_rfl) rfl) rfl rfl ?_)
          refine Ok.batch 1 [(0, .slice axl_0 xl.length cxl_0), (3, .slice ayown1_0l9 yown1_0l9.length cyown1_0l9), (5, .string ⟨⟨e4⟩⟩), (6, .slice axl_0 xl.length cxl_0), (7, .int .i64 (xl.length : Int)), (8, .int .i64 x8l9), (15, .bool (e4 == ([46, 46] : List UInt8)))] (by kernel_rfl) ?_
          refine Ok.midway 4 [(0, .slice axl_0 xl.length cxl_0), (3, .slice ayown1_0l9 yown1_0l9.length cyown1_0l9), (5, .string ⟨⟨e4⟩⟩), (6, .slice axl_0 xl.length cxl_0), (7, .int .i64 (xl.length : Int)), (8, .int .i64 x8l9), (19, .bool ((e4 == ([46, 46] : List UInt8)) && (decide ((yown1_0l9.length : Int) > 0))))] (fun hR5 => ?_) ?_
          · refine Ok.boolAt 15 ((e4 == ([46, 46] : List UInt8))) rfl (fun hc6 => ?_) (fun hc6 => ?_)
            · skip
              refine Ok.batch 4 [(0, .slice axl_0 xl.length cxl_0), (3, .slice ayown1_0l9 yown1_0l9.length cyown1_0l9), (5, .string ⟨⟨e4⟩⟩), (6, .slice axl_0 xl.length cxl_0), (7, .int .i64 (xl.length : Int)), (8, .int .i64 x8l9), (19, .bool (decide ((yown1_0l9.length : Int) > 0)))] (by kernel_rfl) ?_
              refine Ok.reval 19 rfl (show (.bool (decide ((yown1_0l9.length : Int) > 0)) : Value) = .bool ((e4 == ([46, 46] : List UInt8)) && (decide ((yown1_0l9.length : Int) > 0))) from congrArg Value.bool (mand_t hc6)) ?_
              refine Ok.batch 0 [(0, .slice axl_0 xl.length cxl_0), (3, .slice ayown1_0l9 yown1_0l9.length cyown1_0l9), (5, .string ⟨⟨e4⟩⟩), (6, .slice axl_0 xl.length cxl_0), (7, .int .i64 (xl.length : Int)), (8, .int .i64 x8l9), (19, .bool ((e4 == ([46, 46] : List UInt8)) && (decide ((yown1_0l9.length : Int) > 0))))] (by kernel_rfl) ?_
              exact hR5
            · skip
              refine Ok.batch 4 [(0, .slice axl_0 xl.length cxl_0), (3, .slice ayown1_0l9 yown1_0l9.length cyown1_0l9), (5, .string ⟨⟨e4⟩⟩), (6, .slice axl_0 xl.length cxl_0), (7, .int .i64 (xl.length : Int)), (8, .int .i64 x8l9), (19, .bool false)] (by kernel_rfl) ?_
              refine Ok.reval 19 rfl (show (.bool false : Value) = .bool ((e4 == ([46, 46] : List UInt8)) && (decide ((yown1_0l9.length : Int) > 0))) from congrArg Value.bool (mand_f hc6)) ?_
              refine Ok.batch 0 [(0, .slice axl_0 xl.length cxl_0), (3, .slice ayown1_0l9 yown1_0l9.length cyown1_0l9), (5, .string ⟨⟨e4⟩⟩), (6, .slice axl_0 xl.length cxl_0), (7, .int .i64 (xl.length : Int)), (8, .int .i64 x8l9), (19, .bool ((e4 == ([46, 46] : List UInt8)) && (decide ((yown1_0l9.length : Int) > 0))))] (by kernel_rfl) ?_
              exact hR5
          refine Ok.batch 1 [(0, .slice axl_0 xl.length cxl_0), (3, .slice ayown1_0l9 yown1_0l9.length cyown1_0l9), (5, .string ⟨⟨e4⟩⟩), (6, .slice axl_0 xl.length cxl_0), (7, .int .i64 (xl.length : Int)), (8, .int .i64 x8l9), (12, .bool ((e4 == ([46, 46] : List UInt8)) && (decide ((yown1_0l9.length : Int) > 0))))] (by kernel_rfl) ?_
          refine Ok.nil ?_
          refine Ok.thenN ?_
          refine Ok.cond (b := ((e4 == ([46, 46] : List UInt8)) && (decide ((yown1_0l9.length : Int) > 0)))) rfl (fun hc7 => ?_) (fun hc7 => ?_)
          · replace hF := hF.1 hc7
            refine Ok.region ?_
            refine Ok.batch 4 [(0, .slice axl_0 xl.length cxl_0), (6, .slice axl_0 xl.length cxl_0), (7, .int .i64 (xl.length : Int)), (8, .int .i64 x8l9), (20, .slice ayown1_0l9 yown1_0l9.length cyown1_0l9), (23, .int .i64 (IntKind.wrap .i64 ((yown1_0l9.length : Int) - 1)))] (by kernel_rfl) ?_
            obtain ⟨h08, h28, hF⟩ := hF
            refine Ok.op rfl (OpOk.cutOwn (e := .str) (h := (IntKind.wrap .i64 ((yown1_0l9.length : Int) - 1))) 0 rfl rfl rfl hLyown1_0l9 Tryz.underlying22 (by kernel_rfl) h08 h28 rfl fun xs8 hL8 => ?_)
            refine Ok.batch 1 [(0, .slice axl_0 xl.length cxl_0), (3, .slice ayown1_0l9 (yown1_0l9.take (Int.toNat (IntKind.wrap .i64 ((yown1_0l9.length : Int) - 1)))).length cyown1_0l9), (6, .slice axl_0 xl.length cxl_0), (7, .int .i64 (xl.length : Int)), (8, .int .i64 x8l9)] (by kernel_rfl) ?_
            refine Ok.nil ?_
            refine Ok.blockN ?_
            refine Ok.blockN ?_
            refine Ok.thenN ?_
            subst hg4
            refine Ok.reval 3 rfl (show (.slice ayown1_0l9 (yown1_0l9.take (Int.toNat (IntKind.wrap .i64 ((yown1_0l9.length : Int) - 1)))).length cyown1_0l9 : Value) = .slice ayown1_0l9 (rtidV5 xl x8l9 yown1_0l9).length cyown1_0l9 from congrArg (fun l : List (List UInt8) => Value.slice ayown1_0l9 l.length cyown1_0l9) ((if_t hc7).symm)) ?_
            refine Ok.heapEq (H' := [.own (.slice ayown1_0l9 (rtidV5 xl x8l9 yown1_0l9).length cyown1_0l9) 9 1 (rtidV5 xl x8l9 yown1_0l9).length xs8]) (econs (congrArg (fun l : List (List UInt8) => Ent.own (.slice ayown1_0l9 l.length cyown1_0l9) 9 1 l.length xs8) ((if_t hc7).symm)) rfl) ?_
            exact fun a W hA hW => ⟨gl9, (Gext.refl w0 gl9), ayown1_0l9, cyown1_0l9, xs8, (Eq.mp (congrArg (fun l : List (List UInt8) => RepL gl9 (.str) xs8 l) ((if_t hc7).symm)) hL8), hA.sub (by kernel_rfl), hW, hF⟩
          · replace hF := hF.2 hc7
            refine Ok.cut (fun a W => ∃ gj25 : Ghost, Gext w0 gl9 gj25 ∧ StA 67 [(0, .slice axl_0 xl.length cxl_0), (3, .slice ayown1_0l9 yown1_0l9.length cyown1_0l9), (5, .string ⟨⟨e4⟩⟩), (6, .slice axl_0 xl.length cxl_0), (7, .int .i64 (xl.length : Int)), (8, .int .i64 x8l9), (25, .bool (rtidV0 e4))] a ∧ StW w0 [.own (.slice ayown1_0l9 yown1_0l9.length cyown1_0l9) 9 1 yown1_0l9.length xsyown1_0l9] gj25 W ∧ rtidj25 xl e4 x8l9 yown1_0l9 (rtidl9 xl K k9)) ?_ ?_
            ·
              refine Ok.region ?_
              refine Ok.batch 1 [(0, .slice axl_0 xl.length cxl_0), (3, .slice ayown1_0l9 yown1_0l9.length cyown1_0l9), (5, .string ⟨⟨e4⟩⟩), (6, .slice axl_0 xl.length cxl_0), (7, .int .i64 (xl.length : Int)), (8, .int .i64 x8l9), (26, .string ⟨⟨e4⟩⟩)] (by kernel_rfl) ?_
              refine Ok.op rfl (OpOk.step (v := .bool (!(e4 == ([46] : List UInt8)))) (Yields.strCmp (f := .neq) (a := e4) (b := ([46] : List UInt8)) (by kernel_rfl) (by kernel_rfl) rfl) rfl rfl ?_)
              refine Ok.batch 1 [(0, .slice axl_0 xl.length cxl_0), (3, .slice ayown1_0l9 yown1_0l9.length cyown1_0l9), (5, .string ⟨⟨e4⟩⟩), (6, .slice axl_0 xl.length cxl_0), (7, .int .i64 (xl.length : Int)), (8, .int .i64 x8l9), (28, .bool (!(e4 == ([46] : List UInt8))))] (by kernel_rfl) ?_
              refine Ok.boolAt 28 (!(e4 == ([46] : List UInt8))) rfl (fun hc12 => ?_) (fun hc12 => ?_)
              · replace hF := hF.1 hc12
                refine Ok.batch 1 [(0, .slice axl_0 xl.length cxl_0), (3, .slice ayown1_0l9 yown1_0l9.length cyown1_0l9), (5, .string ⟨⟨e4⟩⟩), (6, .slice axl_0 xl.length cxl_0), (7, .int .i64 (xl.length : Int)), (8, .int .i64 x8l9), (28, .bool true), (29, .string ⟨⟨e4⟩⟩)] (by kernel_rfl) ?_
                refine Ok.opYes (j := 2) (d := 28) (want := true) (b := true) rfl (by kernel_rfl) (by kernel_rfl) rfl (OpOk.step (v := .bool (!(e4 == ([46, 46] : List UInt8)))) (Yields.strCmp (f := .neq) (a := e4) (b := ([46, 46] : List UInt8)) (by kernel_rfl) (by kernel_rfl) rfl) rfl rfl ?_)
                refine Ok.batch 2 [(0, .slice axl_0 xl.length cxl_0), (3, .slice ayown1_0l9 yown1_0l9.length cyown1_0l9), (5, .string ⟨⟨e4⟩⟩), (6, .slice axl_0 xl.length cxl_0), (7, .int .i64 (xl.length : Int)), (8, .int .i64 x8l9), (25, .bool (!(e4 == ([46, 46] : List UInt8))))] (by kernel_rfl) ?_
                refine Ok.nil ?_
                refine Ok.thenN ?_
                refine Ok.reval 25 rfl (show (.bool (!(e4 == ([46, 46] : List UInt8))) : Value) = .bool (rtidV0 e4) from congrArg (Value.bool) (mand_t hc12)) ?_
                exact fun a W hA hW => ⟨gl9, (Gext.refl w0 gl9), hA.sub (by kernel_rfl), hW, hF⟩
              · replace hF := hF.2 hc12
                refine Ok.batch 4 [(0, .slice axl_0 xl.length cxl_0), (3, .slice ayown1_0l9 yown1_0l9.length cyown1_0l9), (5, .string ⟨⟨e4⟩⟩), (6, .slice axl_0 xl.length cxl_0), (7, .int .i64 (xl.length : Int)), (8, .int .i64 x8l9), (25, .bool false)] (by kernel_rfl) ?_
                refine Ok.nil ?_
                refine Ok.thenN ?_
                refine Ok.reval 25 rfl (show (.bool false : Value) = .bool (rtidV0 e4) from congrArg (Value.bool) (mand_f hc12)) ?_
                exact fun a W hA hW => ⟨gl9, (Gext.refl w0 gl9), hA.sub (by kernel_rfl), hW, hF⟩
            ·
              clear hF
              rintro a W ⟨gj25, hxj25, hA, hW, hF⟩
              refine (?_ : Ok _ _ _ _ _ _) a W hA hW
              clear hA hW
              replace hRxl_0 := hRxl_0.mono hxj25.1
              replace hLyown1_0l9 := hLyown1_0l9.mono hxj25.1
              refine Ok.cond (b := (rtidV0 e4)) rfl (fun hc9 => ?_) (fun hc9 => ?_)
              · replace hF := hF.1 hc9
                refine Ok.region ?_
                refine Ok.batch 2 [(0, .slice axl_0 xl.length cxl_0), (6, .slice axl_0 xl.length cxl_0), (7, .int .i64 (xl.length : Int)), (8, .int .i64 x8l9), (32, .slice ayown1_0l9 yown1_0l9.length cyown1_0l9), (33, .string ⟨⟨e4⟩⟩)] (by kernel_rfl) ?_
                have hL10 : RepL gj25 (.str) ([.string ⟨⟨e4⟩⟩] : List Value) ([e4] : List (List UInt8)) := (RepL.consN (c := [.string ⟨⟨e4⟩⟩]) rfl rfl)
                refine Ok.op rfl (OpOk.lit (E := 9) (.str) ([e4] : List (List UInt8)) ([.string ⟨⟨e4⟩⟩] : List Value) (by kernel_rfl) (by kernel_rfl) rfl (by kernel_rfl) hL10 rfl fun b10 => ?_)
                obtain ⟨hb11, hF⟩ := hF
                refine Ok.op rfl (OpOk.append' (e := .str) 16 8796093022208 1 0 rfl rfl rfl rfl hLyown1_0l9 hL10 Tryz.underlying22 (by kernel_rfl) (by kernel_rfl) (by kernel_rfl) hb11 rfl fun a11 c11 xs11 hL11 => ?_)
                refine Ok.batch 1 [(0, .slice axl_0 xl.length cxl_0), (3, .slice a11 (yown1_0l9 ++ ([e4] : List (List UInt8))).length c11), (6, .slice axl_0 xl.length cxl_0), (7, .int .i64 (xl.length : Int)), (8, .int .i64 x8l9)] (by kernel_rfl) ?_
                refine Ok.nil ?_
                refine Ok.blockN ?_
                refine Ok.blockN ?_
                refine Ok.thenN ?_
                subst hg4
                refine Ok.reval 3 rfl (show (.slice a11 (yown1_0l9 ++ ([(xl.getD (Int.toNat x8l9) default)] : List (List UInt8))).length c11 : Value) = .slice a11 (rtidV5 xl x8l9 yown1_0l9).length c11 from congrArg (fun l : List (List UInt8) => Value.slice a11 l.length c11) ((Eq.trans ((if_t hc9).symm) ((if_f hc7).symm)))) ?_
                refine Ok.heapEq (H' := [.own (.slice (some ⟨b10, 0, none⟩) ([(xl.getD (Int.toNat x8l9) default)] : List (List UInt8)).length 1) 9 1 ([(xl.getD (Int.toNat x8l9) default)] : List (List UInt8)).length ([.string ⟨⟨(xl.getD (Int.toNat x8l9) default)⟩⟩] : List Value), .own (.slice a11 (rtidV5 xl x8l9 yown1_0l9).length c11) 9 1 (rtidV5 xl x8l9 yown1_0l9).length xs11]) (econs (rfl) (econs (congrArg (fun l : List (List UInt8) => Ent.own (.slice a11 l.length c11) 9 1 l.length xs11) ((Eq.trans ((if_t hc9).symm) ((if_f hc7).symm)))) rfl)) ?_
                exact fun a W hA hW => ⟨gj25, hxj25, a11, c11, xs11, (Eq.mp (congrArg (fun l : List (List UInt8) => RepL gj25 (.str) xs11 l) ((Eq.trans ((if_t hc9).symm) ((if_f hc7).symm)))) hL11), hA.sub (by kernel_rfl), hW.sub (.cons _ (.cons_cons _ .slnil)), hF⟩
              · replace hF := hF.2 hc9
                refine Ok.skip ?_
                refine Ok.blockN ?_
                refine Ok.blockN ?_
                refine Ok.thenN ?_
                subst hg4
                refine Ok.reval 3 rfl (show (.slice ayown1_0l9 yown1_0l9.length cyown1_0l9 : Value) = .slice ayown1_0l9 (rtidV5 xl x8l9 yown1_0l9).length cyown1_0l9 from congrArg (fun l : List (List UInt8) => Value.slice ayown1_0l9 l.length cyown1_0l9) ((Eq.trans ((if_f hc9).symm) ((if_f hc7).symm)))) ?_
                refine Ok.heapEq (H' := [.own (.slice ayown1_0l9 (rtidV5 xl x8l9 yown1_0l9).length cyown1_0l9) 9 1 (rtidV5 xl x8l9 yown1_0l9).length xsyown1_0l9]) (econs (congrArg (fun l : List (List UInt8) => Ent.own (.slice ayown1_0l9 l.length cyown1_0l9) 9 1 l.length xsyown1_0l9) ((Eq.trans ((if_f hc9).symm) ((if_f hc7).symm)))) rfl) ?_
                exact fun a W hA hW => ⟨gj25, hxj25, ayown1_0l9, cyown1_0l9, xsyown1_0l9, (Eq.mp (congrArg (fun l : List (List UInt8) => RepL gj25 (.str) xsyown1_0l9 l) ((Eq.trans ((if_f hc9).symm) ((if_f hc7).symm)))) hLyown1_0l9), hA.sub (by kernel_rfl), hW, hF⟩
        ·
          clear hF
          rintro a W ⟨gj16, hxj16, ayown1_0j16, cyown1_0j16, xsyown1_0j16, hLyown1_0j16, hA, hW, hF⟩
          refine (?_ : Ok _ _ _ _ _ _) a W hA hW
          clear hA hW
          replace hRxl_0 := hRxl_0.mono hxj16.1
          refine Ok.region ?_
          refine Ok.batch 2 [(0, .slice axl_0 xl.length cxl_0), (3, .slice ayown1_0j16 (rtidV5 xl x8l9 yown1_0l9).length cyown1_0j16), (6, .slice axl_0 xl.length cxl_0), (7, .int .i64 (xl.length : Int)), (8, .int .i64 (IntKind.wrap .i64 (x8l9 + 1)))] (by kernel_rfl) ?_
          refine Ok.nil ?_
          refine Ok.thenN ?_
          exact fun a W hA hW => ⟨k9, Nat.lt_succ_self _, gj16, (hxl9.trans hxj16), IntKind.wrap .i64 (x8l9 + 1), ayown1_0j16, cyown1_0j16, (rtidV5 xl x8l9 yown1_0l9), xsyown1_0j16, hLyown1_0j16, hA.sub (by kernel_rfl), hW, hF⟩
      · replace hF := hF.2 hc2
        refine Ok.exit ?_
        refine Ok.thenE ?_
        refine Ok.thenE ?_
        refine Ok.blockHit ?_
        refine Ok.thenN ?_
        refine Ok.cut (fun a W => ∃ gj31 : Ghost, Gext w0 gl9 gj31 ∧ ∃ (ayown1_0j31 : Option Addr) (cyown1_0j31 : Nat) (xsyown1_0j31 : List Value), RepL gj31 (.str) xsyown1_0j31 (rtidV4 xl yown1_0l9) ∧ StA 67 [(3, .slice ayown1_0j31 (rtidV4 xl yown1_0l9).length cyown1_0j31)] a ∧ StW w0 [.own (.slice ayown1_0j31 (rtidV4 xl yown1_0l9).length cyown1_0j31) 9 1 (rtidV4 xl yown1_0l9).length xsyown1_0j31] gj31 W ∧ rtidj31 xl K yown1_0l9) ?_ ?_
        ·
          refine Ok.cut (fun a W => ∃ gj32 : Ghost, Gext w0 gl9 gj32 ∧ StA 67 [(3, .slice ayown1_0l9 yown1_0l9.length cyown1_0l9), (62, .bool (rtidV3 xl yown1_0l9))] a ∧ StW w0 [.own (.slice ayown1_0l9 yown1_0l9.length cyown1_0l9) 9 1 yown1_0l9.length xsyown1_0l9] gj32 W ∧ rtidj32 xl K yown1_0l9) ?_ ?_
          ·
            refine Ok.region ?_
            refine Ok.batch 4 [(0, .slice axl_0 xl.length cxl_0), (3, .slice ayown1_0l9 yown1_0l9.length cyown1_0l9), (40, .bool (decide ((xl.length : Int) > 0)))] (by kernel_rfl) ?_
            refine Ok.boolAt 40 (decide ((xl.length : Int) > 0)) rfl (fun hc17 => ?_) (fun hc17 => ?_)
            · replace hF := hF.1 hc17
              refine Ok.batch 4 [(0, .slice axl_0 xl.length cxl_0), (3, .slice ayown1_0l9 yown1_0l9.length cyown1_0l9), (40, .bool true), (41, .slice axl_0 xl.length cxl_0), (44, .int .i64 (IntKind.wrap .i64 ((xl.length : Int) - 1)))] (by kernel_rfl) ?_
              obtain ⟨h019, h119, hF⟩ := hF
              have he19 := get_of (l := xl) (default : List UInt8) h119
              generalize hg19 : (xl.getD (Int.toNat (IntKind.wrap .i64 ((xl.length : Int) - 1))) default) = e19 at he19 hF ⊢
              refine Ok.opYes (j := 3) (d := 40) (want := true) (b := true) rfl (by kernel_rfl) (by kernel_rfl) rfl (OpOk.indexRo (e := .str) (i := IntKind.wrap .i64 ((xl.length : Int) - 1)) (el := e19) rfl rfl Tryz.underlying22 (by kernel_rfl) hRxl_0 h019 he19 rfl fun q18 o18 cs18 _ hat18 hr18 => ?_)
              obtain rfl := hr18
              replace hat18 : At gl9 q18 o18 [.string ⟨⟨e19⟩⟩] := hat18
              refine Ok.opYes (j := 3) (d := 40) (want := true) (b := true) rfl (by kernel_rfl) (by kernel_rfl) rfl (OpOk.step (v := .string ⟨⟨e19⟩⟩) (Yields.loadRo 0 hat18 (by kernel_rfl) Tryz.underlying9 rfl (by kernel_rfl)) rfl rfl ?_)
              refine Ok.opYes (j := 3) (d := 40) (want := true) (b := true) rfl (by kernel_rfl) (by kernel_rfl) rfl (OpOk.step (v := .bool (e19 == ([46] : List UInt8))) (Yields.strCmp (f := .eql) (a := e19) (b := ([46] : List UInt8)) (by kernel_rfl) (by kernel_rfl) rfl) rfl rfl ?_)
              refine Ok.batch 1 [(0, .slice axl_0 xl.length cxl_0), (3, .slice ayown1_0l9 yown1_0l9.length cyown1_0l9), (40, .bool true), (48, .bool (e19 == ([46] : List UInt8)))] (by kernel_rfl) ?_
              refine Ok.boolAt 48 ((e19 == ([46] : List UInt8))) rfl (fun hc20 => ?_) (fun hc20 => ?_)
              · replace hF := hF.1 hc20
                refine Ok.batch 14 [(3, .slice ayown1_0l9 yown1_0l9.length cyown1_0l9), (62, .bool true)] (by kernel_rfl) ?_
                refine Ok.nil ?_
                refine Ok.thenN ?_
                subst hg19
                refine Ok.reval 62 rfl (show (.bool true : Value) = .bool (rtidV3 xl yown1_0l9) from congrArg (Value.bool) ((Eq.trans (mor_t hc20) ((if_t hc17).symm)))) ?_
                exact fun a W hA hW => ⟨gl9, (Gext.refl w0 gl9), hA.sub (by kernel_rfl), hW, hF⟩
              · replace hF := hF.2 hc20
                refine Ok.batch 4 [(3, .slice ayown1_0l9 yown1_0l9.length cyown1_0l9), (40, .bool true), (48, .bool false), (49, .slice axl_0 xl.length cxl_0), (52, .int .i64 (IntKind.wrap .i64 ((xl.length : Int) - 1)))] (by kernel_rfl) ?_
                refine Ok.opYes (j := 11) (d := 48) (want := false) (b := false) rfl (by kernel_rfl) (by kernel_rfl) rfl (OpOk.indexRo (e := .str) (i := IntKind.wrap .i64 ((xl.length : Int) - 1)) (el := e19) rfl rfl Tryz.underlying22 (by kernel_rfl) hRxl_0 h019 he19 rfl fun q21 o21 cs21 _ hat21 hr21 => ?_)
                obtain rfl := hr21
                replace hat21 : At gl9 q21 o21 [.string ⟨⟨e19⟩⟩] := hat21
                refine Ok.opYes (j := 11) (d := 48) (want := false) (b := false) rfl (by kernel_rfl) (by kernel_rfl) rfl (OpOk.step (v := .string ⟨⟨e19⟩⟩) (Yields.loadRo 0 hat21 (by kernel_rfl) Tryz.underlying9 rfl (by kernel_rfl)) rfl rfl ?_)
                refine Ok.opYes (j := 11) (d := 48) (want := false) (b := false) rfl (by kernel_rfl) (by kernel_rfl) rfl (OpOk.step (v := .bool (e19 == ([46, 46] : List UInt8))) (Yields.strCmp (f := .eql) (a := e19) (b := ([46, 46] : List UInt8)) (by kernel_rfl) (by kernel_rfl) rfl) rfl rfl ?_)
                refine Ok.batch 3 [(3, .slice ayown1_0l9 yown1_0l9.length cyown1_0l9), (58, .bool (e19 == ([46, 46] : List UInt8)))] (by kernel_rfl) ?_
                refine Ok.midway 4 [(3, .slice ayown1_0l9 yown1_0l9.length cyown1_0l9), (62, .bool ((e19 == ([46, 46] : List UInt8)) || ((yown1_0l9.length : Int) == 0)))] (fun hR22 => ?_) ?_
                · refine Ok.boolAt 58 ((e19 == ([46, 46] : List UInt8))) rfl (fun hc23 => ?_) (fun hc23 => ?_)
                  · skip
                    refine Ok.batch 4 [(3, .slice ayown1_0l9 yown1_0l9.length cyown1_0l9), (62, .bool true)] (by kernel_rfl) ?_
                    refine Ok.reval 62 rfl (show (.bool true : Value) = .bool ((e19 == ([46, 46] : List UInt8)) || ((yown1_0l9.length : Int) == 0)) from congrArg Value.bool (mor_t hc23)) ?_
                    refine Ok.batch 0 [(3, .slice ayown1_0l9 yown1_0l9.length cyown1_0l9), (62, .bool ((e19 == ([46, 46] : List UInt8)) || ((yown1_0l9.length : Int) == 0)))] (by kernel_rfl) ?_
                    exact hR22
                  · skip
                    refine Ok.batch 4 [(3, .slice ayown1_0l9 yown1_0l9.length cyown1_0l9), (62, .bool ((yown1_0l9.length : Int) == 0))] (by kernel_rfl) ?_
                    refine Ok.reval 62 rfl (show (.bool ((yown1_0l9.length : Int) == 0) : Value) = .bool ((e19 == ([46, 46] : List UInt8)) || ((yown1_0l9.length : Int) == 0)) from congrArg Value.bool (mor_f hc23)) ?_
                    refine Ok.batch 0 [(3, .slice ayown1_0l9 yown1_0l9.length cyown1_0l9), (62, .bool ((e19 == ([46, 46] : List UInt8)) || ((yown1_0l9.length : Int) == 0)))] (by kernel_rfl) ?_
                    exact hR22
                refine Ok.nil ?_
                refine Ok.thenN ?_
                subst hg19
                refine Ok.reval 62 rfl (show (.bool (((xl.getD (Int.toNat (IntKind.wrap .i64 ((xl.length : Int) - 1))) default) == ([46, 46] : List UInt8)) || ((yown1_0l9.length : Int) == 0)) : Value) = .bool (rtidV3 xl yown1_0l9) from congrArg (Value.bool) ((Eq.trans (mor_f hc20) ((if_t hc17).symm)))) ?_
                exact fun a W hA hW => ⟨gl9, (Gext.refl w0 gl9), hA.sub (by kernel_rfl), hW, hF⟩
            · replace hF := hF.2 hc17
              refine Ok.batch 22 [(3, .slice ayown1_0l9 yown1_0l9.length cyown1_0l9), (62, .bool ((yown1_0l9.length : Int) == 0))] (by kernel_rfl) ?_
              refine Ok.nil ?_
              refine Ok.thenN ?_
              refine Ok.reval 62 rfl (show (.bool ((yown1_0l9.length : Int) == 0) : Value) = .bool (rtidV3 xl yown1_0l9) from congrArg (Value.bool) ((if_f hc17).symm)) ?_
              exact fun a W hA hW => ⟨gl9, (Gext.refl w0 gl9), hA.sub (by kernel_rfl), hW, hF⟩
          ·
            clear hF
            rintro a W ⟨gj32, hxj32, hA, hW, hF⟩
            refine (?_ : Ok _ _ _ _ _ _) a W hA hW
            clear hA hW
            replace hLyown1_0l9 := hLyown1_0l9.mono hxj32.1
            refine Ok.cond (b := (rtidV3 xl yown1_0l9)) rfl (fun hc14 => ?_) (fun hc14 => ?_)
            · replace hF := hF.1 hc14
              refine Ok.region ?_
              refine Ok.batch 1 [(63, .slice ayown1_0l9 yown1_0l9.length cyown1_0l9)] (by kernel_rfl) ?_
              have hL15 : RepL gj32 (.str) ([.string ⟨⟨([] : List UInt8)⟩⟩] : List Value) ([([] : List UInt8)] : List (List UInt8)) := (RepL.consN (c := [.string ⟨⟨([] : List UInt8)⟩⟩]) rfl rfl)
              refine Ok.op rfl (OpOk.lit (E := 9) (.str) ([([] : List UInt8)] : List (List UInt8)) ([.string ⟨⟨([] : List UInt8)⟩⟩] : List Value) (by kernel_rfl) (by kernel_rfl) rfl (by kernel_rfl) hL15 rfl fun b15 => ?_)
              obtain ⟨hb16, hF⟩ := hF
              refine Ok.op rfl (OpOk.append' (e := .str) 16 8796093022208 1 0 rfl rfl rfl rfl hLyown1_0l9 hL15 Tryz.underlying22 (by kernel_rfl) (by kernel_rfl) (by kernel_rfl) hb16 rfl fun a16 c16 xs16 hL16 => ?_)
              refine Ok.batch 1 [(3, .slice a16 (yown1_0l9 ++ ([([] : List UInt8)] : List (List UInt8))).length c16)] (by kernel_rfl) ?_
              refine Ok.nil ?_
              refine Ok.thenN ?_
              refine Ok.reval 3 rfl (show (.slice a16 (yown1_0l9 ++ ([([] : List UInt8)] : List (List UInt8))).length c16 : Value) = .slice a16 (rtidV4 xl yown1_0l9).length c16 from congrArg (fun l : List (List UInt8) => Value.slice a16 l.length c16) ((if_t hc14).symm)) ?_
              refine Ok.heapEq (H' := [.own (.slice (some ⟨b15, 0, none⟩) ([([] : List UInt8)] : List (List UInt8)).length 1) 9 1 ([([] : List UInt8)] : List (List UInt8)).length ([.string ⟨⟨([] : List UInt8)⟩⟩] : List Value), .own (.slice a16 (rtidV4 xl yown1_0l9).length c16) 9 1 (rtidV4 xl yown1_0l9).length xs16]) (econs (rfl) (econs (congrArg (fun l : List (List UInt8) => Ent.own (.slice a16 l.length c16) 9 1 l.length xs16) ((if_t hc14).symm)) rfl)) ?_
              exact fun a W hA hW => ⟨gj32, hxj32, a16, c16, xs16, (Eq.mp (congrArg (fun l : List (List UInt8) => RepL gj32 (.str) xs16 l) ((if_t hc14).symm)) hL16), hA.sub (by kernel_rfl), hW.sub (.cons _ (.cons_cons _ .slnil)), hF⟩
            · replace hF := hF.2 hc14
              refine Ok.skip ?_
              refine Ok.thenN ?_
              refine Ok.reval 3 rfl (show (.slice ayown1_0l9 yown1_0l9.length cyown1_0l9 : Value) = .slice ayown1_0l9 (rtidV4 xl yown1_0l9).length cyown1_0l9 from congrArg (fun l : List (List UInt8) => Value.slice ayown1_0l9 l.length cyown1_0l9) ((if_f hc14).symm)) ?_
              refine Ok.heapEq (H' := [.own (.slice ayown1_0l9 (rtidV4 xl yown1_0l9).length cyown1_0l9) 9 1 (rtidV4 xl yown1_0l9).length xsyown1_0l9]) (econs (congrArg (fun l : List (List UInt8) => Ent.own (.slice ayown1_0l9 l.length cyown1_0l9) 9 1 l.length xsyown1_0l9) ((if_f hc14).symm)) rfl) ?_
              exact fun a W hA hW => ⟨gj32, hxj32, ayown1_0l9, cyown1_0l9, xsyown1_0l9, (Eq.mp (congrArg (fun l : List (List UInt8) => RepL gj32 (.str) xsyown1_0l9 l) ((if_f hc14).symm)) hLyown1_0l9), hA.sub (by kernel_rfl), hW, hF⟩
        ·
          clear hF
          rintro a W ⟨gj31, hxj31, ayown1_0j31, cyown1_0j31, xsyown1_0j31, hLyown1_0j31, hA, hW, hF⟩
          refine (?_ : Ok _ _ _ _ _ _) a W hA hW
          clear hA hW
          refine Ok.seq ?_
          refine Ok.region ?_
          refine Ok.batch 2 [(2, .slice ayown1_0j31 (rtidV4 xl yown1_0l9).length cyown1_0j31)] (by kernel_rfl) ?_
          refine Ok.nil ?_
          refine Ok.thenN ?_
          refine Ok.ret ?_
          refine Ok.freeze (H' := []) 0 rfl hLyown1_0j31 rfl fun g13 hx13 hRf13 => ?_
          exact Ok.resH (vs := [.slice ayown1_0j31 (rtidV4 xl yown1_0l9).length cyown1_0j31]) (.inl rfl) rfl (.cons (.tmp rfl) .nil) ((hxl9.trans hxj31).trans hx13) ⟨(rtidV4 xl yown1_0l9), ayown1_0j31, cyown1_0j31, rfl, hRf13, rfl, hF⟩
theorem rv0_eq (e : List UInt8) : rtidV0 e = !(dotS e) := by
  unfold rtidV0 dotS
  rw [Bool.not_or]
theorem last_get : ∀ (l : List (List UInt8)), l ≠ [] → lastDot l = dotS (l.getD (l.length - 1) default)
  | [], h => absurd rfl h
  | [a], _ => rfl
  | a :: b :: r, _ => by
    have ih := last_get (b :: r) (by simp)
    show lastDot (b :: r) = _
    rw [ih]; rfl
theorem rtid_F (l : List (List UInt8)) (hp : tidyP l) : rtidF l (fun r => r = tidyS l) := by
  unfold tidyP at hp
  have loop : ∀ (k i : Nat) (o : List (List UInt8)), i + k = l.length → o.length ≤ i → l.foldl tdF [] = (l.drop i).foldl tdF o → rtidl9 l (fun r => r = tidyS l) (k + 1) (i : Int) o := by
    intro k
    induction k with
    | zero =>
      intro i o h1 h2 he
      rw [List.drop_of_length_le (by omega), List.foldl_nil] at he
      have hz : ((o.length : Int) == 0) = (o == []) := by
        cases o with
        | nil => rfl
        | cons a r => simp; omega
      have hV3 : rtidV3 l o = (lastDot l || (o == [])) := by
        unfold rtidV3
        cases hl : l with
        | nil => rw [if_neg (by simp), hz]; rfl
        | cons a r =>
          rw [if_pos (by simp), ← hl, w64 (by rw [hl] at hp ⊢; simp at hp ⊢; omega), last_get l (by rw [hl]; simp), hz]
          have : ((l.length : Int) - 1).toNat = l.length - 1 := by omega
          rw [this]
          unfold dotS
          rw [Bool.or_assoc]
      have j31 : rtidj31 l (fun r => r = tidyS l) o := by
        unfold rtidj31 rtidV4
        rw [tidyS_eq]
        unfold tidyS0
        rw [hV3, he]
      have j32 : rtidj32 l (fun r => r = tidyS l) o := ⟨fun _ => ⟨by rw [List.length_append, List.length_singleton]; omega, j31⟩, fun _ => j31⟩
      refine ⟨fun h => by have := of_decide_eq_true h; omega, fun _ => ⟨fun h => ?_, fun _ => j32⟩⟩
      have := of_decide_eq_true h
      rw [w64 (by omega)]
      exact ⟨by omega, by omega, fun _ => j32, fun _ => j32⟩
    | succ k ih =>
      intro i o h1 h2 he
      have hi : i < l.length := by omega
      rw [drop_get (l := l) default hi, List.foldl_cons] at he
      obtain ⟨e, hel⟩ : ∃ e, l.getD i default = e := ⟨_, rfl⟩
      have htl := td_len o e
      have hstep : rtidV5 l (i : Int) o = tdF o e := by
        unfold rtidV5
        rw [Int.toNat_natCast, hel, rv0_eq]
        by_cases h46 : (e == [46, 46]) = true
        · have hd : dotS e = true := by unfold dotS; rw [h46, Bool.or_true]
          rw [h46, hd, Bool.true_and]
          unfold tdF
          rw [if_t h46]
          by_cases h0 : o.length = 0
          · rw [List.eq_nil_of_length_eq_zero h0]; rfl
          · rw [if_pos (decide_eq_true (by omega)), w64 (by omega), show ((o.length : Int) - 1).toNat = o.length - 1 by omega]
        · have h46 : (e == [46, 46]) = false := by simpa using h46
          rw [h46, Bool.false_and, if_f rfl]
          unfold tdF dotS
          rw [h46, Bool.or_false, if_f rfl]
          cases (e == [46]) <;> rfl
      rw [hel] at he
      have j16 : rtidj16 l (i : Int) o (rtidl9 l (fun r => r = tidyS l) (k + 1)) := by
        unfold rtidj16
        rw [w64 (by omega), show ((i : Int) + 1) = ((i + 1 : Nat) : Int) by omega, hstep]
        exact ih (i + 1) _ (by omega) (by omega) he
      have j25 : rtidj25 l e (i : Int) o (rtidl9 l (fun r => r = tidyS l) (k + 1)) :=
        ⟨fun _ => ⟨by rw [List.length_append, List.length_singleton]; omega, j16⟩, fun _ => j16⟩
      refine ⟨fun _ => ⟨by omega, by rw [Int.toNat_natCast]; omega, ?_⟩, fun h => by have := of_decide_eq_false h; omega⟩
      rw [Int.toNat_natCast, hel]
      refine ⟨fun h => ?_, fun _ => ⟨fun _ => j25, fun _ => j25⟩⟩
      rw [Bool.and_eq_true, decide_eq_true_eq] at h
      rw [w64 (by omega)]
      exact ⟨by omega, by omega, j16⟩
  exact ⟨_, loop l.length 0 [] (by omega) (by simp) rfl⟩
set_option linter.unusedVariables false in
theorem rtid_c {g : Ghost} {axl_0 : Option Addr} {cxl_0 : Nat} (xl : List (List UInt8)) (hRxl_0 : Rep g (.slice (.str)) [.slice axl_0 xl.length cxl_0] xl)  (hp : tidyP xl) : CallsH Tryz.prog 35 #[.slice axl_0 xl.length cxl_0] g [] (fun g' H' v => ∃ (ar0_0 : Option Addr) (cr0_0 : Nat), v = .slice ar0_0 (tidyS xl).length cr0_0 ∧ Rep g' (.slice (.str)) [.slice ar0_0 (tidyS xl).length cr0_0] (tidyS xl) ∧ H' = []) :=
  (rtid_ok xl hRxl_0 _ (rtid_F xl hp)).mono (by rintro g' H' v _ ⟨r0, ar0_0, cr0_0, rfl, hRr0_0, rfl, hK⟩; subst hK; exact ⟨ar0_0, cr0_0, rfl, hRr0_0, rfl⟩)
/-! segmentsOf -/
def rsegS (s : List UInt8) : List (List UInt8) × Bool := ((splS s [47]).map fun p => (rdecS p).1, (splS s [47]).all fun p => (rdecS p).2)
def rsegl11b (xs : List UInt8) (K : (List (List UInt8)) → Bool → Prop) (x4l11 : Bool) (x13l11 : Int) (yown1_0l11 : List (List UInt8)) (C11 : Bool → Int → (List (List UInt8)) → Prop) : Prop :=
  ((decide (x13l11 < ((splS xs ([47] : List UInt8)).length : Int))) = true → (0 : Int) ≤ x13l11 ∧ Int.toNat x13l11 < (splS xs ([47] : List UInt8)).length ∧ encP ((splS xs ([47] : List UInt8)).getD (Int.toNat x13l11) default) ∧ (yown1_0l11 ++ ([(rdecS ((splS xs ([47] : List UInt8)).getD (Int.toNat x13l11) default)).1] : List (List UInt8))).length ≤ 8796093022208 ∧ C11 (x4l11 && ((rdecS ((splS xs ([47] : List UInt8)).getD (Int.toNat x13l11) default)).2)) (IntKind.wrap .i64 (x13l11 + 1)) (yown1_0l11 ++ ([(rdecS ((splS xs ([47] : List UInt8)).getD (Int.toNat x13l11) default)).1] : List (List UInt8)))) ∧ ((decide (x13l11 < ((splS xs ([47] : List UInt8)).length : Int))) = false → K yown1_0l11 x4l11)
def rsegl11 (xs : List UInt8) (K : (List (List UInt8)) → Bool → Prop) : Nat → Bool → Int → (List (List UInt8)) → Prop
  | 0, _, _, _ => False
  | k + 1, x4l11, x13l11, yown1_0l11 => rsegl11b xs K x4l11 x13l11 yown1_0l11 (rsegl11 xs K k)
def rsegF (xs : List UInt8) (K : (List (List UInt8)) → Bool → Prop) : Prop :=
  splP xs ([47] : List UInt8) ∧ ∃ k, rsegl11 xs K k true 0 ([] : List (List UInt8))
set_option maxHeartbeats 4000000 in
set_option maxRecDepth 100000 in
set_option linter.unusedVariables false in
theorem rseg_ok {g : Ghost} (xs : List UInt8) (hG0 : SomeInt g 0) (K : (List (List UInt8)) → Bool → Prop)
    (hF : rsegF xs K) : CallsH Tryz.prog 34 #[.string ⟨⟨xs⟩⟩] g [] (fun g' H' v => ∃ (r0 : List (List UInt8)), ∃ (r1 : Bool), ∃ (ar0_0 : Option Addr) (cr0_0 : Nat), v = .tuple #[.slice ar0_0 r0.length cr0_0, .bool r1] ∧ Rep g' (.slice (.str)) [.slice ar0_0 r0.length cr0_0] r0 ∧ H' = [] ∧ K r0 r1) := by
  refine CallsH.enter 33 [(0, .string ⟨⟨xs⟩⟩)] Tryz.func34 rfl (by kernel_rfl) (by kernel_rfl) (by kernel_rfl) fun w0 => ?_
  refine Ok.seq ?_
  refine Ok.region ?_
  refine Ok.batch 1 [(0, .string ⟨⟨xs⟩⟩)] (by kernel_rfl) ?_
  refine Ok.batch 1 [(0, .string ⟨⟨xs⟩⟩)] (by kernel_rfl) ?_
  refine Ok.nil ?_
  refine Ok.thenN ?_
  refine Ok.seq ?_
  refine Ok.region ?_
  refine Ok.batch 1 [(0, .string ⟨⟨xs⟩⟩), (4, .bool true)] (by kernel_rfl) ?_
  refine Ok.nil ?_
  refine Ok.thenN ?_
  refine Ok.seq ?_
  refine Ok.region ?_
  refine Ok.batch 1 [(0, .string ⟨⟨xs⟩⟩), (4, .bool true), (5, .slice none 0 0)] (by kernel_rfl) ?_
  have hL1 : RepL g (.str) [] [] := rfl
  refine Ok.ownNil 9 1 ?_
  refine Ok.nil ?_
  refine Ok.thenN ?_
  refine Ok.seq ?_
  refine Ok.seq ?_
  refine Ok.region ?_
  refine Ok.batch 1 [(4, .bool true), (5, .slice none ([] : List (List UInt8)).length 0), (10, .string ⟨⟨xs⟩⟩)] (by kernel_rfl) ?_
  obtain ⟨hp2, hF⟩ := hF
  refine Ok.op rfl (OpOk.callH [] [.own (.slice none ([] : List (List UInt8)).length 0) 9 1 ([] : List (List UInt8)).length ([])] (enters (by kernel_rfl) (fun _ => by kernel_rfl)) rfl (spl_c xs ([47] : List UInt8) hG0 hp2) rfl fun g3 _ _ hx3 hV3 => ?_)
  obtain ⟨a3_0, c3_0, rfl, hR3_0, rfl⟩ := hV3
  replace hL1 := hL1.mono hx3.1
  replace hG0 := hG0.mono hx3.1
  refine Ok.batch 2 [(4, .bool true), (5, .slice none ([] : List (List UInt8)).length 0), (11, .slice a3_0 (splS xs ([47] : List UInt8)).length c3_0), (12, .int .i64 ((splS xs ([47] : List UInt8)).length : Int)), (13, .int .i64 0)] (by kernel_rfl) ?_
  refine Ok.nil ?_
  refine Ok.thenN ?_
  refine Ok.block ?_
  obtain ⟨k, hF⟩ := hF
  refine Ok.loop (fun k a W => ∃ gl11 : Ghost, Gext w0 g3 gl11 ∧ ∃ (x4l11 : Bool) (x13l11 : Int) (ayown1_0l11 : Option Addr) (cyown1_0l11 : Nat) (yown1_0l11 : List (List UInt8)) (xsyown1_0l11 : List Value), RepL gl11 (.str) xsyown1_0l11 yown1_0l11 ∧ StA 33 [(4, .bool x4l11), (5, .slice ayown1_0l11 yown1_0l11.length cyown1_0l11), (11, .slice a3_0 (splS xs ([47] : List UInt8)).length c3_0), (12, .int .i64 ((splS xs ([47] : List UInt8)).length : Int)), (13, .int .i64 x13l11)] a ∧ StW w0 [.own (.slice ayown1_0l11 yown1_0l11.length cyown1_0l11) 9 1 yown1_0l11.length xsyown1_0l11] gl11 W ∧ rsegl11 xs K k x4l11 x13l11 yown1_0l11) k ?_ ?_
  ·
    exact fun a W hA hW => ⟨g3, (Gext.refl w0 g3), true, 0, none, 0, ([] : List (List UInt8)), [], hL1, hA.sub (by kernel_rfl), hW, hF⟩
  ·
    clear hF
    rintro k11 a W ⟨gl11, hxl11, x4l11, x13l11, ayown1_0l11, cyown1_0l11, yown1_0l11, xsyown1_0l11, hLyown1_0l11, hA, hW, hF⟩
    cases k11 with
    | zero => exact (hF : False).elim
    | succ k11 =>
      refine (?_ : Ok _ _ _ _ _ _) a W hA hW
      clear hA hW
      replace hR3_0 := hR3_0.mono hxl11.1
      replace hG0 := hG0.mono hxl11.1
      refine Ok.seq ?_
      refine Ok.region ?_
      refine Ok.batch 1 [(4, .bool x4l11), (5, .slice ayown1_0l11 yown1_0l11.length cyown1_0l11), (11, .slice a3_0 (splS xs ([47] : List UInt8)).length c3_0), (12, .int .i64 ((splS xs ([47] : List UInt8)).length : Int)), (13, .int .i64 x13l11), (14, .bool (decide (x13l11 < ((splS xs ([47] : List UInt8)).length : Int))))] (by kernel_rfl) ?_
      refine Ok.nil ?_
      refine Ok.thenN ?_
      refine Ok.seq ?_
      refine Ok.cond (b := decide (x13l11 < ((splS xs ([47] : List UInt8)).length : Int))) rfl (fun hc4 => ?_) (fun hc4 => ?_)
      · replace hF := hF.1 hc4
        refine Ok.skip ?_
        refine Ok.thenN ?_
        refine Ok.seq ?_
        refine Ok.block ?_
        refine Ok.seq ?_
        refine Ok.region ?_
        obtain ⟨h06, h16, hF⟩ := hF
        have he6 := get_of (l := (splS xs ([47] : List UInt8))) (default : List UInt8) h16
        generalize hg6 : ((splS xs ([47] : List UInt8)).getD (Int.toNat x13l11) default) = e6 at he6 hF ⊢
        refine Ok.op rfl (OpOk.indexRo (e := .str) (i := x13l11) (el := e6) rfl rfl Tryz.underlying22 (by kernel_rfl) hR3_0 h06 he6 rfl fun q5 o5 cs5 _ hat5 hr5 => ?_)
        obtain rfl := hr5
        replace hat5 : At gl11 q5 o5 [.string ⟨⟨e6⟩⟩] := hat5
        refine Ok.op rfl (OpOk.step (v := .string ⟨⟨e6⟩⟩) (Yields.loadRo 0 hat5 (by kernel_rfl) Tryz.underlying9 rfl (by kernel_rfl)) rfl rfl ?_)
        refine Ok.batch 1 [(4, .bool x4l11), (5, .slice ayown1_0l11 yown1_0l11.length cyown1_0l11), (7, .string ⟨⟨e6⟩⟩), (11, .slice a3_0 (splS xs ([47] : List UInt8)).length c3_0), (12, .int .i64 ((splS xs ([47] : List UInt8)).length : Int)), (13, .int .i64 x13l11)] (by kernel_rfl) ?_
        refine Ok.nil ?_
        refine Ok.thenN ?_
        refine Ok.seq ?_
        refine Ok.region ?_
        refine Ok.batch 1 [(4, .bool x4l11), (5, .slice ayown1_0l11 yown1_0l11.length cyown1_0l11), (11, .slice a3_0 (splS xs ([47] : List UInt8)).length c3_0), (12, .int .i64 ((splS xs ([47] : List UInt8)).length : Int)), (13, .int .i64 x13l11), (18, .string ⟨⟨e6⟩⟩)] (by kernel_rfl) ?_
        obtain ⟨hp7, hF⟩ := hF
        refine Ok.op rfl (OpOk.callG (v := .tuple #[.string ⟨⟨(rdecS e6).1⟩⟩, .bool ((rdecS e6).2)]) (enters (by kernel_rfl) (fun _ => by kernel_rfl)) (fun W hW => rdec_c e6 (hG0.mono hW.sees) hp7) rfl ?_)
        refine Ok.batch 5 [(4, .bool x4l11), (5, .slice ayown1_0l11 yown1_0l11.length cyown1_0l11), (8, .string ⟨⟨(rdecS e6).1⟩⟩), (9, .bool ((rdecS e6).2)), (11, .slice a3_0 (splS xs ([47] : List UInt8)).length c3_0), (12, .int .i64 ((splS xs ([47] : List UInt8)).length : Int)), (13, .int .i64 x13l11)] (by kernel_rfl) ?_
        refine Ok.nil ?_
        refine Ok.thenN ?_
        refine Ok.region ?_
        refine Ok.batch 2 [(4, .bool x4l11), (9, .bool ((rdecS e6).2)), (11, .slice a3_0 (splS xs ([47] : List UInt8)).length c3_0), (12, .int .i64 ((splS xs ([47] : List UInt8)).length : Int)), (13, .int .i64 x13l11), (22, .slice ayown1_0l11 yown1_0l11.length cyown1_0l11), (23, .string ⟨⟨(rdecS e6).1⟩⟩)] (by kernel_rfl) ?_
        have hL8 : RepL gl11 (.str) ([.string ⟨⟨(rdecS e6).1⟩⟩] : List Value) ([(rdecS e6).1] : List (List UInt8)) := (RepL.consN (c := [.string ⟨⟨(rdecS e6).1⟩⟩]) rfl rfl)
        refine Ok.op rfl (OpOk.lit (E := 9) (.str) ([(rdecS e6).1] : List (List UInt8)) ([.string ⟨⟨(rdecS e6).1⟩⟩] : List Value) (by kernel_rfl) (by kernel_rfl) rfl (by kernel_rfl) hL8 rfl fun b8 => ?_)
        obtain ⟨hb9, hF⟩ := hF
        refine Ok.op rfl (OpOk.append' (e := .str) 16 8796093022208 1 0 rfl rfl rfl rfl hLyown1_0l11 hL8 Tryz.underlying22 (by kernel_rfl) (by kernel_rfl) (by kernel_rfl) hb9 rfl fun a9 c9 xs9 hL9 => ?_)
        refine Ok.batch 2 [(9, .bool ((rdecS e6).2)), (11, .slice a3_0 (splS xs ([47] : List UInt8)).length c3_0), (12, .int .i64 ((splS xs ([47] : List UInt8)).length : Int)), (13, .int .i64 x13l11), (25, .slice a9 (yown1_0l11 ++ ([(rdecS e6).1] : List (List UInt8))).length c9), (27, .bool x4l11)] (by kernel_rfl) ?_
        refine Ok.midway 2 [(11, .slice a3_0 (splS xs ([47] : List UInt8)).length c3_0), (12, .int .i64 ((splS xs ([47] : List UInt8)).length : Int)), (13, .int .i64 x13l11), (25, .slice a9 (yown1_0l11 ++ ([(rdecS e6).1] : List (List UInt8))).length c9), (29, .bool (x4l11 && ((rdecS e6).2)))] (fun hR10 => ?_) ?_
        · refine Ok.boolAt 27 (x4l11) rfl (fun hc11 => ?_) (fun hc11 => ?_)
          · skip
            refine Ok.batch 2 [(11, .slice a3_0 (splS xs ([47] : List UInt8)).length c3_0), (12, .int .i64 ((splS xs ([47] : List UInt8)).length : Int)), (13, .int .i64 x13l11), (25, .slice a9 (yown1_0l11 ++ ([(rdecS e6).1] : List (List UInt8))).length c9), (29, .bool ((rdecS e6).2))] (by kernel_rfl) ?_
            refine Ok.reval 29 rfl (show (.bool ((rdecS e6).2) : Value) = .bool (x4l11 && ((rdecS e6).2)) from congrArg Value.bool (mand_t hc11)) ?_
            refine Ok.batch 0 [(11, .slice a3_0 (splS xs ([47] : List UInt8)).length c3_0), (12, .int .i64 ((splS xs ([47] : List UInt8)).length : Int)), (13, .int .i64 x13l11), (25, .slice a9 (yown1_0l11 ++ ([(rdecS e6).1] : List (List UInt8))).length c9), (29, .bool (x4l11 && ((rdecS e6).2)))] (by kernel_rfl) ?_
            exact hR10
          · skip
            refine Ok.batch 2 [(11, .slice a3_0 (splS xs ([47] : List UInt8)).length c3_0), (12, .int .i64 ((splS xs ([47] : List UInt8)).length : Int)), (13, .int .i64 x13l11), (25, .slice a9 (yown1_0l11 ++ ([(rdecS e6).1] : List (List UInt8))).length c9), (29, .bool false)] (by kernel_rfl) ?_
            refine Ok.reval 29 rfl (show (.bool false : Value) = .bool (x4l11 && ((rdecS e6).2)) from congrArg Value.bool (mand_f hc11)) ?_
            refine Ok.batch 0 [(11, .slice a3_0 (splS xs ([47] : List UInt8)).length c3_0), (12, .int .i64 ((splS xs ([47] : List UInt8)).length : Int)), (13, .int .i64 x13l11), (25, .slice a9 (yown1_0l11 ++ ([(rdecS e6).1] : List (List UInt8))).length c9), (29, .bool (x4l11 && ((rdecS e6).2)))] (by kernel_rfl) ?_
            exact hR10
        refine Ok.batch 2 [(4, .bool (x4l11 && ((rdecS e6).2))), (5, .slice a9 (yown1_0l11 ++ ([(rdecS e6).1] : List (List UInt8))).length c9), (11, .slice a3_0 (splS xs ([47] : List UInt8)).length c3_0), (12, .int .i64 ((splS xs ([47] : List UInt8)).length : Int)), (13, .int .i64 x13l11)] (by kernel_rfl) ?_
        refine Ok.nil ?_
        refine Ok.blockN ?_
        refine Ok.thenN ?_
        refine Ok.region ?_
        refine Ok.batch 2 [(4, .bool (x4l11 && ((rdecS e6).2))), (5, .slice a9 (yown1_0l11 ++ ([(rdecS e6).1] : List (List UInt8))).length c9), (11, .slice a3_0 (splS xs ([47] : List UInt8)).length c3_0), (12, .int .i64 ((splS xs ([47] : List UInt8)).length : Int)), (13, .int .i64 (IntKind.wrap .i64 (x13l11 + 1)))] (by kernel_rfl) ?_
        refine Ok.nil ?_
        refine Ok.thenN ?_
        subst hg6
        exact fun a W hA hW => ⟨k11, Nat.lt_succ_self _, gl11, hxl11, (x4l11 && ((rdecS ((splS xs ([47] : List UInt8)).getD (Int.toNat x13l11) default)).2)), IntKind.wrap .i64 (x13l11 + 1), a9, c9, (yown1_0l11 ++ ([(rdecS ((splS xs ([47] : List UInt8)).getD (Int.toNat x13l11) default)).1] : List (List UInt8))), xs9, hL9, hA.sub (by kernel_rfl), hW.sub (.cons _ (.cons_cons _ .slnil)), hF⟩
      · replace hF := hF.2 hc4
        refine Ok.exit ?_
        refine Ok.thenE ?_
        refine Ok.thenE ?_
        refine Ok.blockHit ?_
        refine Ok.thenN ?_
        refine Ok.seq ?_
        refine Ok.region ?_
        refine Ok.batch 4 [(2, .slice ayown1_0l11 yown1_0l11.length cyown1_0l11), (3, .bool x4l11)] (by kernel_rfl) ?_
        refine Ok.nil ?_
        refine Ok.thenN ?_
        refine Ok.ret ?_
        refine Ok.freeze (H' := []) 0 rfl hLyown1_0l11 rfl fun g12 hx12 hRf12 => ?_
        replace hG0 := hG0.mono hx12.1
        exact Ok.resH (vs := [.slice ayown1_0l11 yown1_0l11.length cyown1_0l11, .bool x4l11]) (.inl rfl) rfl (.cons (.tmp rfl) (.cons (.tmp rfl) .nil)) ((hx3.trans hxl11).trans hx12) ⟨yown1_0l11, x4l11, ayown1_0l11, cyown1_0l11, rfl, hRf12, rfl, hF⟩
theorem rseg_F (s : List UInt8) (hp : smP s) : rsegF s (fun a b => (a, b) = rsegS s) := by
  unfold smP at hp
  have hl : (splS s [47]).length ≤ s.length + 1 := by rw [splC]; exact spC_len 47 s
  have loop : ∀ (k i : Nat) (o : List (List UInt8)) (b : Bool), i + k = (splS s [47]).length → o.length ≤ i → rsegS s = (o ++ ((splS s [47]).drop i).map (fun p => (rdecS p).1), b && ((splS s [47]).drop i).all fun p => (rdecS p).2) → rsegl11 s (fun a b => (a, b) = rsegS s) (k + 1) b (i : Int) o := by
    intro k
    induction k with
    | zero =>
      intro i o b h1 h2 he
      rw [List.drop_of_length_le (by omega), List.map_nil, List.append_nil, List.all_nil, Bool.and_true] at he
      exact ⟨fun h => by have := of_decide_eq_true h; omega, fun _ => he.symm⟩
    | succ k ih =>
      intro i o b h1 h2 he
      have hi : i < (splS s [47]).length := by omega
      rw [drop_get (l := splS s [47]) default hi, List.map_cons, List.all_cons] at he
      have hw : ((splS s [47]).getD i default).length ≤ s.length := by
        rw [splC] at hi ⊢
        exact spC_sub 47 s _ (getD_mem hi)
      refine ⟨fun _ => ⟨by omega, by rw [Int.toNat_natCast]; omega, ?_⟩, fun h => by have := of_decide_eq_false h; omega⟩
      rw [Int.toNat_natCast]
      refine ⟨by unfold encP; omega, by rw [List.length_append, List.length_singleton]; omega, ?_⟩
      rw [w64 (by omega)]
      refine ih (i + 1) _ _ (by omega) (by rw [List.length_append, List.length_singleton]; omega) ?_
      rw [he, List.append_assoc, Bool.and_assoc]
      rfl
  exact ⟨⟨by omega, by decide⟩, _, loop (splS s [47]).length 0 [] true (by omega) (by simp) rfl⟩
set_option linter.unusedVariables false in
theorem rseg_c {g : Ghost} (xs : List UInt8) (hG0 : SomeInt g 0)  (hp : smP xs) : CallsH Tryz.prog 34 #[.string ⟨⟨xs⟩⟩] g [] (fun g' H' v => ∃ (ar0_0 : Option Addr) (cr0_0 : Nat), v = .tuple #[.slice ar0_0 ((rsegS xs).1).length cr0_0, .bool ((rsegS xs).2)] ∧ Rep g' (.slice (.str)) [.slice ar0_0 ((rsegS xs).1).length cr0_0] ((rsegS xs).1) ∧ H' = []) :=
  (rseg_ok xs hG0 _ (rseg_F xs hp)).mono (by rintro g' H' v _ ⟨r0, r1, ar0_0, cr0_0, rfl, hRr0_0, rfl, hK⟩; obtain ⟨rfl, rfl⟩ : r0 = (rsegS xs).1 ∧ r1 = (rsegS xs).2 := ⟨congrArg (fun z => z.1) hK, congrArg (fun z => z.2) hK⟩; exact ⟨ar0_0, cr0_0, rfl, hRr0_0, rfl⟩)
theorem segO_eq : ∀ (l o : List (List UInt8)), segO l o = if (l.all fun p => (rdecS p).2) = true then (o ++ l.map fun p => (rdecS p).1, true) else ([], false)
  | [], o => by simp [segO]
  | p :: r, o => by
    rw [segO, dec_eq, List.all_cons, List.map_cons]
    cases h : (rdecS p).2
    · rfl
    · rw [if_t rfl, Bool.true_and]
      show (if ((0 : Int) != 0) = true then _ else segO r (o ++ [(rdecS p).1])) = _
      rw [if_neg (by decide), segO_eq r]
      split
      · simp
      · rfl
theorem seg_two (s : List UInt8) : (segS s).2 = (rsegS s).2 ∧ ((rsegS s).2 = true → (segS s).1 = (rsegS s).1) := by
  rw [segS_eq]
  unfold segS0 rsegS
  rw [segO_eq]
  simp only
  split
  · rename_i h
    rw [h]
    exact ⟨rfl, fun _ => rfl⟩
  · rename_i h
    have h : ((splS s [47]).all fun p => (rdecS p).2) = false := by simpa using h
    rw [h]
    exact ⟨rfl, fun h => by cases h⟩
/-! TailOf -/
theorem mk_one (c : UInt8) (hc : c.toNat < 128) (b : UInt8) : mk1 [c] b = (b == c) := by
  unfold mk1
  have h2 : scontS [c] [b] = (b == c) := by
    show Lib.contains [c] [b] = _
    unfold Lib.contains
    rw [idx1]
    by_cases h : b = c
    · subst h; simp
    · have h2 : (c == b) = false := by rw [beq_eq_false_iff_ne]; exact fun h3 => h h3.symm
      rw [h2, if_f rfl, show Lib.index [] [b] = -1 from rfl, show (b == c) = false by rw [beq_eq_false_iff_ne]; exact h]
      rfl
  rw [h2]
  by_cases h : b = c
  · subst h; rw [decide_eq_true (by omega)]; rfl
  · rw [show (b == c) = false by rw [beq_eq_false_iff_ne]; exact h, Bool.and_false]
theorem prt_one (c : UInt8) (hc : c.toNat < 128) (s : List UInt8) : prtS s [c] = (s.takeWhile (ne1 c), s.dropWhile (ne1 c)) := by
  unfold prtS
  have : (fun b => !(mk1 [c] b)) = ne1 c := by
    funext b
    rw [mk_one c hc]; rfl
  rw [this]
theorem tpf_dw (c : UInt8) (s : List UInt8) : tpfM (s.dropWhile (ne1 c)) [c] = (s.dropWhile (ne1 c)).drop 1 ∧ (!(s.dropWhile (ne1 c) == [])) = s.contains c := by
  have hs : ∀ l : List UInt8, l.dropWhile (ne1 c) = [] ∧ l.contains c = false ∨ (∃ r, l.dropWhile (ne1 c) = c :: r) ∧ l.contains c = true := by
    intro l
    induction l with
    | nil => exact .inl ⟨rfl, rfl⟩
    | cons b l ih =>
      rw [List.dropWhile_cons, List.contains_cons]
      by_cases hb : b = c
      · subst hb
        have : ne1 b b = false := by unfold ne1; simp
        rw [this]
        exact .inr ⟨⟨l, rfl⟩, by simp⟩
      · have h1 : ne1 c b = true := by unfold ne1; simp [hb]
        have h2 : (c == b) = false := by rw [beq_eq_false_iff_ne]; exact fun h => hb h.symm
        rw [h1, if_pos rfl, h2, Bool.false_or]
        exact ih
  rcases hs s with ⟨h1, h2⟩ | ⟨⟨r, h1⟩, h2⟩
  · rw [h1, h2]; exact ⟨rfl, rfl⟩
  · rw [h1, h2]
    refine ⟨?_, rfl⟩
    show tpfM (c :: r) [c] = r
    have : slhpM (c :: r) [c] = true := by
      show (decide (((c :: r).length : Int) ≥ 1) && (([c] : List UInt8) == [c])) = true
      simp; omega
    show (if slhpM (c :: r) [c] = true then r else c :: r) = r
    rw [if_t this]
theorem prt_cut (c : UInt8) (hc : c.toNat < 128) (s : List UInt8) : (prtS s [c]).1 = (cutS s [c]).1 ∧ tpfM (prtS s [c]).2 [c] = (cutS s [c]).2.1 ∧ (!((prtS s [c]).2 == [])) = (cutS s [c]).2.2 := by
  rw [prt_one c hc, cutS1]
  exact ⟨rfl, (tpf_dw c s).1, (tpf_dw c s).2⟩
def rtaiF (xu : List UInt8 × List UInt8 × Int × List (List UInt8) × List UInt8 × Bool × List UInt8 × Bool) (xs : List UInt8) (K : (List UInt8) → Bool → (List UInt8 × List UInt8 × Int × List (List UInt8) × List UInt8 × Bool × List UInt8 × Bool) → Prop) : Prop :=
  prtP xs ([35] : List UInt8) ∧ prtP ((prtS xs ([35] : List UInt8)).1) ([63] : List UInt8) ∧ smP (tpfM ((prtS ((prtS xs ([35] : List UInt8)).1) ([63] : List UInt8)).2) ([63] : List UInt8)) ∧ smP (tpfM ((prtS xs ([35] : List UInt8)).2) ([35] : List UInt8)) ∧ K ((prtS ((prtS xs ([35] : List UInt8)).1) ([63] : List UInt8)).1) (((cleanS (tpfM ((prtS ((prtS xs ([35] : List UInt8)).1) ([63] : List UInt8)).2) ([63] : List UInt8))).2) && ((cleanS (tpfM ((prtS xs ([35] : List UInt8)).2) ([35] : List UInt8))).2)) (xu.1, xu.2.1, xu.2.2.1, xu.2.2.2.1, (cleanS (tpfM ((prtS ((prtS xs ([35] : List UInt8)).1) ([63] : List UInt8)).2) ([63] : List UInt8))).1, !(((prtS ((prtS xs ([35] : List UInt8)).1) ([63] : List UInt8)).2) == ([] : List UInt8)), (cleanS (tpfM ((prtS xs ([35] : List UInt8)).2) ([35] : List UInt8))).1, !(((prtS xs ([35] : List UInt8)).2) == ([] : List UInt8)))
set_option maxHeartbeats 4000000 in
set_option maxRecDepth 100000 in
set_option linter.unusedVariables false in
theorem rtai_ok {g : Ghost} {bxu : Nat} {axu_0 : Option Addr} {cxu_0 : Nat} (xu : List UInt8 × List UInt8 × Int × List (List UInt8) × List UInt8 × Bool × List UInt8 × Bool) (xs : List UInt8) (hRxu_0 : Rep g (.slice (.str)) [.slice axu_0 xu.2.2.2.1.length cxu_0] xu.2.2.2.1) (hG0 : SomeInt g 0) (K : (List UInt8) → Bool → (List UInt8 × List UInt8 × Int × List (List UInt8) × List UInt8 × Bool × List UInt8 × Bool) → Prop)
    (hF : rtaiF xu xs K) : CallsH Tryz.prog 33 #[.pointer (some ⟨bxu, 0, none⟩), .string ⟨⟨xs⟩⟩] g [.blk bxu (.cells #[.string ⟨⟨xu.1⟩⟩, .string ⟨⟨xu.2.1⟩⟩, .int .i64 xu.2.2.1, .slice axu_0 xu.2.2.2.1.length cxu_0, .string ⟨⟨xu.2.2.2.2.1⟩⟩, .bool xu.2.2.2.2.2.1, .string ⟨⟨xu.2.2.2.2.2.2.1⟩⟩, .bool xu.2.2.2.2.2.2.2] 24)] (fun g' H' v => ∃ (r0 : List UInt8), ∃ (r1 : Bool), ∃ (fxu : List UInt8 × List UInt8 × Int × List (List UInt8) × List UInt8 × Bool × List UInt8 × Bool), ∃ (afxu_0 : Option Addr) (cfxu_0 : Nat), v = .tuple #[.string ⟨⟨r0⟩⟩, .bool r1] ∧ Rep g' (.slice (.str)) [.slice afxu_0 fxu.2.2.2.1.length cfxu_0] fxu.2.2.2.1 ∧ H' = [.blk bxu (.cells #[.string ⟨⟨fxu.1⟩⟩, .string ⟨⟨fxu.2.1⟩⟩, .int .i64 fxu.2.2.1, .slice afxu_0 fxu.2.2.2.1.length cfxu_0, .string ⟨⟨fxu.2.2.2.2.1⟩⟩, .bool fxu.2.2.2.2.2.1, .string ⟨⟨fxu.2.2.2.2.2.2.1⟩⟩, .bool fxu.2.2.2.2.2.2.2] 24)] ∧ K r0 r1 fxu) := by
  refine CallsH.enter 55 [(0, .pointer (some ⟨bxu, 0, none⟩)), (1, .string ⟨⟨xs⟩⟩)] Tryz.func33 rfl (by kernel_rfl) (by kernel_rfl) (by kernel_rfl) fun w0 => ?_
  refine Ok.seq ?_
  refine Ok.region ?_
  refine Ok.batch 2 [(0, .pointer (some ⟨bxu, 0, none⟩)), (1, .string ⟨⟨xs⟩⟩)] (by kernel_rfl) ?_
  refine Ok.nil ?_
  refine Ok.thenN ?_
  refine Ok.seq ?_
  refine Ok.region ?_
  refine Ok.batch 1 [(0, .pointer (some ⟨bxu, 0, none⟩)), (13, .string ⟨⟨xs⟩⟩)] (by kernel_rfl) ?_
  obtain ⟨hp1, hF⟩ := hF
  refine Ok.op rfl (OpOk.callG (v := .tuple #[.string ⟨⟨(prtS xs ([35] : List UInt8)).1⟩⟩, .string ⟨⟨(prtS xs ([35] : List UInt8)).2⟩⟩]) (enters (by kernel_rfl) (fun _ => by kernel_rfl)) (fun W hW => rprt_c xs ([35] : List UInt8) (hG0.mono hW.sees) hp1) rfl ?_)
  refine Ok.batch 5 [(0, .pointer (some ⟨bxu, 0, none⟩)), (6, .string ⟨⟨(prtS xs ([35] : List UInt8)).1⟩⟩), (7, .string ⟨⟨(prtS xs ([35] : List UInt8)).2⟩⟩)] (by kernel_rfl) ?_
  refine Ok.nil ?_
  refine Ok.thenN ?_
  refine Ok.seq ?_
  refine Ok.region ?_
  refine Ok.batch 1 [(0, .pointer (some ⟨bxu, 0, none⟩)), (7, .string ⟨⟨(prtS xs ([35] : List UInt8)).2⟩⟩), (18, .string ⟨⟨(prtS xs ([35] : List UInt8)).1⟩⟩)] (by kernel_rfl) ?_
  obtain ⟨hp2, hF⟩ := hF
  refine Ok.op rfl (OpOk.callG (v := .tuple #[.string ⟨⟨(prtS ((prtS xs ([35] : List UInt8)).1) ([63] : List UInt8)).1⟩⟩, .string ⟨⟨(prtS ((prtS xs ([35] : List UInt8)).1) ([63] : List UInt8)).2⟩⟩]) (enters (by kernel_rfl) (fun _ => by kernel_rfl)) (fun W hW => rprt_c ((prtS xs ([35] : List UInt8)).1) ([63] : List UInt8) (hG0.mono hW.sees) hp2) rfl ?_)
  refine Ok.batch 5 [(0, .pointer (some ⟨bxu, 0, none⟩)), (7, .string ⟨⟨(prtS xs ([35] : List UInt8)).2⟩⟩), (8, .string ⟨⟨(prtS ((prtS xs ([35] : List UInt8)).1) ([63] : List UInt8)).1⟩⟩), (9, .string ⟨⟨(prtS ((prtS xs ([35] : List UInt8)).1) ([63] : List UInt8)).2⟩⟩)] (by kernel_rfl) ?_
  refine Ok.nil ?_
  refine Ok.thenN ?_
  refine Ok.seq ?_
  refine Ok.region ?_
  refine Ok.batch 3 [(0, .pointer (some ⟨bxu, 0, none⟩)), (7, .string ⟨⟨(prtS xs ([35] : List UInt8)).2⟩⟩), (8, .string ⟨⟨(prtS ((prtS xs ([35] : List UInt8)).1) ([63] : List UInt8)).1⟩⟩), (9, .string ⟨⟨(prtS ((prtS xs ([35] : List UInt8)).1) ([63] : List UInt8)).2⟩⟩), (22, .pointer (some ⟨bxu, 0, none⟩)), (23, .pointer (some ⟨bxu, 0, none⟩)), (24, .string ⟨⟨(prtS ((prtS xs ([35] : List UInt8)).1) ([63] : List UInt8)).2⟩⟩)] (by kernel_rfl) ?_
  refine Ok.op rfl (OpOk.step (v := .bool (!(((prtS ((prtS xs ([35] : List UInt8)).1) ([63] : List UInt8)).2) == ([] : List UInt8)))) (Yields.strCmp (f := .neq) (a := ((prtS ((prtS xs ([35] : List UInt8)).1) ([63] : List UInt8)).2)) (b := ([] : List UInt8)) (by kernel_rfl) (by kernel_rfl) rfl) rfl rfl ?_)
  refine Ok.batch 1 [(0, .pointer (some ⟨bxu, 0, none⟩)), (7, .string ⟨⟨(prtS xs ([35] : List UInt8)).2⟩⟩), (8, .string ⟨⟨(prtS ((prtS xs ([35] : List UInt8)).1) ([63] : List UInt8)).1⟩⟩), (9, .string ⟨⟨(prtS ((prtS xs ([35] : List UInt8)).1) ([63] : List UInt8)).2⟩⟩), (22, .pointer (some ⟨bxu, 0, none⟩)), (23, .pointer (some ⟨bxu, 0, none⟩)), (25, .bool (!(((prtS ((prtS xs ([35] : List UInt8)).1) ([63] : List UInt8)).2) == ([] : List UInt8)))), (26, .string ⟨⟨(prtS xs ([35] : List UInt8)).2⟩⟩)] (by kernel_rfl) ?_
  refine Ok.op rfl (OpOk.step (v := .bool (!(((prtS xs ([35] : List UInt8)).2) == ([] : List UInt8)))) (Yields.strCmp (f := .neq) (a := ((prtS xs ([35] : List UInt8)).2)) (b := ([] : List UInt8)) (by kernel_rfl) (by kernel_rfl) rfl) rfl rfl ?_)
  refine Ok.batch 2 [(0, .pointer (some ⟨bxu, 0, none⟩)), (7, .string ⟨⟨(prtS xs ([35] : List UInt8)).2⟩⟩), (8, .string ⟨⟨(prtS ((prtS xs ([35] : List UInt8)).1) ([63] : List UInt8)).1⟩⟩), (9, .string ⟨⟨(prtS ((prtS xs ([35] : List UInt8)).1) ([63] : List UInt8)).2⟩⟩), (23, .pointer (some ⟨bxu, 0, none⟩)), (25, .bool (!(((prtS ((prtS xs ([35] : List UInt8)).1) ([63] : List UInt8)).2) == ([] : List UInt8)))), (27, .bool (!(((prtS xs ([35] : List UInt8)).2) == ([] : List UInt8)))), (29, .pointer (some ⟨bxu, 5, none⟩))] (by kernel_rfl) ?_
  refine Ok.op rfl (OpOk.store (k := 1) (v := .bool (!(((prtS ((prtS xs ([35] : List UInt8)).1) ([63] : List UInt8)).2) == ([] : List UInt8)))) (H' := [.blk bxu (.cells #[.string ⟨⟨xu.1⟩⟩, .string ⟨⟨xu.2.1⟩⟩, .int .i64 xu.2.2.1, .slice axu_0 xu.2.2.2.1.length cxu_0, .string ⟨⟨xu.2.2.2.2.1⟩⟩, .bool (!(((prtS ((prtS xs ([35] : List UInt8)).1) ([63] : List UInt8)).2) == ([] : List UInt8))), .string ⟨⟨xu.2.2.2.2.2.2.1⟩⟩, .bool xu.2.2.2.2.2.2.2] 24)]) 0 rfl rfl rfl (by kernel_rfl) (by kernel_rfl) (by kernel_rfl) (by kernel_rfl) (by kernel_rfl) ?_)
  refine Ok.batch 2 [(0, .pointer (some ⟨bxu, 0, none⟩)), (7, .string ⟨⟨(prtS xs ([35] : List UInt8)).2⟩⟩), (8, .string ⟨⟨(prtS ((prtS xs ([35] : List UInt8)).1) ([63] : List UInt8)).1⟩⟩), (9, .string ⟨⟨(prtS ((prtS xs ([35] : List UInt8)).1) ([63] : List UInt8)).2⟩⟩), (27, .bool (!(((prtS xs ([35] : List UInt8)).2) == ([] : List UInt8)))), (31, .pointer (some ⟨bxu, 7, none⟩))] (by kernel_rfl) ?_
  refine Ok.op rfl (OpOk.store (k := 1) (v := .bool (!(((prtS xs ([35] : List UInt8)).2) == ([] : List UInt8)))) (H' := [.blk bxu (.cells #[.string ⟨⟨xu.1⟩⟩, .string ⟨⟨xu.2.1⟩⟩, .int .i64 xu.2.2.1, .slice axu_0 xu.2.2.2.1.length cxu_0, .string ⟨⟨xu.2.2.2.2.1⟩⟩, .bool (!(((prtS ((prtS xs ([35] : List UInt8)).1) ([63] : List UInt8)).2) == ([] : List UInt8))), .string ⟨⟨xu.2.2.2.2.2.2.1⟩⟩, .bool (!(((prtS xs ([35] : List UInt8)).2) == ([] : List UInt8)))] 24)]) 0 rfl rfl rfl (by kernel_rfl) (by kernel_rfl) (by kernel_rfl) (by kernel_rfl) (by kernel_rfl) ?_)
  refine Ok.nil ?_
  refine Ok.thenN ?_
  refine Ok.seq ?_
  refine Ok.region ?_
  refine Ok.batch 2 [(0, .pointer (some ⟨bxu, 0, none⟩)), (7, .string ⟨⟨(prtS xs ([35] : List UInt8)).2⟩⟩), (8, .string ⟨⟨(prtS ((prtS xs ([35] : List UInt8)).1) ([63] : List UInt8)).1⟩⟩), (9, .string ⟨⟨(prtS ((prtS xs ([35] : List UInt8)).1) ([63] : List UInt8)).2⟩⟩)] (by kernel_rfl) ?_
  refine Ok.nil ?_
  refine Ok.thenN ?_
  refine Ok.seq ?_
  refine Ok.region ?_
  refine Ok.batch 2 [(0, .pointer (some ⟨bxu, 0, none⟩)), (7, .string ⟨⟨(prtS xs ([35] : List UInt8)).2⟩⟩), (8, .string ⟨⟨(prtS ((prtS xs ([35] : List UInt8)).1) ([63] : List UInt8)).1⟩⟩), (33, .pointer (some ⟨bxu, 0, none⟩)), (34, .string ⟨⟨(prtS ((prtS xs ([35] : List UInt8)).1) ([63] : List UInt8)).2⟩⟩)] (by kernel_rfl) ?_
  refine Ok.op rfl (OpOk.callG (v := .string ⟨⟨(tpfM ((prtS ((prtS xs ([35] : List UInt8)).1) ([63] : List UInt8)).2) ([63] : List UInt8))⟩⟩) (enters (by kernel_rfl) (fun _ => by kernel_rfl)) (fun W hW => tpf_c ((prtS ((prtS xs ([35] : List UInt8)).1) ([63] : List UInt8)).2) ([63] : List UInt8)) rfl ?_)
  obtain ⟨hp3, hF⟩ := hF
  refine Ok.op rfl (OpOk.callG (v := .tuple #[.string ⟨⟨(cleanS (tpfM ((prtS ((prtS xs ([35] : List UInt8)).1) ([63] : List UInt8)).2) ([63] : List UInt8))).1⟩⟩, .bool ((cleanS (tpfM ((prtS ((prtS xs ([35] : List UInt8)).1) ([63] : List UInt8)).2) ([63] : List UInt8))).2)]) (enters (by kernel_rfl) (fun _ => by kernel_rfl)) (fun W hW => rcle_c (tpfM ((prtS ((prtS xs ([35] : List UInt8)).1) ([63] : List UInt8)).2) ([63] : List UInt8)) (hG0.mono hW.sees) hp3) rfl ?_)
  refine Ok.batch 5 [(0, .pointer (some ⟨bxu, 0, none⟩)), (7, .string ⟨⟨(prtS xs ([35] : List UInt8)).2⟩⟩), (8, .string ⟨⟨(prtS ((prtS xs ([35] : List UInt8)).1) ([63] : List UInt8)).1⟩⟩), (37, .string ⟨⟨(cleanS (tpfM ((prtS ((prtS xs ([35] : List UInt8)).1) ([63] : List UInt8)).2) ([63] : List UInt8))).1⟩⟩), (38, .bool ((cleanS (tpfM ((prtS ((prtS xs ([35] : List UInt8)).1) ([63] : List UInt8)).2) ([63] : List UInt8))).2)), (40, .pointer (some ⟨bxu, 4, none⟩))] (by kernel_rfl) ?_
  refine Ok.op rfl (OpOk.store (k := 1) (v := .string ⟨⟨(cleanS (tpfM ((prtS ((prtS xs ([35] : List UInt8)).1) ([63] : List UInt8)).2) ([63] : List UInt8))).1⟩⟩) (H' := [.blk bxu (.cells #[.string ⟨⟨xu.1⟩⟩, .string ⟨⟨xu.2.1⟩⟩, .int .i64 xu.2.2.1, .slice axu_0 xu.2.2.2.1.length cxu_0, .string ⟨⟨(cleanS (tpfM ((prtS ((prtS xs ([35] : List UInt8)).1) ([63] : List UInt8)).2) ([63] : List UInt8))).1⟩⟩, .bool (!(((prtS ((prtS xs ([35] : List UInt8)).1) ([63] : List UInt8)).2) == ([] : List UInt8))), .string ⟨⟨xu.2.2.2.2.2.2.1⟩⟩, .bool (!(((prtS xs ([35] : List UInt8)).2) == ([] : List UInt8)))] 24)]) 0 rfl rfl rfl (by kernel_rfl) (by kernel_rfl) (by kernel_rfl) (by kernel_rfl) (by kernel_rfl) ?_)
  refine Ok.batch 1 [(0, .pointer (some ⟨bxu, 0, none⟩)), (7, .string ⟨⟨(prtS xs ([35] : List UInt8)).2⟩⟩), (8, .string ⟨⟨(prtS ((prtS xs ([35] : List UInt8)).1) ([63] : List UInt8)).1⟩⟩), (10, .bool ((cleanS (tpfM ((prtS ((prtS xs ([35] : List UInt8)).1) ([63] : List UInt8)).2) ([63] : List UInt8))).2))] (by kernel_rfl) ?_
  refine Ok.nil ?_
  refine Ok.thenN ?_
  refine Ok.seq ?_
  refine Ok.region ?_
  refine Ok.batch 2 [(8, .string ⟨⟨(prtS ((prtS xs ([35] : List UInt8)).1) ([63] : List UInt8)).1⟩⟩), (10, .bool ((cleanS (tpfM ((prtS ((prtS xs ([35] : List UInt8)).1) ([63] : List UInt8)).2) ([63] : List UInt8))).2)), (42, .pointer (some ⟨bxu, 0, none⟩)), (43, .string ⟨⟨(prtS xs ([35] : List UInt8)).2⟩⟩)] (by kernel_rfl) ?_
  refine Ok.op rfl (OpOk.callG (v := .string ⟨⟨(tpfM ((prtS xs ([35] : List UInt8)).2) ([35] : List UInt8))⟩⟩) (enters (by kernel_rfl) (fun _ => by kernel_rfl)) (fun W hW => tpf_c ((prtS xs ([35] : List UInt8)).2) ([35] : List UInt8)) rfl ?_)
  obtain ⟨hp4, hF⟩ := hF
  refine Ok.op rfl (OpOk.callG (v := .tuple #[.string ⟨⟨(cleanS (tpfM ((prtS xs ([35] : List UInt8)).2) ([35] : List UInt8))).1⟩⟩, .bool ((cleanS (tpfM ((prtS xs ([35] : List UInt8)).2) ([35] : List UInt8))).2)]) (enters (by kernel_rfl) (fun _ => by kernel_rfl)) (fun W hW => rcle_c (tpfM ((prtS xs ([35] : List UInt8)).2) ([35] : List UInt8)) (hG0.mono hW.sees) hp4) rfl ?_)
  refine Ok.batch 5 [(8, .string ⟨⟨(prtS ((prtS xs ([35] : List UInt8)).1) ([63] : List UInt8)).1⟩⟩), (10, .bool ((cleanS (tpfM ((prtS ((prtS xs ([35] : List UInt8)).1) ([63] : List UInt8)).2) ([63] : List UInt8))).2)), (46, .string ⟨⟨(cleanS (tpfM ((prtS xs ([35] : List UInt8)).2) ([35] : List UInt8))).1⟩⟩), (47, .bool ((cleanS (tpfM ((prtS xs ([35] : List UInt8)).2) ([35] : List UInt8))).2)), (49, .pointer (some ⟨bxu, 6, none⟩))] (by kernel_rfl) ?_
  refine Ok.op rfl (OpOk.store (k := 1) (v := .string ⟨⟨(cleanS (tpfM ((prtS xs ([35] : List UInt8)).2) ([35] : List UInt8))).1⟩⟩) (H' := [.blk bxu (.cells #[.string ⟨⟨xu.1⟩⟩, .string ⟨⟨xu.2.1⟩⟩, .int .i64 xu.2.2.1, .slice axu_0 xu.2.2.2.1.length cxu_0, .string ⟨⟨(cleanS (tpfM ((prtS ((prtS xs ([35] : List UInt8)).1) ([63] : List UInt8)).2) ([63] : List UInt8))).1⟩⟩, .bool (!(((prtS ((prtS xs ([35] : List UInt8)).1) ([63] : List UInt8)).2) == ([] : List UInt8))), .string ⟨⟨(cleanS (tpfM ((prtS xs ([35] : List UInt8)).2) ([35] : List UInt8))).1⟩⟩, .bool (!(((prtS xs ([35] : List UInt8)).2) == ([] : List UInt8)))] 24)]) 0 rfl rfl rfl (by kernel_rfl) (by kernel_rfl) (by kernel_rfl) (by kernel_rfl) (by kernel_rfl) ?_)
  refine Ok.batch 1 [(8, .string ⟨⟨(prtS ((prtS xs ([35] : List UInt8)).1) ([63] : List UInt8)).1⟩⟩), (10, .bool ((cleanS (tpfM ((prtS ((prtS xs ([35] : List UInt8)).1) ([63] : List UInt8)).2) ([63] : List UInt8))).2)), (11, .bool ((cleanS (tpfM ((prtS xs ([35] : List UInt8)).2) ([35] : List UInt8))).2))] (by kernel_rfl) ?_
  refine Ok.nil ?_
  refine Ok.thenN ?_
  refine Ok.seq ?_
  refine Ok.region ?_
  refine Ok.batch 3 [(11, .bool ((cleanS (tpfM ((prtS xs ([35] : List UInt8)).2) ([35] : List UInt8))).2)), (50, .string ⟨⟨(prtS ((prtS xs ([35] : List UInt8)).1) ([63] : List UInt8)).1⟩⟩), (52, .bool ((cleanS (tpfM ((prtS ((prtS xs ([35] : List UInt8)).1) ([63] : List UInt8)).2) ([63] : List UInt8))).2))] (by kernel_rfl) ?_
  refine Ok.midway 2 [(50, .string ⟨⟨(prtS ((prtS xs ([35] : List UInt8)).1) ([63] : List UInt8)).1⟩⟩), (54, .bool (((cleanS (tpfM ((prtS ((prtS xs ([35] : List UInt8)).1) ([63] : List UInt8)).2) ([63] : List UInt8))).2) && ((cleanS (tpfM ((prtS xs ([35] : List UInt8)).2) ([35] : List UInt8))).2)))] (fun hR5 => ?_) ?_
  · refine Ok.boolAt 52 ((cleanS (tpfM ((prtS ((prtS xs ([35] : List UInt8)).1) ([63] : List UInt8)).2) ([63] : List UInt8))).2) rfl (fun hc6 => ?_) (fun hc6 => ?_)
    · skip
      refine Ok.batch 2 [(50, .string ⟨⟨(prtS ((prtS xs ([35] : List UInt8)).1) ([63] : List UInt8)).1⟩⟩), (54, .bool ((cleanS (tpfM ((prtS xs ([35] : List UInt8)).2) ([35] : List UInt8))).2))] (by kernel_rfl) ?_
      refine Ok.reval 54 rfl (show (.bool ((cleanS (tpfM ((prtS xs ([35] : List UInt8)).2) ([35] : List UInt8))).2) : Value) = .bool (((cleanS (tpfM ((prtS ((prtS xs ([35] : List UInt8)).1) ([63] : List UInt8)).2) ([63] : List UInt8))).2) && ((cleanS (tpfM ((prtS xs ([35] : List UInt8)).2) ([35] : List UInt8))).2)) from congrArg Value.bool (mand_t hc6)) ?_
      refine Ok.batch 0 [(50, .string ⟨⟨(prtS ((prtS xs ([35] : List UInt8)).1) ([63] : List UInt8)).1⟩⟩), (54, .bool (((cleanS (tpfM ((prtS ((prtS xs ([35] : List UInt8)).1) ([63] : List UInt8)).2) ([63] : List UInt8))).2) && ((cleanS (tpfM ((prtS xs ([35] : List UInt8)).2) ([35] : List UInt8))).2)))] (by kernel_rfl) ?_
      exact hR5
    · skip
      refine Ok.batch 2 [(50, .string ⟨⟨(prtS ((prtS xs ([35] : List UInt8)).1) ([63] : List UInt8)).1⟩⟩), (54, .bool false)] (by kernel_rfl) ?_
      refine Ok.reval 54 rfl (show (.bool false : Value) = .bool (((cleanS (tpfM ((prtS ((prtS xs ([35] : List UInt8)).1) ([63] : List UInt8)).2) ([63] : List UInt8))).2) && ((cleanS (tpfM ((prtS xs ([35] : List UInt8)).2) ([35] : List UInt8))).2)) from congrArg Value.bool (mand_f hc6)) ?_
      refine Ok.batch 0 [(50, .string ⟨⟨(prtS ((prtS xs ([35] : List UInt8)).1) ([63] : List UInt8)).1⟩⟩), (54, .bool (((cleanS (tpfM ((prtS ((prtS xs ([35] : List UInt8)).1) ([63] : List UInt8)).2) ([63] : List UInt8))).2) && ((cleanS (tpfM ((prtS xs ([35] : List UInt8)).2) ([35] : List UInt8))).2)))] (by kernel_rfl) ?_
      exact hR5
  refine Ok.batch 2 [(4, .string ⟨⟨(prtS ((prtS xs ([35] : List UInt8)).1) ([63] : List UInt8)).1⟩⟩), (5, .bool (((cleanS (tpfM ((prtS ((prtS xs ([35] : List UInt8)).1) ([63] : List UInt8)).2) ([63] : List UInt8))).2) && ((cleanS (tpfM ((prtS xs ([35] : List UInt8)).2) ([35] : List UInt8))).2)))] (by kernel_rfl) ?_
  refine Ok.nil ?_
  refine Ok.thenN ?_
  refine Ok.ret ?_
  exact Ok.resH (vs := [.string ⟨⟨(prtS ((prtS xs ([35] : List UInt8)).1) ([63] : List UInt8)).1⟩⟩, .bool (((cleanS (tpfM ((prtS ((prtS xs ([35] : List UInt8)).1) ([63] : List UInt8)).2) ([63] : List UInt8))).2) && ((cleanS (tpfM ((prtS xs ([35] : List UInt8)).2) ([35] : List UInt8))).2))]) (.inl rfl) rfl (.cons (.tmp rfl) (.cons (.tmp rfl) .nil)) (Gext.refl w0 g) ⟨((prtS ((prtS xs ([35] : List UInt8)).1) ([63] : List UInt8)).1), (((cleanS (tpfM ((prtS ((prtS xs ([35] : List UInt8)).1) ([63] : List UInt8)).2) ([63] : List UInt8))).2) && ((cleanS (tpfM ((prtS xs ([35] : List UInt8)).2) ([35] : List UInt8))).2)), (xu.1, xu.2.1, xu.2.2.1, xu.2.2.2.1, (cleanS (tpfM ((prtS ((prtS xs ([35] : List UInt8)).1) ([63] : List UInt8)).2) ([63] : List UInt8))).1, !(((prtS ((prtS xs ([35] : List UInt8)).1) ([63] : List UInt8)).2) == ([] : List UInt8)), (cleanS (tpfM ((prtS xs ([35] : List UInt8)).2) ([35] : List UInt8))).1, !(((prtS xs ([35] : List UInt8)).2) == ([] : List UInt8))), axu_0, cxu_0, rfl, hRxu_0, rfl, hF⟩
theorem rtai_F (u : JU) (s : List UInt8) (hp : tailP u s) : rtaiF u s (fun a b c => (a, b, c) = tailS u s) := by
  unfold tailP smP at hp
  obtain ⟨a1, a2, a3⟩ := prt_cut 35 (by decide) s
  have c1 := cutS_len 35 s
  obtain ⟨b1, b2, b3⟩ := prt_cut 63 (by decide) (cutS s [35]).1
  have c2 := cutS_len 63 (cutS s [35]).1
  have hlen := prt_len s [35]
  unfold rtaiF
  rw [a1, a2, a3, b1, b2, b3]
  refine ⟨⟨by omega, by decide⟩, ⟨by omega, by decide⟩, by unfold smP; omega, by unfold smP; omega, by rw [tailS_eq]; rfl⟩
set_option linter.unusedVariables false in
theorem rtai_c {g : Ghost} {bxu : Nat} {axu_0 : Option Addr} {cxu_0 : Nat} (xu : List UInt8 × List UInt8 × Int × List (List UInt8) × List UInt8 × Bool × List UInt8 × Bool) (xs : List UInt8) (hRxu_0 : Rep g (.slice (.str)) [.slice axu_0 xu.2.2.2.1.length cxu_0] xu.2.2.2.1) (hG0 : SomeInt g 0)  (hp : tailP xu xs) : CallsH Tryz.prog 33 #[.pointer (some ⟨bxu, 0, none⟩), .string ⟨⟨xs⟩⟩] g [.blk bxu (.cells #[.string ⟨⟨xu.1⟩⟩, .string ⟨⟨xu.2.1⟩⟩, .int .i64 xu.2.2.1, .slice axu_0 xu.2.2.2.1.length cxu_0, .string ⟨⟨xu.2.2.2.2.1⟩⟩, .bool xu.2.2.2.2.2.1, .string ⟨⟨xu.2.2.2.2.2.2.1⟩⟩, .bool xu.2.2.2.2.2.2.2] 24)] (fun g' H' v => ∃ (afxu_0 : Option Addr) (cfxu_0 : Nat), v = .tuple #[.string ⟨⟨((tailS xu xs).1)⟩⟩, .bool ((tailS xu xs).2.1)] ∧ Rep g' (.slice (.str)) [.slice afxu_0 ((tailS xu xs).2.2).2.2.2.1.length cfxu_0] ((tailS xu xs).2.2).2.2.2.1 ∧ H' = [.blk bxu (.cells #[.string ⟨⟨((tailS xu xs).2.2).1⟩⟩, .string ⟨⟨((tailS xu xs).2.2).2.1⟩⟩, .int .i64 ((tailS xu xs).2.2).2.2.1, .slice afxu_0 ((tailS xu xs).2.2).2.2.2.1.length cfxu_0, .string ⟨⟨((tailS xu xs).2.2).2.2.2.2.1⟩⟩, .bool ((tailS xu xs).2.2).2.2.2.2.2.1, .string ⟨⟨((tailS xu xs).2.2).2.2.2.2.2.2.1⟩⟩, .bool ((tailS xu xs).2.2).2.2.2.2.2.2.2] 24)]) :=
  (rtai_ok xu xs hRxu_0 hG0 _ (rtai_F xu xs hp)).mono (by rintro g' H' v _ ⟨r0, r1, fxu, afxu_0, cfxu_0, rfl, hRfxu_0, rfl, hK⟩; obtain ⟨rfl, rfl, rfl⟩ : r0 = (tailS xu xs).1 ∧ r1 = (tailS xu xs).2.1 ∧ fxu = (tailS xu xs).2.2 := ⟨congrArg (fun z => z.1) hK, congrArg (fun z => z.2.1) hK, congrArg (fun z => z.2.2) hK⟩; exact ⟨afxu_0, cfxu_0, rfl, hRfxu_0, rfl⟩)
/-! OriginOf -/
def roriV0 (xu : List UInt8 × List UInt8 × Int × List (List UInt8) × List UInt8 × Bool × List UInt8 × Bool) : List UInt8 :=
  (if (xu.2.2.1 != 0) = true then ((xu.1 ++ ([58, 47, 47] : List UInt8)) ++ xu.2.1) ++ (([58] : List UInt8) ++ (itoaS xu.2.2.1)) else (xu.1 ++ ([58, 47, 47] : List UInt8)) ++ xu.2.1)
def rorij5 (xu : List UInt8 × List UInt8 × Int × List (List UInt8) × List UInt8 × Bool × List UInt8 × Bool) (K : (List UInt8) → Prop) : Prop :=
  K (roriV0 xu)
def roriF (xu : List UInt8 × List UInt8 × Int × List (List UInt8) × List UInt8 × Bool × List UInt8 × Bool) (K : (List UInt8) → Prop) : Prop :=
  xu.1.length + ([58, 47, 47] : List UInt8).length ≤ maxLen ∧ (xu.1 ++ ([58, 47, 47] : List UInt8)).length + xu.2.1.length ≤ maxLen ∧ (((xu.2.2.1 != 0)) = true → itoaP xu.2.2.1 ∧ ([58] : List UInt8).length + (itoaS xu.2.2.1).length ≤ maxLen ∧ ((xu.1 ++ ([58, 47, 47] : List UInt8)) ++ xu.2.1).length + (([58] : List UInt8) ++ (itoaS xu.2.2.1)).length ≤ maxLen ∧ rorij5 xu K) ∧ (((xu.2.2.1 != 0)) = false → rorij5 xu K)
set_option maxHeartbeats 4000000 in
set_option maxRecDepth 100000 in
set_option linter.unusedVariables false in
theorem rori_ok {g : Ghost} {axu_0 : Option Addr} {cxu_0 : Nat} (xu : List UInt8 × List UInt8 × Int × List (List UInt8) × List UInt8 × Bool × List UInt8 × Bool) (hRxu_0 : Rep g (.slice (.str)) [.slice axu_0 xu.2.2.2.1.length cxu_0] xu.2.2.2.1) (hG3 : GlobL g 3 (.int .u64) DPow) (K : (List UInt8) → Prop)
    (hF : roriF xu K) : CallsH Tryz.prog 10 #[.agg #[.string ⟨⟨xu.1⟩⟩, .string ⟨⟨xu.2.1⟩⟩, .int .i64 xu.2.2.1, .slice axu_0 xu.2.2.2.1.length cxu_0, .string ⟨⟨xu.2.2.2.2.1⟩⟩, .bool xu.2.2.2.2.2.1, .string ⟨⟨xu.2.2.2.2.2.2.1⟩⟩, .bool xu.2.2.2.2.2.2.2]] g [] (fun g' H' v => ∃ (r0 : List UInt8), v = .string ⟨⟨r0⟩⟩ ∧ H' = [] ∧ K r0) := by
  refine CallsH.enter 20 [(0, .agg #[.string ⟨⟨xu.1⟩⟩, .string ⟨⟨xu.2.1⟩⟩, .int .i64 xu.2.2.1, .slice axu_0 xu.2.2.2.1.length cxu_0, .string ⟨⟨xu.2.2.2.2.1⟩⟩, .bool xu.2.2.2.2.2.1, .string ⟨⟨xu.2.2.2.2.2.2.1⟩⟩, .bool xu.2.2.2.2.2.2.2])] Tryz.func10 rfl (by kernel_rfl) (by kernel_rfl) (by kernel_rfl) fun w0 => ?_
  refine Ok.seq ?_
  refine Ok.region ?_
  refine Ok.op rfl (OpOk.box (v := .agg #[.string ⟨⟨xu.1⟩⟩, .string ⟨⟨xu.2.1⟩⟩, .int .i64 xu.2.2.1, .slice axu_0 xu.2.2.2.1.length cxu_0, .string ⟨⟨xu.2.2.2.2.1⟩⟩, .bool xu.2.2.2.2.2.1, .string ⟨⟨xu.2.2.2.2.2.2.1⟩⟩, .bool xu.2.2.2.2.2.2.2]) (cs := #[.string ⟨⟨xu.1⟩⟩, .string ⟨⟨xu.2.1⟩⟩, .int .i64 xu.2.2.1, .slice axu_0 xu.2.2.2.1.length cxu_0, .string ⟨⟨xu.2.2.2.2.1⟩⟩, .bool xu.2.2.2.2.2.1, .string ⟨⟨xu.2.2.2.2.2.2.1⟩⟩, .bool xu.2.2.2.2.2.2.2]) rfl (by kernel_rfl) rfl fun b1 => ?_)
  refine Ok.batch 1 [(1, .pointer (some ⟨b1, 0, none⟩))] (by kernel_rfl) ?_
  refine Ok.nil ?_
  refine Ok.thenN ?_
  refine Ok.seq ?_
  refine Ok.region ?_
  refine Ok.batch 1 [(1, .pointer (some ⟨b1, 0, none⟩)), (4, .pointer (some ⟨b1, 0, none⟩))] (by kernel_rfl) ?_
  refine Ok.op rfl (OpOk.step (v := .string ⟨⟨xu.1⟩⟩) (Yields.load 0 rfl rfl Tryz.underlying9 rfl (by kernel_rfl)) rfl rfl ?_)
  obtain ⟨hv, hF⟩ := hF
  refine Ok.op rfl (OpOk.step (v := .string ⟨⟨xu.1 ++ ([58, 47, 47] : List UInt8)⟩⟩) (Yields.strAdd rfl rfl hv) rfl rfl ?_)
  refine Ok.batch 1 [(1, .pointer (some ⟨b1, 0, none⟩)), (6, .string ⟨⟨xu.1 ++ ([58, 47, 47] : List UInt8)⟩⟩), (7, .pointer (some ⟨b1, 1, none⟩))] (by kernel_rfl) ?_
  refine Ok.op rfl (OpOk.step (v := .string ⟨⟨xu.2.1⟩⟩) (Yields.load 0 rfl rfl Tryz.underlying9 rfl (by kernel_rfl)) rfl rfl ?_)
  obtain ⟨hv, hF⟩ := hF
  refine Ok.op rfl (OpOk.step (v := .string ⟨⟨(xu.1 ++ ([58, 47, 47] : List UInt8)) ++ xu.2.1⟩⟩) (Yields.strAdd rfl rfl hv) rfl rfl ?_)
  refine Ok.batch 1 [(1, .pointer (some ⟨b1, 0, none⟩)), (3, .string ⟨⟨(xu.1 ++ ([58, 47, 47] : List UInt8)) ++ xu.2.1⟩⟩)] (by kernel_rfl) ?_
  refine Ok.nil ?_
  refine Ok.thenN ?_
  refine Ok.cut (fun a W => StA 20 [(3, .string ⟨⟨(roriV0 xu)⟩⟩)] a ∧ StW w0 [] g W ∧ rorij5 xu K) ?_ ?_
  ·
    refine Ok.seq ?_
    refine Ok.region ?_
    refine Ok.batch 1 [(1, .pointer (some ⟨b1, 0, none⟩)), (3, .string ⟨⟨(xu.1 ++ ([58, 47, 47] : List UInt8)) ++ xu.2.1⟩⟩), (10, .pointer (some ⟨b1, 2, none⟩))] (by kernel_rfl) ?_
    refine Ok.op rfl (OpOk.step (v := .int .i64 xu.2.2.1) (Yields.load 0 rfl rfl Tryz.underlying3 rfl (by kernel_rfl)) rfl rfl ?_)
    refine Ok.batch 1 [(1, .pointer (some ⟨b1, 0, none⟩)), (3, .string ⟨⟨(xu.1 ++ ([58, 47, 47] : List UInt8)) ++ xu.2.1⟩⟩), (12, .bool (xu.2.2.1 != 0))] (by kernel_rfl) ?_
    refine Ok.nil ?_
    refine Ok.thenN ?_
    refine Ok.cond (b := (xu.2.2.1 != 0)) rfl (fun hc2 => ?_) (fun hc2 => ?_)
    · replace hF := hF.1 hc2
      refine Ok.region ?_
      refine Ok.batch 2 [(13, .string ⟨⟨(xu.1 ++ ([58, 47, 47] : List UInt8)) ++ xu.2.1⟩⟩), (14, .pointer (some ⟨b1, 2, none⟩))] (by kernel_rfl) ?_
      refine Ok.op rfl (OpOk.step (v := .int .i64 xu.2.2.1) (Yields.load 0 rfl rfl Tryz.underlying3 rfl (by kernel_rfl)) rfl rfl ?_)
      obtain ⟨hp3, hF⟩ := hF
      refine Ok.op rfl (OpOk.callG (v := .string ⟨⟨(itoaS xu.2.2.1)⟩⟩) (enters (by kernel_rfl) (fun _ => by kernel_rfl)) (fun W hW => itoa_c xu.2.2.1 (hG3.mono hW.sees) hp3) rfl ?_)
      obtain ⟨hv, hF⟩ := hF
      refine Ok.op rfl (OpOk.step (v := .string ⟨⟨([58] : List UInt8) ++ (itoaS xu.2.2.1)⟩⟩) (Yields.strAdd rfl rfl hv) rfl rfl ?_)
      obtain ⟨hv, hF⟩ := hF
      refine Ok.op rfl (OpOk.step (v := .string ⟨⟨((xu.1 ++ ([58, 47, 47] : List UInt8)) ++ xu.2.1) ++ (([58] : List UInt8) ++ (itoaS xu.2.2.1))⟩⟩) (Yields.strAdd rfl rfl hv) rfl rfl ?_)
      refine Ok.batch 1 [(3, .string ⟨⟨((xu.1 ++ ([58, 47, 47] : List UInt8)) ++ xu.2.1) ++ (([58] : List UInt8) ++ (itoaS xu.2.2.1))⟩⟩)] (by kernel_rfl) ?_
      refine Ok.nil ?_
      refine Ok.thenN ?_
      refine Ok.reval 3 rfl (show (.string ⟨⟨((xu.1 ++ ([58, 47, 47] : List UInt8)) ++ xu.2.1) ++ (([58] : List UInt8) ++ (itoaS xu.2.2.1))⟩⟩ : Value) = .string ⟨⟨(roriV0 xu)⟩⟩ from congrArg ((fun s : List UInt8 => Value.string ⟨⟨s⟩⟩)) ((if_t hc2).symm)) ?_
      exact fun a W hA hW => ⟨hA.sub (by kernel_rfl), hW.sub (.cons _ .slnil), hF⟩
    · replace hF := hF.2 hc2
      refine Ok.skip ?_
      refine Ok.thenN ?_
      refine Ok.reval 3 rfl (show (.string ⟨⟨(xu.1 ++ ([58, 47, 47] : List UInt8)) ++ xu.2.1⟩⟩ : Value) = .string ⟨⟨(roriV0 xu)⟩⟩ from congrArg ((fun s : List UInt8 => Value.string ⟨⟨s⟩⟩)) ((if_f hc2).symm)) ?_
      exact fun a W hA hW => ⟨hA.sub (by kernel_rfl), hW.sub (.cons _ .slnil), hF⟩
  ·
    clear hF
    rintro a W ⟨hA, hW, hF⟩
    refine (?_ : Ok _ _ _ _ _ _) a W hA hW
    clear hA hW
    refine Ok.seq ?_
    refine Ok.region ?_
    refine Ok.batch 2 [(2, .string ⟨⟨(roriV0 xu)⟩⟩)] (by kernel_rfl) ?_
    refine Ok.nil ?_
    refine Ok.thenN ?_
    refine Ok.ret ?_
    exact Ok.resH (vs := [.string ⟨⟨(roriV0 xu)⟩⟩]) (.inl rfl) rfl (.cons (.tmp rfl) .nil) (Gext.refl w0 g) ⟨(roriV0 xu), rfl, rfl, hF⟩
theorem rori_F (u : JU) (hp : oriP u) : roriF u (fun r => r = oriS u) := by
  obtain ⟨h1, h2, h3⟩ := hp
  have h4 := itoa_len h3
  unfold roriF
  simp only [List.length_append, List.length_cons, List.length_nil, maxLen_eq]
  exact ⟨by omega, by omega, fun _ => ⟨h3, by omega, by omega, rfl⟩, fun _ => rfl⟩
set_option linter.unusedVariables false in
theorem rori_c {g : Ghost} {axu_0 : Option Addr} {cxu_0 : Nat} (xu : List UInt8 × List UInt8 × Int × List (List UInt8) × List UInt8 × Bool × List UInt8 × Bool) (hRxu_0 : Rep g (.slice (.str)) [.slice axu_0 xu.2.2.2.1.length cxu_0] xu.2.2.2.1) (hG3 : GlobL g 3 (.int .u64) DPow)  (hp : oriP xu) : CallsG Tryz.prog 10 #[.agg #[.string ⟨⟨xu.1⟩⟩, .string ⟨⟨xu.2.1⟩⟩, .int .i64 xu.2.2.1, .slice axu_0 xu.2.2.2.1.length cxu_0, .string ⟨⟨xu.2.2.2.2.1⟩⟩, .bool xu.2.2.2.2.2.1, .string ⟨⟨xu.2.2.2.2.2.2.1⟩⟩, .bool xu.2.2.2.2.2.2.2]] g (.string ⟨⟨(oriS xu)⟩⟩) :=
  (rori_ok xu hRxu_0 hG3 _ (rori_F xu hp)).gives (by rintro g' H' v _ ⟨r0, rfl, rfl, hK⟩; subst hK; rfl)
end
end Go.Proofs.YthgabkffamgfaaaGreatDoor.Ub
