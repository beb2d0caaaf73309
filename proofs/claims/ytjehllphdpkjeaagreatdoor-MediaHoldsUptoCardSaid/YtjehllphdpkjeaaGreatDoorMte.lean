/- media: pieces, tokens, Read. -/
import Derived.Test.YtjehllphdpkjeaaGreatDoorMtd
namespace Go.Proofs.YtjehllphdpkjeaaGreatDoor.Me
open Go Go.Eng Go.RowKit Go.Shelf Go.Proofs Bld Trm Css Ti
set_option linter.unusedVariables false
def mpiV4 (xl : List (Int × List UInt8 × List UInt8 × Int)) (x5l11 : Int) : Int :=
  (if ((endS (xl.drop (Int.toNat x5l11))) == 0) = true then IntKind.wrap .i64 ((xl.length : Int) - x5l11) else (endS (xl.drop (Int.toNat x5l11))))
def mpiV8 (xl : List (Int × List UInt8 × List UInt8 × Int)) (x4l11 : Int) (x5l11 : Int) : Int :=
  (if (((xl.getD (Int.toNat x5l11) default).1 == 10) || ((xl.getD (Int.toNat x5l11) default).1 == 2)) = true then x4l11 else (if (((xl.getD (Int.toNat x5l11) default).1 == 12) && ((xl.getD (Int.toNat x5l11) default).2.1 == ([44] : List UInt8))) = true then IntKind.wrap .i64 (x5l11 + 1) else x4l11))
def mpiV9 (xl : List (Int × List UInt8 × List UInt8 × Int)) (x5l11 : Int) : Int :=
  (if (((xl.getD (Int.toNat x5l11) default).1 == 10) || ((xl.getD (Int.toNat x5l11) default).1 == 2)) = true then IntKind.wrap .i64 (x5l11 + (IntKind.wrap .i64 ((mpiV4 xl x5l11) - 1))) else x5l11)
def mpiV10 (xl : List (Int × List UInt8 × List UInt8 × Int)) (x4l11 : Int) (x5l11 : Int) (yown1_0l11 : List (List (Int × List UInt8 × List UInt8 × Int))) : List (List (Int × List UInt8 × List UInt8 × Int)) :=
  (if (((xl.getD (Int.toNat x5l11) default).1 == 10) || ((xl.getD (Int.toNat x5l11) default).1 == 2)) = true then yown1_0l11 else (if (((xl.getD (Int.toNat x5l11) default).1 == 12) && ((xl.getD (Int.toNat x5l11) default).2.1 == ([44] : List UInt8))) = true then (yown1_0l11 ++ ([((xl.take (Int.toNat x5l11)).drop (Int.toNat x4l11))] : List (List (Int × List UInt8 × List UInt8 × Int)))) else yown1_0l11))
def mpij18 (xl : List (Int × List UInt8 × List UInt8 × Int)) (x4l11 : Int) (x5l11 : Int) (yown1_0l11 : List (List (Int × List UInt8 × List UInt8 × Int))) (C11 : Int → Int → (List (List (Int × List UInt8 × List UInt8 × Int))) → Prop) : Prop :=
  C11 (mpiV8 xl x4l11 x5l11) (IntKind.wrap .i64 ((mpiV9 xl x5l11) + 1)) (mpiV10 xl x4l11 x5l11 yown1_0l11)
def mpij28 (xl : List (Int × List UInt8 × List UInt8 × Int)) (x4l11 : Int) (x5l11 : Int) (yown1_0l11 : List (List (Int × List UInt8 × List UInt8 × Int))) (C11 : Int → Int → (List (List (Int × List UInt8 × List UInt8 × Int))) → Prop) : Prop :=
  mpij18 xl x4l11 x5l11 yown1_0l11 C11
def mpij35 (xl : List (Int × List UInt8 × List UInt8 × Int)) (e4 : Int × List UInt8 × List UInt8 × Int) (x4l11 : Int) (x5l11 : Int) (yown1_0l11 : List (List (Int × List UInt8 × List UInt8 × Int))) (C11 : Int → Int → (List (List (Int × List UInt8 × List UInt8 × Int))) → Prop) : Prop :=
  ((((e4.1 == 12) && (e4.2.1 == ([44] : List UInt8)))) = true → (0 : Int) ≤ x4l11 ∧ (x4l11 : Int) ≤ x5l11 ∧ x5l11 ≤ (xl.length : Int) ∧ (yown1_0l11 ++ ([((xl.take (Int.toNat x5l11)).drop (Int.toNat x4l11))] : List (List (Int × List UInt8 × List UInt8 × Int)))).length ≤ 5864062014805 ∧ mpij18 xl x4l11 x5l11 yown1_0l11 C11) ∧ ((((e4.1 == 12) && (e4.2.1 == ([44] : List UInt8)))) = false → mpij18 xl x4l11 x5l11 yown1_0l11 C11)
def mpij23 (xl : List (Int × List UInt8 × List UInt8 × Int)) (e4 : Int × List UInt8 × List UInt8 × Int) (x4l11 : Int) (x5l11 : Int) (yown1_0l11 : List (List (Int × List UInt8 × List UInt8 × Int))) (C11 : Int → Int → (List (List (Int × List UInt8 × List UInt8 × Int))) → Prop) : Prop :=
  ((((e4.1 == 10) || (e4.1 == 2))) = true → (0 : Int) ≤ x5l11 ∧ (x5l11 : Int) ≤ (xl.length : Int) ∧ (xl.length : Int) ≤ (xl.length : Int) ∧ endP (xl.drop (Int.toNat x5l11)) ∧ ((((endS (xl.drop (Int.toNat x5l11))) == 0)) = true → mpij28 xl x4l11 x5l11 yown1_0l11 C11) ∧ ((((endS (xl.drop (Int.toNat x5l11))) == 0)) = false → mpij28 xl x4l11 x5l11 yown1_0l11 C11)) ∧ ((((e4.1 == 10) || (e4.1 == 2))) = false → (((e4.1 == 12)) = true → mpij35 xl e4 x4l11 x5l11 yown1_0l11 C11) ∧ (((e4.1 == 12)) = false → mpij35 xl e4 x4l11 x5l11 yown1_0l11 C11))
def mpil11b (xl : List (Int × List UInt8 × List UInt8 × Int)) (K : (List (List (Int × List UInt8 × List UInt8 × Int))) → Prop) (x4l11 : Int) (x5l11 : Int) (yown1_0l11 : List (List (Int × List UInt8 × List UInt8 × Int))) (C11 : Int → Int → (List (List (Int × List UInt8 × List UInt8 × Int))) → Prop) : Prop :=
  ((decide (x5l11 < (xl.length : Int))) = true → (0 : Int) ≤ x5l11 ∧ Int.toNat x5l11 < xl.length ∧ ((((xl.getD (Int.toNat x5l11) default).1 == 10)) = true → mpij23 xl (xl.getD (Int.toNat x5l11) default) x4l11 x5l11 yown1_0l11 C11) ∧ ((((xl.getD (Int.toNat x5l11) default).1 == 10)) = false → mpij23 xl (xl.getD (Int.toNat x5l11) default) x4l11 x5l11 yown1_0l11 C11)) ∧ ((decide (x5l11 < (xl.length : Int))) = false → (0 : Int) ≤ x4l11 ∧ (x4l11 : Int) ≤ (xl.length : Int) ∧ (xl.length : Int) ≤ (xl.length : Int) ∧ (yown1_0l11 ++ ([(xl.drop (Int.toNat x4l11))] : List (List (Int × List UInt8 × List UInt8 × Int)))).length ≤ 5864062014805 ∧ K (yown1_0l11 ++ ([(xl.drop (Int.toNat x4l11))] : List (List (Int × List UInt8 × List UInt8 × Int)))))
def mpil11 (xl : List (Int × List UInt8 × List UInt8 × Int)) (K : (List (List (Int × List UInt8 × List UInt8 × Int))) → Prop) : Nat → Int → Int → (List (List (Int × List UInt8 × List UInt8 × Int))) → Prop
  | 0, _, _, _ => False
  | k + 1, x4l11, x5l11, yown1_0l11 => mpil11b xl K x4l11 x5l11 yown1_0l11 (mpil11 xl K k)
def mpiF (xl : List (Int × List UInt8 × List UInt8 × Int)) (K : (List (List (Int × List UInt8 × List UInt8 × Int))) → Prop) : Prop :=
  ∃ k, mpil11 xl K k 0 0 ([] : List (List (Int × List UInt8 × List UInt8 × Int)))
set_option maxHeartbeats 4000000 in
set_option maxRecDepth 100000 in
set_option linter.unusedVariables false in
theorem mpi_ok {g : Ghost} {axl_0 : Option Addr} {cxl_0 : Nat} (xl : List (Int × List UInt8 × List UInt8 × Int)) (hRxl_0 : Rep g (.slice (.pair (.int .i64) (.pair (.str) (.pair (.str) (.int .i64))))) [.slice axl_0 xl.length cxl_0] xl) (K : (List (List (Int × List UInt8 × List UInt8 × Int))) → Prop)
    (hF : mpiF xl K) : CallsH Tryz.prog 17 #[.slice axl_0 xl.length cxl_0] g [] (fun g' H' v => ∃ (r0 : List (List (Int × List UInt8 × List UInt8 × Int))), ∃ (ar0_0 : Option Addr) (cr0_0 : Nat), v = .slice ar0_0 r0.length cr0_0 ∧ Rep g' (.slice (.slice (.pair (.int .i64) (.pair (.str) (.pair (.str) (.int .i64)))))) [.slice ar0_0 r0.length cr0_0] r0 ∧ H' = [] ∧ K r0) := by
  refine CallsH.enter 65 [(0, .slice axl_0 xl.length cxl_0)] Tryz.func17 rfl (by kernel_rfl) (by kernel_rfl) (by kernel_rfl) fun w0 => ?_
  refine Ok.seq ?_
  refine Ok.region ?_
  refine Ok.batch 1 [(0, .slice axl_0 xl.length cxl_0)] (by kernel_rfl) ?_
  refine Ok.nil ?_
  refine Ok.thenN ?_
  refine Ok.seq ?_
  refine Ok.region ?_
  refine Ok.batch 1 [(0, .slice axl_0 xl.length cxl_0), (3, .slice none 0 0)] (by kernel_rfl) ?_
  have hL1 : RepL g (.slice (.pair (.int .i64) (.pair (.str) (.pair (.str) (.int .i64))))) [] [] := rfl
  refine Ok.ownNil 46 1 ?_
  refine Ok.nil ?_
  refine Ok.thenN ?_
  refine Ok.seq ?_
  refine Ok.region ?_
  refine Ok.batch 1 [(0, .slice axl_0 xl.length cxl_0), (3, .slice none ([] : List (List (Int × List UInt8 × List UInt8 × Int))).length 0), (4, .int .i64 0)] (by kernel_rfl) ?_
  refine Ok.nil ?_
  refine Ok.thenN ?_
  refine Ok.seq ?_
  refine Ok.seq ?_
  refine Ok.region ?_
  refine Ok.batch 1 [(0, .slice axl_0 xl.length cxl_0), (3, .slice none ([] : List (List (Int × List UInt8 × List UInt8 × Int))).length 0), (4, .int .i64 0), (5, .int .i64 0)] (by kernel_rfl) ?_
  refine Ok.nil ?_
  refine Ok.thenN ?_
  refine Ok.block ?_
  obtain ⟨k, hF⟩ := hF
  refine Ok.loop (fun k a W => ∃ gl11 : Ghost, Gext w0 g gl11 ∧ ∃ (x4l11 : Int) (x5l11 : Int) (ayown1_0l11 : Option Addr) (cyown1_0l11 : Nat) (yown1_0l11 : List (List (Int × List UInt8 × List UInt8 × Int))) (xsyown1_0l11 : List Value), RepL gl11 (.slice (.pair (.int .i64) (.pair (.str) (.pair (.str) (.int .i64))))) xsyown1_0l11 yown1_0l11 ∧ StA 65 [(0, .slice axl_0 xl.length cxl_0), (3, .slice ayown1_0l11 yown1_0l11.length cyown1_0l11), (4, .int .i64 x4l11), (5, .int .i64 x5l11)] a ∧ StW w0 [.own (.slice ayown1_0l11 yown1_0l11.length cyown1_0l11) 46 1 yown1_0l11.length xsyown1_0l11] gl11 W ∧ mpil11 xl K k x4l11 x5l11 yown1_0l11) k ?_ ?_
  ·
    exact fun a W hA hW => ⟨g, (Gext.refl w0 g), 0, 0, none, 0, ([] : List (List (Int × List UInt8 × List UInt8 × Int))), [], hL1, hA.sub (by kernel_rfl), hW, hF⟩
  ·
    clear hF
    rintro k11 a W ⟨gl11, hxl11, x4l11, x5l11, ayown1_0l11, cyown1_0l11, yown1_0l11, xsyown1_0l11, hLyown1_0l11, hA, hW, hF⟩
    cases k11 with
    | zero => exact (hF : False).elim
    | succ k11 =>
      refine (?_ : Ok _ _ _ _ _ _) a W hA hW
      clear hA hW
      replace hRxl_0 := hRxl_0.mono hxl11.1
      refine Ok.seq ?_
      refine Ok.seq ?_
      refine Ok.region ?_
      refine Ok.batch 4 [(0, .slice axl_0 xl.length cxl_0), (3, .slice ayown1_0l11 yown1_0l11.length cyown1_0l11), (4, .int .i64 x4l11), (5, .int .i64 x5l11), (11, .bool (decide (x5l11 < (xl.length : Int))))] (by kernel_rfl) ?_
      refine Ok.nil ?_
      refine Ok.thenN ?_
      refine Ok.cond (b := decide (x5l11 < (xl.length : Int))) rfl (fun hc2 => ?_) (fun hc2 => ?_)
      · replace hF := hF.1 hc2
        refine Ok.skip ?_
        refine Ok.thenN ?_
        refine Ok.cut (fun a W => ∃ gj18 : Ghost, Gext w0 gl11 gj18 ∧ ∃ (ayown1_0j18 : Option Addr) (cyown1_0j18 : Nat) (xsyown1_0j18 : List Value), RepL gj18 (.slice (.pair (.int .i64) (.pair (.str) (.pair (.str) (.int .i64))))) xsyown1_0j18 (mpiV10 xl x4l11 x5l11 yown1_0l11) ∧ StA 65 [(0, .slice axl_0 xl.length cxl_0), (3, .slice ayown1_0j18 (mpiV10 xl x4l11 x5l11 yown1_0l11).length cyown1_0j18), (4, .int .i64 (mpiV8 xl x4l11 x5l11)), (5, .int .i64 (mpiV9 xl x5l11))] a ∧ StW w0 [.own (.slice ayown1_0j18 (mpiV10 xl x4l11 x5l11 yown1_0l11).length cyown1_0j18) 46 1 (mpiV10 xl x4l11 x5l11 yown1_0l11).length xsyown1_0j18] gj18 W ∧ mpij18 xl x4l11 x5l11 yown1_0l11 (mpil11 xl K k11)) ?_ ?_
        ·
          refine Ok.block ?_
          refine Ok.seq ?_
          refine Ok.region ?_
          refine Ok.batch 2 [(0, .slice axl_0 xl.length cxl_0), (3, .slice ayown1_0l11 yown1_0l11.length cyown1_0l11), (4, .int .i64 x4l11), (5, .int .i64 x5l11), (14, .slice axl_0 xl.length cxl_0), (15, .int .i64 x5l11)] (by kernel_rfl) ?_
          obtain ⟨h04, h14, hF⟩ := hF
          have he4 := get_of (l := xl) (default : Int × List UInt8 × List UInt8 × Int) h14
          generalize hg4 : (xl.getD (Int.toNat x5l11) default) = e4 at he4 hF ⊢
          refine Ok.op rfl (OpOk.indexRo (e := .pair (.int .i64) (.pair (.str) (.pair (.str) (.int .i64)))) (i := x5l11) (el := e4) rfl rfl Tryz.underlying46 (by kernel_rfl) hRxl_0 h04 he4 rfl fun q3 o3 cs3 _ hat3 hr3 => ?_)
          obtain ⟨_, _, rfl, rfl, ⟨_, _, rfl, rfl, ⟨_, _, rfl, rfl, rfl⟩⟩⟩ := hr3
          replace hat3 : At gl11 q3 o3 [.int .i64 e4.1, .string ⟨⟨e4.2.1⟩⟩, .string ⟨⟨e4.2.2.1⟩⟩, .int .i64 e4.2.2.2] := hat3
          refine Ok.op rfl (OpOk.step (v := .agg #[.int .i64 e4.1, .string ⟨⟨e4.2.1⟩⟩, .string ⟨⟨e4.2.2.1⟩⟩, .int .i64 e4.2.2.2]) (Yields.loadAggRo 0 4 #[.int .i64 e4.1, .string ⟨⟨e4.2.1⟩⟩, .string ⟨⟨e4.2.2.1⟩⟩, .int .i64 e4.2.2.2] hat3 (by kernel_rfl) Tryz.underlying55 rfl (by kernel_rfl) (by kernel_rfl) (by kernel_rfl)) rfl rfl ?_)
          refine Ok.op rfl (OpOk.alloc (z := .agg #[.int .i64 0, .string ⟨⟨([] : List UInt8)⟩⟩, .string ⟨⟨([] : List UInt8)⟩⟩, .int .i64 0]) (cs := #[.int .i64 0, .string ⟨⟨([] : List UInt8)⟩⟩, .string ⟨⟨([] : List UInt8)⟩⟩, .int .i64 0]) (by kernel_rfl) (by kernel_rfl) rfl fun bs6 => ?_)
          refine Ok.op rfl (OpOk.store (k := 4) (v := .agg #[.int .i64 e4.1, .string ⟨⟨e4.2.1⟩⟩, .string ⟨⟨e4.2.2.1⟩⟩, .int .i64 e4.2.2.2]) (H' := [.blk bs6 (.cells #[.int .i64 e4.1, .string ⟨⟨e4.2.1⟩⟩, .string ⟨⟨e4.2.2.1⟩⟩, .int .i64 e4.2.2.2] 55), .own (.slice ayown1_0l11 yown1_0l11.length cyown1_0l11) 46 1 yown1_0l11.length xsyown1_0l11]) 0 rfl rfl rfl (by kernel_rfl) (by kernel_rfl) (by kernel_rfl) (by kernel_rfl) (by kernel_rfl) ?_)
          refine Ok.nil ?_
          refine Ok.thenN ?_
          refine Ok.block ?_
          refine Ok.cut (fun a W => ∃ gj23 : Ghost, Gext w0 gl11 gj23 ∧ StA 65 [(0, .slice axl_0 xl.length cxl_0), (3, .slice ayown1_0l11 yown1_0l11.length cyown1_0l11), (4, .int .i64 x4l11), (5, .int .i64 x5l11), (6, .pointer (some ⟨bs6, 0, none⟩)), (18, .bool ((e4.1 == 10) || (e4.1 == 2)))] a ∧ StW w0 [.blk bs6 (.cells #[.int .i64 e4.1, .string ⟨⟨e4.2.1⟩⟩, .string ⟨⟨e4.2.2.1⟩⟩, .int .i64 e4.2.2.2] 55), .own (.slice ayown1_0l11 yown1_0l11.length cyown1_0l11) 46 1 yown1_0l11.length xsyown1_0l11] gj23 W ∧ mpij23 xl e4 x4l11 x5l11 yown1_0l11 (mpil11 xl K k11)) ?_ ?_
          ·
            refine Ok.region ?_
            refine Ok.batch 1 [(0, .slice axl_0 xl.length cxl_0), (3, .slice ayown1_0l11 yown1_0l11.length cyown1_0l11), (4, .int .i64 x4l11), (5, .int .i64 x5l11), (6, .pointer (some ⟨bs6, 0, none⟩)), (19, .pointer (some ⟨bs6, 0, none⟩))] (by kernel_rfl) ?_
            refine Ok.op rfl (OpOk.step (v := .int .i64 e4.1) (Yields.load 0 rfl rfl Tryz.underlying3 rfl (by kernel_rfl)) rfl rfl ?_)
            refine Ok.batch 2 [(0, .slice axl_0 xl.length cxl_0), (3, .slice ayown1_0l11 yown1_0l11.length cyown1_0l11), (4, .int .i64 x4l11), (5, .int .i64 x5l11), (6, .pointer (some ⟨bs6, 0, none⟩)), (22, .bool (e4.1 == 10))] (by kernel_rfl) ?_
            refine Ok.boolAt 22 ((e4.1 == 10)) rfl (fun hc15 => ?_) (fun hc15 => ?_)
            · replace hF := hF.1 hc15
              refine Ok.batch 5 [(0, .slice axl_0 xl.length cxl_0), (3, .slice ayown1_0l11 yown1_0l11.length cyown1_0l11), (4, .int .i64 x4l11), (5, .int .i64 x5l11), (6, .pointer (some ⟨bs6, 0, none⟩)), (18, .bool true)] (by kernel_rfl) ?_
              refine Ok.nil ?_
              refine Ok.thenN ?_
              refine Ok.reval 18 rfl (show (.bool true : Value) = .bool ((e4.1 == 10) || (e4.1 == 2)) from congrArg (Value.bool) (mor_t hc15)) ?_
              exact fun a W hA hW => ⟨gl11, (Gext.refl w0 gl11), hA.sub (by kernel_rfl), hW, hF⟩
            · replace hF := hF.2 hc15
              refine Ok.batch 1 [(0, .slice axl_0 xl.length cxl_0), (3, .slice ayown1_0l11 yown1_0l11.length cyown1_0l11), (4, .int .i64 x4l11), (5, .int .i64 x5l11), (6, .pointer (some ⟨bs6, 0, none⟩)), (22, .bool false), (23, .pointer (some ⟨bs6, 0, none⟩))] (by kernel_rfl) ?_
              refine Ok.opYes (j := 3) (d := 22) (want := false) (b := false) rfl (by kernel_rfl) (by kernel_rfl) rfl (OpOk.step (v := .int .i64 e4.1) (Yields.load 0 rfl rfl Tryz.underlying3 rfl (by kernel_rfl)) rfl rfl ?_)
              refine Ok.batch 3 [(0, .slice axl_0 xl.length cxl_0), (3, .slice ayown1_0l11 yown1_0l11.length cyown1_0l11), (4, .int .i64 x4l11), (5, .int .i64 x5l11), (6, .pointer (some ⟨bs6, 0, none⟩)), (18, .bool (e4.1 == 2))] (by kernel_rfl) ?_
              refine Ok.nil ?_
              refine Ok.thenN ?_
              refine Ok.reval 18 rfl (show (.bool (e4.1 == 2) : Value) = .bool ((e4.1 == 10) || (e4.1 == 2)) from congrArg (Value.bool) (mor_f hc15)) ?_
              exact fun a W hA hW => ⟨gl11, (Gext.refl w0 gl11), hA.sub (by kernel_rfl), hW, hF⟩
          ·
            clear hF
            rintro a W ⟨gj23, hxj23, hA, hW, hF⟩
            refine (?_ : Ok _ _ _ _ _ _) a W hA hW
            clear hA hW
            replace hRxl_0 := hRxl_0.mono hxj23.1
            replace hLyown1_0l11 := hLyown1_0l11.mono hxj23.1
            refine Ok.cond (b := ((e4.1 == 10) || (e4.1 == 2))) rfl (fun hc6 => ?_) (fun hc6 => ?_)
            · replace hF := hF.1 hc6
              refine Ok.seq ?_
              refine Ok.region ?_
              refine Ok.batch 2 [(0, .slice axl_0 xl.length cxl_0), (3, .slice ayown1_0l11 yown1_0l11.length cyown1_0l11), (4, .int .i64 x4l11), (5, .int .i64 x5l11), (27, .slice axl_0 xl.length cxl_0), (28, .int .i64 x5l11)] (by kernel_rfl) ?_
              obtain ⟨h07, h17, h27, hF⟩ := hF
              refine Ok.op rfl (OpOk.sliceRo (e := .pair (.int .i64) (.pair (.str) (.pair (.str) (.int .i64)))) (l := x5l11) (h := (xl.length : Int)) rfl Tryz.underlying46 (by kernel_rfl) (.inl ⟨_, _, rfl, rfl⟩) (.inr ⟨rfl, rfl⟩) hRxl_0 h07 h17 h27 rfl (xl.drop (Int.toNat x5l11)) (by rw [show ((xl.length : Int)).toNat = xl.length from Int.toNat_natCast _, List.take_length]) fun a7 c7 hR7 => ?_)
              obtain ⟨hp8, hF⟩ := hF
              refine Ok.op rfl (OpOk.callG (v := .int .i64 (endS (xl.drop (Int.toNat x5l11)))) (enters (by kernel_rfl) (fun _ => by kernel_rfl)) (fun W hW => men_c (xl.drop (Int.toNat x5l11)) (hR7.mono hW.sees) hp8) rfl ?_)
              refine Ok.batch 1 [(0, .slice axl_0 xl.length cxl_0), (3, .slice ayown1_0l11 yown1_0l11.length cyown1_0l11), (4, .int .i64 x4l11), (5, .int .i64 x5l11), (7, .int .i64 (endS (xl.drop (Int.toNat x5l11))))] (by kernel_rfl) ?_
              refine Ok.nil ?_
              refine Ok.thenN ?_
              refine Ok.cut (fun a W => ∃ gj28 : Ghost, Gext w0 gj23 gj28 ∧ StA 65 [(0, .slice axl_0 xl.length cxl_0), (3, .slice ayown1_0l11 yown1_0l11.length cyown1_0l11), (4, .int .i64 x4l11), (5, .int .i64 x5l11), (7, .int .i64 (mpiV4 xl x5l11))] a ∧ StW w0 [.own (.slice ayown1_0l11 yown1_0l11.length cyown1_0l11) 46 1 yown1_0l11.length xsyown1_0l11] gj28 W ∧ mpij28 xl x4l11 x5l11 yown1_0l11 (mpil11 xl K k11)) ?_ ?_
              ·
                refine Ok.seq ?_
                refine Ok.region ?_
                refine Ok.batch 2 [(0, .slice axl_0 xl.length cxl_0), (3, .slice ayown1_0l11 yown1_0l11.length cyown1_0l11), (4, .int .i64 x4l11), (5, .int .i64 x5l11), (7, .int .i64 (endS (xl.drop (Int.toNat x5l11)))), (32, .bool ((endS (xl.drop (Int.toNat x5l11))) == 0))] (by kernel_rfl) ?_
                refine Ok.nil ?_
                refine Ok.thenN ?_
                refine Ok.cond (b := ((endS (xl.drop (Int.toNat x5l11))) == 0)) rfl (fun hc9 => ?_) (fun hc9 => ?_)
                · replace hF := hF.1 hc9
                  refine Ok.region ?_
                  refine Ok.batch 5 [(0, .slice axl_0 xl.length cxl_0), (3, .slice ayown1_0l11 yown1_0l11.length cyown1_0l11), (4, .int .i64 x4l11), (5, .int .i64 x5l11), (7, .int .i64 (IntKind.wrap .i64 ((xl.length : Int) - x5l11)))] (by kernel_rfl) ?_
                  refine Ok.nil ?_
                  refine Ok.thenN ?_
                  refine Ok.reval 7 rfl (show (.int .i64 (IntKind.wrap .i64 ((xl.length : Int) - x5l11)) : Value) = .int .i64 (mpiV4 xl x5l11) from congrArg (Value.int .i64) ((if_t hc9).symm)) ?_
                  exact fun a W hA hW => ⟨gj23, (Gext.refl w0 gj23), hA.sub (by kernel_rfl), hW.sub (.cons _ (.cons_cons _ .slnil)), hF⟩
                · replace hF := hF.2 hc9
                  refine Ok.skip ?_
                  refine Ok.thenN ?_
                  refine Ok.reval 7 rfl (show (.int .i64 (endS (xl.drop (Int.toNat x5l11))) : Value) = .int .i64 (mpiV4 xl x5l11) from congrArg (Value.int .i64) ((if_f hc9).symm)) ?_
                  exact fun a W hA hW => ⟨gj23, (Gext.refl w0 gj23), hA.sub (by kernel_rfl), hW.sub (.cons _ (.cons_cons _ .slnil)), hF⟩
              ·
                clear hF
                rintro a W ⟨gj28, hxj28, hA, hW, hF⟩
                refine (?_ : Ok _ _ _ _ _ _) a W hA hW
                clear hA hW
                replace hRxl_0 := hRxl_0.mono hxj28.1
                replace hLyown1_0l11 := hLyown1_0l11.mono hxj28.1
                refine Ok.region ?_
                refine Ok.batch 5 [(0, .slice axl_0 xl.length cxl_0), (3, .slice ayown1_0l11 yown1_0l11.length cyown1_0l11), (4, .int .i64 x4l11), (5, .int .i64 (IntKind.wrap .i64 (x5l11 + (IntKind.wrap .i64 ((mpiV4 xl x5l11) - 1)))))] (by kernel_rfl) ?_
                refine Ok.nil ?_
                refine Ok.blockN ?_
                refine Ok.blockN ?_
                refine Ok.thenN ?_
                subst hg4
                refine Ok.reval 3 rfl (show (.slice ayown1_0l11 yown1_0l11.length cyown1_0l11 : Value) = .slice ayown1_0l11 (mpiV10 xl x4l11 x5l11 yown1_0l11).length cyown1_0l11 from congrArg (fun l : List (List (Int × List UInt8 × List UInt8 × Int)) => Value.slice ayown1_0l11 l.length cyown1_0l11) ((if_t hc6).symm)) ?_
                refine Ok.reval 4 rfl (show (.int .i64 x4l11 : Value) = .int .i64 (mpiV8 xl x4l11 x5l11) from congrArg (Value.int .i64) ((if_t hc6).symm)) ?_
                refine Ok.reval 5 rfl (show (.int .i64 (IntKind.wrap .i64 (x5l11 + (IntKind.wrap .i64 ((mpiV4 xl x5l11) - 1)))) : Value) = .int .i64 (mpiV9 xl x5l11) from congrArg (Value.int .i64) ((if_t hc6).symm)) ?_
                refine Ok.heapEq (H' := [.own (.slice ayown1_0l11 (mpiV10 xl x4l11 x5l11 yown1_0l11).length cyown1_0l11) 46 1 (mpiV10 xl x4l11 x5l11 yown1_0l11).length xsyown1_0l11]) (econs (congrArg (fun l : List (List (Int × List UInt8 × List UInt8 × Int)) => Ent.own (.slice ayown1_0l11 l.length cyown1_0l11) 46 1 l.length xsyown1_0l11) ((if_t hc6).symm)) rfl) ?_
                exact fun a W hA hW => ⟨gj28, (hxj23.trans hxj28), ayown1_0l11, cyown1_0l11, xsyown1_0l11, (Eq.mp (congrArg (fun l : List (List (Int × List UInt8 × List UInt8 × Int)) => RepL gj28 (.slice (.pair (.int .i64) (.pair (.str) (.pair (.str) (.int .i64))))) xsyown1_0l11 l) ((if_t hc6).symm)) hLyown1_0l11), hA.sub (by kernel_rfl), hW, hF⟩
            · replace hF := hF.2 hc6
              refine Ok.cut (fun a W => ∃ gj35 : Ghost, Gext w0 gj23 gj35 ∧ StA 65 [(0, .slice axl_0 xl.length cxl_0), (3, .slice ayown1_0l11 yown1_0l11.length cyown1_0l11), (4, .int .i64 x4l11), (5, .int .i64 x5l11), (41, .bool ((e4.1 == 12) && (e4.2.1 == ([44] : List UInt8))))] a ∧ StW w0 [.own (.slice ayown1_0l11 yown1_0l11.length cyown1_0l11) 46 1 yown1_0l11.length xsyown1_0l11] gj35 W ∧ mpij35 xl e4 x4l11 x5l11 yown1_0l11 (mpil11 xl K k11)) ?_ ?_
              ·
                refine Ok.region ?_
                refine Ok.batch 1 [(0, .slice axl_0 xl.length cxl_0), (3, .slice ayown1_0l11 yown1_0l11.length cyown1_0l11), (4, .int .i64 x4l11), (5, .int .i64 x5l11), (6, .pointer (some ⟨bs6, 0, none⟩)), (42, .pointer (some ⟨bs6, 0, none⟩))] (by kernel_rfl) ?_
                refine Ok.op rfl (OpOk.step (v := .int .i64 e4.1) (Yields.load 0 rfl rfl Tryz.underlying3 rfl (by kernel_rfl)) rfl rfl ?_)
                refine Ok.batch 2 [(0, .slice axl_0 xl.length cxl_0), (3, .slice ayown1_0l11 yown1_0l11.length cyown1_0l11), (4, .int .i64 x4l11), (5, .int .i64 x5l11), (6, .pointer (some ⟨bs6, 0, none⟩)), (45, .bool (e4.1 == 12))] (by kernel_rfl) ?_
                refine Ok.boolAt 45 ((e4.1 == 12)) rfl (fun hc14 => ?_) (fun hc14 => ?_)
                · replace hF := hF.1 hc14
                  refine Ok.batch 1 [(0, .slice axl_0 xl.length cxl_0), (3, .slice ayown1_0l11 yown1_0l11.length cyown1_0l11), (4, .int .i64 x4l11), (5, .int .i64 x5l11), (45, .bool true), (46, .pointer (some ⟨bs6, 1, none⟩))] (by kernel_rfl) ?_
                  refine Ok.opYes (j := 3) (d := 45) (want := true) (b := true) rfl (by kernel_rfl) (by kernel_rfl) rfl (OpOk.step (v := .string ⟨⟨e4.2.1⟩⟩) (Yields.load 0 rfl rfl Tryz.underlying9 rfl (by kernel_rfl)) rfl rfl ?_)
                  refine Ok.opYes (j := 3) (d := 45) (want := true) (b := true) rfl (by kernel_rfl) (by kernel_rfl) rfl (OpOk.step (v := .bool (e4.2.1 == ([44] : List UInt8))) (Yields.strCmp (f := .eql) (a := e4.2.1) (b := ([44] : List UInt8)) (by kernel_rfl) (by kernel_rfl) rfl) rfl rfl ?_)
                  refine Ok.batch 2 [(0, .slice axl_0 xl.length cxl_0), (3, .slice ayown1_0l11 yown1_0l11.length cyown1_0l11), (4, .int .i64 x4l11), (5, .int .i64 x5l11), (41, .bool (e4.2.1 == ([44] : List UInt8)))] (by kernel_rfl) ?_
                  refine Ok.nil ?_
                  refine Ok.thenN ?_
                  refine Ok.reval 41 rfl (show (.bool (e4.2.1 == ([44] : List UInt8)) : Value) = .bool ((e4.1 == 12) && (e4.2.1 == ([44] : List UInt8))) from congrArg (Value.bool) (mand_t hc14)) ?_
                  exact fun a W hA hW => ⟨gj23, (Gext.refl w0 gj23), hA.sub (by kernel_rfl), hW.sub (.cons _ (.cons_cons _ .slnil)), hF⟩
                · replace hF := hF.2 hc14
                  refine Ok.batch 5 [(0, .slice axl_0 xl.length cxl_0), (3, .slice ayown1_0l11 yown1_0l11.length cyown1_0l11), (4, .int .i64 x4l11), (5, .int .i64 x5l11), (41, .bool false)] (by kernel_rfl) ?_
                  refine Ok.nil ?_
                  refine Ok.thenN ?_
                  refine Ok.reval 41 rfl (show (.bool false : Value) = .bool ((e4.1 == 12) && (e4.2.1 == ([44] : List UInt8))) from congrArg (Value.bool) (mand_f hc14)) ?_
                  exact fun a W hA hW => ⟨gj23, (Gext.refl w0 gj23), hA.sub (by kernel_rfl), hW.sub (.cons _ (.cons_cons _ .slnil)), hF⟩
              ·
                clear hF
                rintro a W ⟨gj35, hxj35, hA, hW, hF⟩
                refine (?_ : Ok _ _ _ _ _ _) a W hA hW
                clear hA hW
                replace hRxl_0 := hRxl_0.mono hxj35.1
                replace hLyown1_0l11 := hLyown1_0l11.mono hxj35.1
                refine Ok.cond (b := ((e4.1 == 12) && (e4.2.1 == ([44] : List UInt8)))) rfl (fun hc10 => ?_) (fun hc10 => ?_)
                · replace hF := hF.1 hc10
                  refine Ok.seq ?_
                  refine Ok.region ?_
                  refine Ok.batch 4 [(0, .slice axl_0 xl.length cxl_0), (5, .int .i64 x5l11), (50, .slice ayown1_0l11 yown1_0l11.length cyown1_0l11), (51, .slice axl_0 xl.length cxl_0), (52, .int .i64 x4l11), (53, .int .i64 x5l11)] (by kernel_rfl) ?_
                  obtain ⟨h011, h111, h211, hF⟩ := hF
                  refine Ok.op rfl (OpOk.sliceRo (e := .pair (.int .i64) (.pair (.str) (.pair (.str) (.int .i64)))) (l := x4l11) (h := x5l11) rfl Tryz.underlying46 (by kernel_rfl) (.inl ⟨_, _, rfl, rfl⟩) (.inl ⟨_, _, rfl, rfl⟩) hRxl_0 h011 h111 h211 rfl ((xl.take (Int.toNat x5l11)).drop (Int.toNat x4l11)) rfl fun a11 c11 hR11 => ?_)
                  have hL12 : RepL gj35 (.slice (.pair (.int .i64) (.pair (.str) (.pair (.str) (.int .i64))))) ([.slice a11 ((xl.take (Int.toNat x5l11)).drop (Int.toNat x4l11)).length c11] : List Value) ([((xl.take (Int.toNat x5l11)).drop (Int.toNat x4l11))] : List (List (Int × List UInt8 × List UInt8 × Int))) := (RepL.consN (c := [.slice a11 ((xl.take (Int.toNat x5l11)).drop (Int.toNat x4l11)).length c11]) hR11 rfl)
                  refine Ok.op rfl (OpOk.lit (E := 46) (.slice (.pair (.int .i64) (.pair (.str) (.pair (.str) (.int .i64))))) ([((xl.take (Int.toNat x5l11)).drop (Int.toNat x4l11))] : List (List (Int × List UInt8 × List UInt8 × Int))) ([.slice a11 ((xl.take (Int.toNat x5l11)).drop (Int.toNat x4l11)).length c11] : List Value) (by kernel_rfl) (by kernel_rfl) rfl (by kernel_rfl) hL12 rfl fun b12 => ?_)
                  obtain ⟨hb13, hF⟩ := hF
                  refine Ok.op rfl (OpOk.append' (e := .slice (.pair (.int .i64) (.pair (.str) (.pair (.str) (.int .i64))))) 24 5864062014805 1 0 rfl rfl rfl rfl hLyown1_0l11 hL12 Tryz.underlying49 (by kernel_rfl) (by kernel_rfl) (by kernel_rfl) hb13 rfl fun a13 c13 xs13 hL13 => ?_)
                  refine Ok.batch 1 [(0, .slice axl_0 xl.length cxl_0), (3, .slice a13 (yown1_0l11 ++ ([((xl.take (Int.toNat x5l11)).drop (Int.toNat x4l11))] : List (List (Int × List UInt8 × List UInt8 × Int)))).length c13), (5, .int .i64 x5l11)] (by kernel_rfl) ?_
                  refine Ok.nil ?_
                  refine Ok.thenN ?_
                  refine Ok.region ?_
                  refine Ok.batch 3 [(0, .slice axl_0 xl.length cxl_0), (3, .slice a13 (yown1_0l11 ++ ([((xl.take (Int.toNat x5l11)).drop (Int.toNat x4l11))] : List (List (Int × List UInt8 × List UInt8 × Int)))).length c13), (4, .int .i64 (IntKind.wrap .i64 (x5l11 + 1))), (5, .int .i64 x5l11)] (by kernel_rfl) ?_
                  refine Ok.nil ?_
                  refine Ok.blockN ?_
                  refine Ok.blockN ?_
                  refine Ok.thenN ?_
                  subst hg4
                  refine Ok.reval 3 rfl (show (.slice a13 (yown1_0l11 ++ ([((xl.take (Int.toNat x5l11)).drop (Int.toNat x4l11))] : List (List (Int × List UInt8 × List UInt8 × Int)))).length c13 : Value) = .slice a13 (mpiV10 xl x4l11 x5l11 yown1_0l11).length c13 from congrArg (fun l : List (List (Int × List UInt8 × List UInt8 × Int)) => Value.slice a13 l.length c13) ((Eq.trans ((if_t hc10).symm) ((if_f hc6).symm)))) ?_
                  refine Ok.reval 4 rfl (show (.int .i64 (IntKind.wrap .i64 (x5l11 + 1)) : Value) = .int .i64 (mpiV8 xl x4l11 x5l11) from congrArg (Value.int .i64) ((Eq.trans ((if_t hc10).symm) ((if_f hc6).symm)))) ?_
                  refine Ok.reval 5 rfl (show (.int .i64 x5l11 : Value) = .int .i64 (mpiV9 xl x5l11) from congrArg (Value.int .i64) ((if_f hc6).symm)) ?_
                  refine Ok.heapEq (H' := [.own (.slice (some ⟨b12, 0, none⟩) ([((xl.take (Int.toNat x5l11)).drop (Int.toNat x4l11))] : List (List (Int × List UInt8 × List UInt8 × Int))).length 1) 46 1 ([((xl.take (Int.toNat x5l11)).drop (Int.toNat x4l11))] : List (List (Int × List UInt8 × List UInt8 × Int))).length ([.slice a11 ((xl.take (Int.toNat x5l11)).drop (Int.toNat x4l11)).length c11] : List Value), .own (.slice a13 (mpiV10 xl x4l11 x5l11 yown1_0l11).length c13) 46 1 (mpiV10 xl x4l11 x5l11 yown1_0l11).length xs13]) (econs (rfl) (econs (congrArg (fun l : List (List (Int × List UInt8 × List UInt8 × Int)) => Ent.own (.slice a13 l.length c13) 46 1 l.length xs13) ((Eq.trans ((if_t hc10).symm) ((if_f hc6).symm)))) rfl)) ?_
                  exact fun a W hA hW => ⟨gj35, (hxj23.trans hxj35), a13, c13, xs13, (Eq.mp (congrArg (fun l : List (List (Int × List UInt8 × List UInt8 × Int)) => RepL gj35 (.slice (.pair (.int .i64) (.pair (.str) (.pair (.str) (.int .i64))))) xs13 l) ((Eq.trans ((if_t hc10).symm) ((if_f hc6).symm)))) hL13), hA.sub (by kernel_rfl), hW.sub (.cons _ (.cons_cons _ .slnil)), hF⟩
                · replace hF := hF.2 hc10
                  refine Ok.skip ?_
                  refine Ok.blockN ?_
                  refine Ok.blockN ?_
                  refine Ok.thenN ?_
                  subst hg4
                  refine Ok.reval 3 rfl (show (.slice ayown1_0l11 yown1_0l11.length cyown1_0l11 : Value) = .slice ayown1_0l11 (mpiV10 xl x4l11 x5l11 yown1_0l11).length cyown1_0l11 from congrArg (fun l : List (List (Int × List UInt8 × List UInt8 × Int)) => Value.slice ayown1_0l11 l.length cyown1_0l11) ((Eq.trans ((if_f hc10).symm) ((if_f hc6).symm)))) ?_
                  refine Ok.reval 4 rfl (show (.int .i64 x4l11 : Value) = .int .i64 (mpiV8 xl x4l11 x5l11) from congrArg (Value.int .i64) ((Eq.trans ((if_f hc10).symm) ((if_f hc6).symm)))) ?_
                  refine Ok.reval 5 rfl (show (.int .i64 x5l11 : Value) = .int .i64 (mpiV9 xl x5l11) from congrArg (Value.int .i64) ((if_f hc6).symm)) ?_
                  refine Ok.heapEq (H' := [.own (.slice ayown1_0l11 (mpiV10 xl x4l11 x5l11 yown1_0l11).length cyown1_0l11) 46 1 (mpiV10 xl x4l11 x5l11 yown1_0l11).length xsyown1_0l11]) (econs (congrArg (fun l : List (List (Int × List UInt8 × List UInt8 × Int)) => Ent.own (.slice ayown1_0l11 l.length cyown1_0l11) 46 1 l.length xsyown1_0l11) ((Eq.trans ((if_f hc10).symm) ((if_f hc6).symm)))) rfl) ?_
                  exact fun a W hA hW => ⟨gj35, (hxj23.trans hxj35), ayown1_0l11, cyown1_0l11, xsyown1_0l11, (Eq.mp (congrArg (fun l : List (List (Int × List UInt8 × List UInt8 × Int)) => RepL gj35 (.slice (.pair (.int .i64) (.pair (.str) (.pair (.str) (.int .i64))))) xsyown1_0l11 l) ((Eq.trans ((if_f hc10).symm) ((if_f hc6).symm)))) hLyown1_0l11), hA.sub (by kernel_rfl), hW, hF⟩
        ·
          clear hF
          rintro a W ⟨gj18, hxj18, ayown1_0j18, cyown1_0j18, xsyown1_0j18, hLyown1_0j18, hA, hW, hF⟩
          refine (?_ : Ok _ _ _ _ _ _) a W hA hW
          clear hA hW
          replace hRxl_0 := hRxl_0.mono hxj18.1
          refine Ok.region ?_
          refine Ok.batch 3 [(0, .slice axl_0 xl.length cxl_0), (3, .slice ayown1_0j18 (mpiV10 xl x4l11 x5l11 yown1_0l11).length cyown1_0j18), (4, .int .i64 (mpiV8 xl x4l11 x5l11)), (5, .int .i64 (IntKind.wrap .i64 ((mpiV9 xl x5l11) + 1)))] (by kernel_rfl) ?_
          refine Ok.nil ?_
          refine Ok.thenN ?_
          exact fun a W hA hW => ⟨k11, Nat.lt_succ_self _, gj18, (hxl11.trans hxj18), (mpiV8 xl x4l11 x5l11), IntKind.wrap .i64 ((mpiV9 xl x5l11) + 1), ayown1_0j18, cyown1_0j18, (mpiV10 xl x4l11 x5l11 yown1_0l11), xsyown1_0j18, hLyown1_0j18, hA.sub (by kernel_rfl), hW, hF⟩
      · replace hF := hF.2 hc2
        refine Ok.exit ?_
        refine Ok.thenE ?_
        refine Ok.thenE ?_
        refine Ok.blockHit ?_
        refine Ok.thenN ?_
        refine Ok.seq ?_
        refine Ok.region ?_
        refine Ok.batch 3 [(59, .slice ayown1_0l11 yown1_0l11.length cyown1_0l11), (60, .slice axl_0 xl.length cxl_0), (61, .int .i64 x4l11)] (by kernel_rfl) ?_
        obtain ⟨h016, h116, h216, hF⟩ := hF
        refine Ok.op rfl (OpOk.sliceRo (e := .pair (.int .i64) (.pair (.str) (.pair (.str) (.int .i64)))) (l := x4l11) (h := (xl.length : Int)) rfl Tryz.underlying46 (by kernel_rfl) (.inl ⟨_, _, rfl, rfl⟩) (.inr ⟨rfl, rfl⟩) hRxl_0 h016 h116 h216 rfl (xl.drop (Int.toNat x4l11)) (by rw [show ((xl.length : Int)).toNat = xl.length from Int.toNat_natCast _, List.take_length]) fun a16 c16 hR16 => ?_)
        have hL17 : RepL gl11 (.slice (.pair (.int .i64) (.pair (.str) (.pair (.str) (.int .i64))))) ([.slice a16 (xl.drop (Int.toNat x4l11)).length c16] : List Value) ([(xl.drop (Int.toNat x4l11))] : List (List (Int × List UInt8 × List UInt8 × Int))) := (RepL.consN (c := [.slice a16 (xl.drop (Int.toNat x4l11)).length c16]) hR16 rfl)
        refine Ok.op rfl (OpOk.lit (E := 46) (.slice (.pair (.int .i64) (.pair (.str) (.pair (.str) (.int .i64))))) ([(xl.drop (Int.toNat x4l11))] : List (List (Int × List UInt8 × List UInt8 × Int))) ([.slice a16 (xl.drop (Int.toNat x4l11)).length c16] : List Value) (by kernel_rfl) (by kernel_rfl) rfl (by kernel_rfl) hL17 rfl fun b17 => ?_)
        obtain ⟨hb18, hF⟩ := hF
        refine Ok.op rfl (OpOk.append' (e := .slice (.pair (.int .i64) (.pair (.str) (.pair (.str) (.int .i64))))) 24 5864062014805 1 0 rfl rfl rfl rfl hLyown1_0l11 hL17 Tryz.underlying49 (by kernel_rfl) (by kernel_rfl) (by kernel_rfl) hb18 rfl fun a18 c18 xs18 hL18 => ?_)
        refine Ok.batch 1 [(2, .slice a18 (yown1_0l11 ++ ([(xl.drop (Int.toNat x4l11))] : List (List (Int × List UInt8 × List UInt8 × Int)))).length c18)] (by kernel_rfl) ?_
        refine Ok.nil ?_
        refine Ok.thenN ?_
        refine Ok.ret ?_
        refine Ok.freeze (H' := [.own (.slice (some ⟨b17, 0, none⟩) ([(xl.drop (Int.toNat x4l11))] : List (List (Int × List UInt8 × List UInt8 × Int))).length 1) 46 1 ([(xl.drop (Int.toNat x4l11))] : List (List (Int × List UInt8 × List UInt8 × Int))).length ([.slice a16 (xl.drop (Int.toNat x4l11)).length c16] : List Value)]) 1 rfl hL18 rfl fun g19 hx19 hRf19 => ?_
        replace hL17 := hL17.mono hx19.1
        exact Ok.resP (vs := [.slice a18 (yown1_0l11 ++ ([(xl.drop (Int.toNat x4l11))] : List (List (Int × List UInt8 × List UInt8 × Int)))).length c18]) [] [] (by decide) rfl (.inl rfl) rfl (.cons (.tmp rfl) .nil) (hxl11.trans hx19) ⟨(yown1_0l11 ++ ([(xl.drop (Int.toNat x4l11))] : List (List (Int × List UInt8 × List UInt8 × Int)))), a18, c18, rfl, hRf19, rfl, hF⟩
def pieN (l : List Tok) : Nat → Int → Int → List (List Tok) → List (List Tok)
  | 0, _, _, out => out
  | k + 1, fr, i, out => if decide (i < (l.length : Int)) = true then pieN l k (mpiV8 l fr i) (IntKind.wrap .i64 (mpiV9 l i + 1)) (mpiV10 l fr i out) else out ++ [l.drop (Int.toNat fr)]
def pieS (l : List Tok) : List (List Tok) := pieN l (l.length + 1) 0 0 []
theorem drop_head {l : List Tok} {i : Nat} (h : i < l.length) : (l.drop i).getD 0 default = l.getD i default := by
  rw [drop_get default h]; rfl
structure PieStep (l : List Tok) (fr i : Int) (out : List (List Tok)) : Prop where
  fr0 : 0 ≤ mpiV8 l fr i
  fr1 : mpiV8 l fr i ≤ IntKind.wrap .i64 (mpiV9 l i + 1)
  i0 : i < IntKind.wrap .i64 (mpiV9 l i + 1)
  i1 : IntKind.wrap .i64 (mpiV9 l i + 1) ≤ l.length
  out1 : (mpiV10 l fr i out).length ≤ out.length + 1
  all : (∀ p ∈ out, toksOK p) → ∀ p ∈ mpiV10 l fr i out, toksOK p
  op : ((l.getD (Int.toNat i) default).1 == 10 || (l.getD (Int.toNat i) default).1 == 2) = true → endP (l.drop (Int.toNat i))
theorem pie_step {l : List Tok} (hl : toksOK l) {fr i : Int} (out : List (List Tok)) (h0 : 0 ≤ fr) (h1 : fr ≤ i) (h2 : i < l.length) : PieStep l fr i out := by
  obtain ⟨n, rfl⟩ : ∃ n : Nat, i = n := ⟨i.toNat, by omega⟩
  have hb := hl.1
  have hn : n < l.length := by omega
  by_cases ho : ((l.getD (Int.toNat (n : Int)) default).1 == 10 || (l.getD (Int.toNat (n : Int)) default).1 == 2) = true
  · have eo := end_open (toks_drop hl n) (by rw [List.length_drop]; omega) (by rw [drop_head hn]; exact ho)
    have e8 : mpiV8 l fr n = fr := if_t ho
    have e10 : mpiV10 l fr n out = out := if_t ho
    have e4 : 1 ≤ mpiV4 l n ∧ mpiV4 l n ≤ (l.length : Int) - n := by
      unfold mpiV4
      rw [Int.toNat_natCast]
      have := eo.2
      rw [List.length_drop] at this
      split
      · rw [w64 (by omega)]; omega
      · rename_i hz
        have hz : endS (l.drop n) ≠ 0 := fun h => hz (by rw [h]; rfl)
        omega
    have e9 : mpiV9 l n = n + (mpiV4 l n - 1) := by
      unfold mpiV9
      rw [if_t ho, w64 (x := mpiV4 l n - 1) (by omega), w64 (by omega)]
    refine ⟨by omega, ?_, ?_, ?_, by rw [e10]; omega, by rw [e10]; exact id, fun _ => by rw [Int.toNat_natCast]; exact eo.1⟩ <;> rw [e9, w64 (by omega)] <;> omega
  · have ho : ((l.getD (Int.toNat (n : Int)) default).1 == 10 || (l.getD (Int.toNat (n : Int)) default).1 == 2) = false := by simpa using ho
    have e9 : mpiV9 l n = n := if_f ho
    have e9' : IntKind.wrap .i64 (mpiV9 l n + 1) = n + 1 := by rw [e9, w64 (by omega)]
    by_cases hc : ((l.getD (Int.toNat (n : Int)) default).1 == 12 && (l.getD (Int.toNat (n : Int)) default).2.1 == ([44] : List UInt8)) = true
    · have e8 : mpiV8 l fr n = n + 1 := by unfold mpiV8; rw [if_f ho, if_t hc, w64 (by omega)]
      have e10 : mpiV10 l fr n out = out ++ [(l.take (Int.toNat (n : Int))).drop (Int.toNat fr)] := by unfold mpiV10; rw [if_f ho, if_t hc]
      refine ⟨by omega, by omega, by omega, by omega, by rw [e10, List.length_append]; simp, fun hp p hm => ?_, fun h => by rw [ho] at h; cases h⟩
      rw [e10, List.mem_append, List.mem_singleton] at hm
      rcases hm with hm | rfl
      · exact hp p hm
      · exact toks_drop (toks_take hl _) _
    · have hc : ((l.getD (Int.toNat (n : Int)) default).1 == 12 && (l.getD (Int.toNat (n : Int)) default).2.1 == ([44] : List UInt8)) = false := by simpa using hc
      have e8 : mpiV8 l fr n = fr := by unfold mpiV8; rw [if_f ho, if_f hc]
      have e10 : mpiV10 l fr n out = out := by unfold mpiV10; rw [if_f ho, if_f hc]
      exact ⟨by omega, by omega, by omega, by omega, by rw [e10]; omega, by rw [e10]; exact id, fun h => by rw [ho] at h; cases h⟩
theorem mpi_F (l : List Tok) (hp : toksOK l) : mpiF l (fun r => r = pieS l) := by
  have hb := hp.1
  have loop : ∀ (k : Nat) (fr i : Int) (out : List (List Tok)), 0 ≤ fr → fr ≤ i → i ≤ l.length → l.length < k + i → (out.length : Int) ≤ i → pieS l = pieN l k fr i out → mpil11 l (fun r => r = pieS l) k fr i out := by
    intro k
    induction k with
    | zero => intro fr i out h0 h1 h2 h3; omega
    | succ k ih =>
      intro fr i out h0 h1 h2 h3 h4 he
      rw [pieN] at he
      refine ⟨fun hc => ?_, fun hc => ?_⟩
      · rw [if_t hc] at he
        have hc := of_decide_eq_true hc
        have st := pie_step hp out h0 h1 hc
        have j18 : mpij18 l fr i out (mpil11 l (fun r => r = pieS l) k) := ih _ _ _ st.fr0 st.fr1 st.i1 (by have := st.i0; omega) (by have := st.i0; have := st.out1; omega) he
        have j23 : mpij23 l (l.getD (Int.toNat i) default) fr i out (mpil11 l (fun r => r = pieS l) k) := by
          have j35 : mpij35 l (l.getD (Int.toNat i) default) fr i out (mpil11 l (fun r => r = pieS l) k) :=
            ⟨fun _ => ⟨h0, h1, by omega, by rw [List.length_append]; simp; omega, j18⟩, fun _ => j18⟩
          exact ⟨fun ho => ⟨by omega, by omega, by omega, st.op ho, fun _ => j18, fun _ => j18⟩, fun _ => ⟨fun _ => j35, fun _ => j35⟩⟩
        exact ⟨by omega, by omega, fun _ => j23, fun _ => j23⟩
      · rw [if_f hc] at he
        have hc := of_decide_eq_false hc
        exact ⟨h0, by omega, by omega, by rw [List.length_append]; simp; omega, he.symm⟩
  exact ⟨l.length + 1, loop _ 0 0 [] (by omega) (by omega) (by omega) (by omega) (by simp) rfl⟩
set_option linter.unusedVariables false in
theorem mpi_c {g : Ghost} {axl_0 : Option Addr} {cxl_0 : Nat} (xl : List (Int × List UInt8 × List UInt8 × Int)) (hRxl_0 : Rep g (.slice (.pair (.int .i64) (.pair (.str) (.pair (.str) (.int .i64))))) [.slice axl_0 xl.length cxl_0] xl)  (hp : toksOK xl) : CallsH Tryz.prog 17 #[.slice axl_0 xl.length cxl_0] g [] (fun g' H' v => ∃ (ar0_0 : Option Addr) (cr0_0 : Nat), v = .slice ar0_0 (pieS xl).length cr0_0 ∧ Rep g' (.slice (.slice (.pair (.int .i64) (.pair (.str) (.pair (.str) (.int .i64)))))) [.slice ar0_0 (pieS xl).length cr0_0] (pieS xl) ∧ H' = []) :=
  (mpi_ok xl hRxl_0 _ (mpi_F xl hp)).mono (by rintro g' H' v _ ⟨r0, ar0_0, cr0_0, rfl, hRr0_0, rfl, hK⟩; subst hK; exact ⟨ar0_0, cr0_0, rfl, hRr0_0, rfl⟩)
theorem pie_all {l : List Tok} (hl : toksOK l) : ∀ (k : Nat) (fr i : Int) (out : List (List Tok)), 0 ≤ fr → fr ≤ i → i ≤ l.length → (∀ p ∈ out, toksOK p) → (∀ p ∈ pieN l k fr i out, toksOK p) ∧ (pieN l k fr i out).length ≤ out.length + k
  | 0, _, _, _, _, _, _, h => ⟨h, by rw [pieN]; omega⟩
  | k + 1, fr, i, out, h0, h1, h2, h => by
    rw [pieN]
    split
    · rename_i hc
      have st := pie_step hl out h0 h1 (of_decide_eq_true hc)
      have := pie_all hl k _ _ _ st.fr0 st.fr1 st.i1 (st.all h)
      exact ⟨this.1, by have := this.2; have := st.out1; omega⟩
    · refine ⟨fun p hm => ?_, by rw [List.length_append]; simp⟩
      rw [List.mem_append, List.mem_singleton] at hm
      rcases hm with hm | rfl
      · exact h p hm
      · exact toks_drop hl _
theorem pieS_ok {l : List Tok} (hl : toksOK l) : (∀ p ∈ pieS l, toksOK p) ∧ (pieS l).length ≤ 1001 := by
  have := pie_all hl (l.length + 1) 0 0 [] (by omega) (by omega) (by omega) (fun p h => by cases h)
  have hb := hl.1
  exact ⟨this.1, by have := this.2; simp at this; show (pieN _ _ _ _ _).length ≤ _; omega⟩
/-! tokens -/
def cutN : Nat → List UInt8 → List Tok
  | 0, _ => []
  | k + 1, s => if s = [] then [] else firstM s :: cutN k (s.drop (firstM s).2.1.length)
def cutS (s : List UInt8) : List Tok := cutN s.length s
def cutOk : Nat → List UInt8 → Bool
  | 0, s => s == []
  | k + 1, s => s == [] || decide (1 ≤ (firstM s).2.1.length) && decide ((firstM s).2.1.length ≤ s.length) && cutOk k (s.drop (firstM s).2.1.length)
def cutP (s : List UInt8) : Prop := s.length ≤ 400 ∧ cutOk s.length s = true
theorem cut_first {s : List UInt8} (h : s.length ≤ 400) (hne : s ≠ []) : firstP s := ⟨by unfold nameP; omega, hne, by omega⟩
theorem cut_loop (K : List Tok → Prop) : ∀ (k : Nat) (s : List UInt8) (out : List Tok), s.length ≤ k → s.length ≤ 400 → out.length + s.length ≤ 400 → cutOk k s = true → K (out ++ cutN k s) → cutl7 K (k + 1) s out := by
  intro k
  induction k with
  | zero =>
    intro s out h1 h2 h3 h4 hK
    obtain rfl : s = [] := List.eq_nil_of_length_eq_zero (by omega)
    refine ⟨(fun h => by cases h), fun _ => ?_⟩
    simpa [cutN] using hK
  | succ k ih =>
    intro s out h1 h2 h3 h4 hK
    by_cases hs : s = []
    · subst hs
      refine ⟨(fun h => by cases h), fun _ => ?_⟩
      simpa [cutN] using hK
    · have hf := cut_first h2 hs
      rw [cutOk, show (s == []) = false from by simpa using hs] at h4
      simp only [Bool.false_or, Bool.and_eq_true, decide_eq_true_eq] at h4
      obtain ⟨⟨r1, r2⟩, r3⟩ := h4
      refine ⟨fun _ => ⟨hf, by simp; omega, by omega, by omega, by omega, ?_⟩, fun h => absurd (by simpa using h) hs⟩
      rw [Int.toNat_natCast]
      refine ih _ _ (by rw [List.length_drop]; omega) (by rw [List.length_drop]; omega) (by rw [List.length_drop]; simp; omega) r3 ?_
      have e : cutN (k + 1) s = firstM s :: cutN k (s.drop (firstM s).2.1.length) := if_neg hs
      rw [e] at hK
      rw [List.append_assoc]
      exact hK
theorem cut_F (s : List UInt8) (hp : cutP s) : cutF s (fun r => r = cutS s) :=
  ⟨_, cut_loop _ s.length s [] (Nat.le_refl _) hp.1 (by have := hp.1; simpa using this) hp.2 (by simp [cutS])⟩
set_option linter.unusedVariables false in
theorem cut_c {g : Ghost} (xs : List UInt8) (hG1 : SomeInt g 1)  (hp : cutP xs) : CallsH Tryz.prog 16 #[.string ⟨⟨xs⟩⟩] g [] (fun g' H' v => ∃ (ar0_0 : Option Addr) (cr0_0 : Nat), v = .slice ar0_0 (cutS xs).length cr0_0 ∧ Rep g' (.slice (.pair (.int .i64) (.pair (.str) (.pair (.str) (.int .i64))))) [.slice ar0_0 (cutS xs).length cr0_0] (cutS xs) ∧ H' = []) :=
  (cut_ok xs hG1 _ (cut_F xs hp)).mono (by rintro g' H' v _ ⟨r0, ar0_0, cr0_0, rfl, hRr0_0, rfl, hK⟩; subst hK; exact ⟨ar0_0, cr0_0, rfl, hRr0_0, rfl⟩)
/-! Read -/
def mreV0 (e18 : List (Int × List UInt8 × List UInt8 × Int)) : List (Int × Int) :=
  (if (!((querS e18).2)) = true then ([(12, 0)] : List (Int × Int)) else ((querS e18).1).2)
def mrej40 (xs : List UInt8) (e18 : List (Int × List UInt8 × List UInt8 × Int)) (x26l27 : Int) (yown13_0l27 : List (Bool × List (Int × Int))) (C27 : Int → (List (Bool × List (Int × Int))) → Prop) : Prop :=
  (yown13_0l27 ++ ([((!(!((querS e18).2)) && (((querS e18).1).1)), (mreV0 e18))] : List (Bool × List (Int × Int)))).length ≤ 4398046511104 ∧ C27 (IntKind.wrap .i64 (x26l27 + 1)) (yown13_0l27 ++ ([((!(!((querS ((pieS (solidS (cutS xs))).getD (Int.toNat x26l27) default)).2)) && (((querS ((pieS (solidS (cutS xs))).getD (Int.toNat x26l27) default)).1).1)), (mreV0 ((pieS (solidS (cutS xs))).getD (Int.toNat x26l27) default)))] : List (Bool × List (Int × Int))))
def mrel27b (xs : List UInt8) (K : (List (Bool × List (Int × Int))) → Int → Prop) (x26l27 : Int) (yown13_0l27 : List (Bool × List (Int × Int))) (C27 : Int → (List (Bool × List (Int × Int))) → Prop) : Prop :=
  ((decide (x26l27 < ((pieS (solidS (cutS xs))).length : Int))) = true → (0 : Int) ≤ x26l27 ∧ Int.toNat x26l27 < (pieS (solidS (cutS xs))).length ∧ toksOK ((pieS (solidS (cutS xs))).getD (Int.toNat x26l27) default) ∧ ((!((querS ((pieS (solidS (cutS xs))).getD (Int.toNat x26l27) default)).2)) = true → mrej40 xs ((pieS (solidS (cutS xs))).getD (Int.toNat x26l27) default) x26l27 yown13_0l27 C27) ∧ ((!((querS ((pieS (solidS (cutS xs))).getD (Int.toNat x26l27) default)).2)) = false → mrej40 xs ((pieS (solidS (cutS xs))).getD (Int.toNat x26l27) default) x26l27 yown13_0l27 C27)) ∧ ((decide (x26l27 < ((pieS (solidS (cutS xs))).length : Int))) = false → K yown13_0l27 0)
def mrel27 (xs : List UInt8) (K : (List (Bool × List (Int × Int))) → Int → Prop) : Nat → Int → (List (Bool × List (Int × Int))) → Prop
  | 0, _, _ => False
  | k + 1, x26l27, yown13_0l27 => mrel27b xs K x26l27 yown13_0l27 (mrel27 xs K k)
def mreF (xs : List UInt8) (K : (List (Bool × List (Int × Int))) → Int → Prop) : Prop :=
  ((decide ((xs.length : Int) > 400)) = true → K ([] : List (Bool × List (Int × Int))) 2) ∧ ((decide ((xs.length : Int) > 400)) = false → cutP xs ∧ solidP (cutS xs) ∧ (((((solidS (cutS xs)).length : Int) == 0)) = true → K ([(false, ([(1, 0)] : List (Int × Int)))] : List (Bool × List (Int × Int))) 0) ∧ (((((solidS (cutS xs)).length : Int) == 0)) = false → toksOK (solidS (cutS xs)) ∧ ∃ k, mrel27 xs K k 0 ([] : List (Bool × List (Int × Int)))))
set_option maxHeartbeats 4000000 in
set_option maxRecDepth 100000 in
set_option linter.unusedVariables false in
theorem mre_ok {g : Ghost} (xs : List UInt8) (hG0 : GlobL g 0 (.str) DWords) (hG1 : SomeInt g 1) (hG2 : SomeIf g 2) (hG3 : SomeIf g 3) (K : (List (Bool × List (Int × Int))) → Int → Prop)
    (hF : mreF xs K) : CallsH Tryz.prog 12 #[.string ⟨⟨xs⟩⟩] g [] (fun g' H' v => ∃ (r0 : List (Bool × List (Int × Int))), ∃ (r1 : Int), ∃ (ar0_0 : Option Addr) (cr0_0 : Nat), v = .tuple #[.slice ar0_0 r0.length cr0_0, .int .i64 r1] ∧ Rep g' (.slice (.pair (.bool) (.slice (.pair (.int .i64) (.int .i64))))) [.slice ar0_0 r0.length cr0_0] r0 ∧ H' = [] ∧ K r0 r1) := by
  refine CallsH.enter 46 [(0, .string ⟨⟨xs⟩⟩)] Tryz.func12 rfl (by kernel_rfl) (by kernel_rfl) (by kernel_rfl) fun w0 => ?_
  refine Ok.seq ?_
  refine Ok.region ?_
  refine Ok.batch 1 [(0, .string ⟨⟨xs⟩⟩)] (by kernel_rfl) ?_
  refine Ok.batch 1 [(0, .string ⟨⟨xs⟩⟩)] (by kernel_rfl) ?_
  refine Ok.nil ?_
  refine Ok.thenN ?_
  refine Ok.seq ?_
  refine Ok.seq ?_
  refine Ok.region ?_
  refine Ok.batch 3 [(0, .string ⟨⟨xs⟩⟩), (12, .bool (decide ((xs.length : Int) > 400)))] (by kernel_rfl) ?_
  refine Ok.nil ?_
  refine Ok.thenN ?_
  refine Ok.cond (b := decide ((xs.length : Int) > 400)) rfl (fun hc1 => ?_) (fun hc1 => ?_)
  · replace hF := hF.1 hc1
    refine Ok.seq ?_
    refine Ok.region ?_
    refine Ok.batch 1 [(2, .slice none 0 0)] (by kernel_rfl) ?_
    have hL2 : RepL g (.pair (.bool) (.slice (.pair (.int .i64) (.int .i64)))) [] [] := rfl
    refine Ok.ownNil 28 2 ?_
    refine Ok.batch 1 [(2, .slice none ([] : List (Bool × List (Int × Int))).length 0), (3, .int .i64 2)] (by kernel_rfl) ?_
    refine Ok.nil ?_
    refine Ok.thenN ?_
    refine Ok.ret ?_
    refine Ok.thenR ?_
    refine Ok.freeze (H' := []) 0 rfl hL2 rfl fun g3 hx3 hRf3 => ?_
    replace hG0 := hG0.mono hx3.1
    replace hG1 := hG1.mono hx3.1
    replace hG2 := hG2.mono hx3.1
    replace hG3 := hG3.mono hx3.1
    exact Ok.resH (vs := [.slice none ([] : List (Bool × List (Int × Int))).length 0, .int .i64 2]) (.inl rfl) rfl (.cons (.tmp rfl) (.cons (.tmp rfl) .nil)) hx3 ⟨([] : List (Bool × List (Int × Int))), 2, none, 0, rfl, hRf3, rfl, hF⟩
  · replace hF := hF.2 hc1
    refine Ok.skip ?_
    refine Ok.thenN ?_
    refine Ok.seq ?_
    refine Ok.region ?_
    refine Ok.batch 1 [(13, .string ⟨⟨xs⟩⟩)] (by kernel_rfl) ?_
    obtain ⟨hp4, hF⟩ := hF
    refine Ok.op rfl (OpOk.callH [] [] (enters (by kernel_rfl) (fun _ => by kernel_rfl)) rfl (cut_c xs hG1 hp4) rfl fun g5 _ _ hx5 hV5 => ?_)
    obtain ⟨a5_0, c5_0, rfl, hR5_0, rfl⟩ := hV5
    replace hG0 := hG0.mono hx5.1
    replace hG1 := hG1.mono hx5.1
    replace hG2 := hG2.mono hx5.1
    replace hG3 := hG3.mono hx5.1
    obtain ⟨hp6, hF⟩ := hF
    refine Ok.op rfl (OpOk.callH [] [] (enters (by kernel_rfl) (fun _ => by kernel_rfl)) rfl (msl_c (cutS xs) hR5_0 hp6) rfl fun g7 _ _ hx7 hV7 => ?_)
    obtain ⟨a7_0, c7_0, rfl, hR7_0, rfl⟩ := hV7
    replace hR5_0 := hR5_0.mono hx7.1
    replace hG0 := hG0.mono hx7.1
    replace hG1 := hG1.mono hx7.1
    replace hG2 := hG2.mono hx7.1
    replace hG3 := hG3.mono hx7.1
    refine Ok.batch 1 [(4, .slice a7_0 (solidS (cutS xs)).length c7_0)] (by kernel_rfl) ?_
    refine Ok.nil ?_
    refine Ok.thenN ?_
    refine Ok.seq ?_
    refine Ok.seq ?_
    refine Ok.region ?_
    refine Ok.batch 3 [(4, .slice a7_0 (solidS (cutS xs)).length c7_0), (18, .bool (((solidS (cutS xs)).length : Int) == 0))] (by kernel_rfl) ?_
    refine Ok.nil ?_
    refine Ok.thenN ?_
    refine Ok.cond (b := (((solidS (cutS xs)).length : Int) == 0)) rfl (fun hc8 => ?_) (fun hc8 => ?_)
    · replace hF := hF.1 hc8
      refine Ok.seq ?_
      refine Ok.region ?_
      refine Ok.batch 1 [(19, .agg #[.int .i64 1, .int .i64 0])] (by kernel_rfl) ?_
      have hL9 : RepL g7 (.pair (.int .i64) (.int .i64)) ([.int .i64 1, .int .i64 0] : List Value) ([(1, 0)] : List (Int × Int)) := (RepL.consN (c := [.int .i64 1, .int .i64 0]) ⟨[.int .i64 1], [.int .i64 0], rfl, rfl, rfl⟩ rfl)
      refine Ok.op rfl (OpOk.lit (E := 31) (.pair (.int .i64) (.int .i64)) ([(1, 0)] : List (Int × Int)) ([.int .i64 1, .int .i64 0] : List Value) (by kernel_rfl) (by kernel_rfl) rfl (by kernel_rfl) hL9 rfl fun b9 => ?_)
      refine Ok.batch 1 [(21, .agg #[.bool false, .slice (some ⟨b9, 0, none⟩) ([(1, 0)] : List (Int × Int)).length 1])] (by kernel_rfl) ?_
      refine Ok.freeze (H' := []) 0 rfl hL9 rfl fun g10 hx10 hRf10 => ?_
      replace hG0 := hG0.mono hx10.1
      replace hG1 := hG1.mono hx10.1
      replace hG2 := hG2.mono hx10.1
      replace hG3 := hG3.mono hx10.1
      have hL11 : RepL g10 (.pair (.bool) (.slice (.pair (.int .i64) (.int .i64)))) ([.bool false, .slice (some ⟨b9, 0, none⟩) ([(1, 0)] : List (Int × Int)).length 1] : List Value) ([(false, ([(1, 0)] : List (Int × Int)))] : List (Bool × List (Int × Int))) := (RepL.consN (c := [.bool false, .slice (some ⟨b9, 0, none⟩) ([(1, 0)] : List (Int × Int)).length 1]) ⟨[.bool false], [.slice (some ⟨b9, 0, none⟩) ([(1, 0)] : List (Int × Int)).length 1], rfl, rfl, hRf10⟩ rfl)
      refine Ok.op rfl (OpOk.lit (E := 28) (.pair (.bool) (.slice (.pair (.int .i64) (.int .i64)))) ([(false, ([(1, 0)] : List (Int × Int)))] : List (Bool × List (Int × Int))) ([.bool false, .slice (some ⟨b9, 0, none⟩) ([(1, 0)] : List (Int × Int)).length 1] : List Value) (by kernel_rfl) (by kernel_rfl) rfl (by kernel_rfl) hL11 rfl fun b11 => ?_)
      refine Ok.batch 2 [(2, .slice (some ⟨b11, 0, none⟩) ([(false, ([(1, 0)] : List (Int × Int)))] : List (Bool × List (Int × Int))).length 1), (3, .int .i64 0)] (by kernel_rfl) ?_
      refine Ok.nil ?_
      refine Ok.thenN ?_
      refine Ok.ret ?_
      refine Ok.thenR ?_
      refine Ok.freeze (H' := []) 0 rfl hL11 rfl fun g12 hx12 hRf12 => ?_
      replace hG0 := hG0.mono hx12.1
      replace hG1 := hG1.mono hx12.1
      replace hG2 := hG2.mono hx12.1
      replace hG3 := hG3.mono hx12.1
      exact Ok.resH (vs := [.slice (some ⟨b11, 0, none⟩) ([(false, ([(1, 0)] : List (Int × Int)))] : List (Bool × List (Int × Int))).length 1, .int .i64 0]) (.inl rfl) rfl (.cons (.tmp rfl) (.cons (.tmp rfl) .nil)) (((hx5.trans hx7).trans hx10).trans hx12) ⟨([(false, ([(1, 0)] : List (Int × Int)))] : List (Bool × List (Int × Int))), 0, (some ⟨b11, 0, none⟩), 1, rfl, hRf12, rfl, hF⟩
    · replace hF := hF.2 hc8
      refine Ok.skip ?_
      refine Ok.thenN ?_
      refine Ok.seq ?_
      refine Ok.region ?_
      refine Ok.batch 1 [(4, .slice a7_0 (solidS (cutS xs)).length c7_0), (5, .slice none 0 0)] (by kernel_rfl) ?_
      have hL13 : RepL g7 (.pair (.bool) (.slice (.pair (.int .i64) (.int .i64)))) [] [] := rfl
      refine Ok.ownNil 28 2 ?_
      refine Ok.nil ?_
      refine Ok.thenN ?_
      refine Ok.seq ?_
      refine Ok.seq ?_
      refine Ok.region ?_
      refine Ok.batch 1 [(5, .slice none ([] : List (Bool × List (Int × Int))).length 0), (23, .slice a7_0 (solidS (cutS xs)).length c7_0)] (by kernel_rfl) ?_
      obtain ⟨hp14, hF⟩ := hF
      refine Ok.op rfl (OpOk.callH [] [.own (.slice none ([] : List (Bool × List (Int × Int))).length 0) 28 2 ([] : List (Bool × List (Int × Int))).length ([])] (enters (by kernel_rfl) (fun _ => by kernel_rfl)) rfl (mpi_c (solidS (cutS xs)) hR7_0 hp14) rfl fun g15 _ _ hx15 hV15 => ?_)
      obtain ⟨a15_0, c15_0, rfl, hR15_0, rfl⟩ := hV15
      replace hL13 := hL13.mono hx15.1
      replace hR7_0 := hR7_0.mono hx15.1
      replace hG0 := hG0.mono hx15.1
      replace hG1 := hG1.mono hx15.1
      replace hG2 := hG2.mono hx15.1
      replace hG3 := hG3.mono hx15.1
      refine Ok.batch 2 [(5, .slice none ([] : List (Bool × List (Int × Int))).length 0), (24, .slice a15_0 (pieS (solidS (cutS xs))).length c15_0), (25, .int .i64 ((pieS (solidS (cutS xs))).length : Int)), (26, .int .i64 0)] (by kernel_rfl) ?_
      refine Ok.nil ?_
      refine Ok.thenN ?_
      refine Ok.block ?_
      obtain ⟨k, hF⟩ := hF
      refine Ok.loop (fun k a W => ∃ gl27 : Ghost, Gext w0 g15 gl27 ∧ ∃ (x26l27 : Int) (ayown13_0l27 : Option Addr) (cyown13_0l27 : Nat) (yown13_0l27 : List (Bool × List (Int × Int))) (xsyown13_0l27 : List Value), RepL gl27 (.pair (.bool) (.slice (.pair (.int .i64) (.int .i64)))) xsyown13_0l27 yown13_0l27 ∧ StA 46 [(5, .slice ayown13_0l27 yown13_0l27.length cyown13_0l27), (24, .slice a15_0 (pieS (solidS (cutS xs))).length c15_0), (25, .int .i64 ((pieS (solidS (cutS xs))).length : Int)), (26, .int .i64 x26l27)] a ∧ StW w0 [.own (.slice ayown13_0l27 yown13_0l27.length cyown13_0l27) 28 2 yown13_0l27.length xsyown13_0l27] gl27 W ∧ mrel27 xs K k x26l27 yown13_0l27) k ?_ ?_
      ·
        exact fun a W hA hW => ⟨g15, (Gext.refl w0 g15), 0, none, 0, ([] : List (Bool × List (Int × Int))), [], hL13, hA.sub (by kernel_rfl), hW, hF⟩
      ·
        clear hF
        rintro k27 a W ⟨gl27, hxl27, x26l27, ayown13_0l27, cyown13_0l27, yown13_0l27, xsyown13_0l27, hLyown13_0l27, hA, hW, hF⟩
        cases k27 with
        | zero => exact (hF : False).elim
        | succ k27 =>
          refine (?_ : Ok _ _ _ _ _ _) a W hA hW
          clear hA hW
          replace hR15_0 := hR15_0.mono hxl27.1
          replace hG0 := hG0.mono hxl27.1
          replace hG1 := hG1.mono hxl27.1
          replace hG2 := hG2.mono hxl27.1
          replace hG3 := hG3.mono hxl27.1
          refine Ok.seq ?_
          refine Ok.region ?_
          refine Ok.batch 1 [(5, .slice ayown13_0l27 yown13_0l27.length cyown13_0l27), (24, .slice a15_0 (pieS (solidS (cutS xs))).length c15_0), (25, .int .i64 ((pieS (solidS (cutS xs))).length : Int)), (26, .int .i64 x26l27), (27, .bool (decide (x26l27 < ((pieS (solidS (cutS xs))).length : Int))))] (by kernel_rfl) ?_
          refine Ok.nil ?_
          refine Ok.thenN ?_
          refine Ok.seq ?_
          refine Ok.cond (b := decide (x26l27 < ((pieS (solidS (cutS xs))).length : Int))) rfl (fun hc16 => ?_) (fun hc16 => ?_)
          · replace hF := hF.1 hc16
            refine Ok.skip ?_
            refine Ok.thenN ?_
            refine Ok.seq ?_
            refine Ok.block ?_
            refine Ok.seq ?_
            refine Ok.region ?_
            obtain ⟨h018, h118, hF⟩ := hF
            have he18 := get_of (l := (pieS (solidS (cutS xs)))) (default : List (Int × List UInt8 × List UInt8 × Int)) h118
            generalize hg18 : ((pieS (solidS (cutS xs))).getD (Int.toNat x26l27) default) = e18 at he18 hF ⊢
            refine Ok.op rfl (OpOk.indexRo (e := .slice (.pair (.int .i64) (.pair (.str) (.pair (.str) (.int .i64))))) (i := x26l27) (el := e18) rfl rfl Tryz.underlying49 (by kernel_rfl) hR15_0 h018 he18 rfl fun q17 o17 cs17 _ hat17 hr17 => ?_)
            obtain ⟨a17_0, c17_0, rfl, hm17_0, hr17_0⟩ := hr17
            have hR17_0 : Rep gl27 (.slice (.pair (.int .i64) (.pair (.str) (.pair (.str) (.int .i64))))) [.slice a17_0 e18.length c17_0] e18 := ⟨a17_0, c17_0, rfl, hm17_0, hr17_0⟩
            replace hat17 : At gl27 q17 o17 [.slice a17_0 e18.length c17_0] := hat17
            refine Ok.op rfl (OpOk.step (v := .slice a17_0 e18.length c17_0) (Yields.loadRo 0 hat17 (by kernel_rfl) Tryz.underlying46 rfl (by kernel_rfl)) rfl rfl ?_)
            refine Ok.batch 1 [(5, .slice ayown13_0l27 yown13_0l27.length cyown13_0l27), (7, .slice a17_0 e18.length c17_0), (24, .slice a15_0 (pieS (solidS (cutS xs))).length c15_0), (25, .int .i64 ((pieS (solidS (cutS xs))).length : Int)), (26, .int .i64 x26l27)] (by kernel_rfl) ?_
            refine Ok.nil ?_
            refine Ok.thenN ?_
            refine Ok.seq ?_
            refine Ok.region ?_
            refine Ok.batch 1 [(5, .slice ayown13_0l27 yown13_0l27.length cyown13_0l27), (24, .slice a15_0 (pieS (solidS (cutS xs))).length c15_0), (25, .int .i64 ((pieS (solidS (cutS xs))).length : Int)), (26, .int .i64 x26l27), (31, .slice a17_0 e18.length c17_0)] (by kernel_rfl) ?_
            obtain ⟨hp19, hF⟩ := hF
            refine Ok.op rfl (OpOk.callH [] [.own (.slice ayown13_0l27 yown13_0l27.length cyown13_0l27) 28 2 yown13_0l27.length xsyown13_0l27] (enters (by kernel_rfl) (fun _ => by kernel_rfl)) rfl (mqu_c e18 hR17_0 hG0 hG2 hG3 hp19) rfl fun g20 _ _ hx20 hV20 => ?_)
            obtain ⟨a20_0, c20_0, rfl, hR20_0, rfl⟩ := hV20
            replace hLyown13_0l27 := hLyown13_0l27.mono hx20.1
            replace hR15_0 := hR15_0.mono hx20.1
            replace hR17_0 := hR17_0.mono hx20.1
            replace hG0 := hG0.mono hx20.1
            replace hG1 := hG1.mono hx20.1
            replace hG2 := hG2.mono hx20.1
            replace hG3 := hG3.mono hx20.1
            refine Ok.batch 3 [(5, .slice ayown13_0l27 yown13_0l27.length cyown13_0l27), (24, .slice a15_0 (pieS (solidS (cutS xs))).length c15_0), (25, .int .i64 ((pieS (solidS (cutS xs))).length : Int)), (26, .int .i64 x26l27), (33, .agg #[.bool (((querS e18).1).1), .slice a20_0 (((querS e18).1).2).length c20_0]), (34, .bool ((querS e18).2))] (by kernel_rfl) ?_
            refine Ok.op rfl (OpOk.alloc (z := .agg #[.bool false, .slice none 0 0]) (cs := #[.bool false, .slice none 0 0]) (by kernel_rfl) (by kernel_rfl) rfl fun bs8 => ?_)
            refine Ok.op rfl (OpOk.store (k := 2) (v := .agg #[.bool (((querS e18).1).1), .slice a20_0 (((querS e18).1).2).length c20_0]) (H' := [.blk bs8 (.cells #[.bool (((querS e18).1).1), .slice a20_0 (((querS e18).1).2).length c20_0] 28), .own (.slice ayown13_0l27 yown13_0l27.length cyown13_0l27) 28 2 yown13_0l27.length xsyown13_0l27]) 0 rfl rfl rfl (by kernel_rfl) (by kernel_rfl) (by kernel_rfl) (by kernel_rfl) (by kernel_rfl) ?_)
            refine Ok.batch 1 [(5, .slice ayown13_0l27 yown13_0l27.length cyown13_0l27), (8, .pointer (some ⟨bs8, 0, none⟩)), (9, .bool ((querS e18).2)), (24, .slice a15_0 (pieS (solidS (cutS xs))).length c15_0), (25, .int .i64 ((pieS (solidS (cutS xs))).length : Int)), (26, .int .i64 x26l27)] (by kernel_rfl) ?_
            refine Ok.nil ?_
            refine Ok.thenN ?_
            refine Ok.cut (fun a W => ∃ gj40 : Ghost, Gext w0 g20 gj40 ∧ ∃ (aybs8_1j40 : Option Addr) (cybs8_1j40 : Nat), Rep gj40 (.slice (.pair (.int .i64) (.int .i64))) [.slice aybs8_1j40 (mreV0 e18).length cybs8_1j40] (mreV0 e18) ∧ StA 46 [(5, .slice ayown13_0l27 yown13_0l27.length cyown13_0l27), (8, .pointer (some ⟨bs8, 0, none⟩)), (24, .slice a15_0 (pieS (solidS (cutS xs))).length c15_0), (25, .int .i64 ((pieS (solidS (cutS xs))).length : Int)), (26, .int .i64 x26l27)] a ∧ StW w0 [.blk bs8 (.cells #[.bool (!(!((querS e18).2)) && (((querS e18).1).1)), .slice aybs8_1j40 (mreV0 e18).length cybs8_1j40] 28), .own (.slice ayown13_0l27 yown13_0l27.length cyown13_0l27) 28 2 yown13_0l27.length xsyown13_0l27] gj40 W ∧ mrej40 xs e18 x26l27 yown13_0l27 (mrel27 xs K k27)) ?_ ?_
            ·
              refine Ok.seq ?_
              refine Ok.region ?_
              refine Ok.batch 2 [(5, .slice ayown13_0l27 yown13_0l27.length cyown13_0l27), (8, .pointer (some ⟨bs8, 0, none⟩)), (24, .slice a15_0 (pieS (solidS (cutS xs))).length c15_0), (25, .int .i64 ((pieS (solidS (cutS xs))).length : Int)), (26, .int .i64 x26l27), (36, .bool (!((querS e18).2)))] (by kernel_rfl) ?_
              refine Ok.nil ?_
              refine Ok.thenN ?_
              refine Ok.cond (b := !((querS e18).2)) rfl (fun hc24 => ?_) (fun hc24 => ?_)
              · replace hF := hF.1 hc24
                refine Ok.region ?_
                refine Ok.batch 1 [(5, .slice ayown13_0l27 yown13_0l27.length cyown13_0l27), (8, .pointer (some ⟨bs8, 0, none⟩)), (24, .slice a15_0 (pieS (solidS (cutS xs))).length c15_0), (25, .int .i64 ((pieS (solidS (cutS xs))).length : Int)), (26, .int .i64 x26l27), (37, .agg #[.int .i64 12, .int .i64 0])] (by kernel_rfl) ?_
                have hL25 : RepL g20 (.pair (.int .i64) (.int .i64)) ([.int .i64 12, .int .i64 0] : List Value) ([(12, 0)] : List (Int × Int)) := (RepL.consN (c := [.int .i64 12, .int .i64 0]) ⟨[.int .i64 12], [.int .i64 0], rfl, rfl, rfl⟩ rfl)
                refine Ok.op rfl (OpOk.lit (E := 31) (.pair (.int .i64) (.int .i64)) ([(12, 0)] : List (Int × Int)) ([.int .i64 12, .int .i64 0] : List Value) (by kernel_rfl) (by kernel_rfl) rfl (by kernel_rfl) hL25 rfl fun b25 => ?_)
                refine Ok.batch 1 [(5, .slice ayown13_0l27 yown13_0l27.length cyown13_0l27), (8, .pointer (some ⟨bs8, 0, none⟩)), (24, .slice a15_0 (pieS (solidS (cutS xs))).length c15_0), (25, .int .i64 ((pieS (solidS (cutS xs))).length : Int)), (26, .int .i64 x26l27), (39, .agg #[.bool false, .slice (some ⟨b25, 0, none⟩) ([(12, 0)] : List (Int × Int)).length 1])] (by kernel_rfl) ?_
                refine Ok.op rfl (OpOk.store (k := 2) (v := .agg #[.bool false, .slice (some ⟨b25, 0, none⟩) ([(12, 0)] : List (Int × Int)).length 1]) (H' := [.own (.slice (some ⟨b25, 0, none⟩) ([(12, 0)] : List (Int × Int)).length 1) 31 2 ([(12, 0)] : List (Int × Int)).length ([.int .i64 12, .int .i64 0] : List Value), .blk bs8 (.cells #[.bool false, .slice (some ⟨b25, 0, none⟩) ([(12, 0)] : List (Int × Int)).length 1] 28), .own (.slice ayown13_0l27 yown13_0l27.length cyown13_0l27) 28 2 yown13_0l27.length xsyown13_0l27]) 1 rfl rfl rfl (by kernel_rfl) (by kernel_rfl) (by kernel_rfl) (by kernel_rfl) (by kernel_rfl) ?_)
                refine Ok.nil ?_
                refine Ok.freeze (H' := [.blk bs8 (.cells #[.bool false, .slice (some ⟨b25, 0, none⟩) ([(12, 0)] : List (Int × Int)).length 1] 28), .own (.slice ayown13_0l27 yown13_0l27.length cyown13_0l27) 28 2 yown13_0l27.length xsyown13_0l27]) 0 rfl hL25 rfl fun g26 hx26 hRf26 => ?_
                replace hLyown13_0l27 := hLyown13_0l27.mono hx26.1
                replace hR15_0 := hR15_0.mono hx26.1
                replace hG0 := hG0.mono hx26.1
                replace hG1 := hG1.mono hx26.1
                replace hG2 := hG2.mono hx26.1
                replace hG3 := hG3.mono hx26.1
                refine Ok.thenN ?_
                refine Ok.heapEq (H' := [.blk bs8 (.cells #[.bool (!(!((querS e18).2)) && (((querS e18).1).1)), .slice (some ⟨b25, 0, none⟩) (mreV0 e18).length 1] 28), .own (.slice ayown13_0l27 yown13_0l27.length cyown13_0l27) 28 2 yown13_0l27.length xsyown13_0l27]) (econs (congrArg (fun l : List Value => Ent.blk bs8 (.cells ⟨l⟩ 28)) (lcons (congrArg (Value.bool) (mnand_t hc24)) (lcons (congrArg (fun l : List (Int × Int) => Value.slice (some ⟨b25, 0, none⟩) l.length 1) ((if_t hc24).symm)) rfl))) (econs (rfl) rfl)) ?_
                exact fun a W hA hW => ⟨g26, hx26, (some ⟨b25, 0, none⟩), 1, (Eq.mp (congrArg (fun l : List (Int × Int) => Rep g26 (.slice (.pair (.int .i64) (.int .i64))) [.slice (some ⟨b25, 0, none⟩) l.length 1] l) ((if_t hc24).symm)) hRf26), hA.sub (by kernel_rfl), hW, hF⟩
              · replace hF := hF.2 hc24
                refine Ok.skip ?_
                refine Ok.thenN ?_
                refine Ok.heapEq (H' := [.blk bs8 (.cells #[.bool (!(!((querS e18).2)) && (((querS e18).1).1)), .slice a20_0 (mreV0 e18).length c20_0] 28), .own (.slice ayown13_0l27 yown13_0l27.length cyown13_0l27) 28 2 yown13_0l27.length xsyown13_0l27]) (econs (congrArg (fun l : List Value => Ent.blk bs8 (.cells ⟨l⟩ 28)) (lcons (congrArg (Value.bool) (mnand_f hc24)) (lcons (congrArg (fun l : List (Int × Int) => Value.slice a20_0 l.length c20_0) ((if_f hc24).symm)) rfl))) (econs (rfl) rfl)) ?_
                exact fun a W hA hW => ⟨g20, (Gext.refl w0 g20), a20_0, c20_0, (Eq.mp (congrArg (fun l : List (Int × Int) => Rep g20 (.slice (.pair (.int .i64) (.int .i64))) [.slice a20_0 l.length c20_0] l) ((if_f hc24).symm)) hR20_0), hA.sub (by kernel_rfl), hW, hF⟩
            ·
              clear hF
              rintro a W ⟨gj40, hxj40, aybs8_1j40, cybs8_1j40, hRybs8_1j40, hA, hW, hF⟩
              refine (?_ : Ok _ _ _ _ _ _) a W hA hW
              clear hA hW
              replace hLyown13_0l27 := hLyown13_0l27.mono hxj40.1
              replace hR15_0 := hR15_0.mono hxj40.1
              replace hG0 := hG0.mono hxj40.1
              replace hG1 := hG1.mono hxj40.1
              replace hG2 := hG2.mono hxj40.1
              replace hG3 := hG3.mono hxj40.1
              refine Ok.region ?_
              refine Ok.batch 1 [(8, .pointer (some ⟨bs8, 0, none⟩)), (24, .slice a15_0 (pieS (solidS (cutS xs))).length c15_0), (25, .int .i64 ((pieS (solidS (cutS xs))).length : Int)), (26, .int .i64 x26l27), (40, .slice ayown13_0l27 yown13_0l27.length cyown13_0l27)] (by kernel_rfl) ?_
              refine Ok.op rfl (OpOk.step (v := .agg #[.bool (!(!((querS e18).2)) && (((querS e18).1).1)), .slice aybs8_1j40 (mreV0 e18).length cybs8_1j40]) (Yields.loadAgg 0 2 #[.bool (!(!((querS e18).2)) && (((querS e18).1).1)), .slice aybs8_1j40 (mreV0 e18).length cybs8_1j40] rfl rfl Tryz.underlying28 rfl (by kernel_rfl) (by kernel_rfl) (by kernel_rfl)) rfl rfl ?_)
              have hL22 : RepL gj40 (.pair (.bool) (.slice (.pair (.int .i64) (.int .i64)))) ([.bool (!(!((querS e18).2)) && (((querS e18).1).1)), .slice aybs8_1j40 (mreV0 e18).length cybs8_1j40] : List Value) ([((!(!((querS e18).2)) && (((querS e18).1).1)), (mreV0 e18))] : List (Bool × List (Int × Int))) := (RepL.consN (c := [.bool (!(!((querS e18).2)) && (((querS e18).1).1)), .slice aybs8_1j40 (mreV0 e18).length cybs8_1j40]) ⟨[.bool (!(!((querS e18).2)) && (((querS e18).1).1))], [.slice aybs8_1j40 (mreV0 e18).length cybs8_1j40], rfl, rfl, hRybs8_1j40⟩ rfl)
              refine Ok.op rfl (OpOk.lit (E := 28) (.pair (.bool) (.slice (.pair (.int .i64) (.int .i64)))) ([((!(!((querS e18).2)) && (((querS e18).1).1)), (mreV0 e18))] : List (Bool × List (Int × Int))) ([.bool (!(!((querS e18).2)) && (((querS e18).1).1)), .slice aybs8_1j40 (mreV0 e18).length cybs8_1j40] : List Value) (by kernel_rfl) (by kernel_rfl) rfl (by kernel_rfl) hL22 rfl fun b22 => ?_)
              obtain ⟨hb23, hF⟩ := hF
              refine Ok.op rfl (OpOk.append' (e := .pair (.bool) (.slice (.pair (.int .i64) (.int .i64)))) 32 4398046511104 2 0 rfl rfl rfl rfl hLyown13_0l27 hL22 Tryz.underlying22 (by kernel_rfl) (by kernel_rfl) (by kernel_rfl) hb23 rfl fun a23 c23 xs23 hL23 => ?_)
              refine Ok.batch 1 [(5, .slice a23 (yown13_0l27 ++ ([((!(!((querS e18).2)) && (((querS e18).1).1)), (mreV0 e18))] : List (Bool × List (Int × Int)))).length c23), (24, .slice a15_0 (pieS (solidS (cutS xs))).length c15_0), (25, .int .i64 ((pieS (solidS (cutS xs))).length : Int)), (26, .int .i64 x26l27)] (by kernel_rfl) ?_
              refine Ok.nil ?_
              refine Ok.blockN ?_
              refine Ok.thenN ?_
              refine Ok.region ?_
              refine Ok.batch 2 [(5, .slice a23 (yown13_0l27 ++ ([((!(!((querS e18).2)) && (((querS e18).1).1)), (mreV0 e18))] : List (Bool × List (Int × Int)))).length c23), (24, .slice a15_0 (pieS (solidS (cutS xs))).length c15_0), (25, .int .i64 ((pieS (solidS (cutS xs))).length : Int)), (26, .int .i64 (IntKind.wrap .i64 (x26l27 + 1)))] (by kernel_rfl) ?_
              refine Ok.nil ?_
              refine Ok.thenN ?_
              subst hg18
              exact fun a W hA hW => ⟨k27, Nat.lt_succ_self _, gj40, ((hxl27.trans hx20).trans hxj40), IntKind.wrap .i64 (x26l27 + 1), a23, c23, (yown13_0l27 ++ ([((!(!((querS ((pieS (solidS (cutS xs))).getD (Int.toNat x26l27) default)).2)) && (((querS ((pieS (solidS (cutS xs))).getD (Int.toNat x26l27) default)).1).1)), (mreV0 ((pieS (solidS (cutS xs))).getD (Int.toNat x26l27) default)))] : List (Bool × List (Int × Int)))), xs23, hL23, hA.sub (by kernel_rfl), hW.sub (.cons _ (.cons _ (.cons_cons _ .slnil))), hF⟩
          · replace hF := hF.2 hc16
            refine Ok.exit ?_
            refine Ok.thenE ?_
            refine Ok.thenE ?_
            refine Ok.blockHit ?_
            refine Ok.thenN ?_
            refine Ok.seq ?_
            refine Ok.region ?_
            refine Ok.batch 3 [(2, .slice ayown13_0l27 yown13_0l27.length cyown13_0l27), (3, .int .i64 0)] (by kernel_rfl) ?_
            refine Ok.nil ?_
            refine Ok.thenN ?_
            refine Ok.ret ?_
            refine Ok.freeze (H' := []) 0 rfl hLyown13_0l27 rfl fun g27 hx27 hRf27 => ?_
            replace hG0 := hG0.mono hx27.1
            replace hG1 := hG1.mono hx27.1
            replace hG2 := hG2.mono hx27.1
            replace hG3 := hG3.mono hx27.1
            exact Ok.resH (vs := [.slice ayown13_0l27 yown13_0l27.length cyown13_0l27, .int .i64 0]) (.inl rfl) rfl (.cons (.tmp rfl) (.cons (.tmp rfl) .nil)) ((((hx5.trans hx7).trans hx15).trans hxl27).trans hx27) ⟨yown13_0l27, 0, ayown13_0l27, cyown13_0l27, rfl, hRf27, rfl, hF⟩
def qOf (p : List Tok) : Bool × List (Int × Int) := (!(!((querS p).2)) && (((querS p).1).1), mreV0 p)
def readS (s : List UInt8) : List (Bool × List (Int × Int)) × Int :=
  if decide ((s.length : Int) > 400) = true then ([], 2) else
  if (((solidS (cutS s)).length : Int) == 0) = true then ([(false, ([(1, 0)] : List (Int × Int)))], 0) else
  ((pieS (solidS (cutS s))).map qOf, 0)
def readP (s : List UInt8) : Prop := s.length ≤ 400 → cutP s ∧ toksOK (cutS s)
theorem solid_ok {l : List Tok} (h : toksOK l) : toksOK (solidS l) := by
  unfold solidS
  refine ⟨Nat.le_trans (List.length_filter_le _ _) h.1, List.all_eq_true.2 fun t ht => List.all_eq_true.1 h.2 t (List.mem_filter.1 ht).1⟩
theorem mre_F (s : List UInt8) (hp : readP s) : mreF s (fun r r1 => (r, r1) = readS s) := by
  unfold readS
  refine ⟨fun h => (if_t h).symm, fun h => ?_⟩
  have hl := of_decide_eq_false h
  obtain ⟨h1, h2⟩ := hp (by omega)
  have hso := solid_ok h2
  rw [if_f h]
  refine ⟨h1, by have := h2.1; unfold solidP; omega, fun hz => (if_t hz).symm, fun hz => ?_⟩
  rw [if_f hz]
  have hpi := pieS_ok hso
  refine ⟨hso, (pieS (solidS (cutS s))).length + 1, ?_⟩
  generalize hP : pieS (solidS (cutS s)) = P at *
  have loop : ∀ (k i : Nat) (out : List (Bool × List (Int × Int))), i + k = P.length → out.length ≤ i → out ++ (P.drop i).map qOf = P.map qOf → mrel27 s (fun r r1 => (r, r1) = (P.map qOf, (0 : Int))) (k + 1) (i : Int) out := by
    intro k
    induction k with
    | zero =>
      intro i out h ho he
      rw [List.drop_of_length_le (by omega)] at he
      have he : out = P.map qOf := by simpa using he
      refine ⟨fun h => ?_, fun _ => by rw [he]⟩
      have := of_decide_eq_true h
      rw [hP] at this
      omega
    | succ k ih =>
      intro i out h ho he
      rw [drop_get default (by omega)] at he
      refine ⟨fun _ => ?_, fun h => ?_⟩
      · rw [hP, Int.toNat_natCast]
        have hm : P.getD i default ∈ P := by
          rw [List.getD_eq_getElem?_getD, List.getElem?_eq_getElem (show i < P.length by omega), Option.getD_some]
          exact List.getElem_mem _
        have j40 : mrej40 s (P.getD i default) (i : Int) out (mrel27 s (fun r r1 => (r, r1) = (P.map qOf, (0 : Int))) (k + 1)) := by
          unfold mrej40
          rw [hP, Int.toNat_natCast, w64 (by omega)]
          refine ⟨by rw [List.length_append]; simp; omega, ?_⟩
          refine ih (i + 1) _ (by omega) (by rw [List.length_append]; simp; omega) ?_
          rw [List.append_assoc]
          exact he
        exact ⟨by omega, by omega, hpi.1 _ hm, fun _ => j40, fun _ => j40⟩
      · have := of_decide_eq_false h
        rw [hP] at this
        omega
  exact loop P.length 0 [] (by omega) (Nat.le_refl _) rfl
set_option linter.unusedVariables false in
theorem mre_c {g : Ghost} (xs : List UInt8) (hG0 : GlobL g 0 (.str) DWords) (hG1 : SomeInt g 1) (hG2 : SomeIf g 2) (hG3 : SomeIf g 3)  (hp : readP xs) : CallsH Tryz.prog 12 #[.string ⟨⟨xs⟩⟩] g [] (fun g' H' v => ∃ (ar0_0 : Option Addr) (cr0_0 : Nat), v = .tuple #[.slice ar0_0 ((readS xs).1).length cr0_0, .int .i64 ((readS xs).2)] ∧ Rep g' (.slice (.pair (.bool) (.slice (.pair (.int .i64) (.int .i64))))) [.slice ar0_0 ((readS xs).1).length cr0_0] ((readS xs).1) ∧ H' = []) :=
  (mre_ok xs hG0 hG1 hG2 hG3 _ (mre_F xs hp)).mono (by rintro g' H' v _ ⟨r0, r1, ar0_0, cr0_0, rfl, hRr0_0, rfl, hK⟩; obtain ⟨rfl, rfl⟩ : r0 = (readS xs).1 ∧ r1 = (readS xs).2 := ⟨congrArg (fun z => z.1) hK, congrArg (fun z => z.2) hK⟩; exact ⟨ar0_0, cr0_0, rfl, hRr0_0, rfl⟩)
end Go.Proofs.YtjehllphdpkjeaaGreatDoor.Me
