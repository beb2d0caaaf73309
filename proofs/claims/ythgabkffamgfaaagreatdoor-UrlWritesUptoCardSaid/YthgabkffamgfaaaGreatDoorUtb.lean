/- Addresses: Check and Write. -/
import Derived.Test.YthgabkffamgfaaaGreatDoorUta
namespace Go.Proofs.YthgabkffamgfaaaGreatDoor.Ub
open Go Go.Eng Go.RowKit Go.Shelf Go.Proofs Bld Sp Ti Uc Ua Ui
set_option linter.unusedVariables false
noncomputable section
def chkS0 (u : JU) : Int := if decide (((txtS u).length : Int) > 500) = true then 2 else if (((parS (txtS u)).2 != 0) || !(samS u (parS (txtS u)).1)) = true then 3 else 0
noncomputable def chkS : JU → Int := Classical.choose (rigid chkS0)
theorem chkS_eq : chkS = chkS0 := Classical.choose_spec (rigid chkS0)
theorem txt_sam {u : JU} (h : txtP u) (s : List UInt8) : samP u (parS s).1 := ⟨h.2.1.1, Nat.le_trans (par_path s) (by decide)⟩
def uchkV0 (xu : List UInt8 × List UInt8 × Int × List (List UInt8) × List UInt8 × Bool × List UInt8 × Bool) : Bool :=
  ((((parS (txtS xu)).2) != 0) || (!(samS xu (((parS (txtS xu)).1).1, (((parS (txtS xu)).1).2).1, ((((parS (txtS xu)).1).2).2).1, (((((parS (txtS xu)).1).2).2).2).1, ((((((parS (txtS xu)).1).2).2).2).2).1, (((((((parS (txtS xu)).1).2).2).2).2).2).1, ((((((((parS (txtS xu)).1).2).2).2).2).2).2).1, ((((((((parS (txtS xu)).1).2).2).2).2).2).2).2))))
def uchkV1 (xu : List UInt8 × List UInt8 × Int × List (List UInt8) × List UInt8 × Bool × List UInt8 × Bool) : Bool :=
  (samS xu (((parS (txtS xu)).1).1, (((parS (txtS xu)).1).2).1, ((((parS (txtS xu)).1).2).2).1, (((((parS (txtS xu)).1).2).2).2).1, ((((((parS (txtS xu)).1).2).2).2).2).1, (((((((parS (txtS xu)).1).2).2).2).2).2).1, ((((((((parS (txtS xu)).1).2).2).2).2).2).2).1, ((((((((parS (txtS xu)).1).2).2).2).2).2).2).2))
def uchkj16 (xu : List UInt8 × List UInt8 × Int × List (List UInt8) × List UInt8 × Bool × List UInt8 × Bool) (K : Int → Prop) : Prop :=
  (((uchkV0 xu)) = true → K 3) ∧ (((uchkV0 xu)) = false → K 0)
def uchkF (xu : List UInt8 × List UInt8 × Int × List (List UInt8) × List UInt8 × Bool × List UInt8 × Bool) (K : Int → Prop) : Prop :=
  txtP xu ∧ ((decide (((txtS xu).length : Int) > 500)) = true → K 2) ∧ ((decide (((txtS xu).length : Int) > 500)) = false → (((((parS (txtS xu)).2) != 0)) = true → uchkj16 xu K) ∧ (((((parS (txtS xu)).2) != 0)) = false → samP xu (((parS (txtS xu)).1).1, (((parS (txtS xu)).1).2).1, ((((parS (txtS xu)).1).2).2).1, (((((parS (txtS xu)).1).2).2).2).1, ((((((parS (txtS xu)).1).2).2).2).2).1, (((((((parS (txtS xu)).1).2).2).2).2).2).1, ((((((((parS (txtS xu)).1).2).2).2).2).2).2).1, ((((((((parS (txtS xu)).1).2).2).2).2).2).2).2) ∧ uchkj16 xu K))
set_option maxHeartbeats 4000000 in
set_option maxRecDepth 100000 in
set_option linter.unusedVariables false in
theorem uchk_ok {g : Ghost} {axu_0 : Option Addr} {cxu_0 : Nat} (xu : List UInt8 × List UInt8 × Int × List (List UInt8) × List UInt8 × Bool × List UInt8 × Bool) (hRxu_0 : Rep g (.slice (.str)) [.slice axu_0 xu.2.2.2.1.length cxu_0] xu.2.2.2.1) (hG0 : SomeInt g 0) (hG1 : SomeIf g 1) (hG2 : SomeIf g 2) (hG3 : GlobL g 3 (.int .u64) DPow) (hG4 : GlobL g 4 (.int .u8) DFirst) (hG5 : GlobL g 5 (.pair (.int .u8) (.int .u8)) DAcc) (K : Int → Prop)
    (hF : uchkF xu K) : CallsH Tryz.prog 13 #[.agg #[.string ⟨⟨xu.1⟩⟩, .string ⟨⟨xu.2.1⟩⟩, .int .i64 xu.2.2.1, .slice axu_0 xu.2.2.2.1.length cxu_0, .string ⟨⟨xu.2.2.2.2.1⟩⟩, .bool xu.2.2.2.2.2.1, .string ⟨⟨xu.2.2.2.2.2.2.1⟩⟩, .bool xu.2.2.2.2.2.2.2]] g [] (fun g' H' v => ∃ (r0 : Int), v = .int .i64 r0 ∧ H' = [] ∧ K r0) := by
  refine CallsH.enter 24 [(0, .agg #[.string ⟨⟨xu.1⟩⟩, .string ⟨⟨xu.2.1⟩⟩, .int .i64 xu.2.2.1, .slice axu_0 xu.2.2.2.1.length cxu_0, .string ⟨⟨xu.2.2.2.2.1⟩⟩, .bool xu.2.2.2.2.2.1, .string ⟨⟨xu.2.2.2.2.2.2.1⟩⟩, .bool xu.2.2.2.2.2.2.2])] Tryz.func13 rfl (by kernel_rfl) (by kernel_rfl) (by kernel_rfl) fun w0 => ?_
  refine Ok.seq ?_
  refine Ok.region ?_
  refine Ok.op rfl (OpOk.box (v := .agg #[.string ⟨⟨xu.1⟩⟩, .string ⟨⟨xu.2.1⟩⟩, .int .i64 xu.2.2.1, .slice axu_0 xu.2.2.2.1.length cxu_0, .string ⟨⟨xu.2.2.2.2.1⟩⟩, .bool xu.2.2.2.2.2.1, .string ⟨⟨xu.2.2.2.2.2.2.1⟩⟩, .bool xu.2.2.2.2.2.2.2]) (cs := #[.string ⟨⟨xu.1⟩⟩, .string ⟨⟨xu.2.1⟩⟩, .int .i64 xu.2.2.1, .slice axu_0 xu.2.2.2.1.length cxu_0, .string ⟨⟨xu.2.2.2.2.1⟩⟩, .bool xu.2.2.2.2.2.1, .string ⟨⟨xu.2.2.2.2.2.2.1⟩⟩, .bool xu.2.2.2.2.2.2.2]) rfl (by kernel_rfl) rfl fun b1 => ?_)
  refine Ok.batch 1 [(1, .pointer (some ⟨b1, 0, none⟩))] (by kernel_rfl) ?_
  refine Ok.nil ?_
  refine Ok.thenN ?_
  refine Ok.seq ?_
  refine Ok.region ?_
  refine Ok.op rfl (OpOk.step (v := .agg #[.string ⟨⟨xu.1⟩⟩, .string ⟨⟨xu.2.1⟩⟩, .int .i64 xu.2.2.1, .slice axu_0 xu.2.2.2.1.length cxu_0, .string ⟨⟨xu.2.2.2.2.1⟩⟩, .bool xu.2.2.2.2.2.1, .string ⟨⟨xu.2.2.2.2.2.2.1⟩⟩, .bool xu.2.2.2.2.2.2.2]) (Yields.loadAgg 0 8 #[.string ⟨⟨xu.1⟩⟩, .string ⟨⟨xu.2.1⟩⟩, .int .i64 xu.2.2.1, .slice axu_0 xu.2.2.2.1.length cxu_0, .string ⟨⟨xu.2.2.2.2.1⟩⟩, .bool xu.2.2.2.2.2.1, .string ⟨⟨xu.2.2.2.2.2.2.1⟩⟩, .bool xu.2.2.2.2.2.2.2] rfl rfl Tryz.underlying24 rfl (by kernel_rfl) (by kernel_rfl) (by kernel_rfl)) rfl rfl ?_)
  obtain ⟨hp2, hF⟩ := hF
  refine Ok.op rfl (OpOk.callG (v := .string ⟨⟨(txtS xu)⟩⟩) (enters (by kernel_rfl) (fun _ => by kernel_rfl)) (fun W hW => utxt_c xu (hRxu_0.mono hW.sees) (hG3.mono hW.sees) hp2) rfl ?_)
  refine Ok.batch 1 [(1, .pointer (some ⟨b1, 0, none⟩)), (3, .string ⟨⟨(txtS xu)⟩⟩)] (by kernel_rfl) ?_
  refine Ok.nil ?_
  refine Ok.thenN ?_
  refine Ok.seq ?_
  refine Ok.seq ?_
  refine Ok.region ?_
  refine Ok.batch 3 [(1, .pointer (some ⟨b1, 0, none⟩)), (3, .string ⟨⟨(txtS xu)⟩⟩), (10, .bool (decide (((txtS xu).length : Int) > 500)))] (by kernel_rfl) ?_
  refine Ok.nil ?_
  refine Ok.thenN ?_
  refine Ok.cond (b := decide (((txtS xu).length : Int) > 500)) rfl (fun hc3 => ?_) (fun hc3 => ?_)
  · replace hF := hF.1 hc3
    refine Ok.seq ?_
    refine Ok.region ?_
    refine Ok.batch 1 [(2, .int .i64 2)] (by kernel_rfl) ?_
    refine Ok.nil ?_
    refine Ok.thenN ?_
    refine Ok.ret ?_
    refine Ok.thenR ?_
    exact Ok.resP (vs := [.int .i64 2]) [] [] (by decide) rfl (.inl rfl) rfl (.cons (.tmp rfl) .nil) (Gext.refl w0 g) ⟨2, rfl, rfl, hF⟩
  · replace hF := hF.2 hc3
    refine Ok.skip ?_
    refine Ok.thenN ?_
    refine Ok.seq ?_
    refine Ok.seq ?_
    refine Ok.region ?_
    refine Ok.batch 1 [(1, .pointer (some ⟨b1, 0, none⟩)), (12, .string ⟨⟨(txtS xu)⟩⟩)] (by kernel_rfl) ?_
    refine Ok.op rfl (OpOk.callH [] [.blk b1 (.cells #[.string ⟨⟨xu.1⟩⟩, .string ⟨⟨xu.2.1⟩⟩, .int .i64 xu.2.2.1, .slice axu_0 xu.2.2.2.1.length cxu_0, .string ⟨⟨xu.2.2.2.2.1⟩⟩, .bool xu.2.2.2.2.2.1, .string ⟨⟨xu.2.2.2.2.2.2.1⟩⟩, .bool xu.2.2.2.2.2.2.2] 24)] (enters (by kernel_rfl) (fun _ => by kernel_rfl)) rfl (upar_c (txtS xu) hG0 hG1 hG2 hG4 hG5) rfl fun g4 _ _ hx4 hV4 => ?_)
    obtain ⟨a4_0, c4_0, rfl, hR4_0, rfl⟩ := hV4
    replace hRxu_0 := hRxu_0.mono hx4.1
    replace hG0 := hG0.mono hx4.1
    replace hG1 := hG1.mono hx4.1
    replace hG2 := hG2.mono hx4.1
    replace hG3 := hG3.mono hx4.1
    replace hG4 := hG4.mono hx4.1
    replace hG5 := hG5.mono hx4.1
    refine Ok.batch 3 [(1, .pointer (some ⟨b1, 0, none⟩)), (14, .agg #[.string ⟨⟨((parS (txtS xu)).1).1⟩⟩, .string ⟨⟨(((parS (txtS xu)).1).2).1⟩⟩, .int .i64 (((((parS (txtS xu)).1).2).2).1), .slice a4_0 ((((((parS (txtS xu)).1).2).2).2).1).length c4_0, .string ⟨⟨((((((parS (txtS xu)).1).2).2).2).2).1⟩⟩, .bool ((((((((parS (txtS xu)).1).2).2).2).2).2).1), .string ⟨⟨((((((((parS (txtS xu)).1).2).2).2).2).2).2).1⟩⟩, .bool (((((((((parS (txtS xu)).1).2).2).2).2).2).2).2)]), (15, .int .i64 ((parS (txtS xu)).2))] (by kernel_rfl) ?_
    refine Ok.op rfl (OpOk.alloc (z := .agg #[.string ⟨⟨([] : List UInt8)⟩⟩, .string ⟨⟨([] : List UInt8)⟩⟩, .int .i64 0, .slice none 0 0, .string ⟨⟨([] : List UInt8)⟩⟩, .bool false, .string ⟨⟨([] : List UInt8)⟩⟩, .bool false]) (cs := #[.string ⟨⟨([] : List UInt8)⟩⟩, .string ⟨⟨([] : List UInt8)⟩⟩, .int .i64 0, .slice none 0 0, .string ⟨⟨([] : List UInt8)⟩⟩, .bool false, .string ⟨⟨([] : List UInt8)⟩⟩, .bool false]) (by kernel_rfl) (by kernel_rfl) rfl fun b5 => ?_)
    refine Ok.op rfl (OpOk.store (k := 8) (v := .agg #[.string ⟨⟨((parS (txtS xu)).1).1⟩⟩, .string ⟨⟨(((parS (txtS xu)).1).2).1⟩⟩, .int .i64 (((((parS (txtS xu)).1).2).2).1), .slice a4_0 ((((((parS (txtS xu)).1).2).2).2).1).length c4_0, .string ⟨⟨((((((parS (txtS xu)).1).2).2).2).2).1⟩⟩, .bool ((((((((parS (txtS xu)).1).2).2).2).2).2).1), .string ⟨⟨((((((((parS (txtS xu)).1).2).2).2).2).2).2).1⟩⟩, .bool (((((((((parS (txtS xu)).1).2).2).2).2).2).2).2)]) (H' := [.blk b5 (.cells #[.string ⟨⟨((parS (txtS xu)).1).1⟩⟩, .string ⟨⟨(((parS (txtS xu)).1).2).1⟩⟩, .int .i64 (((((parS (txtS xu)).1).2).2).1), .slice a4_0 ((((((parS (txtS xu)).1).2).2).2).1).length c4_0, .string ⟨⟨((((((parS (txtS xu)).1).2).2).2).2).1⟩⟩, .bool ((((((((parS (txtS xu)).1).2).2).2).2).2).1), .string ⟨⟨((((((((parS (txtS xu)).1).2).2).2).2).2).2).1⟩⟩, .bool (((((((((parS (txtS xu)).1).2).2).2).2).2).2).2)] 24), .blk b1 (.cells #[.string ⟨⟨xu.1⟩⟩, .string ⟨⟨xu.2.1⟩⟩, .int .i64 xu.2.2.1, .slice axu_0 xu.2.2.2.1.length cxu_0, .string ⟨⟨xu.2.2.2.2.1⟩⟩, .bool xu.2.2.2.2.2.1, .string ⟨⟨xu.2.2.2.2.2.2.1⟩⟩, .bool xu.2.2.2.2.2.2.2] 24)]) 0 rfl rfl rfl (by kernel_rfl) (by kernel_rfl) (by kernel_rfl) (by kernel_rfl) (by kernel_rfl) ?_)
    refine Ok.batch 1 [(1, .pointer (some ⟨b1, 0, none⟩)), (4, .pointer (some ⟨b5, 0, none⟩)), (5, .int .i64 ((parS (txtS xu)).2))] (by kernel_rfl) ?_
    refine Ok.nil ?_
    refine Ok.thenN ?_
    refine Ok.cut (fun a W => ∃ gj16 : Ghost, Gext w0 g4 gj16 ∧ StA 24 [(23, .bool (uchkV0 xu))] a ∧ StW w0 [] gj16 W ∧ uchkj16 xu K) ?_ ?_
    ·
      refine Ok.region ?_
      refine Ok.batch 3 [(1, .pointer (some ⟨b1, 0, none⟩)), (4, .pointer (some ⟨b5, 0, none⟩)), (18, .bool (((parS (txtS xu)).2) != 0))] (by kernel_rfl) ?_
      refine Ok.boolAt 18 ((((parS (txtS xu)).2) != 0)) rfl (fun hc7 => ?_) (fun hc7 => ?_)
      · replace hF := hF.1 hc7
        refine Ok.batch 5 [(23, .bool true)] (by kernel_rfl) ?_
        refine Ok.nil ?_
        refine Ok.thenN ?_
        refine Ok.reval 23 rfl (show (.bool true : Value) = .bool (uchkV0 xu) from congrArg (Value.bool) (mor_t hc7)) ?_
        exact fun a W hA hW => ⟨g4, (Gext.refl w0 g4), hA.sub (by kernel_rfl), hW.sub (.cons _ (.cons _ .slnil)), hF⟩
      · replace hF := hF.2 hc7
        refine Ok.opYes (j := 2) (d := 18) (want := false) (b := false) rfl (by kernel_rfl) (by kernel_rfl) rfl (OpOk.step (v := .agg #[.string ⟨⟨xu.1⟩⟩, .string ⟨⟨xu.2.1⟩⟩, .int .i64 xu.2.2.1, .slice axu_0 xu.2.2.2.1.length cxu_0, .string ⟨⟨xu.2.2.2.2.1⟩⟩, .bool xu.2.2.2.2.2.1, .string ⟨⟨xu.2.2.2.2.2.2.1⟩⟩, .bool xu.2.2.2.2.2.2.2]) (Yields.loadAgg 1 8 #[.string ⟨⟨xu.1⟩⟩, .string ⟨⟨xu.2.1⟩⟩, .int .i64 xu.2.2.1, .slice axu_0 xu.2.2.2.1.length cxu_0, .string ⟨⟨xu.2.2.2.2.1⟩⟩, .bool xu.2.2.2.2.2.1, .string ⟨⟨xu.2.2.2.2.2.2.1⟩⟩, .bool xu.2.2.2.2.2.2.2] rfl rfl Tryz.underlying24 rfl (by kernel_rfl) (by kernel_rfl) (by kernel_rfl)) rfl rfl ?_)
        refine Ok.opYes (j := 2) (d := 18) (want := false) (b := false) rfl (by kernel_rfl) (by kernel_rfl) rfl (OpOk.step (v := .agg #[.string ⟨⟨((parS (txtS xu)).1).1⟩⟩, .string ⟨⟨(((parS (txtS xu)).1).2).1⟩⟩, .int .i64 (((((parS (txtS xu)).1).2).2).1), .slice a4_0 ((((((parS (txtS xu)).1).2).2).2).1).length c4_0, .string ⟨⟨((((((parS (txtS xu)).1).2).2).2).2).1⟩⟩, .bool ((((((((parS (txtS xu)).1).2).2).2).2).2).1), .string ⟨⟨((((((((parS (txtS xu)).1).2).2).2).2).2).2).1⟩⟩, .bool (((((((((parS (txtS xu)).1).2).2).2).2).2).2).2)]) (Yields.loadAgg 0 8 #[.string ⟨⟨((parS (txtS xu)).1).1⟩⟩, .string ⟨⟨(((parS (txtS xu)).1).2).1⟩⟩, .int .i64 (((((parS (txtS xu)).1).2).2).1), .slice a4_0 ((((((parS (txtS xu)).1).2).2).2).1).length c4_0, .string ⟨⟨((((((parS (txtS xu)).1).2).2).2).2).1⟩⟩, .bool ((((((((parS (txtS xu)).1).2).2).2).2).2).1), .string ⟨⟨((((((((parS (txtS xu)).1).2).2).2).2).2).2).1⟩⟩, .bool (((((((((parS (txtS xu)).1).2).2).2).2).2).2).2)] rfl rfl Tryz.underlying24 rfl (by kernel_rfl) (by kernel_rfl) (by kernel_rfl)) rfl rfl ?_)
        obtain ⟨hp8, hF⟩ := hF
        refine Ok.opYes (j := 2) (d := 18) (want := false) (b := false) rfl (by kernel_rfl) (by kernel_rfl) rfl (OpOk.callG (v := .bool (uchkV1 xu)) (enters (by kernel_rfl) (fun _ => by kernel_rfl)) (fun W hW => usam_c xu (((parS (txtS xu)).1).1, (((parS (txtS xu)).1).2).1, ((((parS (txtS xu)).1).2).2).1, (((((parS (txtS xu)).1).2).2).2).1, ((((((parS (txtS xu)).1).2).2).2).2).1, (((((((parS (txtS xu)).1).2).2).2).2).2).1, ((((((((parS (txtS xu)).1).2).2).2).2).2).2).1, ((((((((parS (txtS xu)).1).2).2).2).2).2).2).2) (hRxu_0.mono hW.sees) (hR4_0.mono hW.sees) hp8) rfl ?_)
        refine Ok.batch 2 [(23, .bool (!(uchkV1 xu)))] (by kernel_rfl) ?_
        refine Ok.nil ?_
        refine Ok.thenN ?_
        refine Ok.reval 23 rfl (show (.bool (!(uchkV1 xu)) : Value) = .bool (uchkV0 xu) from congrArg (Value.bool) (mor_f hc7)) ?_
        exact fun a W hA hW => ⟨g4, (Gext.refl w0 g4), hA.sub (by kernel_rfl), hW.sub (.cons _ (.cons _ .slnil)), hF⟩
    ·
      clear hF
      rintro a W ⟨gj16, hxj16, hA, hW, hF⟩
      refine (?_ : Ok _ _ _ _ _ _) a W hA hW
      clear hA hW
      replace hG0 := hG0.mono hxj16.1
      replace hG1 := hG1.mono hxj16.1
      replace hG2 := hG2.mono hxj16.1
      replace hG3 := hG3.mono hxj16.1
      replace hG4 := hG4.mono hxj16.1
      replace hG5 := hG5.mono hxj16.1
      refine Ok.cond (b := (uchkV0 xu)) rfl (fun hc6 => ?_) (fun hc6 => ?_)
      · replace hF := hF.1 hc6
        refine Ok.seq ?_
        refine Ok.region ?_
        refine Ok.batch 1 [(2, .int .i64 3)] (by kernel_rfl) ?_
        refine Ok.nil ?_
        refine Ok.thenN ?_
        refine Ok.ret ?_
        refine Ok.thenR ?_
        exact Ok.resH (vs := [.int .i64 3]) (.inl rfl) rfl (.cons (.tmp rfl) .nil) (hx4.trans hxj16) ⟨3, rfl, rfl, hF⟩
      · replace hF := hF.2 hc6
        refine Ok.skip ?_
        refine Ok.thenN ?_
        refine Ok.seq ?_
        refine Ok.region ?_
        refine Ok.batch 1 [(2, .int .i64 0)] (by kernel_rfl) ?_
        refine Ok.nil ?_
        refine Ok.thenN ?_
        refine Ok.ret ?_
        exact Ok.resH (vs := [.int .i64 0]) (.inl rfl) rfl (.cons (.tmp rfl) .nil) (hx4.trans hxj16) ⟨0, rfl, rfl, hF⟩
theorem uchk_F (u : JU) (hp : txtP u) : uchkF u (fun r => r = chkS u) := by
  rw [chkS_eq]
  unfold chkS0
  refine ⟨hp, fun h => by rw [if_t h], fun h => ?_⟩
  rw [if_f h]
  have hv : uchkV0 u = (((parS (txtS u)).2 != 0) || !(samS u (parS (txtS u)).1)) := rfl
  have j16 : uchkj16 u (fun r => r = if (((parS (txtS u)).2 != 0) || !(samS u (parS (txtS u)).1)) = true then 3 else 0) := by
    refine ⟨fun h2 => ?_, fun h2 => ?_⟩
    · rw [hv] at h2; rw [if_t h2]
    · rw [hv] at h2; rw [if_f h2]
  exact ⟨fun _ => j16, fun _ => ⟨txt_sam hp _, j16⟩⟩
set_option linter.unusedVariables false in
theorem uchk_c {g : Ghost} {axu_0 : Option Addr} {cxu_0 : Nat} (xu : List UInt8 × List UInt8 × Int × List (List UInt8) × List UInt8 × Bool × List UInt8 × Bool) (hRxu_0 : Rep g (.slice (.str)) [.slice axu_0 xu.2.2.2.1.length cxu_0] xu.2.2.2.1) (hG0 : SomeInt g 0) (hG1 : SomeIf g 1) (hG2 : SomeIf g 2) (hG3 : GlobL g 3 (.int .u64) DPow) (hG4 : GlobL g 4 (.int .u8) DFirst) (hG5 : GlobL g 5 (.pair (.int .u8) (.int .u8)) DAcc)  (hp : txtP xu) : CallsG Tryz.prog 13 #[.agg #[.string ⟨⟨xu.1⟩⟩, .string ⟨⟨xu.2.1⟩⟩, .int .i64 xu.2.2.1, .slice axu_0 xu.2.2.2.1.length cxu_0, .string ⟨⟨xu.2.2.2.2.1⟩⟩, .bool xu.2.2.2.2.2.1, .string ⟨⟨xu.2.2.2.2.2.2.1⟩⟩, .bool xu.2.2.2.2.2.2.2]] g (.int .i64 (chkS xu)) :=
  (uchk_ok xu hRxu_0 hG0 hG1 hG2 hG3 hG4 hG5 _ (uchk_F xu hp)).gives (by rintro g' H' v _ ⟨r0, rfl, rfl, hK⟩; subst hK; rfl)
def rrigV0 (xu : List UInt8 × List UInt8 × Int × List (List UInt8) × List UInt8 × Bool × List UInt8 × Bool) : Bool :=
  ((((parS (txtS xu)).2) != 0) || (!(samS xu (((parS (txtS xu)).1).1, (((parS (txtS xu)).1).2).1, ((((parS (txtS xu)).1).2).2).1, (((((parS (txtS xu)).1).2).2).2).1, ((((((parS (txtS xu)).1).2).2).2).2).1, (((((((parS (txtS xu)).1).2).2).2).2).2).1, ((((((((parS (txtS xu)).1).2).2).2).2).2).2).1, ((((((((parS (txtS xu)).1).2).2).2).2).2).2).2))))
def rrigV1 (xu : List UInt8 × List UInt8 × Int × List (List UInt8) × List UInt8 × Bool × List UInt8 × Bool) : Bool :=
  (samS xu (((parS (txtS xu)).1).1, (((parS (txtS xu)).1).2).1, ((((parS (txtS xu)).1).2).2).1, (((((parS (txtS xu)).1).2).2).2).1, ((((((parS (txtS xu)).1).2).2).2).2).1, (((((((parS (txtS xu)).1).2).2).2).2).2).1, ((((((((parS (txtS xu)).1).2).2).2).2).2).2).1, ((((((((parS (txtS xu)).1).2).2).2).2).2).2).2))
def rrigj16 (xu : List UInt8 × List UInt8 × Int × List (List UInt8) × List UInt8 × Bool × List UInt8 × Bool) (K : Int → Prop) : Prop :=
  (((rrigV0 xu)) = true → K 3) ∧ (((rrigV0 xu)) = false → K 0)
def rrigF (xu : List UInt8 × List UInt8 × Int × List (List UInt8) × List UInt8 × Bool × List UInt8 × Bool) (K : Int → Prop) : Prop :=
  txtP xu ∧ ((decide (((txtS xu).length : Int) > 500)) = true → K 2) ∧ ((decide (((txtS xu).length : Int) > 500)) = false → (((((parS (txtS xu)).2) != 0)) = true → rrigj16 xu K) ∧ (((((parS (txtS xu)).2) != 0)) = false → samP xu (((parS (txtS xu)).1).1, (((parS (txtS xu)).1).2).1, ((((parS (txtS xu)).1).2).2).1, (((((parS (txtS xu)).1).2).2).2).1, ((((((parS (txtS xu)).1).2).2).2).2).1, (((((((parS (txtS xu)).1).2).2).2).2).2).1, ((((((((parS (txtS xu)).1).2).2).2).2).2).2).1, ((((((((parS (txtS xu)).1).2).2).2).2).2).2).2) ∧ rrigj16 xu K))
set_option maxHeartbeats 4000000 in
set_option maxRecDepth 100000 in
set_option linter.unusedVariables false in
theorem rrig_ok {g : Ghost} {axu_0 : Option Addr} {cxu_0 : Nat} (xu : List UInt8 × List UInt8 × Int × List (List UInt8) × List UInt8 × Bool × List UInt8 × Bool) (hRxu_0 : Rep g (.slice (.str)) [.slice axu_0 xu.2.2.2.1.length cxu_0] xu.2.2.2.1) (hG0 : SomeInt g 0) (hG3 : GlobL g 3 (.int .u64) DPow) (K : Int → Prop)
    (hF : rrigF xu K) : CallsH Tryz.prog 12 #[.agg #[.string ⟨⟨xu.1⟩⟩, .string ⟨⟨xu.2.1⟩⟩, .int .i64 xu.2.2.1, .slice axu_0 xu.2.2.2.1.length cxu_0, .string ⟨⟨xu.2.2.2.2.1⟩⟩, .bool xu.2.2.2.2.2.1, .string ⟨⟨xu.2.2.2.2.2.2.1⟩⟩, .bool xu.2.2.2.2.2.2.2]] g [] (fun g' H' v => ∃ (r0 : Int), v = .int .i64 r0 ∧ H' = [] ∧ K r0) := by
  refine CallsH.enter 24 [(0, .agg #[.string ⟨⟨xu.1⟩⟩, .string ⟨⟨xu.2.1⟩⟩, .int .i64 xu.2.2.1, .slice axu_0 xu.2.2.2.1.length cxu_0, .string ⟨⟨xu.2.2.2.2.1⟩⟩, .bool xu.2.2.2.2.2.1, .string ⟨⟨xu.2.2.2.2.2.2.1⟩⟩, .bool xu.2.2.2.2.2.2.2])] Tryz.func12 rfl (by kernel_rfl) (by kernel_rfl) (by kernel_rfl) fun w0 => ?_
  refine Ok.seq ?_
  refine Ok.region ?_
  refine Ok.op rfl (OpOk.box (v := .agg #[.string ⟨⟨xu.1⟩⟩, .string ⟨⟨xu.2.1⟩⟩, .int .i64 xu.2.2.1, .slice axu_0 xu.2.2.2.1.length cxu_0, .string ⟨⟨xu.2.2.2.2.1⟩⟩, .bool xu.2.2.2.2.2.1, .string ⟨⟨xu.2.2.2.2.2.2.1⟩⟩, .bool xu.2.2.2.2.2.2.2]) (cs := #[.string ⟨⟨xu.1⟩⟩, .string ⟨⟨xu.2.1⟩⟩, .int .i64 xu.2.2.1, .slice axu_0 xu.2.2.2.1.length cxu_0, .string ⟨⟨xu.2.2.2.2.1⟩⟩, .bool xu.2.2.2.2.2.1, .string ⟨⟨xu.2.2.2.2.2.2.1⟩⟩, .bool xu.2.2.2.2.2.2.2]) rfl (by kernel_rfl) rfl fun b1 => ?_)
  refine Ok.batch 1 [(1, .pointer (some ⟨b1, 0, none⟩))] (by kernel_rfl) ?_
  refine Ok.nil ?_
  refine Ok.thenN ?_
  refine Ok.seq ?_
  refine Ok.region ?_
  refine Ok.op rfl (OpOk.step (v := .agg #[.string ⟨⟨xu.1⟩⟩, .string ⟨⟨xu.2.1⟩⟩, .int .i64 xu.2.2.1, .slice axu_0 xu.2.2.2.1.length cxu_0, .string ⟨⟨xu.2.2.2.2.1⟩⟩, .bool xu.2.2.2.2.2.1, .string ⟨⟨xu.2.2.2.2.2.2.1⟩⟩, .bool xu.2.2.2.2.2.2.2]) (Yields.loadAgg 0 8 #[.string ⟨⟨xu.1⟩⟩, .string ⟨⟨xu.2.1⟩⟩, .int .i64 xu.2.2.1, .slice axu_0 xu.2.2.2.1.length cxu_0, .string ⟨⟨xu.2.2.2.2.1⟩⟩, .bool xu.2.2.2.2.2.1, .string ⟨⟨xu.2.2.2.2.2.2.1⟩⟩, .bool xu.2.2.2.2.2.2.2] rfl rfl Tryz.underlying24 rfl (by kernel_rfl) (by kernel_rfl) (by kernel_rfl)) rfl rfl ?_)
  obtain ⟨hp2, hF⟩ := hF
  refine Ok.op rfl (OpOk.callG (v := .string ⟨⟨(txtS xu)⟩⟩) (enters (by kernel_rfl) (fun _ => by kernel_rfl)) (fun W hW => rtxt_c xu (hRxu_0.mono hW.sees) (hG0.mono hW.sees) (hG3.mono hW.sees) hp2) rfl ?_)
  refine Ok.batch 1 [(1, .pointer (some ⟨b1, 0, none⟩)), (3, .string ⟨⟨(txtS xu)⟩⟩)] (by kernel_rfl) ?_
  refine Ok.nil ?_
  refine Ok.thenN ?_
  refine Ok.seq ?_
  refine Ok.seq ?_
  refine Ok.region ?_
  refine Ok.batch 3 [(1, .pointer (some ⟨b1, 0, none⟩)), (3, .string ⟨⟨(txtS xu)⟩⟩), (10, .bool (decide (((txtS xu).length : Int) > 500)))] (by kernel_rfl) ?_
  refine Ok.nil ?_
  refine Ok.thenN ?_
  refine Ok.cond (b := decide (((txtS xu).length : Int) > 500)) rfl (fun hc3 => ?_) (fun hc3 => ?_)
  · replace hF := hF.1 hc3
    refine Ok.seq ?_
    refine Ok.region ?_
    refine Ok.batch 1 [(2, .int .i64 2)] (by kernel_rfl) ?_
    refine Ok.nil ?_
    refine Ok.thenN ?_
    refine Ok.ret ?_
    refine Ok.thenR ?_
    exact Ok.resP (vs := [.int .i64 2]) [] [] (by decide) rfl (.inl rfl) rfl (.cons (.tmp rfl) .nil) (Gext.refl w0 g) ⟨2, rfl, rfl, hF⟩
  · replace hF := hF.2 hc3
    refine Ok.skip ?_
    refine Ok.thenN ?_
    refine Ok.seq ?_
    refine Ok.seq ?_
    refine Ok.region ?_
    refine Ok.batch 1 [(1, .pointer (some ⟨b1, 0, none⟩)), (12, .string ⟨⟨(txtS xu)⟩⟩)] (by kernel_rfl) ?_
    refine Ok.op rfl (OpOk.callH [] [.blk b1 (.cells #[.string ⟨⟨xu.1⟩⟩, .string ⟨⟨xu.2.1⟩⟩, .int .i64 xu.2.2.1, .slice axu_0 xu.2.2.2.1.length cxu_0, .string ⟨⟨xu.2.2.2.2.1⟩⟩, .bool xu.2.2.2.2.2.1, .string ⟨⟨xu.2.2.2.2.2.2.1⟩⟩, .bool xu.2.2.2.2.2.2.2] 24)] (enters (by kernel_rfl) (fun _ => by kernel_rfl)) rfl (radr_c (txtS xu) hG0) rfl fun g4 _ _ hx4 hV4 => ?_)
    obtain ⟨a4_0, c4_0, rfl, hR4_0, rfl⟩ := hV4
    replace hRxu_0 := hRxu_0.mono hx4.1
    replace hG0 := hG0.mono hx4.1
    replace hG3 := hG3.mono hx4.1
    refine Ok.batch 3 [(1, .pointer (some ⟨b1, 0, none⟩)), (14, .agg #[.string ⟨⟨((parS (txtS xu)).1).1⟩⟩, .string ⟨⟨(((parS (txtS xu)).1).2).1⟩⟩, .int .i64 (((((parS (txtS xu)).1).2).2).1), .slice a4_0 ((((((parS (txtS xu)).1).2).2).2).1).length c4_0, .string ⟨⟨((((((parS (txtS xu)).1).2).2).2).2).1⟩⟩, .bool ((((((((parS (txtS xu)).1).2).2).2).2).2).1), .string ⟨⟨((((((((parS (txtS xu)).1).2).2).2).2).2).2).1⟩⟩, .bool (((((((((parS (txtS xu)).1).2).2).2).2).2).2).2)]), (15, .int .i64 ((parS (txtS xu)).2))] (by kernel_rfl) ?_
    refine Ok.op rfl (OpOk.alloc (z := .agg #[.string ⟨⟨([] : List UInt8)⟩⟩, .string ⟨⟨([] : List UInt8)⟩⟩, .int .i64 0, .slice none 0 0, .string ⟨⟨([] : List UInt8)⟩⟩, .bool false, .string ⟨⟨([] : List UInt8)⟩⟩, .bool false]) (cs := #[.string ⟨⟨([] : List UInt8)⟩⟩, .string ⟨⟨([] : List UInt8)⟩⟩, .int .i64 0, .slice none 0 0, .string ⟨⟨([] : List UInt8)⟩⟩, .bool false, .string ⟨⟨([] : List UInt8)⟩⟩, .bool false]) (by kernel_rfl) (by kernel_rfl) rfl fun b5 => ?_)
    refine Ok.op rfl (OpOk.store (k := 8) (v := .agg #[.string ⟨⟨((parS (txtS xu)).1).1⟩⟩, .string ⟨⟨(((parS (txtS xu)).1).2).1⟩⟩, .int .i64 (((((parS (txtS xu)).1).2).2).1), .slice a4_0 ((((((parS (txtS xu)).1).2).2).2).1).length c4_0, .string ⟨⟨((((((parS (txtS xu)).1).2).2).2).2).1⟩⟩, .bool ((((((((parS (txtS xu)).1).2).2).2).2).2).1), .string ⟨⟨((((((((parS (txtS xu)).1).2).2).2).2).2).2).1⟩⟩, .bool (((((((((parS (txtS xu)).1).2).2).2).2).2).2).2)]) (H' := [.blk b5 (.cells #[.string ⟨⟨((parS (txtS xu)).1).1⟩⟩, .string ⟨⟨(((parS (txtS xu)).1).2).1⟩⟩, .int .i64 (((((parS (txtS xu)).1).2).2).1), .slice a4_0 ((((((parS (txtS xu)).1).2).2).2).1).length c4_0, .string ⟨⟨((((((parS (txtS xu)).1).2).2).2).2).1⟩⟩, .bool ((((((((parS (txtS xu)).1).2).2).2).2).2).1), .string ⟨⟨((((((((parS (txtS xu)).1).2).2).2).2).2).2).1⟩⟩, .bool (((((((((parS (txtS xu)).1).2).2).2).2).2).2).2)] 24), .blk b1 (.cells #[.string ⟨⟨xu.1⟩⟩, .string ⟨⟨xu.2.1⟩⟩, .int .i64 xu.2.2.1, .slice axu_0 xu.2.2.2.1.length cxu_0, .string ⟨⟨xu.2.2.2.2.1⟩⟩, .bool xu.2.2.2.2.2.1, .string ⟨⟨xu.2.2.2.2.2.2.1⟩⟩, .bool xu.2.2.2.2.2.2.2] 24)]) 0 rfl rfl rfl (by kernel_rfl) (by kernel_rfl) (by kernel_rfl) (by kernel_rfl) (by kernel_rfl) ?_)
    refine Ok.batch 1 [(1, .pointer (some ⟨b1, 0, none⟩)), (4, .pointer (some ⟨b5, 0, none⟩)), (5, .int .i64 ((parS (txtS xu)).2))] (by kernel_rfl) ?_
    refine Ok.nil ?_
    refine Ok.thenN ?_
    refine Ok.cut (fun a W => ∃ gj16 : Ghost, Gext w0 g4 gj16 ∧ StA 24 [(23, .bool (rrigV0 xu))] a ∧ StW w0 [] gj16 W ∧ rrigj16 xu K) ?_ ?_
    ·
      refine Ok.region ?_
      refine Ok.batch 3 [(1, .pointer (some ⟨b1, 0, none⟩)), (4, .pointer (some ⟨b5, 0, none⟩)), (18, .bool (((parS (txtS xu)).2) != 0))] (by kernel_rfl) ?_
      refine Ok.boolAt 18 ((((parS (txtS xu)).2) != 0)) rfl (fun hc7 => ?_) (fun hc7 => ?_)
      · replace hF := hF.1 hc7
        refine Ok.batch 5 [(23, .bool true)] (by kernel_rfl) ?_
        refine Ok.nil ?_
        refine Ok.thenN ?_
        refine Ok.reval 23 rfl (show (.bool true : Value) = .bool (rrigV0 xu) from congrArg (Value.bool) (mor_t hc7)) ?_
        exact fun a W hA hW => ⟨g4, (Gext.refl w0 g4), hA.sub (by kernel_rfl), hW.sub (.cons _ (.cons _ .slnil)), hF⟩
      · replace hF := hF.2 hc7
        refine Ok.opYes (j := 2) (d := 18) (want := false) (b := false) rfl (by kernel_rfl) (by kernel_rfl) rfl (OpOk.step (v := .agg #[.string ⟨⟨xu.1⟩⟩, .string ⟨⟨xu.2.1⟩⟩, .int .i64 xu.2.2.1, .slice axu_0 xu.2.2.2.1.length cxu_0, .string ⟨⟨xu.2.2.2.2.1⟩⟩, .bool xu.2.2.2.2.2.1, .string ⟨⟨xu.2.2.2.2.2.2.1⟩⟩, .bool xu.2.2.2.2.2.2.2]) (Yields.loadAgg 1 8 #[.string ⟨⟨xu.1⟩⟩, .string ⟨⟨xu.2.1⟩⟩, .int .i64 xu.2.2.1, .slice axu_0 xu.2.2.2.1.length cxu_0, .string ⟨⟨xu.2.2.2.2.1⟩⟩, .bool xu.2.2.2.2.2.1, .string ⟨⟨xu.2.2.2.2.2.2.1⟩⟩, .bool xu.2.2.2.2.2.2.2] rfl rfl Tryz.underlying24 rfl (by kernel_rfl) (by kernel_rfl) (by kernel_rfl)) rfl rfl ?_)
        refine Ok.opYes (j := 2) (d := 18) (want := false) (b := false) rfl (by kernel_rfl) (by kernel_rfl) rfl (OpOk.step (v := .agg #[.string ⟨⟨((parS (txtS xu)).1).1⟩⟩, .string ⟨⟨(((parS (txtS xu)).1).2).1⟩⟩, .int .i64 (((((parS (txtS xu)).1).2).2).1), .slice a4_0 ((((((parS (txtS xu)).1).2).2).2).1).length c4_0, .string ⟨⟨((((((parS (txtS xu)).1).2).2).2).2).1⟩⟩, .bool ((((((((parS (txtS xu)).1).2).2).2).2).2).1), .string ⟨⟨((((((((parS (txtS xu)).1).2).2).2).2).2).2).1⟩⟩, .bool (((((((((parS (txtS xu)).1).2).2).2).2).2).2).2)]) (Yields.loadAgg 0 8 #[.string ⟨⟨((parS (txtS xu)).1).1⟩⟩, .string ⟨⟨(((parS (txtS xu)).1).2).1⟩⟩, .int .i64 (((((parS (txtS xu)).1).2).2).1), .slice a4_0 ((((((parS (txtS xu)).1).2).2).2).1).length c4_0, .string ⟨⟨((((((parS (txtS xu)).1).2).2).2).2).1⟩⟩, .bool ((((((((parS (txtS xu)).1).2).2).2).2).2).1), .string ⟨⟨((((((((parS (txtS xu)).1).2).2).2).2).2).2).1⟩⟩, .bool (((((((((parS (txtS xu)).1).2).2).2).2).2).2).2)] rfl rfl Tryz.underlying24 rfl (by kernel_rfl) (by kernel_rfl) (by kernel_rfl)) rfl rfl ?_)
        obtain ⟨hp8, hF⟩ := hF
        refine Ok.opYes (j := 2) (d := 18) (want := false) (b := false) rfl (by kernel_rfl) (by kernel_rfl) rfl (OpOk.callG (v := .bool (rrigV1 xu)) (enters (by kernel_rfl) (fun _ => by kernel_rfl)) (fun W hW => rsam_c xu (((parS (txtS xu)).1).1, (((parS (txtS xu)).1).2).1, ((((parS (txtS xu)).1).2).2).1, (((((parS (txtS xu)).1).2).2).2).1, ((((((parS (txtS xu)).1).2).2).2).2).1, (((((((parS (txtS xu)).1).2).2).2).2).2).1, ((((((((parS (txtS xu)).1).2).2).2).2).2).2).1, ((((((((parS (txtS xu)).1).2).2).2).2).2).2).2) (hRxu_0.mono hW.sees) (hR4_0.mono hW.sees) hp8) rfl ?_)
        refine Ok.batch 2 [(23, .bool (!(rrigV1 xu)))] (by kernel_rfl) ?_
        refine Ok.nil ?_
        refine Ok.thenN ?_
        refine Ok.reval 23 rfl (show (.bool (!(rrigV1 xu)) : Value) = .bool (rrigV0 xu) from congrArg (Value.bool) (mor_f hc7)) ?_
        exact fun a W hA hW => ⟨g4, (Gext.refl w0 g4), hA.sub (by kernel_rfl), hW.sub (.cons _ (.cons _ .slnil)), hF⟩
    ·
      clear hF
      rintro a W ⟨gj16, hxj16, hA, hW, hF⟩
      refine (?_ : Ok _ _ _ _ _ _) a W hA hW
      clear hA hW
      replace hG0 := hG0.mono hxj16.1
      replace hG3 := hG3.mono hxj16.1
      refine Ok.cond (b := (rrigV0 xu)) rfl (fun hc6 => ?_) (fun hc6 => ?_)
      · replace hF := hF.1 hc6
        refine Ok.seq ?_
        refine Ok.region ?_
        refine Ok.batch 1 [(2, .int .i64 3)] (by kernel_rfl) ?_
        refine Ok.nil ?_
        refine Ok.thenN ?_
        refine Ok.ret ?_
        refine Ok.thenR ?_
        exact Ok.resH (vs := [.int .i64 3]) (.inl rfl) rfl (.cons (.tmp rfl) .nil) (hx4.trans hxj16) ⟨3, rfl, rfl, hF⟩
      · replace hF := hF.2 hc6
        refine Ok.skip ?_
        refine Ok.thenN ?_
        refine Ok.seq ?_
        refine Ok.region ?_
        refine Ok.batch 1 [(2, .int .i64 0)] (by kernel_rfl) ?_
        refine Ok.nil ?_
        refine Ok.thenN ?_
        refine Ok.ret ?_
        exact Ok.resH (vs := [.int .i64 0]) (.inl rfl) rfl (.cons (.tmp rfl) .nil) (hx4.trans hxj16) ⟨0, rfl, rfl, hF⟩
theorem rrig_F (u : JU) (hp : txtP u) : rrigF u (fun r => r = chkS u) := by
  rw [chkS_eq]
  unfold chkS0
  refine ⟨hp, fun h => by rw [if_t h], fun h => ?_⟩
  rw [if_f h]
  have hv : rrigV0 u = (((parS (txtS u)).2 != 0) || !(samS u (parS (txtS u)).1)) := rfl
  have j16 : rrigj16 u (fun r => r = if (((parS (txtS u)).2 != 0) || !(samS u (parS (txtS u)).1)) = true then 3 else 0) := by
    refine ⟨fun h2 => ?_, fun h2 => ?_⟩
    · rw [hv] at h2; rw [if_t h2]
    · rw [hv] at h2; rw [if_f h2]
  exact ⟨fun _ => j16, fun _ => ⟨txt_sam hp _, j16⟩⟩
set_option linter.unusedVariables false in
theorem rrig_c {g : Ghost} {axu_0 : Option Addr} {cxu_0 : Nat} (xu : List UInt8 × List UInt8 × Int × List (List UInt8) × List UInt8 × Bool × List UInt8 × Bool) (hRxu_0 : Rep g (.slice (.str)) [.slice axu_0 xu.2.2.2.1.length cxu_0] xu.2.2.2.1) (hG0 : SomeInt g 0) (hG3 : GlobL g 3 (.int .u64) DPow)  (hp : txtP xu) : CallsG Tryz.prog 12 #[.agg #[.string ⟨⟨xu.1⟩⟩, .string ⟨⟨xu.2.1⟩⟩, .int .i64 xu.2.2.1, .slice axu_0 xu.2.2.2.1.length cxu_0, .string ⟨⟨xu.2.2.2.2.1⟩⟩, .bool xu.2.2.2.2.2.1, .string ⟨⟨xu.2.2.2.2.2.2.1⟩⟩, .bool xu.2.2.2.2.2.2.2]] g (.int .i64 (chkS xu)) :=
  (rrig_ok xu hRxu_0 hG0 hG3 _ (rrig_F xu hp)).gives (by rintro g' H' v _ ⟨r0, rfl, rfl, hK⟩; subst hK; rfl)
def wriS (u : JU) : List UInt8 × Int := if (chkS u != 0) = true then ([], chkS u) else (txtS u, 0)
def uwriF (xu : List UInt8 × List UInt8 × Int × List (List UInt8) × List UInt8 × Bool × List UInt8 × Bool) (K : (List UInt8) → Int → Prop) : Prop :=
  txtP xu ∧ ((((chkS xu) != 0)) = true → K ([] : List UInt8) (chkS xu)) ∧ ((((chkS xu) != 0)) = false → txtP xu ∧ K (txtS xu) 0)
set_option maxHeartbeats 4000000 in
set_option maxRecDepth 100000 in
set_option linter.unusedVariables false in
theorem uwri_ok {g : Ghost} {axu_0 : Option Addr} {cxu_0 : Nat} (xu : List UInt8 × List UInt8 × Int × List (List UInt8) × List UInt8 × Bool × List UInt8 × Bool) (hRxu_0 : Rep g (.slice (.str)) [.slice axu_0 xu.2.2.2.1.length cxu_0] xu.2.2.2.1) (hG0 : SomeInt g 0) (hG1 : SomeIf g 1) (hG2 : SomeIf g 2) (hG3 : GlobL g 3 (.int .u64) DPow) (hG4 : GlobL g 4 (.int .u8) DFirst) (hG5 : GlobL g 5 (.pair (.int .u8) (.int .u8)) DAcc) (K : (List UInt8) → Int → Prop)
    (hF : uwriF xu K) : CallsH Tryz.prog 11 #[.agg #[.string ⟨⟨xu.1⟩⟩, .string ⟨⟨xu.2.1⟩⟩, .int .i64 xu.2.2.1, .slice axu_0 xu.2.2.2.1.length cxu_0, .string ⟨⟨xu.2.2.2.2.1⟩⟩, .bool xu.2.2.2.2.2.1, .string ⟨⟨xu.2.2.2.2.2.2.1⟩⟩, .bool xu.2.2.2.2.2.2.2]] g [] (fun g' H' v => ∃ (r0 : List UInt8), ∃ (r1 : Int), v = .tuple #[.string ⟨⟨r0⟩⟩, .int .i64 r1] ∧ H' = [] ∧ K r0 r1) := by
  refine CallsH.enter 12 [(0, .agg #[.string ⟨⟨xu.1⟩⟩, .string ⟨⟨xu.2.1⟩⟩, .int .i64 xu.2.2.1, .slice axu_0 xu.2.2.2.1.length cxu_0, .string ⟨⟨xu.2.2.2.2.1⟩⟩, .bool xu.2.2.2.2.2.1, .string ⟨⟨xu.2.2.2.2.2.2.1⟩⟩, .bool xu.2.2.2.2.2.2.2])] Tryz.func11 rfl (by kernel_rfl) (by kernel_rfl) (by kernel_rfl) fun w0 => ?_
  refine Ok.seq ?_
  refine Ok.region ?_
  refine Ok.op rfl (OpOk.box (v := .agg #[.string ⟨⟨xu.1⟩⟩, .string ⟨⟨xu.2.1⟩⟩, .int .i64 xu.2.2.1, .slice axu_0 xu.2.2.2.1.length cxu_0, .string ⟨⟨xu.2.2.2.2.1⟩⟩, .bool xu.2.2.2.2.2.1, .string ⟨⟨xu.2.2.2.2.2.2.1⟩⟩, .bool xu.2.2.2.2.2.2.2]) (cs := #[.string ⟨⟨xu.1⟩⟩, .string ⟨⟨xu.2.1⟩⟩, .int .i64 xu.2.2.1, .slice axu_0 xu.2.2.2.1.length cxu_0, .string ⟨⟨xu.2.2.2.2.1⟩⟩, .bool xu.2.2.2.2.2.1, .string ⟨⟨xu.2.2.2.2.2.2.1⟩⟩, .bool xu.2.2.2.2.2.2.2]) rfl (by kernel_rfl) rfl fun b1 => ?_)
  refine Ok.batch 2 [(1, .pointer (some ⟨b1, 0, none⟩))] (by kernel_rfl) ?_
  refine Ok.nil ?_
  refine Ok.thenN ?_
  refine Ok.seq ?_
  refine Ok.seq ?_
  refine Ok.region ?_
  refine Ok.op rfl (OpOk.step (v := .agg #[.string ⟨⟨xu.1⟩⟩, .string ⟨⟨xu.2.1⟩⟩, .int .i64 xu.2.2.1, .slice axu_0 xu.2.2.2.1.length cxu_0, .string ⟨⟨xu.2.2.2.2.1⟩⟩, .bool xu.2.2.2.2.2.1, .string ⟨⟨xu.2.2.2.2.2.2.1⟩⟩, .bool xu.2.2.2.2.2.2.2]) (Yields.loadAgg 0 8 #[.string ⟨⟨xu.1⟩⟩, .string ⟨⟨xu.2.1⟩⟩, .int .i64 xu.2.2.1, .slice axu_0 xu.2.2.2.1.length cxu_0, .string ⟨⟨xu.2.2.2.2.1⟩⟩, .bool xu.2.2.2.2.2.1, .string ⟨⟨xu.2.2.2.2.2.2.1⟩⟩, .bool xu.2.2.2.2.2.2.2] rfl rfl Tryz.underlying24 rfl (by kernel_rfl) (by kernel_rfl) (by kernel_rfl)) rfl rfl ?_)
  obtain ⟨hp2, hF⟩ := hF
  refine Ok.op rfl (OpOk.callG (v := .int .i64 (chkS xu)) (enters (by kernel_rfl) (fun _ => by kernel_rfl)) (fun W hW => uchk_c xu (hRxu_0.mono hW.sees) (hG0.mono hW.sees) (hG1.mono hW.sees) (hG2.mono hW.sees) (hG3.mono hW.sees) (hG4.mono hW.sees) (hG5.mono hW.sees) hp2) rfl ?_)
  refine Ok.batch 1 [(1, .pointer (some ⟨b1, 0, none⟩)), (4, .int .i64 (chkS xu))] (by kernel_rfl) ?_
  refine Ok.nil ?_
  refine Ok.thenN ?_
  refine Ok.seq ?_
  refine Ok.region ?_
  refine Ok.batch 2 [(1, .pointer (some ⟨b1, 0, none⟩)), (4, .int .i64 (chkS xu)), (8, .bool ((chkS xu) != 0))] (by kernel_rfl) ?_
  refine Ok.nil ?_
  refine Ok.thenN ?_
  refine Ok.cond (b := ((chkS xu) != 0)) rfl (fun hc3 => ?_) (fun hc3 => ?_)
  · replace hF := hF.1 hc3
    refine Ok.seq ?_
    refine Ok.region ?_
    refine Ok.batch 3 [(2, .string ⟨⟨([] : List UInt8)⟩⟩), (3, .int .i64 (chkS xu))] (by kernel_rfl) ?_
    refine Ok.nil ?_
    refine Ok.thenN ?_
    refine Ok.ret ?_
    refine Ok.thenR ?_
    exact Ok.resP (vs := [.string ⟨⟨([] : List UInt8)⟩⟩, .int .i64 (chkS xu)]) [] [] (by decide) rfl (.inl rfl) rfl (.cons (.tmp rfl) (.cons (.tmp rfl) .nil)) (Gext.refl w0 g) ⟨([] : List UInt8), (chkS xu), rfl, rfl, hF⟩
  · replace hF := hF.2 hc3
    refine Ok.skip ?_
    refine Ok.thenN ?_
    refine Ok.seq ?_
    refine Ok.region ?_
    refine Ok.op rfl (OpOk.step (v := .agg #[.string ⟨⟨xu.1⟩⟩, .string ⟨⟨xu.2.1⟩⟩, .int .i64 xu.2.2.1, .slice axu_0 xu.2.2.2.1.length cxu_0, .string ⟨⟨xu.2.2.2.2.1⟩⟩, .bool xu.2.2.2.2.2.1, .string ⟨⟨xu.2.2.2.2.2.2.1⟩⟩, .bool xu.2.2.2.2.2.2.2]) (Yields.loadAgg 0 8 #[.string ⟨⟨xu.1⟩⟩, .string ⟨⟨xu.2.1⟩⟩, .int .i64 xu.2.2.1, .slice axu_0 xu.2.2.2.1.length cxu_0, .string ⟨⟨xu.2.2.2.2.1⟩⟩, .bool xu.2.2.2.2.2.1, .string ⟨⟨xu.2.2.2.2.2.2.1⟩⟩, .bool xu.2.2.2.2.2.2.2] rfl rfl Tryz.underlying24 rfl (by kernel_rfl) (by kernel_rfl) (by kernel_rfl)) rfl rfl ?_)
    obtain ⟨hp4, hF⟩ := hF
    refine Ok.op rfl (OpOk.callG (v := .string ⟨⟨(txtS xu)⟩⟩) (enters (by kernel_rfl) (fun _ => by kernel_rfl)) (fun W hW => utxt_c xu (hRxu_0.mono hW.sees) (hG3.mono hW.sees) hp4) rfl ?_)
    refine Ok.batch 2 [(2, .string ⟨⟨(txtS xu)⟩⟩), (3, .int .i64 0)] (by kernel_rfl) ?_
    refine Ok.nil ?_
    refine Ok.thenN ?_
    refine Ok.ret ?_
    exact Ok.resP (vs := [.string ⟨⟨(txtS xu)⟩⟩, .int .i64 0]) [] [] (by decide) rfl (.inl rfl) rfl (.cons (.tmp rfl) (.cons (.tmp rfl) .nil)) (Gext.refl w0 g) ⟨(txtS xu), 0, rfl, rfl, hF⟩
theorem uwri_F (u : JU) (hp : txtP u) : uwriF u (fun a b => (a, b) = wriS u) := by
  unfold wriS
  exact ⟨hp, fun h => by rw [if_t h], fun h => by rw [if_f h]; exact ⟨hp, rfl⟩⟩
set_option linter.unusedVariables false in
theorem uwri_c {g : Ghost} {axu_0 : Option Addr} {cxu_0 : Nat} (xu : List UInt8 × List UInt8 × Int × List (List UInt8) × List UInt8 × Bool × List UInt8 × Bool) (hRxu_0 : Rep g (.slice (.str)) [.slice axu_0 xu.2.2.2.1.length cxu_0] xu.2.2.2.1) (hG0 : SomeInt g 0) (hG1 : SomeIf g 1) (hG2 : SomeIf g 2) (hG3 : GlobL g 3 (.int .u64) DPow) (hG4 : GlobL g 4 (.int .u8) DFirst) (hG5 : GlobL g 5 (.pair (.int .u8) (.int .u8)) DAcc)  (hp : txtP xu) : CallsG Tryz.prog 11 #[.agg #[.string ⟨⟨xu.1⟩⟩, .string ⟨⟨xu.2.1⟩⟩, .int .i64 xu.2.2.1, .slice axu_0 xu.2.2.2.1.length cxu_0, .string ⟨⟨xu.2.2.2.2.1⟩⟩, .bool xu.2.2.2.2.2.1, .string ⟨⟨xu.2.2.2.2.2.2.1⟩⟩, .bool xu.2.2.2.2.2.2.2]] g (.tuple #[.string ⟨⟨((wriS xu).1)⟩⟩, .int .i64 ((wriS xu).2)]) :=
  (uwri_ok xu hRxu_0 hG0 hG1 hG2 hG3 hG4 hG5 _ (uwri_F xu hp)).gives (by rintro g' H' v _ ⟨r0, r1, rfl, rfl, hK⟩; obtain ⟨rfl, rfl⟩ : r0 = (wriS xu).1 ∧ r1 = (wriS xu).2 := ⟨congrArg (fun z => z.1) hK, congrArg (fun z => z.2) hK⟩; rfl)
def lwriV0 (xu : List UInt8 × List UInt8 × Int × List (List UInt8) × List UInt8 × Bool × List UInt8 × Bool) : Bool :=
  (if ((chkS xu) != 0) = true then ((((wriS xu).1) == ([] : List UInt8)) || (((chkS xu) == 0) && (((wriS xu).1) == (txtS xu)))) else (((chkS xu) == 0) && (((wriS xu).1) == (txtS xu))))
def lwrij15 (xu : List UInt8 × List UInt8 × Int × List (List UInt8) × List UInt8 × Bool × List UInt8 × Bool) (K : Bool → Prop) : Prop :=
  K (lwriV0 xu)
def lwriF (xu : List UInt8 × List UInt8 × Int × List (List UInt8) × List UInt8 × Bool × List UInt8 × Bool) (K : Bool → Prop) : Prop :=
  txtP xu ∧ txtP xu ∧ txtP xu ∧ (((((chkS xu) != (chkS xu)) || (((wriS xu).2) != (chkS xu)))) = true → K false) ∧ (((((chkS xu) != (chkS xu)) || (((wriS xu).2) != (chkS xu)))) = false → ((((chkS xu) != 0)) = true → (((((wriS xu).1) == ([] : List UInt8))) = true → lwrij15 xu K) ∧ (((((wriS xu).1) == ([] : List UInt8))) = false → ((((chkS xu) == 0)) = true → txtP xu ∧ lwrij15 xu K) ∧ ((((chkS xu) == 0)) = false → lwrij15 xu K))) ∧ ((((chkS xu) != 0)) = false → ((((chkS xu) == 0)) = true → txtP xu ∧ lwrij15 xu K) ∧ ((((chkS xu) == 0)) = false → lwrij15 xu K)))
set_option maxHeartbeats 4000000 in
set_option maxRecDepth 100000 in
set_option linter.unusedVariables false in
theorem lwri_ok {g : Ghost} {axu_0 : Option Addr} {cxu_0 : Nat} (xu : List UInt8 × List UInt8 × Int × List (List UInt8) × List UInt8 × Bool × List UInt8 × Bool) (hRxu_0 : Rep g (.slice (.str)) [.slice axu_0 xu.2.2.2.1.length cxu_0] xu.2.2.2.1) (hG0 : SomeInt g 0) (hG1 : SomeIf g 1) (hG2 : SomeIf g 2) (hG3 : GlobL g 3 (.int .u64) DPow) (hG4 : GlobL g 4 (.int .u8) DFirst) (hG5 : GlobL g 5 (.pair (.int .u8) (.int .u8)) DAcc) (K : Bool → Prop)
    (hF : lwriF xu K) : CallsH Tryz.prog 4 #[.agg #[.string ⟨⟨xu.1⟩⟩, .string ⟨⟨xu.2.1⟩⟩, .int .i64 xu.2.2.1, .slice axu_0 xu.2.2.2.1.length cxu_0, .string ⟨⟨xu.2.2.2.2.1⟩⟩, .bool xu.2.2.2.2.2.1, .string ⟨⟨xu.2.2.2.2.2.2.1⟩⟩, .bool xu.2.2.2.2.2.2.2]] g [] (fun g' H' v => ∃ (r0 : Bool), v = .bool r0 ∧ H' = [] ∧ K r0) := by
  refine CallsH.enter 38 [(0, .agg #[.string ⟨⟨xu.1⟩⟩, .string ⟨⟨xu.2.1⟩⟩, .int .i64 xu.2.2.1, .slice axu_0 xu.2.2.2.1.length cxu_0, .string ⟨⟨xu.2.2.2.2.1⟩⟩, .bool xu.2.2.2.2.2.1, .string ⟨⟨xu.2.2.2.2.2.2.1⟩⟩, .bool xu.2.2.2.2.2.2.2])] Tryz.func4 rfl (by kernel_rfl) (by kernel_rfl) (by kernel_rfl) fun w0 => ?_
  refine Ok.seq ?_
  refine Ok.region ?_
  refine Ok.op rfl (OpOk.box (v := .agg #[.string ⟨⟨xu.1⟩⟩, .string ⟨⟨xu.2.1⟩⟩, .int .i64 xu.2.2.1, .slice axu_0 xu.2.2.2.1.length cxu_0, .string ⟨⟨xu.2.2.2.2.1⟩⟩, .bool xu.2.2.2.2.2.1, .string ⟨⟨xu.2.2.2.2.2.2.1⟩⟩, .bool xu.2.2.2.2.2.2.2]) (cs := #[.string ⟨⟨xu.1⟩⟩, .string ⟨⟨xu.2.1⟩⟩, .int .i64 xu.2.2.1, .slice axu_0 xu.2.2.2.1.length cxu_0, .string ⟨⟨xu.2.2.2.2.1⟩⟩, .bool xu.2.2.2.2.2.1, .string ⟨⟨xu.2.2.2.2.2.2.1⟩⟩, .bool xu.2.2.2.2.2.2.2]) rfl (by kernel_rfl) rfl fun b1 => ?_)
  refine Ok.batch 1 [(1, .pointer (some ⟨b1, 0, none⟩))] (by kernel_rfl) ?_
  refine Ok.nil ?_
  refine Ok.thenN ?_
  refine Ok.seq ?_
  refine Ok.region ?_
  refine Ok.op rfl (OpOk.step (v := .agg #[.string ⟨⟨xu.1⟩⟩, .string ⟨⟨xu.2.1⟩⟩, .int .i64 xu.2.2.1, .slice axu_0 xu.2.2.2.1.length cxu_0, .string ⟨⟨xu.2.2.2.2.1⟩⟩, .bool xu.2.2.2.2.2.1, .string ⟨⟨xu.2.2.2.2.2.2.1⟩⟩, .bool xu.2.2.2.2.2.2.2]) (Yields.loadAgg 0 8 #[.string ⟨⟨xu.1⟩⟩, .string ⟨⟨xu.2.1⟩⟩, .int .i64 xu.2.2.1, .slice axu_0 xu.2.2.2.1.length cxu_0, .string ⟨⟨xu.2.2.2.2.1⟩⟩, .bool xu.2.2.2.2.2.1, .string ⟨⟨xu.2.2.2.2.2.2.1⟩⟩, .bool xu.2.2.2.2.2.2.2] rfl rfl Tryz.underlying24 rfl (by kernel_rfl) (by kernel_rfl) (by kernel_rfl)) rfl rfl ?_)
  obtain ⟨hp2, hF⟩ := hF
  refine Ok.op rfl (OpOk.callG (v := .tuple #[.string ⟨⟨(wriS xu).1⟩⟩, .int .i64 ((wriS xu).2)]) (enters (by kernel_rfl) (fun _ => by kernel_rfl)) (fun W hW => uwri_c xu (hRxu_0.mono hW.sees) (hG0.mono hW.sees) (hG1.mono hW.sees) (hG2.mono hW.sees) (hG3.mono hW.sees) (hG4.mono hW.sees) (hG5.mono hW.sees) hp2) rfl ?_)
  refine Ok.batch 5 [(1, .pointer (some ⟨b1, 0, none⟩)), (3, .string ⟨⟨(wriS xu).1⟩⟩), (4, .int .i64 ((wriS xu).2))] (by kernel_rfl) ?_
  refine Ok.nil ?_
  refine Ok.thenN ?_
  refine Ok.seq ?_
  refine Ok.region ?_
  refine Ok.op rfl (OpOk.step (v := .agg #[.string ⟨⟨xu.1⟩⟩, .string ⟨⟨xu.2.1⟩⟩, .int .i64 xu.2.2.1, .slice axu_0 xu.2.2.2.1.length cxu_0, .string ⟨⟨xu.2.2.2.2.1⟩⟩, .bool xu.2.2.2.2.2.1, .string ⟨⟨xu.2.2.2.2.2.2.1⟩⟩, .bool xu.2.2.2.2.2.2.2]) (Yields.loadAgg 0 8 #[.string ⟨⟨xu.1⟩⟩, .string ⟨⟨xu.2.1⟩⟩, .int .i64 xu.2.2.1, .slice axu_0 xu.2.2.2.1.length cxu_0, .string ⟨⟨xu.2.2.2.2.1⟩⟩, .bool xu.2.2.2.2.2.1, .string ⟨⟨xu.2.2.2.2.2.2.1⟩⟩, .bool xu.2.2.2.2.2.2.2] rfl rfl Tryz.underlying24 rfl (by kernel_rfl) (by kernel_rfl) (by kernel_rfl)) rfl rfl ?_)
  obtain ⟨hp3, hF⟩ := hF
  refine Ok.op rfl (OpOk.callG (v := .int .i64 (chkS xu)) (enters (by kernel_rfl) (fun _ => by kernel_rfl)) (fun W hW => rrig_c xu (hRxu_0.mono hW.sees) (hG0.mono hW.sees) (hG3.mono hW.sees) hp3) rfl ?_)
  refine Ok.batch 1 [(1, .pointer (some ⟨b1, 0, none⟩)), (3, .string ⟨⟨(wriS xu).1⟩⟩), (4, .int .i64 ((wriS xu).2)), (5, .int .i64 (chkS xu))] (by kernel_rfl) ?_
  refine Ok.nil ?_
  refine Ok.thenN ?_
  refine Ok.seq ?_
  refine Ok.seq ?_
  refine Ok.region ?_
  refine Ok.op rfl (OpOk.step (v := .agg #[.string ⟨⟨xu.1⟩⟩, .string ⟨⟨xu.2.1⟩⟩, .int .i64 xu.2.2.1, .slice axu_0 xu.2.2.2.1.length cxu_0, .string ⟨⟨xu.2.2.2.2.1⟩⟩, .bool xu.2.2.2.2.2.1, .string ⟨⟨xu.2.2.2.2.2.2.1⟩⟩, .bool xu.2.2.2.2.2.2.2]) (Yields.loadAgg 0 8 #[.string ⟨⟨xu.1⟩⟩, .string ⟨⟨xu.2.1⟩⟩, .int .i64 xu.2.2.1, .slice axu_0 xu.2.2.2.1.length cxu_0, .string ⟨⟨xu.2.2.2.2.1⟩⟩, .bool xu.2.2.2.2.2.1, .string ⟨⟨xu.2.2.2.2.2.2.1⟩⟩, .bool xu.2.2.2.2.2.2.2] rfl rfl Tryz.underlying24 rfl (by kernel_rfl) (by kernel_rfl) (by kernel_rfl)) rfl rfl ?_)
  obtain ⟨hp4, hF⟩ := hF
  refine Ok.op rfl (OpOk.callG (v := .int .i64 (chkS xu)) (enters (by kernel_rfl) (fun _ => by kernel_rfl)) (fun W hW => uchk_c xu (hRxu_0.mono hW.sees) (hG0.mono hW.sees) (hG1.mono hW.sees) (hG2.mono hW.sees) (hG3.mono hW.sees) (hG4.mono hW.sees) (hG5.mono hW.sees) hp4) rfl ?_)
  refine Ok.batch 3 [(1, .pointer (some ⟨b1, 0, none⟩)), (3, .string ⟨⟨(wriS xu).1⟩⟩), (4, .int .i64 ((wriS xu).2)), (5, .int .i64 (chkS xu)), (17, .bool ((chkS xu) != (chkS xu)))] (by kernel_rfl) ?_
  refine Ok.midway 4 [(1, .pointer (some ⟨b1, 0, none⟩)), (3, .string ⟨⟨(wriS xu).1⟩⟩), (5, .int .i64 (chkS xu)), (21, .bool (((chkS xu) != (chkS xu)) || (((wriS xu).2) != (chkS xu))))] (fun hR5 => ?_) ?_
  · refine Ok.boolAt 17 (((chkS xu) != (chkS xu))) rfl (fun hc6 => ?_) (fun hc6 => ?_)
    · skip
      refine Ok.batch 4 [(1, .pointer (some ⟨b1, 0, none⟩)), (3, .string ⟨⟨(wriS xu).1⟩⟩), (5, .int .i64 (chkS xu)), (21, .bool true)] (by kernel_rfl) ?_
      refine Ok.reval 21 rfl (show (.bool true : Value) = .bool (((chkS xu) != (chkS xu)) || (((wriS xu).2) != (chkS xu))) from congrArg Value.bool (mor_t hc6)) ?_
      refine Ok.batch 0 [(1, .pointer (some ⟨b1, 0, none⟩)), (3, .string ⟨⟨(wriS xu).1⟩⟩), (5, .int .i64 (chkS xu)), (21, .bool (((chkS xu) != (chkS xu)) || (((wriS xu).2) != (chkS xu))))] (by kernel_rfl) ?_
      exact hR5
    · skip
      refine Ok.batch 4 [(1, .pointer (some ⟨b1, 0, none⟩)), (3, .string ⟨⟨(wriS xu).1⟩⟩), (5, .int .i64 (chkS xu)), (21, .bool (((wriS xu).2) != (chkS xu)))] (by kernel_rfl) ?_
      refine Ok.reval 21 rfl (show (.bool (((wriS xu).2) != (chkS xu)) : Value) = .bool (((chkS xu) != (chkS xu)) || (((wriS xu).2) != (chkS xu))) from congrArg Value.bool (mor_f hc6)) ?_
      refine Ok.batch 0 [(1, .pointer (some ⟨b1, 0, none⟩)), (3, .string ⟨⟨(wriS xu).1⟩⟩), (5, .int .i64 (chkS xu)), (21, .bool (((chkS xu) != (chkS xu)) || (((wriS xu).2) != (chkS xu))))] (by kernel_rfl) ?_
      exact hR5
  refine Ok.nil ?_
  refine Ok.thenN ?_
  refine Ok.cond (b := (((chkS xu) != (chkS xu)) || (((wriS xu).2) != (chkS xu)))) rfl (fun hc7 => ?_) (fun hc7 => ?_)
  · replace hF := hF.1 hc7
    refine Ok.seq ?_
    refine Ok.region ?_
    refine Ok.batch 1 [(2, .bool false)] (by kernel_rfl) ?_
    refine Ok.nil ?_
    refine Ok.thenN ?_
    refine Ok.ret ?_
    refine Ok.thenR ?_
    exact Ok.resP (vs := [.bool false]) [] [] (by decide) rfl (.inl rfl) rfl (.cons (.tmp rfl) .nil) (Gext.refl w0 g) ⟨false, rfl, rfl, hF⟩
  · replace hF := hF.2 hc7
    refine Ok.skip ?_
    refine Ok.thenN ?_
    refine Ok.cut (fun a W => StA 38 [(2, .bool (lwriV0 xu))] a ∧ StW w0 [] g W ∧ lwrij15 xu K) ?_ ?_
    ·
      refine Ok.region ?_
      refine Ok.batch 3 [(1, .pointer (some ⟨b1, 0, none⟩)), (3, .string ⟨⟨(wriS xu).1⟩⟩), (5, .int .i64 (chkS xu)), (24, .bool ((chkS xu) != 0))] (by kernel_rfl) ?_
      refine Ok.boolAt 24 (((chkS xu) != 0)) rfl (fun hc8 => ?_) (fun hc8 => ?_)
      · replace hF := hF.1 hc8
        refine Ok.batch 1 [(1, .pointer (some ⟨b1, 0, none⟩)), (3, .string ⟨⟨(wriS xu).1⟩⟩), (5, .int .i64 (chkS xu)), (24, .bool true), (25, .string ⟨⟨(wriS xu).1⟩⟩)] (by kernel_rfl) ?_
        refine Ok.opYes (j := 2) (d := 24) (want := true) (b := true) rfl (by kernel_rfl) (by kernel_rfl) rfl (OpOk.step (v := .bool (((wriS xu).1) == ([] : List UInt8))) (Yields.strCmp (f := .eql) (a := ((wriS xu).1)) (b := ([] : List UInt8)) (by kernel_rfl) (by kernel_rfl) rfl) rfl rfl ?_)
        refine Ok.batch 2 [(1, .pointer (some ⟨b1, 0, none⟩)), (3, .string ⟨⟨(wriS xu).1⟩⟩), (5, .int .i64 (chkS xu)), (28, .bool (((wriS xu).1) == ([] : List UInt8)))] (by kernel_rfl) ?_
        refine Ok.boolAt 28 ((((wriS xu).1) == ([] : List UInt8))) rfl (fun hc9 => ?_) (fun hc9 => ?_)
        · replace hF := hF.1 hc9
          refine Ok.batch 10 [(2, .bool true)] (by kernel_rfl) ?_
          refine Ok.nil ?_
          refine Ok.thenN ?_
          refine Ok.reval 2 rfl (show (.bool true : Value) = .bool (lwriV0 xu) from congrArg (Value.bool) ((Eq.trans (mor_t hc9) ((if_t hc8).symm)))) ?_
          exact fun a W hA hW => ⟨hA.sub (by kernel_rfl), hW.sub (.cons _ .slnil), hF⟩
        · replace hF := hF.2 hc9
          refine Ok.batch 3 [(1, .pointer (some ⟨b1, 0, none⟩)), (3, .string ⟨⟨(wriS xu).1⟩⟩), (28, .bool false), (31, .bool ((chkS xu) == 0))] (by kernel_rfl) ?_
          refine Ok.boolAt 31 (((chkS xu) == 0)) rfl (fun hc10 => ?_) (fun hc10 => ?_)
          · replace hF := hF.1 hc10
            refine Ok.batch 1 [(1, .pointer (some ⟨b1, 0, none⟩)), (28, .bool false), (31, .bool true), (32, .string ⟨⟨(wriS xu).1⟩⟩)] (by kernel_rfl) ?_
            refine Ok.opYes (j := 9) (d := 31) (want := true) (b := true) rfl (by kernel_rfl) (by kernel_rfl) rfl (OpOk.step (v := .agg #[.string ⟨⟨xu.1⟩⟩, .string ⟨⟨xu.2.1⟩⟩, .int .i64 xu.2.2.1, .slice axu_0 xu.2.2.2.1.length cxu_0, .string ⟨⟨xu.2.2.2.2.1⟩⟩, .bool xu.2.2.2.2.2.1, .string ⟨⟨xu.2.2.2.2.2.2.1⟩⟩, .bool xu.2.2.2.2.2.2.2]) (Yields.loadAgg 0 8 #[.string ⟨⟨xu.1⟩⟩, .string ⟨⟨xu.2.1⟩⟩, .int .i64 xu.2.2.1, .slice axu_0 xu.2.2.2.1.length cxu_0, .string ⟨⟨xu.2.2.2.2.1⟩⟩, .bool xu.2.2.2.2.2.1, .string ⟨⟨xu.2.2.2.2.2.2.1⟩⟩, .bool xu.2.2.2.2.2.2.2] rfl rfl Tryz.underlying24 rfl (by kernel_rfl) (by kernel_rfl) (by kernel_rfl)) rfl rfl ?_)
            obtain ⟨hp11, hF⟩ := hF
            refine Ok.opYes (j := 9) (d := 31) (want := true) (b := true) rfl (by kernel_rfl) (by kernel_rfl) rfl (OpOk.callG (v := .string ⟨⟨(txtS xu)⟩⟩) (enters (by kernel_rfl) (fun _ => by kernel_rfl)) (fun W hW => rtxt_c xu (hRxu_0.mono hW.sees) (hG0.mono hW.sees) (hG3.mono hW.sees) hp11) rfl ?_)
            refine Ok.opYes (j := 9) (d := 31) (want := true) (b := true) rfl (by kernel_rfl) (by kernel_rfl) rfl (OpOk.step (v := .bool (((wriS xu).1) == (txtS xu))) (Yields.strCmp (f := .eql) (a := ((wriS xu).1)) (b := (txtS xu)) (by kernel_rfl) (by kernel_rfl) rfl) rfl rfl ?_)
            refine Ok.batch 3 [(2, .bool (((wriS xu).1) == (txtS xu)))] (by kernel_rfl) ?_
            refine Ok.nil ?_
            refine Ok.thenN ?_
            refine Ok.reval 2 rfl (show (.bool (((wriS xu).1) == (txtS xu)) : Value) = .bool (lwriV0 xu) from congrArg (Value.bool) ((Eq.trans ((Eq.trans (mand_t hc10) (mor_f hc9))) ((if_t hc8).symm)))) ?_
            exact fun a W hA hW => ⟨hA.sub (by kernel_rfl), hW.sub (.cons _ .slnil), hF⟩
          · replace hF := hF.2 hc10
            refine Ok.batch 7 [(2, .bool false)] (by kernel_rfl) ?_
            refine Ok.nil ?_
            refine Ok.thenN ?_
            refine Ok.reval 2 rfl (show (.bool false : Value) = .bool (lwriV0 xu) from congrArg (Value.bool) ((Eq.trans ((Eq.trans (mand_f hc10) (mor_f hc9))) ((if_t hc8).symm)))) ?_
            exact fun a W hA hW => ⟨hA.sub (by kernel_rfl), hW.sub (.cons _ .slnil), hF⟩
      · replace hF := hF.2 hc8
        refine Ok.batch 7 [(1, .pointer (some ⟨b1, 0, none⟩)), (3, .string ⟨⟨(wriS xu).1⟩⟩), (28, .bool false), (31, .bool ((chkS xu) == 0))] (by kernel_rfl) ?_
        refine Ok.boolAt 31 (((chkS xu) == 0)) rfl (fun hc12 => ?_) (fun hc12 => ?_)
        · replace hF := hF.1 hc12
          refine Ok.batch 1 [(1, .pointer (some ⟨b1, 0, none⟩)), (28, .bool false), (31, .bool true), (32, .string ⟨⟨(wriS xu).1⟩⟩)] (by kernel_rfl) ?_
          refine Ok.opYes (j := 9) (d := 31) (want := true) (b := true) rfl (by kernel_rfl) (by kernel_rfl) rfl (OpOk.step (v := .agg #[.string ⟨⟨xu.1⟩⟩, .string ⟨⟨xu.2.1⟩⟩, .int .i64 xu.2.2.1, .slice axu_0 xu.2.2.2.1.length cxu_0, .string ⟨⟨xu.2.2.2.2.1⟩⟩, .bool xu.2.2.2.2.2.1, .string ⟨⟨xu.2.2.2.2.2.2.1⟩⟩, .bool xu.2.2.2.2.2.2.2]) (Yields.loadAgg 0 8 #[.string ⟨⟨xu.1⟩⟩, .string ⟨⟨xu.2.1⟩⟩, .int .i64 xu.2.2.1, .slice axu_0 xu.2.2.2.1.length cxu_0, .string ⟨⟨xu.2.2.2.2.1⟩⟩, .bool xu.2.2.2.2.2.1, .string ⟨⟨xu.2.2.2.2.2.2.1⟩⟩, .bool xu.2.2.2.2.2.2.2] rfl rfl Tryz.underlying24 rfl (by kernel_rfl) (by kernel_rfl) (by kernel_rfl)) rfl rfl ?_)
          obtain ⟨hp13, hF⟩ := hF
          refine Ok.opYes (j := 9) (d := 31) (want := true) (b := true) rfl (by kernel_rfl) (by kernel_rfl) rfl (OpOk.callG (v := .string ⟨⟨(txtS xu)⟩⟩) (enters (by kernel_rfl) (fun _ => by kernel_rfl)) (fun W hW => rtxt_c xu (hRxu_0.mono hW.sees) (hG0.mono hW.sees) (hG3.mono hW.sees) hp13) rfl ?_)
          refine Ok.opYes (j := 9) (d := 31) (want := true) (b := true) rfl (by kernel_rfl) (by kernel_rfl) rfl (OpOk.step (v := .bool (((wriS xu).1) == (txtS xu))) (Yields.strCmp (f := .eql) (a := ((wriS xu).1)) (b := (txtS xu)) (by kernel_rfl) (by kernel_rfl) rfl) rfl rfl ?_)
          refine Ok.batch 3 [(2, .bool (((wriS xu).1) == (txtS xu)))] (by kernel_rfl) ?_
          refine Ok.nil ?_
          refine Ok.thenN ?_
          refine Ok.reval 2 rfl (show (.bool (((wriS xu).1) == (txtS xu)) : Value) = .bool (lwriV0 xu) from congrArg (Value.bool) ((Eq.trans (mand_t hc12) ((if_f hc8).symm)))) ?_
          exact fun a W hA hW => ⟨hA.sub (by kernel_rfl), hW.sub (.cons _ .slnil), hF⟩
        · replace hF := hF.2 hc12
          refine Ok.batch 7 [(2, .bool false)] (by kernel_rfl) ?_
          refine Ok.nil ?_
          refine Ok.thenN ?_
          refine Ok.reval 2 rfl (show (.bool false : Value) = .bool (lwriV0 xu) from congrArg (Value.bool) ((Eq.trans (mand_f hc12) ((if_f hc8).symm)))) ?_
          exact fun a W hA hW => ⟨hA.sub (by kernel_rfl), hW.sub (.cons _ .slnil), hF⟩
    ·
      clear hF
      rintro a W ⟨hA, hW, hF⟩
      refine (?_ : Ok _ _ _ _ _ _) a W hA hW
      clear hA hW
      refine Ok.ret ?_
      exact Ok.resH (vs := [.bool (lwriV0 xu)]) (.inl rfl) rfl (.cons (.tmp rfl) .nil) (Gext.refl w0 g) ⟨(lwriV0 xu), rfl, rfl, hF⟩
def lwriP (u : JU) : Prop := DomU ((.pair (.str) (.pair (.str) (.pair (.int .i64) (.pair (.slice (.str)) (.pair (.str) (.pair (.bool) (.pair (.str) (.bool))))))))) u
theorem sum_le {f : List UInt8 → Nat} : ∀ {l : List (List UInt8)} {p : List UInt8}, p ∈ l → f p ≤ (l.map f).sum
  | a :: l, p, h => by
    rw [List.map_cons, List.sum_cons]
    rcases List.mem_cons.1 h with rfl | h
    · omega
    · have := sum_le (f := f) h; omega
theorem sum_len : ∀ (l : List (List UInt8)), l.length ≤ (l.map (bulkT .str)).sum
  | [] => Nat.zero_le _
  | a :: l => by
    have := sum_len l
    rw [List.map_cons, List.sum_cons, List.length_cons]
    have : bulkT .str a = a.length + 1 := rfl
    omega
theorem txt_of {u : JU} (h : lwriP u) : txtP u := by
  obtain ⟨hd, hb⟩ := h
  obtain ⟨a, b, c, l, q, x, f, y⟩ := u
  have hb : (a.length + 1) + ((b.length + 1) + (1 + (((l.map (bulkT .str)).sum + 1) + ((q.length + 1) + (1 + ((f.length + 1) + 1)))))) ≤ 1048576 := hb
  have hc : (Lit.int .i64 c).wf = true := hd.1.2.2.1
  have hs := sum_len l
  refine ⟨⟨by show a.length ≤ _; omega, by show b.length ≤ _; omega, ?_⟩, ⟨by show l.length ≤ _; omega, fun p hp => ?_⟩, by show q.length ≤ _; omega, by show f.length ≤ _; omega⟩
  · show itoaP c
    unfold itoaP
    have h1 : IntKind.i64.min ≤ c ∧ c ≤ IntKind.i64.max := by simpa [Lit.wf] using hc
    exact h1
  · have h2 : bulkT .str p ≤ (l.map (bulkT .str)).sum := sum_le (f := bulkT .str) hp
    have h3 : bulkT .str p = p.length + 1 := rfl
    omega
theorem lwri_F (u : JU) (hp : lwriP u) : lwriF u (fun r => r = true) := by
  have ht := txt_of hp
  have hv : lwriV0 u = true := by
    unfold lwriV0 wriS
    by_cases h : (chkS u != 0) = true
    · rw [if_t h, if_t h]; rfl
    · have h' : chkS u = 0 := by simpa using h
      rw [if_neg h, if_neg h, h']
      show (true && (txtS u == txtS u)) = true
      simp
  have h2 : (wriS u).2 = chkS u := by
    unfold wriS
    by_cases h : (chkS u != 0) = true
    · rw [if_t h]
    · have h' : chkS u = 0 := by simpa using h
      rw [if_neg h, h']
  have hc : ((chkS u != chkS u) || ((wriS u).2 != chkS u)) = false := by rw [h2]; simp
  have j15 : lwrij15 u (fun r => r = true) := hv
  exact ⟨ht, ht, ht, (fun h => by rw [hc] at h; cases h), fun _ => ⟨fun _ => ⟨fun _ => j15, fun _ => ⟨fun _ => ⟨ht, j15⟩, fun _ => j15⟩⟩, fun _ => ⟨fun _ => ⟨ht, j15⟩, fun _ => j15⟩⟩⟩
set_option linter.unusedVariables false in
theorem lwri_c {g : Ghost} {axu_0 : Option Addr} {cxu_0 : Nat} (xu : List UInt8 × List UInt8 × Int × List (List UInt8) × List UInt8 × Bool × List UInt8 × Bool) (hRxu_0 : Rep g (.slice (.str)) [.slice axu_0 xu.2.2.2.1.length cxu_0] xu.2.2.2.1) (hG0 : SomeInt g 0) (hG1 : SomeIf g 1) (hG2 : SomeIf g 2) (hG3 : GlobL g 3 (.int .u64) DPow) (hG4 : GlobL g 4 (.int .u8) DFirst) (hG5 : GlobL g 5 (.pair (.int .u8) (.int .u8)) DAcc)  (hp : lwriP xu) : CallsG Tryz.prog 4 #[.agg #[.string ⟨⟨xu.1⟩⟩, .string ⟨⟨xu.2.1⟩⟩, .int .i64 xu.2.2.1, .slice axu_0 xu.2.2.2.1.length cxu_0, .string ⟨⟨xu.2.2.2.2.1⟩⟩, .bool xu.2.2.2.2.2.1, .string ⟨⟨xu.2.2.2.2.2.2.1⟩⟩, .bool xu.2.2.2.2.2.2.2]] g (.bool ((fun _ => true) xu)) :=
  (lwri_ok xu hRxu_0 hG0 hG1 hG2 hG3 hG4 hG5 _ (lwri_F xu hp)).gives (by rintro g' H' v _ ⟨r0, rfl, rfl, hK⟩; subst hK; rfl)
end
end Go.Proofs.YthgabkffamgfaaaGreatDoor.Ub
