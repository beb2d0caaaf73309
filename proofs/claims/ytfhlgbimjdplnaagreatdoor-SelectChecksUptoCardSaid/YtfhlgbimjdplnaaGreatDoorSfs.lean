/- SelectChecks: the law. -/
import Derived.Test.YtfhlgbimjdplnaaGreatDoorSfr
namespace Go.Proofs.YtfhlgbimjdplnaaGreatDoor.Se
open Go Go.Eng Go.RowKit Bld Trm Css Tk Ti
set_option linter.unusedVariables false
theorem bt_wf {z : Int} (h : (Lit.int .u8 z).wf = true) : btN z := by
 have h1 : IntKind.u8.min ≤ z ∧ z ≤ IntKind.u8.max := by simpa [Lit.wf] using h
 have h2 : IntKind.u8.min = 0 := rfl
 have h3 : IntKind.u8.max = 255 := rfl
 exact ⟨by omega, by omega⟩
theorem okB_dom : ∀ t : Ts, Dom (.tst (.pair (.int .i64) (.pair (.str) (.pair (.int .u8) (.pair (.str) (.pair (.int .i64) (.int .i64))))))) t → okB t := by
 refine Tst.ind ?_
 intro x l ih hd
 have hd := Tst.all_mk.1 hd
 refine Tst.all_mk.2 ⟨⟨bt_wf hd.1.1.2.2.1, fun q hq z hz => bt_wf ((hd.1.2.2 q hq).2.2 z hz)⟩, fun q hq s hs k hk => ih q hq s hs k hk (hd.2 q hq s hs k hk)⟩
theorem okB3_dom {l : List Ph} (h : Dom (.slice (.pair (.slice (.slice (.tst (.pair (.int .i64) (.pair (.str) (.pair (.int .u8) (.pair (.str) (.pair (.int .i64) (.int .i64))))))))) (.slice (.int .u8)))) l) : okB3 l := fun q hq =>
 ⟨fun z hz => bt_wf ((h.2 q hq).2.2 z hz), fun s hs t ht => okB_dom t (((h.2 q hq).1.2 s hs).2 t ht)⟩
theorem chkU {l : List Ph} (h : DomU (.slice (.pair (.slice (.slice (.tst (.pair (.int .i64) (.pair (.str) (.pair (.int .u8) (.pair (.str) (.pair (.int .i64) (.int .i64))))))))) (.slice (.int .u8)))) l) : chkP l := ⟨h.2, okB3_dom h.1.1⟩
def lscj5 (xl : List ((List (List (Tst (Int × List UInt8 × Int × List UInt8 × Int × Int)))) × List (Int))) (K : Bool → Prop) : Prop :=
 K (true && ((chkS xl) == (chkS xl)))
def lscF (xl : List ((List (List (Tst (Int × List UInt8 × Int × List UInt8 × Int × Int)))) × List (Int))) (K : Bool → Prop) : Prop :=
 ((true) = true → chkP xl ∧ chkP xl ∧ lscj5 xl K) ∧ ((true) = false → lscj5 xl K)
set_option maxHeartbeats 4000000 in
set_option maxRecDepth 100000 in
set_option linter.unusedVariables false in
theorem lsc_ok {g : Ghost} {axl_0 : Option Addr} {cxl_0 : Nat} (xl : List ((List (List (Tst (Int × List UInt8 × Int × List UInt8 × Int × Int)))) × List (Int))) (hRxl_0 : Rep g (.slice (.pair (.slice (.slice (.tst (.pair (.int .i64) (.pair (.str) (.pair (.int .u8) (.pair (.str) (.pair (.int .i64) (.int .i64))))))))) (.slice (.int .u8)))) [.slice axl_0 xl.length cxl_0] xl) (hG0 : SomeInt g 0) (K : Bool → Prop)
  (hF : lscF xl K) : CallsH Tryz.prog 3 #[.slice axl_0 xl.length cxl_0] g [] (fun g' H' v => ∃ (r0 : Bool), v = .bool r0 ∧ H' = [] ∧ K r0) := by
 refine CallsH.enter 13 [(0, .slice axl_0 xl.length cxl_0)] Tryz.func3 rfl (by kernel_rfl) (by kernel_rfl) (by kernel_rfl) fun w0 => ?_
 refine Ok.seq ?_
 refine Ok.region ?_
 refine Ok.batch 1 [(0, .slice axl_0 xl.length cxl_0)] (by kernel_rfl) ?_
 refine Ok.nil ?_
 refine Ok.thenN ?_
 refine Ok.seq ?_
 refine Ok.region ?_
 refine Ok.op rfl (OpOk.callG (v := .bool true) (enters (by kernel_rfl) (fun _ => by kernel_rfl)) (fun W hW => lsd_c  (hG0.mono hW.sees)) rfl ?_)
 refine Ok.batch 1 [(0, .slice axl_0 xl.length cxl_0), (3, .bool true)] (by kernel_rfl) ?_
 refine Ok.nil ?_
 refine Ok.thenN ?_
 refine Ok.cut (fun a W => StA 13 [(2, .bool (true && ((chkS xl) == (chkS xl))))] a ∧ StW w0 [] g W ∧ lscj5 xl K) ?_ ?_
 ·
  refine Ok.region ?_
  refine Ok.batch 2 [(0, .slice axl_0 xl.length cxl_0), (6, .bool true)] (by kernel_rfl) ?_
  refine Ok.boolAt 6 (true) rfl (fun hc1 => ?_) (fun hc1 => ?_)
  ·replace hF := hF.1 hc1
   refine Ok.batch 1 [(0, .slice axl_0 xl.length cxl_0), (6, .bool true), (7, .slice axl_0 xl.length cxl_0)] (by kernel_rfl) ?_
   obtain ⟨hp2, hF⟩ := hF
   refine Ok.opYes (j := 1) (d := 6) (want := true) (b := true) rfl (by kernel_rfl) (by kernel_rfl) rfl (OpOk.callG (v := .int .i64 (chkS xl)) (enters (by kernel_rfl) (fun _ => by kernel_rfl)) (fun W hW => chk_c xl (hRxl_0.mono hW.sees) (hG0.mono hW.sees) hp2) rfl ?_)
   refine Ok.batch 1 [(6, .bool true), (8, .int .i64 (chkS xl)), (9, .slice axl_0 xl.length cxl_0)] (by kernel_rfl) ?_
   obtain ⟨hp3, hF⟩ := hF
   refine Ok.opYes (j := 1) (d := 6) (want := true) (b := true) rfl (by kernel_rfl) (by kernel_rfl) rfl (OpOk.callG (v := .int .i64 (chkS xl)) (enters (by kernel_rfl) (fun _ => by kernel_rfl)) (fun W hW => pfl_c xl (hRxl_0.mono hW.sees) (hG0.mono hW.sees) hp3) rfl ?_)
   refine Ok.batch 3 [(2, .bool ((chkS xl) == (chkS xl)))] (by kernel_rfl) ?_
   refine Ok.nil ?_
   refine Ok.thenN ?_
   refine Ok.reval 2 rfl (show (.bool ((chkS xl) == (chkS xl)) : Value) = .bool (true && ((chkS xl) == (chkS xl))) from congrArg (Value.bool) (mand_t hc1)) ?_
   exact fun a W hA hW => ⟨hA.sub (by kernel_rfl), hW, hF⟩
  ·replace hF := hF.2 hc1
   refine Ok.batch 7 [(2, .bool false)] (by kernel_rfl) ?_
   refine Ok.nil ?_
   refine Ok.thenN ?_
   refine Ok.reval 2 rfl (show (.bool false : Value) = .bool (true && ((chkS xl) == (chkS xl))) from congrArg (Value.bool) (mand_f hc1)) ?_
   exact fun a W hA hW => ⟨hA.sub (by kernel_rfl), hW, hF⟩
 ·
  clear hF
  rintro a W ⟨hA, hW, hF⟩
  refine (?_ : Ok _ _ _ _ _ _) a W hA hW
  clear hA hW
  refine Ok.ret ?_
  exact Ok.resH (vs := [.bool (true && ((chkS xl) == (chkS xl)))]) (.inl rfl) rfl (.cons (.tmp rfl) .nil) (Gext.refl w0 g) ⟨(true && ((chkS xl) == (chkS xl))), rfl, rfl, hF⟩
def lscP (l : List Ph) : Prop := DomU (.slice (.pair (.slice (.slice (.tst (.pair (.int .i64) (.pair (.str) (.pair (.int .u8) (.pair (.str) (.pair (.int .i64) (.int .i64))))))))) (.slice (.int .u8)))) l
theorem lsc_F (l : List Ph) (h : lscP l) : lscF l (fun r => r = true) := by
 have j : lscj5 l (fun r => r = true) := by
  unfold lscj5
  simp
 exact ⟨fun _ => ⟨chkU h, chkU h, j⟩, fun h => (by cases h)⟩
set_option linter.unusedVariables false in
theorem lsc_c {g : Ghost} {axl_0 : Option Addr} {cxl_0 : Nat} (xl : List ((List (List (Tst (Int × List UInt8 × Int × List UInt8 × Int × Int)))) × List (Int))) (hRxl_0 : Rep g (.slice (.pair (.slice (.slice (.tst (.pair (.int .i64) (.pair (.str) (.pair (.int .u8) (.pair (.str) (.pair (.int .i64) (.int .i64))))))))) (.slice (.int .u8)))) [.slice axl_0 xl.length cxl_0] xl) (hG0 : SomeInt g 0)  (hp : lscP xl) : CallsG Tryz.prog 3 #[.slice axl_0 xl.length cxl_0] g (.bool true) :=
 (lsc_ok xl hRxl_0 hG0 _ (lsc_F xl hp)).gives (by rintro g' H' v _ ⟨r0, rfl, rfl, hK⟩; subst hK; rfl)
end Go.Proofs.YtfhlgbimjdplnaaGreatDoor.Se
