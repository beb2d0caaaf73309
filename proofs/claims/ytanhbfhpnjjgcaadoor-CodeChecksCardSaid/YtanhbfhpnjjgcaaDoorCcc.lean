/- Code: the checker of a function. -/
import Derived.Test.YtanhbfhpnjjgcaaDoorCcb
import Derived.Test.YtanhbfhpnjjgcaaDoorFle
namespace Go.Proofs.YtanhbfhpnjjgcaaDoor.Cc
open Go Go.Eng Go.RowKit Fl
set_option linter.unusedVariables false
noncomputable section
def DSpace : List (Int) := [0, 0, 0, 0, 0, 0, 0, 0, 0, 1, 1, 1, 1, 1, 0, 0, 0, 0, 0, 0, 0, 0, 0, 0, 0, 0, 0, 0, 0, 0, 0, 0, 1, 0, 0, 0, 0, 0, 0, 0, 0, 0, 0, 0, 0, 0, 0, 0, 0, 0, 0, 0, 0, 0, 0, 0, 0, 0, 0, 0, 0, 0, 0, 0, 0, 0, 0, 0, 0, 0, 0, 0, 0, 0, 0, 0, 0, 0, 0, 0, 0, 0, 0, 0, 0, 0, 0, 0, 0, 0, 0, 0, 0, 0, 0, 0, 0, 0, 0, 0, 0, 0, 0, 0, 0, 0, 0, 0, 0, 0, 0, 0, 0, 0, 0, 0, 0, 0, 0, 0, 0, 0, 0, 0, 0, 0, 0, 0, 0, 0, 0, 0, 0, 0, 0, 0, 0, 0, 0, 0, 0, 0, 0, 0, 0, 0, 0, 0, 0, 0, 0, 0, 0, 0, 0, 0, 0, 0, 0, 0, 0, 0, 0, 0, 0, 0, 0, 0, 0, 0, 0, 0, 0, 0, 0, 0, 0, 0, 0, 0, 0, 0, 0, 0, 0, 0, 0, 0, 0, 0, 0, 0, 0, 0, 0, 0, 0, 0, 0, 0, 0, 0, 0, 0, 0, 0, 0, 0, 0, 0, 0, 0, 0, 0, 0, 0, 0, 0, 0, 0, 0, 0, 0, 0, 0, 0, 0, 0, 0, 0, 0, 0, 0, 0, 0, 0, 0, 0, 0, 0, 0, 0, 0, 0, 0, 0, 0, 0, 0, 0, 0, 0, 0, 0, 0, 0]
def sgnF (K : (List (List UInt8)) → Prop) : Prop :=
 fieldsP ([61, 61, 32, 33, 61, 32, 60, 32, 60, 61, 32, 62, 32, 62, 61, 32, 43, 32, 45, 32, 42, 32, 47, 32, 37] : List UInt8) ∧ K (fieldsS ([61, 61, 32, 33, 61, 32, 60, 32, 60, 61, 32, 62, 32, 62, 61, 32, 43, 32, 45, 32, 42, 32, 47, 32, 37] : List UInt8))
set_option maxHeartbeats 4000000 in
set_option maxRecDepth 100000 in
set_option linter.unusedVariables false in
theorem sgn_ok {g : Ghost}  (hG0 : GlobL g 0 (.int .u8) DSpace) (K : (List (List UInt8)) → Prop)
  (hF : sgnF K) : CallsH Tryd.prog 19 #[] g [] (fun g' H' v => ∃ (r0 : List (List UInt8)), ∃ (ar0_0 : Option Addr) (cr0_0 : Nat), v = .slice ar0_0 r0.length cr0_0 ∧ Rep g' (.slice (.str)) [.slice ar0_0 r0.length cr0_0] r0 ∧ H' = [] ∧ K r0) := by
 refine CallsH.enter 2 [] Tryd.func19 rfl (by kernel_rfl) (by kernel_rfl) (by kernel_rfl) fun w0 => ?_
 refine Ok.seq ?_
 refine Ok.region ?_
 refine Ok.batch 1 [] (by kernel_rfl) ?_
 refine Ok.nil ?_
 refine Ok.thenN ?_
 refine Ok.seq ?_
 refine Ok.region ?_
 obtain ⟨hp1, hF⟩ := hF
 refine Ok.op rfl (OpOk.callH [] [] (enters (by kernel_rfl) (fun _ => by kernel_rfl)) rfl (fields_c ([61, 61, 32, 33, 61, 32, 60, 32, 60, 61, 32, 62, 32, 62, 61, 32, 43, 32, 45, 32, 42, 32, 47, 32, 37] : List UInt8) hG0 hp1) rfl fun g2 _ _ hx2 hV2 => ?_)
 obtain ⟨a2_0, c2_0, rfl, hR2_0, rfl⟩ := hV2
 replace hG0 := hG0.mono hx2.1
 refine Ok.batch 1 [(0, .slice a2_0 (fieldsS ([61, 61, 32, 33, 61, 32, 60, 32, 60, 61, 32, 62, 32, 62, 61, 32, 43, 32, 45, 32, 42, 32, 47, 32, 37] : List UInt8)).length c2_0)] (by kernel_rfl) ?_
 refine Ok.nil ?_
 refine Ok.thenN ?_
 refine Ok.ret ?_
 exact Ok.resH (vs := [.slice a2_0 (fieldsS ([61, 61, 32, 33, 61, 32, 60, 32, 60, 61, 32, 62, 32, 62, 61, 32, 43, 32, 45, 32, 42, 32, 47, 32, 37] : List UInt8)).length c2_0]) (.inl rfl) rfl (.cons (.tmp rfl) .nil) hx2 ⟨(fieldsS ([61, 61, 32, 33, 61, 32, 60, 32, 60, 61, 32, 62, 32, 62, 61, 32, 43, 32, 45, 32, 42, 32, 47, 32, 37] : List UInt8)), a2_0, c2_0, rfl, hR2_0, rfl, hF⟩
def sgnS : List (List UInt8) := fieldsS ([61, 61, 32, 33, 61, 32, 60, 32, 60, 61, 32, 62, 32, 62, 61, 32, 43, 32, 45, 32, 42, 32, 47, 32, 37] : List UInt8)
theorem sgn_len : sgnS.length = 11 := by decide +kernel
theorem sgn_F : sgnF (fun r => r = sgnS) := ⟨⟨by decide +kernel, by decide +kernel⟩, rfl⟩
set_option linter.unusedVariables false in
theorem sgn_c {g : Ghost}  (hG0 : GlobL g 0 (.int .u8) DSpace)  : CallsH Tryd.prog 19 #[] g [] (fun g' H' v => ∃ (ar0_0 : Option Addr) (cr0_0 : Nat), v = .slice ar0_0 sgnS.length cr0_0 ∧ Rep g' (.slice (.str)) [.slice ar0_0 sgnS.length cr0_0] sgnS ∧ H' = []) :=
 (sgn_ok  hG0 _ (sgn_F )).mono (by rintro g' H' v _ ⟨r0, ar0_0, cr0_0, rfl, hRr0_0, rfl, hK⟩; subst hK; exact ⟨ar0_0, cr0_0, rfl, hRr0_0, rfl⟩)
def samj3 (xs : Int × List (Int)) (xt : Int × List (Int)) (K : Bool → Prop) : Prop :=
 K ((xs.1 == xt.1) && (ceqS xs.2 xt.2))
def samF (xs : Int × List (Int)) (xt : Int × List (Int)) (K : Bool → Prop) : Prop :=
 (((xs.1 == xt.1)) = true → ceqP xs.2 xt.2 ∧ samj3 xs xt K) ∧ (((xs.1 == xt.1)) = false → samj3 xs xt K)
set_option maxHeartbeats 4000000 in
set_option maxRecDepth 100000 in
set_option linter.unusedVariables false in
theorem sam_ok {g : Ghost} {axs_0 : Option Addr} {cxs_0 : Nat} (xs : Int × List (Int)) {axt_0 : Option Addr} {cxt_0 : Nat} (xt : Int × List (Int)) (hRxs_0 : Rep g (.slice (.int .i64)) [.slice axs_0 xs.2.length cxs_0] xs.2) (hRxt_0 : Rep g (.slice (.int .i64)) [.slice axt_0 xt.2.length cxt_0] xt.2) (K : Bool → Prop)
  (hF : samF xs xt K) : CallsH Tryd.prog 15 #[.agg #[.int .i64 xs.1, .slice axs_0 xs.2.length cxs_0], .agg #[.int .i64 xt.1, .slice axt_0 xt.2.length cxt_0]] g [] (fun g' H' v => ∃ (r0 : Bool), v = .bool r0 ∧ H' = [] ∧ K r0) := by
 refine CallsH.enter 17 [(0, .agg #[.int .i64 xs.1, .slice axs_0 xs.2.length cxs_0]), (1, .agg #[.int .i64 xt.1, .slice axt_0 xt.2.length cxt_0])] Tryd.func15 rfl (by kernel_rfl) (by kernel_rfl) (by kernel_rfl) fun w0 => ?_
 refine Ok.seq ?_
 refine Ok.region ?_
 refine Ok.op rfl (OpOk.box (v := .agg #[.int .i64 xs.1, .slice axs_0 xs.2.length cxs_0]) (cs := #[.int .i64 xs.1, .slice axs_0 xs.2.length cxs_0]) rfl (by kernel_rfl) rfl fun bs2 => ?_)
 refine Ok.op rfl (OpOk.box (v := .agg #[.int .i64 xt.1, .slice axt_0 xt.2.length cxt_0]) (cs := #[.int .i64 xt.1, .slice axt_0 xt.2.length cxt_0]) rfl (by kernel_rfl) rfl fun bs3 => ?_)
 refine Ok.batch 1 [(2, .pointer (some ⟨bs2, 0, none⟩)), (3, .pointer (some ⟨bs3, 0, none⟩))] (by kernel_rfl) ?_
 refine Ok.nil ?_
 refine Ok.thenN ?_
 refine Ok.cut (fun a W => StA 17 [(4, .bool ((xs.1 == xt.1) && (ceqS xs.2 xt.2)))] a ∧ StW w0 [] g W ∧ samj3 xs xt K) ?_ ?_
 ·
  refine Ok.region ?_
  refine Ok.batch 1 [(2, .pointer (some ⟨bs2, 0, none⟩)), (3, .pointer (some ⟨bs3, 0, none⟩)), (5, .pointer (some ⟨bs2, 0, none⟩))] (by kernel_rfl) ?_
  refine Ok.op rfl (OpOk.step (v := .int .i64 xs.1) (Yields.load 1 rfl rfl Tryd.underlying3 rfl (by kernel_rfl)) rfl rfl ?_)
  refine Ok.batch 1 [(2, .pointer (some ⟨bs2, 0, none⟩)), (3, .pointer (some ⟨bs3, 0, none⟩)), (6, .int .i64 xs.1), (7, .pointer (some ⟨bs3, 0, none⟩))] (by kernel_rfl) ?_
  refine Ok.op rfl (OpOk.step (v := .int .i64 xt.1) (Yields.load 0 rfl rfl Tryd.underlying3 rfl (by kernel_rfl)) rfl rfl ?_)
  refine Ok.batch 2 [(2, .pointer (some ⟨bs2, 0, none⟩)), (3, .pointer (some ⟨bs3, 0, none⟩)), (10, .bool (xs.1 == xt.1))] (by kernel_rfl) ?_
  refine Ok.boolAt 10 ((xs.1 == xt.1)) rfl (fun hc3 => ?_) (fun hc3 => ?_)
  ·replace hF := hF.1 hc3
   refine Ok.batch 1 [(3, .pointer (some ⟨bs3, 0, none⟩)), (10, .bool true), (11, .pointer (some ⟨bs2, 1, none⟩))] (by kernel_rfl) ?_
   refine Ok.opYes (j := 5) (d := 10) (want := true) (b := true) rfl (by kernel_rfl) (by kernel_rfl) rfl (OpOk.step (v := .slice axs_0 xs.2.length cxs_0) (Yields.load 1 rfl rfl Tryd.underlying30 rfl (by kernel_rfl)) rfl rfl ?_)
   refine Ok.batch 1 [(10, .bool true), (12, .slice axs_0 xs.2.length cxs_0), (13, .pointer (some ⟨bs3, 1, none⟩))] (by kernel_rfl) ?_
   refine Ok.opYes (j := 5) (d := 10) (want := true) (b := true) rfl (by kernel_rfl) (by kernel_rfl) rfl (OpOk.step (v := .slice axt_0 xt.2.length cxt_0) (Yields.load 0 rfl rfl Tryd.underlying30 rfl (by kernel_rfl)) rfl rfl ?_)
   obtain ⟨hp4, hF⟩ := hF
   refine Ok.opYes (j := 5) (d := 10) (want := true) (b := true) rfl (by kernel_rfl) (by kernel_rfl) rfl (OpOk.callG (v := .bool (ceqS xs.2 xt.2)) (enters (by kernel_rfl) (fun _ => by kernel_rfl)) (fun W hW => ceq_c xs.2 xt.2 (hRxs_0.mono hW.sees) (hRxt_0.mono hW.sees) hp4) rfl ?_)
   refine Ok.batch 2 [(4, .bool (ceqS xs.2 xt.2))] (by kernel_rfl) ?_
   refine Ok.nil ?_
   refine Ok.thenN ?_
   refine Ok.reval 4 rfl (show (.bool (ceqS xs.2 xt.2) : Value) = .bool ((xs.1 == xt.1) && (ceqS xs.2 xt.2)) from congrArg (Value.bool) (mand_t hc3)) ?_
   exact fun a W hA hW => ⟨hA.sub (by kernel_rfl), hW.sub (.cons _ (.cons _ .slnil)), hF⟩
  ·replace hF := hF.2 hc3
   refine Ok.batch 7 [(4, .bool false)] (by kernel_rfl) ?_
   refine Ok.nil ?_
   refine Ok.thenN ?_
   refine Ok.reval 4 rfl (show (.bool false : Value) = .bool ((xs.1 == xt.1) && (ceqS xs.2 xt.2)) from congrArg (Value.bool) (mand_f hc3)) ?_
   exact fun a W hA hW => ⟨hA.sub (by kernel_rfl), hW.sub (.cons _ (.cons _ .slnil)), hF⟩
 ·
  clear hF
  rintro a W ⟨hA, hW, hF⟩
  refine (?_ : Ok _ _ _ _ _ _) a W hA hW
  clear hA hW
  refine Ok.ret ?_
  exact Ok.resH (vs := [.bool ((xs.1 == xt.1) && (ceqS xs.2 xt.2))]) (.inl rfl) rfl (.cons (.tmp rfl) .nil) (Gext.refl w0 g) ⟨((xs.1 == xt.1) && (ceqS xs.2 xt.2)), rfl, rfl, hF⟩
def samS (s t : Int × List Int) : Bool := (s.1 == t.1) && ceqS s.2 t.2
def samP (s t : Int × List Int) : Prop := ceqP s.2 t.2
theorem sam_F (s t : Int × List Int) (hp : samP s t) : samF s t (fun r => r = samS s t) := ⟨fun _ => ⟨hp, rfl⟩, fun _ => rfl⟩
set_option linter.unusedVariables false in
theorem sam_c {g : Ghost} {axs_0 : Option Addr} {cxs_0 : Nat} (xs : Int × List (Int)) {axt_0 : Option Addr} {cxt_0 : Nat} (xt : Int × List (Int)) (hRxs_0 : Rep g (.slice (.int .i64)) [.slice axs_0 xs.2.length cxs_0] xs.2) (hRxt_0 : Rep g (.slice (.int .i64)) [.slice axt_0 xt.2.length cxt_0] xt.2)  (hp : samP xs xt) : CallsG Tryd.prog 15 #[.agg #[.int .i64 xs.1, .slice axs_0 xs.2.length cxs_0], .agg #[.int .i64 xt.1, .slice axt_0 xt.2.length cxt_0]] g (.bool (samS xs xt)) :=
 (sam_ok xs xt hRxs_0 hRxt_0 _ (sam_F xs xt hp)).gives (by rintro g' H' v _ ⟨r0, rfl, rfl, hK⟩; subst hK; rfl)
def bndV0 (xi : Int × Int) : Bool :=
 ((xi.1 == 2) || ((xi.1 == 3) || ((xi.1 == 4) || (xi.1 == 5))))
def bndV1 (xi : Int × Int) : Bool :=
 ((xi.1 == 9) || ((xi.1 == 10) || ((xi.1 == 20) || (xi.1 == 24))))
def bndj61 (xc : ((List (Int × Int × List (Int) × List (Int × Int))) × (List (Int × Int × List UInt8)) × List (List (List UInt8))) × (Int × Int × List (Int) × List (Int × Int)) × Int × (List ((Int) × (Int × List (Int)))) × List (Int) × Bool) (xi : Int × Int) (K : Int → Prop) : Prop :=
 ((((xi.1 == 12) || (xi.1 == 17))) = true → K 401) ∧ ((((xi.1 == 12) || (xi.1 == 17))) = false → (((xi.1 == 13)) = true → K (xc.1.2.2.length : Int)) ∧ (((xi.1 == 13)) = false → (((xi.1 == 16)) = true → K (xc.1.1.length : Int)) ∧ (((xi.1 == 16)) = false → K 1)))
def bndj43 (xc : ((List (Int × Int × List (Int) × List (Int × Int))) × (List (Int × Int × List UInt8)) × List (List (List UInt8))) × (Int × Int × List (Int) × List (Int × Int)) × Int × (List ((Int) × (Int × List (Int)))) × List (Int) × Bool) (xi : Int × Int) (K : Int → Prop) : Prop :=
 (((bndV1 xi)) = true → K (xc.2.1.2.2.2.length : Int)) ∧ (((bndV1 xi)) = false → (((xi.1 == 12)) = true → bndj61 xc xi K) ∧ (((xi.1 == 12)) = false → bndj61 xc xi K))
def bndj13 (xc : ((List (Int × Int × List (Int) × List (Int × Int))) × (List (Int × Int × List UInt8)) × List (List (List UInt8))) × (Int × Int × List (Int) × List (Int × Int)) × Int × (List ((Int) × (Int × List (Int)))) × List (Int) × Bool) (xi : Int × Int) (K : Int → Prop) : Prop :=
 (((bndV0 xi)) = true → K xc.2.1.2.1) ∧ (((bndV0 xi)) = false → (((xi.1 == 7)) = true → K 2) ∧ (((xi.1 == 7)) = false → (((xi.1 == 8)) = true → K (sgnS.length : Int)) ∧ (((xi.1 == 8)) = false → (((xi.1 == 9)) = true → bndj43 xc xi K) ∧ (((xi.1 == 9)) = false → (((xi.1 == 10)) = true → bndj43 xc xi K) ∧ (((xi.1 == 10)) = false → (((xi.1 == 20)) = true → bndj43 xc xi K) ∧ (((xi.1 == 20)) = false → bndj43 xc xi K))))))
def bndF (xc : ((List (Int × Int × List (Int) × List (Int × Int))) × (List (Int × Int × List UInt8)) × List (List (List UInt8))) × (Int × Int × List (Int) × List (Int × Int)) × Int × (List ((Int) × (Int × List (Int)))) × List (Int) × Bool) (xi : Int × Int) (K : Int → Prop) : Prop :=
 (((xi.1 == 1)) = true → K (xc.1.2.1.length : Int)) ∧ (((xi.1 == 1)) = false → (((xi.1 == 2)) = true → bndj13 xc xi K) ∧ (((xi.1 == 2)) = false → (((xi.1 == 3)) = true → bndj13 xc xi K) ∧ (((xi.1 == 3)) = false → (((xi.1 == 4)) = true → bndj13 xc xi K) ∧ (((xi.1 == 4)) = false → bndj13 xc xi K))))
set_option maxHeartbeats 4000000 in
set_option maxRecDepth 100000 in
set_option linter.unusedVariables false in
theorem bnd_ok {g : Ghost} {bxc : Nat} {axc_0 : Option Addr} {cxc_0 : Nat} {axc_1 : Option Addr} {cxc_1 : Nat} {axc_2 : Option Addr} {cxc_2 : Nat} {axc_3 : Option Addr} {cxc_3 : Nat} {axc_4 : Option Addr} {cxc_4 : Nat} {mvxc : Value} {mvxc_9 : Value} (xc : ((List (Int × Int × List (Int) × List (Int × Int))) × (List (Int × Int × List UInt8)) × List (List (List UInt8))) × (Int × Int × List (Int) × List (Int × Int)) × Int × (List ((Int) × (Int × List (Int)))) × List (Int) × Bool) (xi : Int × Int) (hRxc_0 : Rep g (.slice (.pair (.int .i64) (.pair (.int .i64) (.pair (.slice (.int .i64)) (.slice (.pair (.int .i64) (.int .i64))))))) [.slice axc_0 xc.1.1.length cxc_0] xc.1.1) (hRxc_1 : Rep g (.slice (.pair (.int .i64) (.pair (.int .i64) (.str)))) [.slice axc_1 xc.1.2.1.length cxc_1] xc.1.2.1) (hRxc_2 : Rep g (.slice (.slice (.str))) [.slice axc_2 xc.1.2.2.length cxc_2] xc.1.2.2) (hRxc_3 : Rep g (.slice (.int .i64)) [.slice axc_3 xc.2.1.2.2.1.length cxc_3] xc.2.1.2.2.1) (hRxc_4 : Rep g (.slice (.pair (.int .i64) (.int .i64))) [.slice axc_4 xc.2.1.2.2.2.length cxc_4] xc.2.1.2.2.2) (hG0 : GlobL g 0 (.int .u8) DSpace) (K : Int → Prop)
  (hF : bndF xc xi K) : CallsH Tryd.prog 14 #[.pointer (some ⟨bxc, 0, none⟩), .agg #[.int .i64 xi.1, .int .i64 xi.2]] g [.blk bxc (.cells #[.slice axc_0 xc.1.1.length cxc_0, .slice axc_1 xc.1.2.1.length cxc_1, .slice axc_2 xc.1.2.2.length cxc_2, .int .i64 xc.2.1.1, .int .i64 xc.2.1.2.1, .slice axc_3 xc.2.1.2.2.1.length cxc_3, .slice axc_4 xc.2.1.2.2.2.length cxc_4, .int .i64 xc.2.2.1, mvxc, mvxc_9, .bool xc.2.2.2.2.2] 37)] (fun g' H' v => ∃ (r0 : Int), v = .int .i64 r0 ∧ H' = [.blk bxc (.cells #[.slice axc_0 xc.1.1.length cxc_0, .slice axc_1 xc.1.2.1.length cxc_1, .slice axc_2 xc.1.2.2.length cxc_2, .int .i64 xc.2.1.1, .int .i64 xc.2.1.2.1, .slice axc_3 xc.2.1.2.2.1.length cxc_3, .slice axc_4 xc.2.1.2.2.2.length cxc_4, .int .i64 xc.2.2.1, mvxc, mvxc_9, .bool xc.2.2.2.2.2] 37)] ∧ K r0) := by
 refine CallsH.enter 61 [(0, .pointer (some ⟨bxc, 0, none⟩)), (1, .agg #[.int .i64 xi.1, .int .i64 xi.2])] Tryd.func14 rfl (by kernel_rfl) (by kernel_rfl) (by kernel_rfl) fun w0 => ?_
 refine Ok.seq ?_
 refine Ok.region ?_
 refine Ok.op rfl (OpOk.box (v := .agg #[.int .i64 xi.1, .int .i64 xi.2]) (cs := #[.int .i64 xi.1, .int .i64 xi.2]) rfl (by kernel_rfl) rfl fun bs3 => ?_)
 refine Ok.batch 1 [(0, .pointer (some ⟨bxc, 0, none⟩)), (3, .pointer (some ⟨bs3, 0, none⟩))] (by kernel_rfl) ?_
 refine Ok.nil ?_
 refine Ok.thenN ?_
 refine Ok.seq ?_
 refine Ok.seq ?_
 refine Ok.region ?_
 refine Ok.batch 1 [(0, .pointer (some ⟨bxc, 0, none⟩)), (5, .pointer (some ⟨bs3, 0, none⟩))] (by kernel_rfl) ?_
 refine Ok.op rfl (OpOk.step (v := .int .i64 xi.1) (Yields.load 0 rfl rfl Tryd.underlying3 rfl (by kernel_rfl)) rfl rfl ?_)
 refine Ok.nil ?_
 refine Ok.thenN ?_
 refine Ok.block ?_
 refine Ok.seq ?_
 refine Ok.region ?_
 refine Ok.batch 2 [(0, .pointer (some ⟨bxc, 0, none⟩)), (6, .int .i64 xi.1), (7, .bool (xi.1 == 1))] (by kernel_rfl) ?_
 refine Ok.nil ?_
 refine Ok.thenN ?_
 refine Ok.cond (b := (xi.1 == 1)) rfl (fun hc2 => ?_) (fun hc2 => ?_)
 ·replace hF := hF.1 hc2
  refine Ok.seq ?_
  refine Ok.region ?_
  refine Ok.batch 4 [(12, .pointer (some ⟨bxc, 1, none⟩))] (by kernel_rfl) ?_
  refine Ok.op rfl (OpOk.step (v := .slice axc_1 xc.1.2.1.length cxc_1) (Yields.load 1 rfl rfl Tryd.underlying23 rfl (by kernel_rfl)) rfl rfl ?_)
  refine Ok.batch 2 [(4, .int .i64 (xc.1.2.1.length : Int))] (by kernel_rfl) ?_
  refine Ok.nil ?_
  refine Ok.thenN ?_
  refine Ok.ret ?_
  refine Ok.blockR ?_
  refine Ok.thenR ?_
  exact Ok.resP (vs := [.int .i64 (xc.1.2.1.length : Int)]) [1] [.blk bxc (.cells #[.slice axc_0 xc.1.1.length cxc_0, .slice axc_1 xc.1.2.1.length cxc_1, .slice axc_2 xc.1.2.2.length cxc_2, .int .i64 xc.2.1.1, .int .i64 xc.2.1.2.1, .slice axc_3 xc.2.1.2.2.1.length cxc_3, .slice axc_4 xc.2.1.2.2.2.length cxc_4, .int .i64 xc.2.2.1, mvxc, mvxc_9, .bool xc.2.2.2.2.2] 37)] (by decide) rfl (.inl rfl) rfl (.cons (.tmp rfl) .nil) (Gext.refl w0 g) ⟨(xc.1.2.1.length : Int), rfl, rfl, hF⟩
 ·replace hF := hF.2 hc2
  refine Ok.cut (fun a W => ∃ gj13 : Ghost, Gext w0 g gj13 ∧ StA 61 [(0, .pointer (some ⟨bxc, 0, none⟩)), (6, .int .i64 xi.1), (15, .bool (bndV0 xi))] a ∧ StW w0 [.blk bxc (.cells #[.slice axc_0 xc.1.1.length cxc_0, .slice axc_1 xc.1.2.1.length cxc_1, .slice axc_2 xc.1.2.2.length cxc_2, .int .i64 xc.2.1.1, .int .i64 xc.2.1.2.1, .slice axc_3 xc.2.1.2.2.1.length cxc_3, .slice axc_4 xc.2.1.2.2.2.length cxc_4, .int .i64 xc.2.2.1, mvxc, mvxc_9, .bool xc.2.2.2.2.2] 37)] gj13 W ∧ bndj13 xc xi K) ?_ ?_
  ·
   refine Ok.seq ?_
   refine Ok.region ?_
   refine Ok.batch 2 [(0, .pointer (some ⟨bxc, 0, none⟩)), (6, .int .i64 xi.1), (15, .bool (xi.1 == 2))] (by kernel_rfl) ?_
   refine Ok.nil ?_
   refine Ok.thenN ?_
   refine Ok.cond (b := (xi.1 == 2)) rfl (fun hc15 => ?_) (fun hc15 => ?_)
   ·replace hF := hF.1 hc15
    refine Ok.skip ?_
    refine Ok.thenN ?_
    refine Ok.reval 15 rfl (show (.bool (xi.1 == 2) : Value) = .bool (bndV0 xi) from congrArg (Value.bool) ((Eq.trans (hc15) (mor_t hc15)))) ?_
    exact fun a W hA hW => ⟨g, (Gext.refl w0 g), hA.sub (by kernel_rfl), hW.sub (.cons _ (.cons_cons _ .slnil)), hF⟩
   ·replace hF := hF.2 hc15
    refine Ok.seq ?_
    refine Ok.region ?_
    refine Ok.batch 2 [(0, .pointer (some ⟨bxc, 0, none⟩)), (6, .int .i64 xi.1), (15, .bool (xi.1 == 3))] (by kernel_rfl) ?_
    refine Ok.nil ?_
    refine Ok.thenN ?_
    refine Ok.cond (b := (xi.1 == 3)) rfl (fun hc16 => ?_) (fun hc16 => ?_)
    ·replace hF := hF.1 hc16
     refine Ok.skip ?_
     refine Ok.thenN ?_
     refine Ok.reval 15 rfl (show (.bool (xi.1 == 3) : Value) = .bool (bndV0 xi) from congrArg (Value.bool) ((Eq.trans ((Eq.trans (hc16) (mor_t hc16))) (mor_f hc15)))) ?_
     exact fun a W hA hW => ⟨g, (Gext.refl w0 g), hA.sub (by kernel_rfl), hW.sub (.cons _ (.cons_cons _ .slnil)), hF⟩
    ·replace hF := hF.2 hc16
     refine Ok.seq ?_
     refine Ok.region ?_
     refine Ok.batch 2 [(0, .pointer (some ⟨bxc, 0, none⟩)), (6, .int .i64 xi.1), (15, .bool (xi.1 == 4))] (by kernel_rfl) ?_
     refine Ok.nil ?_
     refine Ok.thenN ?_
     refine Ok.cond (b := (xi.1 == 4)) rfl (fun hc17 => ?_) (fun hc17 => ?_)
     ·replace hF := hF.1 hc17
      refine Ok.skip ?_
      refine Ok.thenN ?_
      refine Ok.reval 15 rfl (show (.bool (xi.1 == 4) : Value) = .bool (bndV0 xi) from congrArg (Value.bool) ((Eq.trans ((Eq.trans ((Eq.trans (hc17) (mor_t hc17))) (mor_f hc16))) (mor_f hc15)))) ?_
      exact fun a W hA hW => ⟨g, (Gext.refl w0 g), hA.sub (by kernel_rfl), hW.sub (.cons _ (.cons_cons _ .slnil)), hF⟩
     ·replace hF := hF.2 hc17
      refine Ok.region ?_
      refine Ok.batch 2 [(0, .pointer (some ⟨bxc, 0, none⟩)), (6, .int .i64 xi.1), (15, .bool (xi.1 == 5))] (by kernel_rfl) ?_
      refine Ok.nil ?_
      refine Ok.thenN ?_
      refine Ok.reval 15 rfl (show (.bool (xi.1 == 5) : Value) = .bool (bndV0 xi) from congrArg (Value.bool) ((Eq.trans ((Eq.trans (mor_f hc17) (mor_f hc16))) (mor_f hc15)))) ?_
      exact fun a W hA hW => ⟨g, (Gext.refl w0 g), hA.sub (by kernel_rfl), hW.sub (.cons _ (.cons_cons _ .slnil)), hF⟩
  ·
   clear hF
   rintro a W ⟨gj13, hxj13, hA, hW, hF⟩
   refine (?_ : Ok _ _ _ _ _ _) a W hA hW
   clear hA hW
   replace hRxc_0 := hRxc_0.mono hxj13.1
   replace hRxc_1 := hRxc_1.mono hxj13.1
   replace hRxc_2 := hRxc_2.mono hxj13.1
   replace hRxc_3 := hRxc_3.mono hxj13.1
   replace hRxc_4 := hRxc_4.mono hxj13.1
   replace hG0 := hG0.mono hxj13.1
   refine Ok.cond (b := (bndV0 xi)) rfl (fun hc3 => ?_) (fun hc3 => ?_)
   ·replace hF := hF.1 hc3
    refine Ok.seq ?_
    refine Ok.region ?_
    refine Ok.batch 4 [(23, .pointer (some ⟨bxc, 4, none⟩))] (by kernel_rfl) ?_
    refine Ok.op rfl (OpOk.step (v := .int .i64 xc.2.1.2.1) (Yields.load 0 rfl rfl Tryd.underlying3 rfl (by kernel_rfl)) rfl rfl ?_)
    refine Ok.batch 1 [(4, .int .i64 xc.2.1.2.1)] (by kernel_rfl) ?_
    refine Ok.nil ?_
    refine Ok.thenN ?_
    refine Ok.ret ?_
    refine Ok.blockR ?_
    refine Ok.thenR ?_
    exact Ok.resH (vs := [.int .i64 xc.2.1.2.1]) (.inl rfl) rfl (.cons (.tmp rfl) .nil) hxj13 ⟨xc.2.1.2.1, rfl, rfl, hF⟩
   ·replace hF := hF.2 hc3
    refine Ok.seq ?_
    refine Ok.region ?_
    refine Ok.batch 2 [(0, .pointer (some ⟨bxc, 0, none⟩)), (6, .int .i64 xi.1), (25, .bool (xi.1 == 7))] (by kernel_rfl) ?_
    refine Ok.nil ?_
    refine Ok.thenN ?_
    refine Ok.cond (b := (xi.1 == 7)) rfl (fun hc4 => ?_) (fun hc4 => ?_)
    ·replace hF := hF.1 hc4
     refine Ok.seq ?_
     refine Ok.region ?_
     refine Ok.batch 1 [(4, .int .i64 2)] (by kernel_rfl) ?_
     refine Ok.nil ?_
     refine Ok.thenN ?_
     refine Ok.ret ?_
     refine Ok.blockR ?_
     refine Ok.thenR ?_
     exact Ok.resH (vs := [.int .i64 2]) (.inl rfl) rfl (.cons (.tmp rfl) .nil) hxj13 ⟨2, rfl, rfl, hF⟩
    ·replace hF := hF.2 hc4
     refine Ok.seq ?_
     refine Ok.region ?_
     refine Ok.batch 2 [(0, .pointer (some ⟨bxc, 0, none⟩)), (6, .int .i64 xi.1), (27, .bool (xi.1 == 8))] (by kernel_rfl) ?_
     refine Ok.nil ?_
     refine Ok.thenN ?_
     refine Ok.cond (b := (xi.1 == 8)) rfl (fun hc5 => ?_) (fun hc5 => ?_)
     ·replace hF := hF.1 hc5
      refine Ok.seq ?_
      refine Ok.region ?_
      refine Ok.op rfl (OpOk.callH [] [.blk bxc (.cells #[.slice axc_0 xc.1.1.length cxc_0, .slice axc_1 xc.1.2.1.length cxc_1, .slice axc_2 xc.1.2.2.length cxc_2, .int .i64 xc.2.1.1, .int .i64 xc.2.1.2.1, .slice axc_3 xc.2.1.2.2.1.length cxc_3, .slice axc_4 xc.2.1.2.2.2.length cxc_4, .int .i64 xc.2.2.1, mvxc, mvxc_9, .bool xc.2.2.2.2.2] 37)] (enters (by kernel_rfl) (fun _ => by kernel_rfl)) rfl (sgn_c  hG0) rfl fun g6 _ _ hx6 hV6 => ?_)
      obtain ⟨a6_0, c6_0, rfl, hR6_0, rfl⟩ := hV6
      replace hRxc_0 := hRxc_0.mono hx6.1
      replace hRxc_1 := hRxc_1.mono hx6.1
      replace hRxc_2 := hRxc_2.mono hx6.1
      replace hRxc_3 := hRxc_3.mono hx6.1
      replace hRxc_4 := hRxc_4.mono hx6.1
      replace hG0 := hG0.mono hx6.1
      refine Ok.batch 2 [(4, .int .i64 (sgnS.length : Int))] (by kernel_rfl) ?_
      refine Ok.nil ?_
      refine Ok.thenN ?_
      refine Ok.ret ?_
      refine Ok.blockR ?_
      refine Ok.thenR ?_
      exact Ok.resH (vs := [.int .i64 (sgnS.length : Int)]) (.inl rfl) rfl (.cons (.tmp rfl) .nil) (hxj13.trans hx6) ⟨(sgnS.length : Int), rfl, rfl, hF⟩
     ·replace hF := hF.2 hc5
      refine Ok.cut (fun a W => ∃ gj43 : Ghost, Gext w0 gj13 gj43 ∧ StA 61 [(0, .pointer (some ⟨bxc, 0, none⟩)), (6, .int .i64 xi.1), (31, .bool (bndV1 xi))] a ∧ StW w0 [.blk bxc (.cells #[.slice axc_0 xc.1.1.length cxc_0, .slice axc_1 xc.1.2.1.length cxc_1, .slice axc_2 xc.1.2.2.length cxc_2, .int .i64 xc.2.1.1, .int .i64 xc.2.1.2.1, .slice axc_3 xc.2.1.2.2.1.length cxc_3, .slice axc_4 xc.2.1.2.2.2.length cxc_4, .int .i64 xc.2.2.1, mvxc, mvxc_9, .bool xc.2.2.2.2.2] 37)] gj43 W ∧ bndj43 xc xi K) ?_ ?_
      ·
       refine Ok.seq ?_
       refine Ok.region ?_
       refine Ok.batch 2 [(0, .pointer (some ⟨bxc, 0, none⟩)), (6, .int .i64 xi.1), (31, .bool (xi.1 == 9))] (by kernel_rfl) ?_
       refine Ok.nil ?_
       refine Ok.thenN ?_
       refine Ok.cond (b := (xi.1 == 9)) rfl (fun hc12 => ?_) (fun hc12 => ?_)
       ·replace hF := hF.1 hc12
        refine Ok.skip ?_
        refine Ok.thenN ?_
        refine Ok.reval 31 rfl (show (.bool (xi.1 == 9) : Value) = .bool (bndV1 xi) from congrArg (Value.bool) ((Eq.trans (hc12) (mor_t hc12)))) ?_
        exact fun a W hA hW => ⟨gj13, (Gext.refl w0 gj13), hA.sub (by kernel_rfl), hW, hF⟩
       ·replace hF := hF.2 hc12
        refine Ok.seq ?_
        refine Ok.region ?_
        refine Ok.batch 2 [(0, .pointer (some ⟨bxc, 0, none⟩)), (6, .int .i64 xi.1), (31, .bool (xi.1 == 10))] (by kernel_rfl) ?_
        refine Ok.nil ?_
        refine Ok.thenN ?_
        refine Ok.cond (b := (xi.1 == 10)) rfl (fun hc13 => ?_) (fun hc13 => ?_)
        ·replace hF := hF.1 hc13
         refine Ok.skip ?_
         refine Ok.thenN ?_
         refine Ok.reval 31 rfl (show (.bool (xi.1 == 10) : Value) = .bool (bndV1 xi) from congrArg (Value.bool) ((Eq.trans ((Eq.trans (hc13) (mor_t hc13))) (mor_f hc12)))) ?_
         exact fun a W hA hW => ⟨gj13, (Gext.refl w0 gj13), hA.sub (by kernel_rfl), hW, hF⟩
        ·replace hF := hF.2 hc13
         refine Ok.seq ?_
         refine Ok.region ?_
         refine Ok.batch 2 [(0, .pointer (some ⟨bxc, 0, none⟩)), (6, .int .i64 xi.1), (31, .bool (xi.1 == 20))] (by kernel_rfl) ?_
         refine Ok.nil ?_
         refine Ok.thenN ?_
         refine Ok.cond (b := (xi.1 == 20)) rfl (fun hc14 => ?_) (fun hc14 => ?_)
         ·replace hF := hF.1 hc14
          refine Ok.skip ?_
          refine Ok.thenN ?_
          refine Ok.reval 31 rfl (show (.bool (xi.1 == 20) : Value) = .bool (bndV1 xi) from congrArg (Value.bool) ((Eq.trans ((Eq.trans ((Eq.trans (hc14) (mor_t hc14))) (mor_f hc13))) (mor_f hc12)))) ?_
          exact fun a W hA hW => ⟨gj13, (Gext.refl w0 gj13), hA.sub (by kernel_rfl), hW, hF⟩
         ·replace hF := hF.2 hc14
          refine Ok.region ?_
          refine Ok.batch 2 [(0, .pointer (some ⟨bxc, 0, none⟩)), (6, .int .i64 xi.1), (31, .bool (xi.1 == 24))] (by kernel_rfl) ?_
          refine Ok.nil ?_
          refine Ok.thenN ?_
          refine Ok.reval 31 rfl (show (.bool (xi.1 == 24) : Value) = .bool (bndV1 xi) from congrArg (Value.bool) ((Eq.trans ((Eq.trans (mor_f hc14) (mor_f hc13))) (mor_f hc12)))) ?_
          exact fun a W hA hW => ⟨gj13, (Gext.refl w0 gj13), hA.sub (by kernel_rfl), hW, hF⟩
      ·
       clear hF
       rintro a W ⟨gj43, hxj43, hA, hW, hF⟩
       refine (?_ : Ok _ _ _ _ _ _) a W hA hW
       clear hA hW
       replace hRxc_0 := hRxc_0.mono hxj43.1
       replace hRxc_1 := hRxc_1.mono hxj43.1
       replace hRxc_2 := hRxc_2.mono hxj43.1
       replace hRxc_3 := hRxc_3.mono hxj43.1
       replace hRxc_4 := hRxc_4.mono hxj43.1
       replace hG0 := hG0.mono hxj43.1
       refine Ok.cond (b := (bndV1 xi)) rfl (fun hc7 => ?_) (fun hc7 => ?_)
       ·replace hF := hF.1 hc7
        refine Ok.seq ?_
        refine Ok.region ?_
        refine Ok.batch 4 [(39, .pointer (some ⟨bxc, 6, none⟩))] (by kernel_rfl) ?_
        refine Ok.op rfl (OpOk.step (v := .slice axc_4 xc.2.1.2.2.2.length cxc_4) (Yields.load 0 rfl rfl Tryd.underlying31 rfl (by kernel_rfl)) rfl rfl ?_)
        refine Ok.batch 2 [(4, .int .i64 (xc.2.1.2.2.2.length : Int))] (by kernel_rfl) ?_
        refine Ok.nil ?_
        refine Ok.thenN ?_
        refine Ok.ret ?_
        refine Ok.blockR ?_
        refine Ok.thenR ?_
        exact Ok.resH (vs := [.int .i64 (xc.2.1.2.2.2.length : Int)]) (.inl rfl) rfl (.cons (.tmp rfl) .nil) (hxj13.trans hxj43) ⟨(xc.2.1.2.2.2.length : Int), rfl, rfl, hF⟩
       ·replace hF := hF.2 hc7
        refine Ok.cut (fun a W => ∃ gj61 : Ghost, Gext w0 gj43 gj61 ∧ StA 61 [(0, .pointer (some ⟨bxc, 0, none⟩)), (6, .int .i64 xi.1), (42, .bool ((xi.1 == 12) || (xi.1 == 17)))] a ∧ StW w0 [.blk bxc (.cells #[.slice axc_0 xc.1.1.length cxc_0, .slice axc_1 xc.1.2.1.length cxc_1, .slice axc_2 xc.1.2.2.length cxc_2, .int .i64 xc.2.1.1, .int .i64 xc.2.1.2.1, .slice axc_3 xc.2.1.2.2.1.length cxc_3, .slice axc_4 xc.2.1.2.2.2.length cxc_4, .int .i64 xc.2.2.1, mvxc, mvxc_9, .bool xc.2.2.2.2.2] 37)] gj61 W ∧ bndj61 xc xi K) ?_ ?_
        ·
         refine Ok.seq ?_
         refine Ok.region ?_
         refine Ok.batch 2 [(0, .pointer (some ⟨bxc, 0, none⟩)), (6, .int .i64 xi.1), (42, .bool (xi.1 == 12))] (by kernel_rfl) ?_
         refine Ok.nil ?_
         refine Ok.thenN ?_
         refine Ok.cond (b := (xi.1 == 12)) rfl (fun hc11 => ?_) (fun hc11 => ?_)
         ·replace hF := hF.1 hc11
          refine Ok.skip ?_
          refine Ok.thenN ?_
          refine Ok.reval 42 rfl (show (.bool (xi.1 == 12) : Value) = .bool ((xi.1 == 12) || (xi.1 == 17)) from congrArg (Value.bool) ((Eq.trans (hc11) (mor_t hc11)))) ?_
          exact fun a W hA hW => ⟨gj43, (Gext.refl w0 gj43), hA.sub (by kernel_rfl), hW, hF⟩
         ·replace hF := hF.2 hc11
          refine Ok.region ?_
          refine Ok.batch 2 [(0, .pointer (some ⟨bxc, 0, none⟩)), (6, .int .i64 xi.1), (42, .bool (xi.1 == 17))] (by kernel_rfl) ?_
          refine Ok.nil ?_
          refine Ok.thenN ?_
          refine Ok.reval 42 rfl (show (.bool (xi.1 == 17) : Value) = .bool ((xi.1 == 12) || (xi.1 == 17)) from congrArg (Value.bool) (mor_f hc11)) ?_
          exact fun a W hA hW => ⟨gj43, (Gext.refl w0 gj43), hA.sub (by kernel_rfl), hW, hF⟩
        ·
         clear hF
         rintro a W ⟨gj61, hxj61, hA, hW, hF⟩
         refine (?_ : Ok _ _ _ _ _ _) a W hA hW
         clear hA hW
         replace hRxc_0 := hRxc_0.mono hxj61.1
         replace hRxc_1 := hRxc_1.mono hxj61.1
         replace hRxc_2 := hRxc_2.mono hxj61.1
         replace hRxc_3 := hRxc_3.mono hxj61.1
         replace hRxc_4 := hRxc_4.mono hxj61.1
         replace hG0 := hG0.mono hxj61.1
         refine Ok.cond (b := ((xi.1 == 12) || (xi.1 == 17))) rfl (fun hc8 => ?_) (fun hc8 => ?_)
         ·replace hF := hF.1 hc8
          refine Ok.seq ?_
          refine Ok.region ?_
          refine Ok.batch 1 [(4, .int .i64 401)] (by kernel_rfl) ?_
          refine Ok.nil ?_
          refine Ok.thenN ?_
          refine Ok.ret ?_
          refine Ok.blockR ?_
          refine Ok.thenR ?_
          exact Ok.resH (vs := [.int .i64 401]) (.inl rfl) rfl (.cons (.tmp rfl) .nil) ((hxj13.trans hxj43).trans hxj61) ⟨401, rfl, rfl, hF⟩
         ·replace hF := hF.2 hc8
          refine Ok.seq ?_
          refine Ok.region ?_
          refine Ok.batch 2 [(0, .pointer (some ⟨bxc, 0, none⟩)), (6, .int .i64 xi.1), (45, .bool (xi.1 == 13))] (by kernel_rfl) ?_
          refine Ok.nil ?_
          refine Ok.thenN ?_
          refine Ok.cond (b := (xi.1 == 13)) rfl (fun hc9 => ?_) (fun hc9 => ?_)
          ·replace hF := hF.1 hc9
           refine Ok.seq ?_
           refine Ok.region ?_
           refine Ok.batch 4 [(50, .pointer (some ⟨bxc, 2, none⟩))] (by kernel_rfl) ?_
           refine Ok.op rfl (OpOk.step (v := .slice axc_2 xc.1.2.2.length cxc_2) (Yields.load 0 rfl rfl Tryd.underlying24 rfl (by kernel_rfl)) rfl rfl ?_)
           refine Ok.batch 2 [(4, .int .i64 (xc.1.2.2.length : Int))] (by kernel_rfl) ?_
           refine Ok.nil ?_
           refine Ok.thenN ?_
           refine Ok.ret ?_
           refine Ok.blockR ?_
           refine Ok.thenR ?_
           exact Ok.resH (vs := [.int .i64 (xc.1.2.2.length : Int)]) (.inl rfl) rfl (.cons (.tmp rfl) .nil) ((hxj13.trans hxj43).trans hxj61) ⟨(xc.1.2.2.length : Int), rfl, rfl, hF⟩
          ·replace hF := hF.2 hc9
           refine Ok.seq ?_
           refine Ok.region ?_
           refine Ok.batch 2 [(0, .pointer (some ⟨bxc, 0, none⟩)), (53, .bool (xi.1 == 16))] (by kernel_rfl) ?_
           refine Ok.nil ?_
           refine Ok.thenN ?_
           refine Ok.cond (b := (xi.1 == 16)) rfl (fun hc10 => ?_) (fun hc10 => ?_)
           ·replace hF := hF.1 hc10
            refine Ok.seq ?_
            refine Ok.region ?_
            refine Ok.batch 4 [(58, .pointer (some ⟨bxc, 0, none⟩))] (by kernel_rfl) ?_
            refine Ok.op rfl (OpOk.step (v := .slice axc_0 xc.1.1.length cxc_0) (Yields.load 0 rfl rfl Tryd.underlying22 rfl (by kernel_rfl)) rfl rfl ?_)
            refine Ok.batch 2 [(4, .int .i64 (xc.1.1.length : Int))] (by kernel_rfl) ?_
            refine Ok.nil ?_
            refine Ok.thenN ?_
            refine Ok.ret ?_
            refine Ok.blockR ?_
            refine Ok.thenR ?_
            exact Ok.resH (vs := [.int .i64 (xc.1.1.length : Int)]) (.inl rfl) rfl (.cons (.tmp rfl) .nil) ((hxj13.trans hxj43).trans hxj61) ⟨(xc.1.1.length : Int), rfl, rfl, hF⟩
           ·replace hF := hF.2 hc10
            refine Ok.skip ?_
            refine Ok.blockN ?_
            refine Ok.thenN ?_
            refine Ok.seq ?_
            refine Ok.region ?_
            refine Ok.batch 1 [(4, .int .i64 1)] (by kernel_rfl) ?_
            refine Ok.nil ?_
            refine Ok.thenN ?_
            refine Ok.ret ?_
            exact Ok.resH (vs := [.int .i64 1]) (.inl rfl) rfl (.cons (.tmp rfl) .nil) ((hxj13.trans hxj43).trans hxj61) ⟨1, rfl, rfl, hF⟩
abbrev CK := JP × JF × Int × List (Int × Int × List Int) × List Int × Bool
def bndN (c : CK) (i : Int × Int) : Int := if (i.1 == 1) = true then (c.1.2.1.length : Int) else if bndV0 i = true then c.2.1.2.1 else if (i.1 == 7) = true then 2 else if (i.1 == 8) = true then 11 else if bndV1 i = true then (c.2.1.2.2.2.length : Int) else if ((i.1 == 12) || (i.1 == 17)) = true then 401 else if (i.1 == 13) = true then (c.1.2.2.length : Int) else if (i.1 == 16) = true then (c.1.1.length : Int) else 1
theorem bnd_F (c : CK) (i : Int × Int) : bndF c i (fun r => r = bndN c i) := by
 have h61 : (i.1 == 1) = false → bndV0 i = false → (i.1 == 7) = false → (i.1 == 8) = false → bndV1 i = false → bndj61 c i (fun r => r = bndN c i) := fun h0 h1 h2 h3 h4 => by
  have e : bndN c i = if ((i.1 == 12) || (i.1 == 17)) = true then 401 else if (i.1 == 13) = true then (c.1.2.2.length : Int) else if (i.1 == 16) = true then (c.1.1.length : Int) else 1 := by
   unfold bndN; rw [h0, h1, h2, h3, h4]; rfl
  exact ⟨fun h => (by rw [e, if_pos h]), fun h => ⟨fun h5 => (by rw [e, h, h5]; rfl), fun h5 => ⟨fun h6 => (by rw [e, h, h5, h6]; rfl), fun h6 => (by rw [e, h, h5, h6]; rfl)⟩⟩⟩
 have h43 : (i.1 == 1) = false → bndV0 i = false → (i.1 == 7) = false → (i.1 == 8) = false → bndj43 c i (fun r => r = bndN c i) := fun h0 h1 h2 h3 => by
  refine ⟨fun h => (by unfold bndN; rw [h0, h1, h2, h3, h]; rfl), fun h => ?_⟩
  repeat' (first | exact h61 h0 h1 h2 h3 h | refine ⟨fun _ => ?_, fun _ => ?_⟩)
 have h13 : (i.1 == 1) = false → bndj13 c i (fun r => r = bndN c i) := fun h0 => by
  refine ⟨fun h => (by unfold bndN; rw [h0, h]; rfl), fun h => ⟨fun h2 => (by unfold bndN; rw [h0, h, h2]; rfl), fun h2 => ⟨fun h3 => (by unfold bndN; rw [h0, h, h2, h3, sgn_len]; rfl), fun h3 => ?_⟩⟩⟩
  repeat' (first | exact h43 h0 h h2 h3 | refine ⟨fun _ => ?_, fun _ => ?_⟩)
 refine ⟨fun h => (by unfold bndN; rw [if_pos h]), fun h => ?_⟩
 repeat' (first | exact h13 h | refine ⟨fun _ => ?_, fun _ => ?_⟩)
set_option linter.unusedVariables false in
theorem bnd_c {g : Ghost} {bxc : Nat} {axc_0 : Option Addr} {cxc_0 : Nat} {axc_1 : Option Addr} {cxc_1 : Nat} {axc_2 : Option Addr} {cxc_2 : Nat} {axc_3 : Option Addr} {cxc_3 : Nat} {axc_4 : Option Addr} {cxc_4 : Nat} {mvxc : Value} {mvxc_9 : Value} (xc : ((List (Int × Int × List (Int) × List (Int × Int))) × (List (Int × Int × List UInt8)) × List (List (List UInt8))) × (Int × Int × List (Int) × List (Int × Int)) × Int × (List ((Int) × (Int × List (Int)))) × List (Int) × Bool) (xi : Int × Int) (hRxc_0 : Rep g (.slice (.pair (.int .i64) (.pair (.int .i64) (.pair (.slice (.int .i64)) (.slice (.pair (.int .i64) (.int .i64))))))) [.slice axc_0 xc.1.1.length cxc_0] xc.1.1) (hRxc_1 : Rep g (.slice (.pair (.int .i64) (.pair (.int .i64) (.str)))) [.slice axc_1 xc.1.2.1.length cxc_1] xc.1.2.1) (hRxc_2 : Rep g (.slice (.slice (.str))) [.slice axc_2 xc.1.2.2.length cxc_2] xc.1.2.2) (hRxc_3 : Rep g (.slice (.int .i64)) [.slice axc_3 xc.2.1.2.2.1.length cxc_3] xc.2.1.2.2.1) (hRxc_4 : Rep g (.slice (.pair (.int .i64) (.int .i64))) [.slice axc_4 xc.2.1.2.2.2.length cxc_4] xc.2.1.2.2.2) (hG0 : GlobL g 0 (.int .u8) DSpace)  : CallsH Tryd.prog 14 #[.pointer (some ⟨bxc, 0, none⟩), .agg #[.int .i64 xi.1, .int .i64 xi.2]] g [.blk bxc (.cells #[.slice axc_0 xc.1.1.length cxc_0, .slice axc_1 xc.1.2.1.length cxc_1, .slice axc_2 xc.1.2.2.length cxc_2, .int .i64 xc.2.1.1, .int .i64 xc.2.1.2.1, .slice axc_3 xc.2.1.2.2.1.length cxc_3, .slice axc_4 xc.2.1.2.2.2.length cxc_4, .int .i64 xc.2.2.1, mvxc, mvxc_9, .bool xc.2.2.2.2.2] 37)] (fun g' H' v => v = .int .i64 (bndN xc xi) ∧ H' = [.blk bxc (.cells #[.slice axc_0 xc.1.1.length cxc_0, .slice axc_1 xc.1.2.1.length cxc_1, .slice axc_2 xc.1.2.2.length cxc_2, .int .i64 xc.2.1.1, .int .i64 xc.2.1.2.1, .slice axc_3 xc.2.1.2.2.1.length cxc_3, .slice axc_4 xc.2.1.2.2.2.length cxc_4, .int .i64 xc.2.2.1, mvxc, mvxc_9, .bool xc.2.2.2.2.2] 37)]) :=
 (bnd_ok xc xi hRxc_0 hRxc_1 hRxc_2 hRxc_3 hRxc_4 hG0 _ (bnd_F xc xi)).mono (by rintro g' H' v _ ⟨r0, rfl, rfl, hK⟩; subst hK; exact ⟨rfl, rfl⟩)
def rchV0 (xc : ((List (Int × Int × List (Int) × List (Int × Int))) × (List (Int × Int × List UInt8)) × List (List (List UInt8))) × (Int × Int × List (Int) × List (Int × Int)) × Int × (List ((Int) × (Int × List (Int)))) × List (Int) × Bool) (xat : Int) (xs : Int × List (Int)) : Bool :=
 ((decide (xat < 0)) || ((decide (xat ≥ (xc.2.1.2.2.2.length : Int))) || (decide (xs.1 < 0))))
def rchj17 (xc : ((List (Int × Int × List (Int) × List (Int × Int))) × (List (Int × Int × List UInt8)) × List (List (List UInt8))) × (Int × Int × List (Int) × List (Int × Int)) × Int × (List ((Int) × (Int × List (Int)))) × List (Int) × Bool) (xs : Int × List (Int)) (K : (((List (Int × Int × List (Int) × List (Int × Int))) × (List (Int × Int × List UInt8)) × List (List (List UInt8))) × (Int × Int × List (Int) × List (Int × Int)) × Int × (List ((Int) × (Int × List (Int)))) × List (Int) × Bool) → Prop) (ybs6_0j12 : Int) (ybs6_1j12 : List (Int)) : Prop :=
 K (xc.1, xc.2.1, xc.2.2.1, xc.2.2.2.1, xc.2.2.2.2.1, (xc.2.2.2.2.2 || (!(samS xs (ybs6_0j12, ybs6_1j12)))))
def rchj12 (xc : ((List (Int × Int × List (Int) × List (Int × Int))) × (List (Int × Int × List UInt8)) × List (List (List UInt8))) × (Int × Int × List (Int) × List (Int × Int)) × Int × (List ((Int) × (Int × List (Int)))) × List (Int) × Bool) (xat : Int) (xs : Int × List (Int)) (K : (((List (Int × Int × List (Int) × List (Int × Int))) × (List (Int × Int × List UInt8)) × List (List (List UInt8))) × (Int × Int × List (Int) × List (Int × Int)) × Int × (List ((Int) × (Int × List (Int)))) × List (Int) × Bool) → Prop) (x7j12 : Bool) (ybs6_0j12 : Int) (ybs6_1j12 : List (Int)) : Prop :=
 ((x7j12) = true → ((xc.2.2.2.2.2) = true → rchj17 xc xs K ybs6_0j12 ybs6_1j12) ∧ ((xc.2.2.2.2.2) = false → samP xs (ybs6_0j12, ybs6_1j12) ∧ rchj17 xc xs K ybs6_0j12 ybs6_1j12)) ∧ ((x7j12) = false → (xc.2.2.2.2.1 ++ ([xat] : List (Int))).length ≤ 17592186044416 ∧ K (xc.1, xc.2.1, xc.2.2.1, (putK xat xs xc.2.2.2.1), (xc.2.2.2.2.1 ++ ([xat] : List (Int))), xc.2.2.2.2.2))
def rchj4 (xc : ((List (Int × Int × List (Int) × List (Int × Int))) × (List (Int × Int × List UInt8)) × List (List (List UInt8))) × (Int × Int × List (Int) × List (Int × Int)) × Int × (List ((Int) × (Int × List (Int)))) × List (Int) × Bool) (xat : Int) (xs : Int × List (Int)) (K : (((List (Int × Int × List (Int) × List (Int × Int))) × (List (Int × Int × List UInt8)) × List (List (List UInt8))) × (Int × Int × List (Int) × List (Int × Int)) × Int × (List ((Int) × (Int × List (Int)))) × List (Int) × Bool) → Prop) : Prop :=
 (((rchV0 xc xat xs)) = true → K (xc.1, xc.2.1, xc.2.2.1, xc.2.2.2.1, xc.2.2.2.2.1, true)) ∧ (((rchV0 xc xat xs)) = false → (∀ e9 : Int × List (Int), assocK xat xc.2.2.2.1 = some e9 → rchj12 xc xat xs K true e9.1 e9.2) ∧ (assocK xat xc.2.2.2.1 = none → rchj12 xc xat xs K false 0 ([])))
def rchF (xc : ((List (Int × Int × List (Int) × List (Int × Int))) × (List (Int × Int × List UInt8)) × List (List (List UInt8))) × (Int × Int × List (Int) × List (Int × Int)) × Int × (List ((Int) × (Int × List (Int)))) × List (Int) × Bool) (xat : Int) (xs : Int × List (Int)) (K : (((List (Int × Int × List (Int) × List (Int × Int))) × (List (Int × Int × List UInt8)) × List (List (List UInt8))) × (Int × Int × List (Int) × List (Int × Int)) × Int × (List ((Int) × (Int × List (Int)))) × List (Int) × Bool) → Prop) : Prop :=
 ((decide (xat < 0)) = true → rchj4 xc xat xs K) ∧ ((decide (xat < 0)) = false → ((decide (xat ≥ (xc.2.1.2.2.2.length : Int))) = true → rchj4 xc xat xs K) ∧ ((decide (xat ≥ (xc.2.1.2.2.2.length : Int))) = false → rchj4 xc xat xs K))
set_option maxHeartbeats 4000000 in
set_option maxRecDepth 100000 in
set_option linter.unusedVariables false in
theorem rch_ok {g : Ghost} {bxc : Nat} {axc_0 : Option Addr} {cxc_0 : Nat} {axc_1 : Option Addr} {cxc_1 : Nat} {axc_2 : Option Addr} {cxc_2 : Nat} {axc_3 : Option Addr} {cxc_3 : Nat} {axc_4 : Option Addr} {cxc_4 : Nat} {bmxc_8 : Nat} {esxc_8 : Array MapEntry} {ckxc_8 : Nat} {axc_5 : Option Addr} {cxc_5 : Nat} {xsxc_5 : List Value} (xc : ((List (Int × Int × List (Int) × List (Int × Int))) × (List (Int × Int × List UInt8)) × List (List (List UInt8))) × (Int × Int × List (Int) × List (Int × Int)) × Int × (List ((Int) × (Int × List (Int)))) × List (Int) × Bool) (xat : Int) {axs_0 : Option Addr} {cxs_0 : Nat} (xs : Int × List (Int)) (hRxc_0 : Rep g (.slice (.pair (.int .i64) (.pair (.int .i64) (.pair (.slice (.int .i64)) (.slice (.pair (.int .i64) (.int .i64))))))) [.slice axc_0 xc.1.1.length cxc_0] xc.1.1) (hRxc_1 : Rep g (.slice (.pair (.int .i64) (.pair (.int .i64) (.str)))) [.slice axc_1 xc.1.2.1.length cxc_1] xc.1.2.1) (hRxc_2 : Rep g (.slice (.slice (.str))) [.slice axc_2 xc.1.2.2.length cxc_2] xc.1.2.2) (hRxc_3 : Rep g (.slice (.int .i64)) [.slice axc_3 xc.2.1.2.2.1.length cxc_3] xc.2.1.2.2.1) (hRxc_4 : Rep g (.slice (.pair (.int .i64) (.int .i64))) [.slice axc_4 xc.2.1.2.2.2.length cxc_4] xc.2.1.2.2.2) (hMxc_8 : RepMapA g (.pair (.int .i64) (.slice (.int .i64))) true (Value.int .i64) esxc_8 ckxc_8 xc.2.2.2.1) (hLxc_5 : RepL g (.int .i64) xsxc_5 xc.2.2.2.2.1) (hRxs_0 : Rep g (.slice (.int .i64)) [.slice axs_0 xs.2.length cxs_0] xs.2) (K : (((List (Int × Int × List (Int) × List (Int × Int))) × (List (Int × Int × List UInt8)) × List (List (List UInt8))) × (Int × Int × List (Int) × List (Int × Int)) × Int × (List ((Int) × (Int × List (Int)))) × List (Int) × Bool) → Prop)
  (hF : rchF xc xat xs K) : CallsH Tryd.prog 9 #[.pointer (some ⟨bxc, 0, none⟩), .int .i64 xat, .agg #[.int .i64 xs.1, .slice axs_0 xs.2.length cxs_0]] g [.blk bxc (.cells #[.slice axc_0 xc.1.1.length cxc_0, .slice axc_1 xc.1.2.1.length cxc_1, .slice axc_2 xc.1.2.2.length cxc_2, .int .i64 xc.2.1.1, .int .i64 xc.2.1.2.1, .slice axc_3 xc.2.1.2.2.1.length cxc_3, .slice axc_4 xc.2.1.2.2.2.length cxc_4, .int .i64 xc.2.2.1, .map (some bmxc_8), .slice axc_5 xc.2.2.2.2.1.length cxc_5, .bool xc.2.2.2.2.2] 37), .blk bmxc_8 (.map esxc_8 ckxc_8), .own (.slice axc_5 xc.2.2.2.2.1.length cxc_5) 3 1 xc.2.2.2.2.1.length xsxc_5] (fun g' H' v => ∃ (fxc : ((List (Int × Int × List (Int) × List (Int × Int))) × (List (Int × Int × List UInt8)) × List (List (List UInt8))) × (Int × Int × List (Int) × List (Int × Int)) × Int × (List ((Int) × (Int × List (Int)))) × List (Int) × Bool), ∃ (afxc_0 : Option Addr) (cfxc_0 : Nat), ∃ (afxc_1 : Option Addr) (cfxc_1 : Nat), ∃ (afxc_2 : Option Addr) (cfxc_2 : Nat), ∃ (afxc_3 : Option Addr) (cfxc_3 : Nat), ∃ (afxc_4 : Option Addr) (cfxc_4 : Nat), ∃ (esfxc_8 : Array MapEntry) (ckfxc_8 : Nat), ∃ (afxc_5 : Option Addr) (cfxc_5 : Nat) (xsfxc_5 : List Value), v = .tuple #[] ∧ Rep g' (.slice (.pair (.int .i64) (.pair (.int .i64) (.pair (.slice (.int .i64)) (.slice (.pair (.int .i64) (.int .i64))))))) [.slice afxc_0 fxc.1.1.length cfxc_0] fxc.1.1 ∧ Rep g' (.slice (.pair (.int .i64) (.pair (.int .i64) (.str)))) [.slice afxc_1 fxc.1.2.1.length cfxc_1] fxc.1.2.1 ∧ Rep g' (.slice (.slice (.str))) [.slice afxc_2 fxc.1.2.2.length cfxc_2] fxc.1.2.2 ∧ Rep g' (.slice (.int .i64)) [.slice afxc_3 fxc.2.1.2.2.1.length cfxc_3] fxc.2.1.2.2.1 ∧ Rep g' (.slice (.pair (.int .i64) (.int .i64))) [.slice afxc_4 fxc.2.1.2.2.2.length cfxc_4] fxc.2.1.2.2.2 ∧ RepMapA g' (.pair (.int .i64) (.slice (.int .i64))) true (Value.int .i64) esfxc_8 ckfxc_8 fxc.2.2.2.1 ∧ RepL g' (.int .i64) xsfxc_5 fxc.2.2.2.2.1 ∧ H' = [.blk bxc (.cells #[.slice afxc_0 fxc.1.1.length cfxc_0, .slice afxc_1 fxc.1.2.1.length cfxc_1, .slice afxc_2 fxc.1.2.2.length cfxc_2, .int .i64 fxc.2.1.1, .int .i64 fxc.2.1.2.1, .slice afxc_3 fxc.2.1.2.2.1.length cfxc_3, .slice afxc_4 fxc.2.1.2.2.2.length cfxc_4, .int .i64 fxc.2.2.1, .map (some bmxc_8), .slice afxc_5 fxc.2.2.2.2.1.length cfxc_5, .bool fxc.2.2.2.2.2] 37), .blk bmxc_8 (.map esfxc_8 ckfxc_8), .own (.slice afxc_5 fxc.2.2.2.2.1.length cfxc_5) 3 1 fxc.2.2.2.2.1.length xsfxc_5] ∧ K fxc) := by
 refine CallsH.enter 67 [(0, .pointer (some ⟨bxc, 0, none⟩)), (1, .int .i64 xat), (2, .agg #[.int .i64 xs.1, .slice axs_0 xs.2.length cxs_0])] Tryd.func9 rfl (by kernel_rfl) (by kernel_rfl) (by kernel_rfl) fun w0 => ?_
 refine Ok.seq ?_
 refine Ok.region ?_
 refine Ok.op rfl (OpOk.box (v := .agg #[.int .i64 xs.1, .slice axs_0 xs.2.length cxs_0]) (cs := #[.int .i64 xs.1, .slice axs_0 xs.2.length cxs_0]) rfl (by kernel_rfl) rfl fun bs5 => ?_)
 refine Ok.nil ?_
 refine Ok.thenN ?_
 refine Ok.seq ?_
 refine Ok.cut (fun a W => ∃ gj4 : Ghost, Gext w0 g gj4 ∧ StA 67 [(0, .pointer (some ⟨bxc, 0, none⟩)), (1, .int .i64 xat), (5, .pointer (some ⟨bs5, 0, none⟩)), (24, .bool (rchV0 xc xat xs))] a ∧ StW w0 [.blk bs5 (.cells #[.int .i64 xs.1, .slice axs_0 xs.2.length cxs_0] 42), .blk bxc (.cells #[.slice axc_0 xc.1.1.length cxc_0, .slice axc_1 xc.1.2.1.length cxc_1, .slice axc_2 xc.1.2.2.length cxc_2, .int .i64 xc.2.1.1, .int .i64 xc.2.1.2.1, .slice axc_3 xc.2.1.2.2.1.length cxc_3, .slice axc_4 xc.2.1.2.2.2.length cxc_4, .int .i64 xc.2.2.1, .map (some bmxc_8), .slice axc_5 xc.2.2.2.2.1.length cxc_5, .bool xc.2.2.2.2.2] 37), .blk bmxc_8 (.map esxc_8 ckxc_8), .own (.slice axc_5 xc.2.2.2.2.1.length cxc_5) 3 1 xc.2.2.2.2.1.length xsxc_5] gj4 W ∧ rchj4 xc xat xs K) ?_ ?_
 ·
  refine Ok.region ?_
  refine Ok.batch 3 [(0, .pointer (some ⟨bxc, 0, none⟩)), (1, .int .i64 xat), (5, .pointer (some ⟨bs5, 0, none⟩)), (10, .bool (decide (xat < 0)))] (by kernel_rfl) ?_
  refine Ok.boolAt 10 (decide (xat < 0)) rfl (fun hc12 => ?_) (fun hc12 => ?_)
  ·replace hF := hF.1 hc12
   refine Ok.batch 14 [(0, .pointer (some ⟨bxc, 0, none⟩)), (1, .int .i64 xat), (5, .pointer (some ⟨bs5, 0, none⟩)), (24, .bool true)] (by kernel_rfl) ?_
   refine Ok.nil ?_
   refine Ok.thenN ?_
   refine Ok.reval 24 rfl (show (.bool true : Value) = .bool (rchV0 xc xat xs) from congrArg (Value.bool) (mor_t hc12)) ?_
   exact fun a W hA hW => ⟨g, (Gext.refl w0 g), hA.sub (by kernel_rfl), hW, hF⟩
  ·replace hF := hF.2 hc12
   refine Ok.batch 5 [(0, .pointer (some ⟨bxc, 0, none⟩)), (1, .int .i64 xat), (5, .pointer (some ⟨bs5, 0, none⟩)), (10, .bool false), (11, .int .i64 xat), (15, .pointer (some ⟨bxc, 6, none⟩))] (by kernel_rfl) ?_
   refine Ok.opYes (j := 2) (d := 10) (want := false) (b := false) rfl (by kernel_rfl) (by kernel_rfl) rfl (OpOk.step (v := .slice axc_4 xc.2.1.2.2.2.length cxc_4) (Yields.load 1 rfl rfl Tryd.underlying31 rfl (by kernel_rfl)) rfl rfl ?_)
   refine Ok.batch 4 [(0, .pointer (some ⟨bxc, 0, none⟩)), (1, .int .i64 xat), (5, .pointer (some ⟨bs5, 0, none⟩)), (20, .bool (decide (xat ≥ (xc.2.1.2.2.2.length : Int))))] (by kernel_rfl) ?_
   refine Ok.boolAt 20 (decide (xat ≥ (xc.2.1.2.2.2.length : Int))) rfl (fun hc13 => ?_) (fun hc13 => ?_)
   ·replace hF := hF.1 hc13
    refine Ok.batch 4 [(0, .pointer (some ⟨bxc, 0, none⟩)), (1, .int .i64 xat), (5, .pointer (some ⟨bs5, 0, none⟩)), (24, .bool true)] (by kernel_rfl) ?_
    refine Ok.nil ?_
    refine Ok.thenN ?_
    refine Ok.reval 24 rfl (show (.bool true : Value) = .bool (rchV0 xc xat xs) from congrArg (Value.bool) ((Eq.trans (mor_t hc13) (mor_f hc12)))) ?_
    exact fun a W hA hW => ⟨g, (Gext.refl w0 g), hA.sub (by kernel_rfl), hW, hF⟩
   ·replace hF := hF.2 hc13
    refine Ok.batch 1 [(0, .pointer (some ⟨bxc, 0, none⟩)), (1, .int .i64 xat), (5, .pointer (some ⟨bs5, 0, none⟩)), (20, .bool false), (21, .pointer (some ⟨bs5, 0, none⟩))] (by kernel_rfl) ?_
    refine Ok.opYes (j := 12) (d := 20) (want := false) (b := false) rfl (by kernel_rfl) (by kernel_rfl) rfl (OpOk.step (v := .int .i64 xs.1) (Yields.load 0 rfl rfl Tryd.underlying3 rfl (by kernel_rfl)) rfl rfl ?_)
    refine Ok.batch 2 [(0, .pointer (some ⟨bxc, 0, none⟩)), (1, .int .i64 xat), (5, .pointer (some ⟨bs5, 0, none⟩)), (24, .bool (decide (xs.1 < 0)))] (by kernel_rfl) ?_
    refine Ok.nil ?_
    refine Ok.thenN ?_
    refine Ok.reval 24 rfl (show (.bool (decide (xs.1 < 0)) : Value) = .bool (rchV0 xc xat xs) from congrArg (Value.bool) ((Eq.trans (mor_f hc13) (mor_f hc12)))) ?_
    exact fun a W hA hW => ⟨g, (Gext.refl w0 g), hA.sub (by kernel_rfl), hW, hF⟩
 ·
  clear hF
  rintro a W ⟨gj4, hxj4, hA, hW, hF⟩
  refine (?_ : Ok _ _ _ _ _ _) a W hA hW
  clear hA hW
  replace hRxs_0 := hRxs_0.mono hxj4.1
  replace hRxc_0 := hRxc_0.mono hxj4.1
  replace hRxc_1 := hRxc_1.mono hxj4.1
  replace hRxc_2 := hRxc_2.mono hxj4.1
  replace hRxc_3 := hRxc_3.mono hxj4.1
  replace hRxc_4 := hRxc_4.mono hxj4.1
  replace hLxc_5 := hLxc_5.mono hxj4.1
  replace hMxc_8 := hMxc_8.mono hxj4.1
  refine Ok.cond (b := (rchV0 xc xat xs)) rfl (fun hc2 => ?_) (fun hc2 => ?_)
  ·replace hF := hF.1 hc2
   refine Ok.seq ?_
   refine Ok.region ?_
   refine Ok.batch 3 [(27, .pointer (some ⟨bxc, 10, none⟩))] (by kernel_rfl) ?_
   refine Ok.op rfl (OpOk.store (k := 1) (v := .bool true) (H' := [.blk bs5 (.cells #[.int .i64 xs.1, .slice axs_0 xs.2.length cxs_0] 42), .blk bxc (.cells #[.slice axc_0 xc.1.1.length cxc_0, .slice axc_1 xc.1.2.1.length cxc_1, .slice axc_2 xc.1.2.2.length cxc_2, .int .i64 xc.2.1.1, .int .i64 xc.2.1.2.1, .slice axc_3 xc.2.1.2.2.1.length cxc_3, .slice axc_4 xc.2.1.2.2.2.length cxc_4, .int .i64 xc.2.2.1, .map (some bmxc_8), .slice axc_5 xc.2.2.2.2.1.length cxc_5, .bool true] 37), .blk bmxc_8 (.map esxc_8 ckxc_8), .own (.slice axc_5 xc.2.2.2.2.1.length cxc_5) 3 1 xc.2.2.2.2.1.length xsxc_5]) 1 rfl rfl rfl (by kernel_rfl) (by kernel_rfl) (by kernel_rfl) (by kernel_rfl) (by kernel_rfl) ?_)
   refine Ok.nil ?_
   refine Ok.thenN ?_
   refine Ok.ret ?_
   refine Ok.thenR ?_
   exact Ok.resP (vs := []) [1, 2, 3] [.blk bxc (.cells #[.slice axc_0 xc.1.1.length cxc_0, .slice axc_1 xc.1.2.1.length cxc_1, .slice axc_2 xc.1.2.2.length cxc_2, .int .i64 xc.2.1.1, .int .i64 xc.2.1.2.1, .slice axc_3 xc.2.1.2.2.1.length cxc_3, .slice axc_4 xc.2.1.2.2.2.length cxc_4, .int .i64 xc.2.2.1, .map (some bmxc_8), .slice axc_5 xc.2.2.2.2.1.length cxc_5, .bool true] 37), .blk bmxc_8 (.map esxc_8 ckxc_8), .own (.slice axc_5 xc.2.2.2.2.1.length cxc_5) 3 1 xc.2.2.2.2.1.length xsxc_5] (by decide) rfl (.inl rfl) rfl .nil hxj4 ⟨(xc.1, xc.2.1, xc.2.2.1, xc.2.2.2.1, xc.2.2.2.2.1, true), axc_0, cxc_0, axc_1, cxc_1, axc_2, cxc_2, axc_3, cxc_3, axc_4, cxc_4, esxc_8, ckxc_8, axc_5, cxc_5, xsxc_5, rfl, hRxc_0, hRxc_1, hRxc_2, hRxc_3, hRxc_4, hMxc_8, hLxc_5, rfl, hF⟩
  ·replace hF := hF.2 hc2
   refine Ok.skip ?_
   refine Ok.thenN ?_
   refine Ok.seq ?_
   refine Ok.cut (fun a W => ∃ gj12 : Ghost, Gext w0 gj4 gj12 ∧ ∃ (bs6 : Nat) (x7j12 : Bool) (ybs6_0j12 : Int) (aybs6_1j12 : Option Addr) (cybs6_1j12 : Nat) (ybs6_1j12 : List (Int)), Rep gj12 (.slice (.int .i64)) [.slice aybs6_1j12 ybs6_1j12.length cybs6_1j12] ybs6_1j12 ∧ StA 67 [(0, .pointer (some ⟨bxc, 0, none⟩)), (1, .int .i64 xat), (5, .pointer (some ⟨bs5, 0, none⟩)), (6, .pointer (some ⟨bs6, 0, none⟩)), (7, .bool x7j12)] a ∧ StW w0 [.blk bs6 (.cells #[.int .i64 ybs6_0j12, .slice aybs6_1j12 ybs6_1j12.length cybs6_1j12] 42), .blk bs5 (.cells #[.int .i64 xs.1, .slice axs_0 xs.2.length cxs_0] 42), .blk bxc (.cells #[.slice axc_0 xc.1.1.length cxc_0, .slice axc_1 xc.1.2.1.length cxc_1, .slice axc_2 xc.1.2.2.length cxc_2, .int .i64 xc.2.1.1, .int .i64 xc.2.1.2.1, .slice axc_3 xc.2.1.2.2.1.length cxc_3, .slice axc_4 xc.2.1.2.2.2.length cxc_4, .int .i64 xc.2.2.1, .map (some bmxc_8), .slice axc_5 xc.2.2.2.2.1.length cxc_5, .bool xc.2.2.2.2.2] 37), .blk bmxc_8 (.map esxc_8 ckxc_8), .own (.slice axc_5 xc.2.2.2.2.1.length cxc_5) 3 1 xc.2.2.2.2.1.length xsxc_5] gj12 W ∧ rchj12 xc xat xs K x7j12 ybs6_0j12 ybs6_1j12) ?_ ?_
   ·
    refine Ok.region ?_
    refine Ok.batch 3 [(0, .pointer (some ⟨bxc, 0, none⟩)), (1, .int .i64 xat), (5, .pointer (some ⟨bs5, 0, none⟩)), (31, .pointer (some ⟨bxc, 8, none⟩))] (by kernel_rfl) ?_
    refine Ok.op rfl (OpOk.step (v := .map (some bmxc_8)) (Yields.load 1 rfl rfl Tryd.underlying35 rfl (by kernel_rfl)) rfl rfl ?_)
    refine Ok.batch 1 [(0, .pointer (some ⟨bxc, 0, none⟩)), (1, .int .i64 xat), (5, .pointer (some ⟨bs5, 0, none⟩)), (32, .map (some bmxc_8)), (33, .int .i64 xat)] (by kernel_rfl) ?_
    cases hce9 : assocK xat xc.2.2.2.1 with
    | some e9 =>
     replace hF := hF.1 e9 hce9
     refine Ok.op rfl (OpOk.lookupSome (vt := .pair (.int .i64) (.slice (.int .i64))) (row := true) keyInt 2 rfl hMxc_8.1 rfl rfl Tryd.underlying35 Tryd.underlying3 hce9 rfl fun v9 cs9 hvi9 hr9 u9 hu9 => ?_)
     obtain ⟨_, _, rfl, rfl, ⟨a9_1, c9_1, rfl, hm9_1, hr9_1⟩⟩ := hr9
     have hvi9 : v9 = .agg #[.int .i64 e9.1, .slice a9_1 e9.2.length c9_1] := hvi9
     subst hvi9
     have hu9 : u9 = .tuple #[.agg #[.int .i64 e9.1, .slice a9_1 e9.2.length c9_1], .bool true] := hu9
     subst hu9
     have hR9_1 : Rep gj4 (.slice (.int .i64)) [.slice a9_1 e9.2.length c9_1] e9.2 := ⟨a9_1, c9_1, rfl, hm9_1, hr9_1⟩
     refine Ok.batch 3 [(0, .pointer (some ⟨bxc, 0, none⟩)), (1, .int .i64 xat), (5, .pointer (some ⟨bs5, 0, none⟩)), (35, .agg #[.int .i64 e9.1, .slice a9_1 e9.2.length c9_1]), (36, .bool true)] (by kernel_rfl) ?_
     refine Ok.op rfl (OpOk.alloc (z := .agg #[.int .i64 0, .slice none 0 0]) (cs := #[.int .i64 0, .slice none 0 0]) (by kernel_rfl) (by kernel_rfl) rfl fun bs6 => ?_)
     refine Ok.op rfl (OpOk.store (k := 2) (v := .agg #[.int .i64 e9.1, .slice a9_1 e9.2.length c9_1]) (H' := [.blk bs6 (.cells #[.int .i64 e9.1, .slice a9_1 e9.2.length c9_1] 42), .blk bs5 (.cells #[.int .i64 xs.1, .slice axs_0 xs.2.length cxs_0] 42), .blk bxc (.cells #[.slice axc_0 xc.1.1.length cxc_0, .slice axc_1 xc.1.2.1.length cxc_1, .slice axc_2 xc.1.2.2.length cxc_2, .int .i64 xc.2.1.1, .int .i64 xc.2.1.2.1, .slice axc_3 xc.2.1.2.2.1.length cxc_3, .slice axc_4 xc.2.1.2.2.2.length cxc_4, .int .i64 xc.2.2.1, .map (some bmxc_8), .slice axc_5 xc.2.2.2.2.1.length cxc_5, .bool xc.2.2.2.2.2] 37), .blk bmxc_8 (.map esxc_8 ckxc_8), .own (.slice axc_5 xc.2.2.2.2.1.length cxc_5) 3 1 xc.2.2.2.2.1.length xsxc_5]) 0 rfl rfl rfl (by kernel_rfl) (by kernel_rfl) (by kernel_rfl) (by kernel_rfl) (by kernel_rfl) ?_)
     refine Ok.batch 1 [(0, .pointer (some ⟨bxc, 0, none⟩)), (1, .int .i64 xat), (5, .pointer (some ⟨bs5, 0, none⟩)), (6, .pointer (some ⟨bs6, 0, none⟩)), (7, .bool true)] (by kernel_rfl) ?_
     refine Ok.nil ?_
     refine Ok.thenN ?_
     exact fun a W hA hW => ⟨gj4, (Gext.refl w0 gj4), bs6, true, e9.1, a9_1, c9_1, e9.2, hR9_1, hA.sub (by kernel_rfl), hW, hF⟩
    | none =>
     replace hF := hF.2 hce9
     refine Ok.op rfl (OpOk.lookupNone (vt := .pair (.int .i64) (.slice (.int .i64))) (row := true) (z := .agg #[.int .i64 0, .slice none 0 0]) (u := .tuple #[.agg #[.int .i64 0, .slice none 0 0], .bool false]) keyInt 2 rfl hMxc_8.1 rfl rfl Tryd.underlying35 Tryd.underlying3 (by kernel_rfl) hce9 rfl rfl ?_)
     refine Ok.batch 3 [(0, .pointer (some ⟨bxc, 0, none⟩)), (1, .int .i64 xat), (5, .pointer (some ⟨bs5, 0, none⟩)), (35, .agg #[.int .i64 0, .slice none 0 0]), (36, .bool false)] (by kernel_rfl) ?_
     refine Ok.op rfl (OpOk.alloc (z := .agg #[.int .i64 0, .slice none 0 0]) (cs := #[.int .i64 0, .slice none 0 0]) (by kernel_rfl) (by kernel_rfl) rfl fun bs6 => ?_)
     refine Ok.op rfl (OpOk.store (k := 2) (v := .agg #[.int .i64 0, .slice none 0 0]) (H' := [.blk bs6 (.cells #[.int .i64 0, .slice none 0 0] 42), .blk bs5 (.cells #[.int .i64 xs.1, .slice axs_0 xs.2.length cxs_0] 42), .blk bxc (.cells #[.slice axc_0 xc.1.1.length cxc_0, .slice axc_1 xc.1.2.1.length cxc_1, .slice axc_2 xc.1.2.2.length cxc_2, .int .i64 xc.2.1.1, .int .i64 xc.2.1.2.1, .slice axc_3 xc.2.1.2.2.1.length cxc_3, .slice axc_4 xc.2.1.2.2.2.length cxc_4, .int .i64 xc.2.2.1, .map (some bmxc_8), .slice axc_5 xc.2.2.2.2.1.length cxc_5, .bool xc.2.2.2.2.2] 37), .blk bmxc_8 (.map esxc_8 ckxc_8), .own (.slice axc_5 xc.2.2.2.2.1.length cxc_5) 3 1 xc.2.2.2.2.1.length xsxc_5]) 0 rfl rfl rfl (by kernel_rfl) (by kernel_rfl) (by kernel_rfl) (by kernel_rfl) (by kernel_rfl) ?_)
     refine Ok.batch 1 [(0, .pointer (some ⟨bxc, 0, none⟩)), (1, .int .i64 xat), (5, .pointer (some ⟨bs5, 0, none⟩)), (6, .pointer (some ⟨bs6, 0, none⟩)), (7, .bool false)] (by kernel_rfl) ?_
     refine Ok.nil ?_
     refine Ok.thenN ?_
     exact fun a W hA hW => ⟨gj4, (Gext.refl w0 gj4), bs6, false, 0, none, 0, [], Rep.nil, hA.sub (by kernel_rfl), hW, hF⟩
   ·
    clear hF
    rintro a W ⟨gj12, hxj12, bs6, x7j12, ybs6_0j12, aybs6_1j12, cybs6_1j12, ybs6_1j12, hRybs6_1j12, hA, hW, hF⟩
    refine (?_ : Ok _ _ _ _ _ _) a W hA hW
    clear hA hW
    replace hRxs_0 := hRxs_0.mono hxj12.1
    replace hRxc_0 := hRxc_0.mono hxj12.1
    replace hRxc_1 := hRxc_1.mono hxj12.1
    replace hRxc_2 := hRxc_2.mono hxj12.1
    replace hRxc_3 := hRxc_3.mono hxj12.1
    replace hRxc_4 := hRxc_4.mono hxj12.1
    replace hLxc_5 := hLxc_5.mono hxj12.1
    replace hMxc_8 := hMxc_8.mono hxj12.1
    refine Ok.seq ?_
    refine Ok.region ?_
    refine Ok.batch 1 [(0, .pointer (some ⟨bxc, 0, none⟩)), (1, .int .i64 xat), (5, .pointer (some ⟨bs5, 0, none⟩)), (6, .pointer (some ⟨bs6, 0, none⟩)), (37, .bool x7j12)] (by kernel_rfl) ?_
    refine Ok.nil ?_
    refine Ok.thenN ?_
    refine Ok.cond (b := x7j12) rfl (fun hc3 => ?_) (fun hc3 => ?_)
    ·replace hF := hF.1 hc3
     refine Ok.cut (fun a W => ∃ gj17 : Ghost, Gext w0 gj12 gj17 ∧ StA 67 [] a ∧ StW w0 [.blk bxc (.cells #[.slice axc_0 xc.1.1.length cxc_0, .slice axc_1 xc.1.2.1.length cxc_1, .slice axc_2 xc.1.2.2.length cxc_2, .int .i64 xc.2.1.1, .int .i64 xc.2.1.2.1, .slice axc_3 xc.2.1.2.2.1.length cxc_3, .slice axc_4 xc.2.1.2.2.2.length cxc_4, .int .i64 xc.2.2.1, .map (some bmxc_8), .slice axc_5 xc.2.2.2.2.1.length cxc_5, .bool (xc.2.2.2.2.2 || (!(samS xs (ybs6_0j12, ybs6_1j12))))] 37), .blk bmxc_8 (.map esxc_8 ckxc_8), .own (.slice axc_5 xc.2.2.2.2.1.length cxc_5) 3 1 xc.2.2.2.2.1.length xsxc_5] gj17 W ∧ rchj17 xc xs K ybs6_0j12 ybs6_1j12) ?_ ?_
     ·
      refine Ok.region ?_
      refine Ok.batch 4 [(5, .pointer (some ⟨bs5, 0, none⟩)), (6, .pointer (some ⟨bs6, 0, none⟩)), (38, .pointer (some ⟨bxc, 0, none⟩)), (41, .pointer (some ⟨bxc, 10, none⟩))] (by kernel_rfl) ?_
      refine Ok.op rfl (OpOk.step (v := .bool xc.2.2.2.2.2) (Yields.load 2 rfl rfl Tryd.underlying4 rfl (by kernel_rfl)) rfl rfl ?_)
      refine Ok.batch 1 [(5, .pointer (some ⟨bs5, 0, none⟩)), (6, .pointer (some ⟨bs6, 0, none⟩)), (38, .pointer (some ⟨bxc, 0, none⟩)), (43, .bool xc.2.2.2.2.2)] (by kernel_rfl) ?_
      refine Ok.boolAt 43 (xc.2.2.2.2.2) rfl (fun hc4 => ?_) (fun hc4 => ?_)
      ·replace hF := hF.1 hc4
       refine Ok.batch 7 [(48, .bool true), (50, .pointer (some ⟨bxc, 10, none⟩))] (by kernel_rfl) ?_
       refine Ok.op rfl (OpOk.store (k := 1) (v := .bool true) (H' := [.blk bs6 (.cells #[.int .i64 ybs6_0j12, .slice aybs6_1j12 ybs6_1j12.length cybs6_1j12] 42), .blk bs5 (.cells #[.int .i64 xs.1, .slice axs_0 xs.2.length cxs_0] 42), .blk bxc (.cells #[.slice axc_0 xc.1.1.length cxc_0, .slice axc_1 xc.1.2.1.length cxc_1, .slice axc_2 xc.1.2.2.length cxc_2, .int .i64 xc.2.1.1, .int .i64 xc.2.1.2.1, .slice axc_3 xc.2.1.2.2.1.length cxc_3, .slice axc_4 xc.2.1.2.2.2.length cxc_4, .int .i64 xc.2.2.1, .map (some bmxc_8), .slice axc_5 xc.2.2.2.2.1.length cxc_5, .bool true] 37), .blk bmxc_8 (.map esxc_8 ckxc_8), .own (.slice axc_5 xc.2.2.2.2.1.length cxc_5) 3 1 xc.2.2.2.2.1.length xsxc_5]) 2 rfl rfl rfl (by kernel_rfl) (by kernel_rfl) (by kernel_rfl) (by kernel_rfl) (by kernel_rfl) ?_)
       refine Ok.nil ?_
       refine Ok.thenN ?_
       refine Ok.heapEq (H' := [.blk bs6 (.cells #[.int .i64 ybs6_0j12, .slice aybs6_1j12 ybs6_1j12.length cybs6_1j12] 42), .blk bs5 (.cells #[.int .i64 xs.1, .slice axs_0 xs.2.length cxs_0] 42), .blk bxc (.cells #[.slice axc_0 xc.1.1.length cxc_0, .slice axc_1 xc.1.2.1.length cxc_1, .slice axc_2 xc.1.2.2.length cxc_2, .int .i64 xc.2.1.1, .int .i64 xc.2.1.2.1, .slice axc_3 xc.2.1.2.2.1.length cxc_3, .slice axc_4 xc.2.1.2.2.2.length cxc_4, .int .i64 xc.2.2.1, .map (some bmxc_8), .slice axc_5 xc.2.2.2.2.1.length cxc_5, .bool (xc.2.2.2.2.2 || (!(samS xs (ybs6_0j12, ybs6_1j12))))] 37), .blk bmxc_8 (.map esxc_8 ckxc_8), .own (.slice axc_5 xc.2.2.2.2.1.length cxc_5) 3 1 xc.2.2.2.2.1.length xsxc_5]) (econs (rfl) (econs (rfl) (econs (congrArg (fun l : List Value => Ent.blk bxc (.cells ⟨l⟩ 37)) (lcons (rfl) (lcons (rfl) (lcons (rfl) (lcons (rfl) (lcons (rfl) (lcons (rfl) (lcons (rfl) (lcons (rfl) (lcons (rfl) (lcons (rfl) (lcons (congrArg (Value.bool) (mor_t hc4)) rfl)))))))))))) (econs (rfl) (econs (rfl) rfl))))) ?_
       exact fun a W hA hW => ⟨gj12, (Gext.refl w0 gj12), hA.sub (by kernel_rfl), hW.sub (.cons _ (.cons _ (.cons_cons _ (.cons_cons _ (.cons_cons _ .slnil))))), hF⟩
      ·replace hF := hF.2 hc4
       refine Ok.opYes (j := 5) (d := 43) (want := false) (b := false) rfl (by kernel_rfl) (by kernel_rfl) rfl (OpOk.step (v := .agg #[.int .i64 xs.1, .slice axs_0 xs.2.length cxs_0]) (Yields.loadAgg 1 2 #[.int .i64 xs.1, .slice axs_0 xs.2.length cxs_0] rfl rfl Tryd.underlying42 rfl (by kernel_rfl) (by kernel_rfl) (by kernel_rfl)) rfl rfl ?_)
       refine Ok.opYes (j := 5) (d := 43) (want := false) (b := false) rfl (by kernel_rfl) (by kernel_rfl) rfl (OpOk.step (v := .agg #[.int .i64 ybs6_0j12, .slice aybs6_1j12 ybs6_1j12.length cybs6_1j12]) (Yields.loadAgg 0 2 #[.int .i64 ybs6_0j12, .slice aybs6_1j12 ybs6_1j12.length cybs6_1j12] rfl rfl Tryd.underlying42 rfl (by kernel_rfl) (by kernel_rfl) (by kernel_rfl)) rfl rfl ?_)
       obtain ⟨hp5, hF⟩ := hF
       refine Ok.opYes (j := 5) (d := 43) (want := false) (b := false) rfl (by kernel_rfl) (by kernel_rfl) rfl (OpOk.callG (v := .bool (samS xs (ybs6_0j12, ybs6_1j12))) (enters (by kernel_rfl) (fun _ => by kernel_rfl)) (fun W hW => sam_c xs (ybs6_0j12, ybs6_1j12) (hRxs_0.mono hW.sees) (hRybs6_1j12.mono hW.sees) hp5) rfl ?_)
       refine Ok.batch 4 [(48, .bool (!(samS xs (ybs6_0j12, ybs6_1j12)))), (50, .pointer (some ⟨bxc, 10, none⟩))] (by kernel_rfl) ?_
       refine Ok.op rfl (OpOk.store (k := 1) (v := .bool (!(samS xs (ybs6_0j12, ybs6_1j12)))) (H' := [.blk bs6 (.cells #[.int .i64 ybs6_0j12, .slice aybs6_1j12 ybs6_1j12.length cybs6_1j12] 42), .blk bs5 (.cells #[.int .i64 xs.1, .slice axs_0 xs.2.length cxs_0] 42), .blk bxc (.cells #[.slice axc_0 xc.1.1.length cxc_0, .slice axc_1 xc.1.2.1.length cxc_1, .slice axc_2 xc.1.2.2.length cxc_2, .int .i64 xc.2.1.1, .int .i64 xc.2.1.2.1, .slice axc_3 xc.2.1.2.2.1.length cxc_3, .slice axc_4 xc.2.1.2.2.2.length cxc_4, .int .i64 xc.2.2.1, .map (some bmxc_8), .slice axc_5 xc.2.2.2.2.1.length cxc_5, .bool (!(samS xs (ybs6_0j12, ybs6_1j12)))] 37), .blk bmxc_8 (.map esxc_8 ckxc_8), .own (.slice axc_5 xc.2.2.2.2.1.length cxc_5) 3 1 xc.2.2.2.2.1.length xsxc_5]) 2 rfl rfl rfl (by kernel_rfl) (by kernel_rfl) (by kernel_rfl) (by kernel_rfl) (by kernel_rfl) ?_)
       refine Ok.nil ?_
       refine Ok.thenN ?_
       refine Ok.heapEq (H' := [.blk bs6 (.cells #[.int .i64 ybs6_0j12, .slice aybs6_1j12 ybs6_1j12.length cybs6_1j12] 42), .blk bs5 (.cells #[.int .i64 xs.1, .slice axs_0 xs.2.length cxs_0] 42), .blk bxc (.cells #[.slice axc_0 xc.1.1.length cxc_0, .slice axc_1 xc.1.2.1.length cxc_1, .slice axc_2 xc.1.2.2.length cxc_2, .int .i64 xc.2.1.1, .int .i64 xc.2.1.2.1, .slice axc_3 xc.2.1.2.2.1.length cxc_3, .slice axc_4 xc.2.1.2.2.2.length cxc_4, .int .i64 xc.2.2.1, .map (some bmxc_8), .slice axc_5 xc.2.2.2.2.1.length cxc_5, .bool (xc.2.2.2.2.2 || (!(samS xs (ybs6_0j12, ybs6_1j12))))] 37), .blk bmxc_8 (.map esxc_8 ckxc_8), .own (.slice axc_5 xc.2.2.2.2.1.length cxc_5) 3 1 xc.2.2.2.2.1.length xsxc_5]) (econs (rfl) (econs (rfl) (econs (congrArg (fun l : List Value => Ent.blk bxc (.cells ⟨l⟩ 37)) (lcons (rfl) (lcons (rfl) (lcons (rfl) (lcons (rfl) (lcons (rfl) (lcons (rfl) (lcons (rfl) (lcons (rfl) (lcons (rfl) (lcons (rfl) (lcons (congrArg (Value.bool) (mor_f hc4)) rfl)))))))))))) (econs (rfl) (econs (rfl) rfl))))) ?_
       exact fun a W hA hW => ⟨gj12, (Gext.refl w0 gj12), hA.sub (by kernel_rfl), hW.sub (.cons _ (.cons _ (.cons_cons _ (.cons_cons _ (.cons_cons _ .slnil))))), hF⟩
     ·
      clear hF
      rintro a W ⟨gj17, hxj17, hA, hW, hF⟩
      refine (?_ : Ok _ _ _ _ _ _) a W hA hW
      clear hA hW
      replace hRxc_0 := hRxc_0.mono hxj17.1
      replace hRxc_1 := hRxc_1.mono hxj17.1
      replace hRxc_2 := hRxc_2.mono hxj17.1
      replace hRxc_3 := hRxc_3.mono hxj17.1
      replace hRxc_4 := hRxc_4.mono hxj17.1
      replace hLxc_5 := hLxc_5.mono hxj17.1
      replace hMxc_8 := hMxc_8.mono hxj17.1
      refine Ok.ret ?_
      refine Ok.thenR ?_
      exact Ok.resH (vs := []) (.inl rfl) rfl .nil ((hxj4.trans hxj12).trans hxj17) ⟨(xc.1, xc.2.1, xc.2.2.1, xc.2.2.2.1, xc.2.2.2.2.1, (xc.2.2.2.2.2 || (!(samS xs (ybs6_0j12, ybs6_1j12))))), axc_0, cxc_0, axc_1, cxc_1, axc_2, cxc_2, axc_3, cxc_3, axc_4, cxc_4, esxc_8, ckxc_8, axc_5, cxc_5, xsxc_5, rfl, hRxc_0, hRxc_1, hRxc_2, hRxc_3, hRxc_4, hMxc_8, hLxc_5, rfl, hF⟩
    ·replace hF := hF.2 hc3
     refine Ok.skip ?_
     refine Ok.thenN ?_
     refine Ok.seq ?_
     refine Ok.mix [] [] [.blk bs6 (.cells #[.int .i64 ybs6_0j12, .slice aybs6_1j12 ybs6_1j12.length cybs6_1j12] 42), .blk bs5 (.cells #[.int .i64 xs.1, .slice axs_0 xs.2.length cxs_0] 42), .blk bxc (.cells #[.slice axc_0 xc.1.1.length cxc_0, .slice axc_1 xc.1.2.1.length cxc_1, .slice axc_2 xc.1.2.2.length cxc_2, .int .i64 xc.2.1.1, .int .i64 xc.2.1.2.1, .slice axc_3 xc.2.1.2.2.1.length cxc_3, .slice axc_4 xc.2.1.2.2.2.length cxc_4, .int .i64 xc.2.2.1, .map (some bmxc_8), .slice axc_5 xc.2.2.2.2.1.length cxc_5, .bool xc.2.2.2.2.2] 37), .own (.slice axc_5 xc.2.2.2.2.1.length cxc_5) 3 1 xc.2.2.2.2.1.length xsxc_5] [(0, true), (1, true), (2, true), (3, true), (4, true), (5, true), (6, false)] (by kernel_rfl) (by kernel_rfl) (.cons_cons _ (.cons_cons _ (.cons_cons _ (.cons _ (.cons_cons _ .slnil))))) ?_
     refine OkM.batch 3 [(0, .pointer (some ⟨bxc, 0, none⟩)), (1, .int .i64 xat), (5, .pointer (some ⟨bs5, 0, none⟩)), (53, .pointer (some ⟨bxc, 8, none⟩))] (by kernel_rfl) ?_
     refine OkM.head rfl rfl (show _ = [.blk bs6 (.cells #[.int .i64 ybs6_0j12, .slice aybs6_1j12 ybs6_1j12.length cybs6_1j12] 42), .blk bs5 (.cells #[.int .i64 xs.1, .slice axs_0 xs.2.length cxs_0] 42), .blk bxc (.cells #[.slice axc_0 xc.1.1.length cxc_0, .slice axc_1 xc.1.2.1.length cxc_1, .slice axc_2 xc.1.2.2.length cxc_2, .int .i64 xc.2.1.1, .int .i64 xc.2.1.2.1, .slice axc_3 xc.2.1.2.2.1.length cxc_3, .slice axc_4 xc.2.1.2.2.2.length cxc_4, .int .i64 xc.2.2.1, .map (some bmxc_8), .slice axc_5 xc.2.2.2.2.1.length cxc_5, .bool xc.2.2.2.2.2] 37), .own (.slice axc_5 xc.2.2.2.2.1.length cxc_5) 3 1 xc.2.2.2.2.1.length xsxc_5] from rfl) (OpQ.step (v := .map (some bmxc_8)) (Yields.load 2 rfl rfl Tryd.underlying35 rfl (by kernel_rfl)) rfl rfl ?_)
     refine OkM.batch 1 [(0, .pointer (some ⟨bxc, 0, none⟩)), (1, .int .i64 xat), (5, .pointer (some ⟨bs5, 0, none⟩)), (54, .map (some bmxc_8)), (55, .int .i64 xat)] (by kernel_rfl) ?_
     refine OkM.head rfl rfl (show _ = [.blk bs6 (.cells #[.int .i64 ybs6_0j12, .slice aybs6_1j12 ybs6_1j12.length cybs6_1j12] 42), .blk bs5 (.cells #[.int .i64 xs.1, .slice axs_0 xs.2.length cxs_0] 42), .blk bxc (.cells #[.slice axc_0 xc.1.1.length cxc_0, .slice axc_1 xc.1.2.1.length cxc_1, .slice axc_2 xc.1.2.2.length cxc_2, .int .i64 xc.2.1.1, .int .i64 xc.2.1.2.1, .slice axc_3 xc.2.1.2.2.1.length cxc_3, .slice axc_4 xc.2.1.2.2.2.length cxc_4, .int .i64 xc.2.2.1, .map (some bmxc_8), .slice axc_5 xc.2.2.2.2.1.length cxc_5, .bool xc.2.2.2.2.2] 37), .own (.slice axc_5 xc.2.2.2.2.1.length cxc_5) 3 1 xc.2.2.2.2.1.length xsxc_5] from rfl) (OpQ.step (v := .agg #[.int .i64 xs.1, .slice axs_0 xs.2.length cxs_0]) (Yields.loadAgg 1 2 #[.int .i64 xs.1, .slice axs_0 xs.2.length cxs_0] rfl rfl Tryd.underlying42 rfl (by kernel_rfl) (by kernel_rfl) (by kernel_rfl)) rfl rfl ?_)
     refine OkM.tail rfl rfl (OpOk.mapUpdateA (vt := .pair (.int .i64) (.slice (.int .i64))) (row := true) (cells := [.int .i64 xs.1, .slice axs_0 xs.2.length cxs_0]) (y := xs) keyInt 3 rfl hMxc_8 rfl rfl rfl Tryd.underlying35 Tryd.underlying3 rfl ⟨[.int .i64 xs.1], [.slice axs_0 xs.2.length cxs_0], rfl, rfl, hRxs_0⟩ fun es6 ck6 hM6 => ?_)
     refine OkM.leaf (i := 6) (show _ = [.blk bs6 (.cells #[.int .i64 ybs6_0j12, .slice aybs6_1j12 ybs6_1j12.length cybs6_1j12] 42), .blk bs5 (.cells #[.int .i64 xs.1, .slice axs_0 xs.2.length cxs_0] 42), .blk bxc (.cells #[.slice axc_0 xc.1.1.length cxc_0, .slice axc_1 xc.1.2.1.length cxc_1, .slice axc_2 xc.1.2.2.length cxc_2, .int .i64 xc.2.1.1, .int .i64 xc.2.1.2.1, .slice axc_3 xc.2.1.2.2.1.length cxc_3, .slice axc_4 xc.2.1.2.2.2.length cxc_4, .int .i64 xc.2.2.1, .map (some bmxc_8), .slice axc_5 xc.2.2.2.2.1.length cxc_5, .bool xc.2.2.2.2.2] 37), .own (.slice axc_5 xc.2.2.2.2.1.length cxc_5) 3 1 xc.2.2.2.2.1.length xsxc_5] from rfl) (Gle.refl _) (.cons_cons _ (.cons_cons _ (.cons_cons _ (.cons _ (.cons_cons _ .slnil))))) ?_
     refine OkM.nil ?_
     refine Ok.thenN ?_
     refine Ok.region ?_
     refine Ok.batch 4 [(1, .int .i64 xat), (57, .pointer (some ⟨bxc, 0, none⟩)), (60, .pointer (some ⟨bxc, 9, none⟩))] (by kernel_rfl) ?_
     refine Ok.op rfl (OpOk.step (v := .slice axc_5 xc.2.2.2.2.1.length cxc_5) (Yields.load 2 rfl rfl Tryd.underlying30 rfl (by kernel_rfl)) rfl rfl ?_)
     refine Ok.batch 1 [(57, .pointer (some ⟨bxc, 0, none⟩)), (61, .slice axc_5 xc.2.2.2.2.1.length cxc_5), (62, .int .i64 xat)] (by kernel_rfl) ?_
     have hL7 : RepL gj12 (.int .i64) ([.int .i64 xat] : List Value) ([xat] : List (Int)) := (RepL.consN (c := [.int .i64 xat]) rfl rfl)
     refine Ok.op rfl (OpOk.lit (E := 3) (.int .i64) ([xat] : List (Int)) ([.int .i64 xat] : List Value) (by kernel_rfl) (by kernel_rfl) rfl (by kernel_rfl) hL7 rfl fun b7 => ?_)
     obtain ⟨hb8, hF⟩ := hF
     refine Ok.op rfl (OpOk.append' (e := .int .i64) 8 17592186044416 5 0 rfl rfl rfl rfl hLxc_5 hL7 Tryd.underlying30 (by kernel_rfl) (by kernel_rfl) (by kernel_rfl) hb8 rfl fun a8 c8 xs8 hL8 => ?_)
     refine Ok.batch 2 [(64, .slice a8 (xc.2.2.2.2.1 ++ ([xat] : List (Int))).length c8), (66, .pointer (some ⟨bxc, 9, none⟩))] (by kernel_rfl) ?_
     refine Ok.op rfl (OpOk.store (k := 1) (v := .slice a8 (xc.2.2.2.2.1 ++ ([xat] : List (Int))).length c8) (H' := [.own (.slice (some ⟨b7, 0, none⟩) ([xat] : List (Int)).length 1) 3 1 ([xat] : List (Int)).length ([.int .i64 xat] : List Value), .blk bs6 (.cells #[.int .i64 ybs6_0j12, .slice aybs6_1j12 ybs6_1j12.length cybs6_1j12] 42), .blk bs5 (.cells #[.int .i64 xs.1, .slice axs_0 xs.2.length cxs_0] 42), .blk bxc (.cells #[.slice axc_0 xc.1.1.length cxc_0, .slice axc_1 xc.1.2.1.length cxc_1, .slice axc_2 xc.1.2.2.length cxc_2, .int .i64 xc.2.1.1, .int .i64 xc.2.1.2.1, .slice axc_3 xc.2.1.2.2.1.length cxc_3, .slice axc_4 xc.2.1.2.2.2.length cxc_4, .int .i64 xc.2.2.1, .map (some bmxc_8), .slice a8 (xc.2.2.2.2.1 ++ ([xat] : List (Int))).length c8, .bool xc.2.2.2.2.2] 37), .blk bmxc_8 (.map es6 ck6), .own (.slice a8 (xc.2.2.2.2.1 ++ ([xat] : List (Int))).length c8) 3 1 (xc.2.2.2.2.1 ++ ([xat] : List (Int))).length xs8]) 3 rfl rfl rfl (by kernel_rfl) (by kernel_rfl) (by kernel_rfl) (by kernel_rfl) (by kernel_rfl) ?_)
     refine Ok.nil ?_
     exact Ok.resP (vs := []) [3, 4, 5] [.blk bxc (.cells #[.slice axc_0 xc.1.1.length cxc_0, .slice axc_1 xc.1.2.1.length cxc_1, .slice axc_2 xc.1.2.2.length cxc_2, .int .i64 xc.2.1.1, .int .i64 xc.2.1.2.1, .slice axc_3 xc.2.1.2.2.1.length cxc_3, .slice axc_4 xc.2.1.2.2.2.length cxc_4, .int .i64 xc.2.2.1, .map (some bmxc_8), .slice a8 (xc.2.2.2.2.1 ++ ([xat] : List (Int))).length c8, .bool xc.2.2.2.2.2] 37), .blk bmxc_8 (.map es6 ck6), .own (.slice a8 (xc.2.2.2.2.1 ++ ([xat] : List (Int))).length c8) 3 1 (xc.2.2.2.2.1 ++ ([xat] : List (Int))).length xs8] (by decide) rfl (.inr rfl) rfl .nil (hxj4.trans hxj12) ⟨(xc.1, xc.2.1, xc.2.2.1, (putK xat xs xc.2.2.2.1), (xc.2.2.2.2.1 ++ ([xat] : List (Int))), xc.2.2.2.2.2), axc_0, cxc_0, axc_1, cxc_1, axc_2, cxc_2, axc_3, cxc_3, axc_4, cxc_4, es6, ck6, a8, c8, xs8, rfl, hRxc_0, hRxc_1, hRxc_2, hRxc_3, hRxc_4, hM6, hL8, rfl, hF⟩
abbrev ST := Int × List Int
/-- what is seen has no long rows -/
def seenOk (m : List (Int × ST)) : Prop := ∀ k e, assocK k m = some e → e.2.length ≤ 100000
def rchP (c : CK) (_ : Int) (s : ST) : Prop := c.2.2.2.2.1.length ≤ 1000000 ∧ s.2.length ≤ 100000 ∧ seenOk c.2.2.2.1
def rchS (c : CK) (a : Int) (s : ST) : CK :=
 if rchV0 c a s = true then (c.1, c.2.1, c.2.2.1, c.2.2.2.1, c.2.2.2.2.1, true) else
 match assocK a c.2.2.2.1 with
 | some e => (c.1, c.2.1, c.2.2.1, c.2.2.2.1, c.2.2.2.2.1, (c.2.2.2.2.2 || (!(samS s e))))
 | none => (c.1, c.2.1, c.2.2.1, putK a s c.2.2.2.1, c.2.2.2.2.1 ++ [a], c.2.2.2.2.2)
theorem rch_F (c : CK) (a : Int) (s : ST) (hp : rchP c a s) : rchF c a s (fun r => r = rchS c a s) := by
 obtain ⟨h1, h2, h3⟩ := hp
 have h4 : rchj4 c a s (fun r => r = rchS c a s) := by
  refine ⟨fun h => by unfold rchS; rw [if_pos h], fun h => ⟨fun e he => ⟨fun _ => ?_, fun h => by cases h⟩, fun hn => ⟨fun h => (by cases h), fun _ => ⟨?_, ?_⟩⟩⟩⟩
  ·have hj : rchj17 c s (fun r => r = rchS c a s) e.1 e.2 := by
    unfold rchS; rw [h, he]; rfl
   exact ⟨fun _ => hj, fun _ => ⟨⟨by omega, by have := h3 a e he; show e.2.length ≤ _; omega⟩, hj⟩⟩
  ·rw [List.length_append]; simp only [List.length_cons, List.length_nil]; omega
  ·unfold rchS; rw [h, hn]; rfl
 unfold rchF
 repeat' (first | exact h4 | refine ⟨fun _ => ?_, fun _ => ?_⟩)
set_option linter.unusedVariables false in
theorem rch_c {g : Ghost} {bxc : Nat} {axc_0 : Option Addr} {cxc_0 : Nat} {axc_1 : Option Addr} {cxc_1 : Nat} {axc_2 : Option Addr} {cxc_2 : Nat} {axc_3 : Option Addr} {cxc_3 : Nat} {axc_4 : Option Addr} {cxc_4 : Nat} {bmxc_8 : Nat} {esxc_8 : Array MapEntry} {ckxc_8 : Nat} {axc_5 : Option Addr} {cxc_5 : Nat} {xsxc_5 : List Value} (xc : ((List (Int × Int × List (Int) × List (Int × Int))) × (List (Int × Int × List UInt8)) × List (List (List UInt8))) × (Int × Int × List (Int) × List (Int × Int)) × Int × (List ((Int) × (Int × List (Int)))) × List (Int) × Bool) (xat : Int) {axs_0 : Option Addr} {cxs_0 : Nat} (xs : Int × List (Int)) (hRxc_0 : Rep g (.slice (.pair (.int .i64) (.pair (.int .i64) (.pair (.slice (.int .i64)) (.slice (.pair (.int .i64) (.int .i64))))))) [.slice axc_0 xc.1.1.length cxc_0] xc.1.1) (hRxc_1 : Rep g (.slice (.pair (.int .i64) (.pair (.int .i64) (.str)))) [.slice axc_1 xc.1.2.1.length cxc_1] xc.1.2.1) (hRxc_2 : Rep g (.slice (.slice (.str))) [.slice axc_2 xc.1.2.2.length cxc_2] xc.1.2.2) (hRxc_3 : Rep g (.slice (.int .i64)) [.slice axc_3 xc.2.1.2.2.1.length cxc_3] xc.2.1.2.2.1) (hRxc_4 : Rep g (.slice (.pair (.int .i64) (.int .i64))) [.slice axc_4 xc.2.1.2.2.2.length cxc_4] xc.2.1.2.2.2) (hMxc_8 : RepMapA g (.pair (.int .i64) (.slice (.int .i64))) true (Value.int .i64) esxc_8 ckxc_8 xc.2.2.2.1) (hLxc_5 : RepL g (.int .i64) xsxc_5 xc.2.2.2.2.1) (hRxs_0 : Rep g (.slice (.int .i64)) [.slice axs_0 xs.2.length cxs_0] xs.2)  (hp : rchP xc xat xs) : CallsH Tryd.prog 9 #[.pointer (some ⟨bxc, 0, none⟩), .int .i64 xat, .agg #[.int .i64 xs.1, .slice axs_0 xs.2.length cxs_0]] g [.blk bxc (.cells #[.slice axc_0 xc.1.1.length cxc_0, .slice axc_1 xc.1.2.1.length cxc_1, .slice axc_2 xc.1.2.2.length cxc_2, .int .i64 xc.2.1.1, .int .i64 xc.2.1.2.1, .slice axc_3 xc.2.1.2.2.1.length cxc_3, .slice axc_4 xc.2.1.2.2.2.length cxc_4, .int .i64 xc.2.2.1, .map (some bmxc_8), .slice axc_5 xc.2.2.2.2.1.length cxc_5, .bool xc.2.2.2.2.2] 37), .blk bmxc_8 (.map esxc_8 ckxc_8), .own (.slice axc_5 xc.2.2.2.2.1.length cxc_5) 3 1 xc.2.2.2.2.1.length xsxc_5] (fun g' H' v => ∃ (afxc_0 : Option Addr) (cfxc_0 : Nat), ∃ (afxc_1 : Option Addr) (cfxc_1 : Nat), ∃ (afxc_2 : Option Addr) (cfxc_2 : Nat), ∃ (afxc_3 : Option Addr) (cfxc_3 : Nat), ∃ (afxc_4 : Option Addr) (cfxc_4 : Nat), ∃ (esfxc_8 : Array MapEntry) (ckfxc_8 : Nat), ∃ (afxc_5 : Option Addr) (cfxc_5 : Nat) (xsfxc_5 : List Value), v = .tuple #[] ∧ Rep g' (.slice (.pair (.int .i64) (.pair (.int .i64) (.pair (.slice (.int .i64)) (.slice (.pair (.int .i64) (.int .i64))))))) [.slice afxc_0 (rchS xc xat xs).1.1.length cfxc_0] (rchS xc xat xs).1.1 ∧ Rep g' (.slice (.pair (.int .i64) (.pair (.int .i64) (.str)))) [.slice afxc_1 (rchS xc xat xs).1.2.1.length cfxc_1] (rchS xc xat xs).1.2.1 ∧ Rep g' (.slice (.slice (.str))) [.slice afxc_2 (rchS xc xat xs).1.2.2.length cfxc_2] (rchS xc xat xs).1.2.2 ∧ Rep g' (.slice (.int .i64)) [.slice afxc_3 (rchS xc xat xs).2.1.2.2.1.length cfxc_3] (rchS xc xat xs).2.1.2.2.1 ∧ Rep g' (.slice (.pair (.int .i64) (.int .i64))) [.slice afxc_4 (rchS xc xat xs).2.1.2.2.2.length cfxc_4] (rchS xc xat xs).2.1.2.2.2 ∧ RepMapA g' (.pair (.int .i64) (.slice (.int .i64))) true (Value.int .i64) esfxc_8 ckfxc_8 (rchS xc xat xs).2.2.2.1 ∧ RepL g' (.int .i64) xsfxc_5 (rchS xc xat xs).2.2.2.2.1 ∧ H' = [.blk bxc (.cells #[.slice afxc_0 (rchS xc xat xs).1.1.length cfxc_0, .slice afxc_1 (rchS xc xat xs).1.2.1.length cfxc_1, .slice afxc_2 (rchS xc xat xs).1.2.2.length cfxc_2, .int .i64 (rchS xc xat xs).2.1.1, .int .i64 (rchS xc xat xs).2.1.2.1, .slice afxc_3 (rchS xc xat xs).2.1.2.2.1.length cfxc_3, .slice afxc_4 (rchS xc xat xs).2.1.2.2.2.length cfxc_4, .int .i64 (rchS xc xat xs).2.2.1, .map (some bmxc_8), .slice afxc_5 (rchS xc xat xs).2.2.2.2.1.length cfxc_5, .bool (rchS xc xat xs).2.2.2.2.2] 37), .blk bmxc_8 (.map esfxc_8 ckfxc_8), .own (.slice afxc_5 (rchS xc xat xs).2.2.2.2.1.length cfxc_5) 3 1 (rchS xc xat xs).2.2.2.2.1.length xsfxc_5]) :=
 (rch_ok xc xat xs hRxc_0 hRxc_1 hRxc_2 hRxc_3 hRxc_4 hMxc_8 hLxc_5 hRxs_0 _ (rch_F xc xat xs hp)).mono (by rintro g' H' v _ ⟨fxc, afxc_0, cfxc_0, afxc_1, cfxc_1, afxc_2, cfxc_2, afxc_3, cfxc_3, afxc_4, cfxc_4, esfxc_8, ckfxc_8, afxc_5, cfxc_5, xsfxc_5, rfl, hRfxc_0, hRfxc_1, hRfxc_2, hRfxc_3, hRfxc_4, hMfxc_8, hLfxc_5, rfl, hK⟩; subst hK; exact ⟨afxc_0, cfxc_0, afxc_1, cfxc_1, afxc_2, cfxc_2, afxc_3, cfxc_3, afxc_4, cfxc_4, esfxc_8, ckfxc_8, afxc_5, cfxc_5, xsfxc_5, rfl, hRfxc_0, hRfxc_1, hRfxc_2, hRfxc_3, hRfxc_4, hMfxc_8, hLfxc_5, rfl⟩)
end
end Go.Proofs.YtanhbfhpnjjgcaaDoor.Cc
