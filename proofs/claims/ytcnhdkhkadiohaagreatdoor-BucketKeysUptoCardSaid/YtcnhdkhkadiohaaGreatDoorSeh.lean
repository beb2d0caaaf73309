/- selector: what is wrong with a selector. -/
import Derived.Test.YtcnhdkhkadiohaaGreatDoorSeg
namespace Go.Proofs.YtcnhdkhkadiohaaGreatDoor.Se
open Go Go.Eng Go.RowKit Bld Trm Css Tk Ti
set_option maxHeartbeats 4000000
set_option maxRecDepth 100000
set_option linter.unusedSimpArgs false
set_option linter.unusedVariables false
def chkF (xl : List PH) (K : Int → Prop) : Prop :=
 tssPE xl 0 ∧ ((!((tssS xl 0).2)) = true → K 2) ∧ ((!((tssS xl 0).2)) = false → ptsPE xl ∧ ((!(ptsS xl)) = true → K 3) ∧ ((!(ptsS xl)) = false → K 0))
theorem chk_ok {g : Ghost} {axl_0 : Option Addr} {cxl_0 : Nat} (xl : List PH) (hRxl_0 : Rep g (.slice yP) [.slice axl_0 xl.length cxl_0] xl) (hG0 : SomeInt g 0) (K : Int → Prop)
  (hF : chkF xl K) : CallsH Tryz.prog 20 #[.slice axl_0 xl.length cxl_0] g [] (fun g' H' v => ∃ (r0 : Int), v = iv r0 ∧ H' = [] ∧ K r0) := by
 refine CallsH.enter 15 [(0, .slice axl_0 xl.length cxl_0)] Tryz.func20 rfl kr kr kr fun w0 => ?_
 refine Ok.sr ((Ok.B 1 [(0, .slice axl_0 xl.length cxl_0)] kr (Ok.nt ((Ok.q (Ok.sr ((Ok.b 1 [0] [(6, .slice axl_0 xl.length cxl_0)] ?_))))))))
 obtain ⟨hp1, hF⟩ := hF
 refine Ok.op rfl (OpOk.f enr (fun W hW => tss_c xl 0 (hRxl_0.mono hW.sees) hp1) rfl ?_)
 refine Ok.b 5 [0] [(4, .bool (tssS xl 0).2)] ?_
 refine Ok.nt ((Ok.sr ((Ok.b 2 [0] [(11, .bool (!((tssS xl 0).2)))] ?_))))
 refine Ok.nt ((Ok.cn hF rfl (fun hc2 => ?_) (fun hc2 => ?_)))
 ·replace hF := hF.1 hc2
  refine Ok.sr ((Ok.B 1 [(2, iv 2)] kr (Ok.nt ((Ok.ret (Ok.tr ?_))))))
  exact Ok.resH (vs := [iv 2]) (.inl rfl) rfl (.cons (.tmp rfl) .nil) (Gext.r w0 g) ⟨2, rfl, rfl, hF⟩
 replace hF := hF.2 hc2
 refine Ok.k (Ok.t (Ok.q (Ok.sr ((Ok.B 1 [(12, .slice axl_0 xl.length cxl_0)] kr ?_)))))
 obtain ⟨hp3, hF⟩ := hF
 refine Ok.op rfl (OpOk.f enr (fun W hW => pts_c xl (hRxl_0.mono hW.sees) (hG0.mono hW.sees) hp3) rfl ?_)
 refine Ok.B 1 [(14, .bool (!(ptsS xl)))] kr (Ok.nt ((Ok.cn hF rfl (fun hc4 => ?_) (fun hc4 => ?_))))
 ·replace hF := hF.1 hc4
  refine Ok.sr ((Ok.B 1 [(2, iv 3)] kr (Ok.nt ((Ok.ret (Ok.tr ?_))))))
  exact Ok.resH (vs := [iv 3]) (.inl rfl) rfl (.cons (.tmp rfl) .nil) (Gext.r w0 g) ⟨3, rfl, rfl, hF⟩
 replace hF := hF.2 hc4
 refine Ok.k (Ok.t (Ok.sr ((Ok.B 1 [(2, iv 0)] kr (Ok.nt ((Ok.ret ?_)))))))
 exact Ok.resH (vs := [iv 0]) (.inl rfl) rfl (.cons (.tmp rfl) .nil) (Gext.r w0 g) ⟨0, rfl, rfl, hF⟩
def chkS (l : List Ph) : Int := if (!((ts3 l 0 0).2)) = true then 2 else if (!(ptsS l)) = true then 3 else 0
def chkP (l : List Ph) : Prop := b3 l ≤ 1048600 ∧ okB3 l
theorem tssE {l : List Ph} (h : chkP l) : tssPE l 0 := ⟨b3 l + 1, by omega, h.1, by omega, by have := h.1; omega⟩
theorem ptsE {l : List Ph} (h : chkP l) : ptsPE l := ⟨b3 l + 1, by omega, h.1, h.2⟩
theorem chk_F (l : List Ph) (h : chkP l) : chkF l (fun r => r = chkS l) := by
 have e : ∀ b, (!((tssS l 0).2)) = b → (!((ts3 l 0 0).2)) = b := fun b h => h
 refine ⟨tssE h, fun h1 => ?_, fun h1 => ⟨ptsE h, fun h2 => ?_, fun h2 => ?_⟩⟩
 ·unfold chkS; rw [if_t (e _ h1)]
 ·unfold chkS; rw [if_f (e _ h1), if_t h2]
 unfold chkS; rw [if_f (e _ h1), if_f h2]
theorem chk_c {g : Ghost} {axl_0 : Option Addr} {cxl_0 : Nat} (xl : List PH) (hRxl_0 : Rep g (.slice yP) [.slice axl_0 xl.length cxl_0] xl) (hG0 : SomeInt g 0)  (hp : chkP xl) : CallsG Tryz.prog 20 #[.slice axl_0 xl.length cxl_0] g (iv (chkS xl)) :=
 (chk_ok xl hRxl_0 hG0 _ (chk_F xl hp)).gives (by rintro g' H' v _ ⟨r0, rfl, rfl, hK⟩; subst hK; rfl)
end Go.Proofs.YtcnhdkhkadiohaaGreatDoor.Se
