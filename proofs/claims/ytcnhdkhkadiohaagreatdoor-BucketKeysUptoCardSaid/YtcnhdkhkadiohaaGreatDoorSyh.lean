/- selector: Text; what it tells is read back. -/
import Derived.Test.YtcnhdkhkadiohaaGreatDoorSta
import Derived.Test.YtcnhdkhkadiohaaGreatDoorSyg
namespace Go.Proofs.YtcnhdkhkadiohaaGreatDoor.Se
open Go Go.Eng Go.RowKit Bld Trm Css Tk Ti Me Rp Qu
set_option maxHeartbeats 4000000
set_option maxRecDepth 100000
set_option linter.unusedSimpArgs false
set_option linter.unusedVariables false
def sxtF (xl : List PH) (K : Bs → Int → Prop) : Prop :=
 chkP xl ∧ ((((chkS xl) != 0)) = true → K ([] : Bs) (chkS xl)) ∧ ((((chkS xl) != 0)) = false → stxPE xl ∧ ((decide (((tx3 xl).length : Int) > 400)) = true → K ([] : Bs) 2) ∧ ((decide (((tx3 xl).length : Int) > 400)) = false → K (tx3 xl) 0))
theorem sxt_ok {g : Ghost} {axl_0 : Option Addr} {cxl_0 : Nat} (xl : List PH) (hRxl_0 : Rep g (.slice yP) [.slice axl_0 xl.length cxl_0] xl) (hG0 : SomeInt g 0) (hG3 : GlobL g 3 (.int .u64) DPow) (K : Bs → Int → Prop)
  (hF : sxtF xl K) : CallsH Tryz.prog 12 #[.slice axl_0 xl.length cxl_0] g [] (fun g' H' v => ∃ (r0 : Bs), ∃ (r1 : Int), v = .tuple #[sv r0, iv r1] ∧ H' = [] ∧ K r0 r1) := by
 refine CallsH.enter 17 [(0, .slice axl_0 xl.length cxl_0)] Tryz.func12 rfl kr kr kr fun w0 => ?_
 refine Ok.sr ((Ok.B 2 [(0, .slice axl_0 xl.length cxl_0)] kr (Ok.nt ((Ok.q (Ok.sr ((Ok.b 1 [0] [(6, .slice axl_0 xl.length cxl_0)] ?_))))))))
 obtain ⟨hp1, hF⟩ := hF
 refine Ok.op rfl (OpOk.f enr (fun W hW => chk_c xl (hRxl_0.mono hW.sees) (hG0.mono hW.sees) hp1) rfl ?_)
 refine Ok.b 1 [0] [(4, iv (chkS xl))] ?_
 refine Ok.nt ((Ok.sr ((Ok.b 2 [0, 4] [(9, .bool ((chkS xl) != 0))] ?_))))
 refine Ok.nt ((Ok.cn hF rfl (fun hc2 => ?_) (fun hc2 => ?_)))
 ·replace hF := hF.1 hc2
  refine Ok.sr ((Ok.B 3 [(2, sv ([] : Bs)), (3, iv (chkS xl))] kr (Ok.nt ((Ok.ret (Ok.tr ?_))))))
  exact Ok.resH (vs := [sv ([] : Bs), iv (chkS xl)]) (.inl rfl) rfl (.cons (.tmp rfl) (.cons (.tmp rfl) .nil)) (Gext.r w0 g) ⟨([] : Bs), (chkS xl), rfl, rfl, hF⟩
 replace hF := hF.2 hc2
 refine Ok.k (Ok.t (Ok.sr ((Ok.B 1 [(11, .slice axl_0 xl.length cxl_0)] kr ?_))))
 obtain ⟨hp3, hF⟩ := hF
 refine Ok.op rfl (OpOk.f enr (fun W hW => stx_c xl (hRxl_0.mono hW.sees) (hG3.mono hW.sees) hp3) rfl ?_)
 refine Ok.B 1 [(5, sv (tx3 xl))] kr (Ok.nt ((Ok.q (Ok.sr ((Ok.b 3 [5] [(15, .bool (decide (((tx3 xl).length : Int) > 400)))] ?_))))))
 refine Ok.nt ((Ok.cn hF rfl (fun hc4 => ?_) (fun hc4 => ?_)))
 ·replace hF := hF.1 hc4
  refine Ok.sr ((Ok.B 2 [(2, sv ([] : Bs)), (3, iv 2)] kr (Ok.nt ((Ok.ret (Ok.tr ?_))))))
  exact Ok.resH (vs := [sv ([] : Bs), iv 2]) (.inl rfl) rfl (.cons (.tmp rfl) (.cons (.tmp rfl) .nil)) (Gext.r w0 g) ⟨([] : Bs), 2, rfl, rfl, hF⟩
 replace hF := hF.2 hc4
 refine Ok.k (Ok.t (Ok.sr ((Ok.B 3 [(2, sv (tx3 xl)), (3, iv 0)] kr (Ok.nt ((Ok.ret ?_)))))))
 exact Ok.resH (vs := [sv (tx3 xl), iv 0]) (.inl rfl) rfl (.cons (.tmp rfl) (.cons (.tmp rfl) .nil)) (Gext.r w0 g) ⟨(tx3 xl), 0, rfl, rfl, hF⟩
def sxtS (l : List Ph) : Bs × Int := if (chkS l != 0) = true then ([], chkS l) else if decide (((tx3 l).length : Int) > 400) = true then ([], 2) else (tx3 l, 0)
theorem chk_ok3 {l : List Ph} (h : chkS l = 0) : ok3 l = true ∧ l ≠ [] := by
 unfold chkS at h
 split at h
 ·cases h
 split at h
 ·cases h
 rename_i h2
 simp only [ptsS, Bool.not_eq_true', Bool.and_eq_false_iff, not_or, Bool.not_eq_false, decide_eq_true_eq] at h2
 refine ⟨h2.1, fun e => ?_⟩
 have := h2.2
 rw [e] at this
 simp at this
theorem stx_at {l : List Ph} (hp : chkP l) (h : chkS l = 0) : stxPE l := ⟨b3 l + 1, by omega, hp.1, hp.2, (chk_ok3 h).1⟩
theorem sxt_F (l : List Ph) (hp : chkP l) : sxtF l (fun r e => (r, e) = sxtS l) := by
 unfold sxtS
 refine ⟨hp, fun h => by rw [if_t h], fun h => ⟨stx_at hp (by simpa using h), fun h2 => ?_, fun h2 => ?_⟩⟩
 ·rw [if_f h, if_t h2]
 rw [if_f h, if_f h2]
theorem sxt_c {g : Ghost} {axl_0 : Option Addr} {cxl_0 : Nat} (xl : List PH) (hRxl_0 : Rep g (.slice yP) [.slice axl_0 xl.length cxl_0] xl) (hG0 : SomeInt g 0) (hG3 : GlobL g 3 (.int .u64) DPow)  (hp : chkP xl) : CallsG Tryz.prog 12 #[.slice axl_0 xl.length cxl_0] g (.tuple #[sv ((sxtS xl).1), iv (sxtS xl).2]) :=
 (sxt_ok xl hRxl_0 hG0 hG3 _ (sxt_F xl hp)).gives (by rintro g' H' v _ ⟨r0, r1, rfl, rfl, hK⟩; obtain ⟨rfl, rfl⟩ : r0 = (sxtS xl).1 ∧ r1 = (sxtS xl).2 := ⟨congrArg (fun z => z.1) hK, congrArg (fun z => z.2) hK⟩; rfl)
theorem sxt_told {l : List Ph} (hp : chkP l) (h : (sxtS l).2 = 0) : Told l ∧ sxtS l = (tx3 l, 0) := by
 unfold sxtS at h ⊢
 by_cases h1 : (chkS l != 0) = true
 ·rw [if_pos h1] at h
  exact absurd h (by simpa using h1)
 rw [if_neg h1] at h ⊢
 by_cases h2 : decide (((tx3 l).length : Int) > 400) = true
 ·rw [if_pos h2] at h; exact absurd h dc
 rw [if_neg h2]
 exact ⟨⟨hp, by simpa using h1, by simp at h2; omega⟩, rfl⟩
end Go.Proofs.YtcnhdkhkadiohaaGreatDoor.Se
