/- SelectChecks: the law. -/
import Derived.Test.YtcnhdkhkadiohaaGreatDoorSfr
namespace Go.Proofs.YtcnhdkhkadiohaaGreatDoor.Se
open Go Go.Eng Go.RowKit Bld Trm Css Tk Ti
set_option linter.unusedVariables false
theorem bt_wf {z : Int} (h : (Lit.int .u8 z).wf = true) : btN z := by
 have h1 : IntKind.u8.min ≤ z ∧ z ≤ IntKind.u8.max := by simpa [Lit.wf] using h
 have h2 : IntKind.u8.min = 0 := rfl
 have h3 : IntKind.u8.max = 255 := rfl
 exact ⟨by omega, by omega⟩
theorem okB_dom : ∀ t : Ts, Dom yS t → okB t := by
 refine Tst.ind ?_
 intro x l ih hd
 have hd := Tst.all_mk.1 hd
 refine Tst.all_mk.2 ⟨⟨bt_wf hd.1.1.2.2.1, fun q hq z hz => bt_wf ((hd.1.2.2 q hq).2.2 z hz)⟩, fun q hq s hs k hk => ih q hq s hs k hk (hd.2 q hq s hs k hk)⟩
theorem okB3_dom {l : List Ph} (h : Dom (.slice yP) l) : okB3 l := fun q hq =>
 ⟨fun z hz => bt_wf ((h.2 q hq).2.2 z hz), fun s hs t ht => okB_dom t (((h.2 q hq).1.2 s hs).2 t ht)⟩
theorem chkU {l : List Ph} (h : DomU (.slice yP) l) : chkP l := ⟨Nat.le_trans h.2 dc, okB3_dom h.1.1⟩
end Go.Proofs.YtcnhdkhkadiohaaGreatDoor.Se
