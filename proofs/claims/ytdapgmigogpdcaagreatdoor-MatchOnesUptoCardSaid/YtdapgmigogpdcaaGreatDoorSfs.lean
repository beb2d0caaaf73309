/- SelectChecks: the law. -/
import Derived.Test.YtdapgmigogpdcaaGreatDoorSfr
namespace Go.Proofs.YtdapgmigogpdcaaGreatDoor.Se
open Go Go.Eng Go.RowKit Bld Trm Css Tk Ti
set_option linter.unusedVariables false
set_option linter.unusedSimpArgs false
theorem bt_wf {z:Int} (h:(Lit.int .u8 z).wf=true):btN z:=by
 have h1:IntKind.u8.min≤z∧z≤IntKind.u8.max:=by simpa [Lit.wf] using h
 have h2:IntKind.u8.min=0:=rfl
 have h3:IntKind.u8.max=255:=rfl
 exact ⟨by omega,by omega⟩
theorem okB_dom:∀ t:Ts,Dom yS t→okB t:=by
 refine Tst.ind ?_
 intro x l ih hd
 have hd:=Tst.all_mk.1 hd
 refine Tst.all_mk.2 ⟨⟨bt_wf hd.1.1.2.2.1,fun q hq z hz=>bt_wf ((hd.1.2.2 q hq).2.2 z hz)⟩,fun q hq s hs k hk=>ih q hq s hs k hk (hd.2 q hq s hs k hk)⟩
end Go.Proofs.YtdapgmigogpdcaaGreatDoor.Se
