/- strings.NewReplacer, sync.Once: the parts. -/
import Derived.Test.YtdapgmigogpdcaaGreatDoorRpc
import Derived.Test.YtdapgmigogpdcaaGreatDoorRnd
import Derived.Handy
import Derived.Defers
import Derived.Tactics
import Derived.Tactics2
import Derived.Laws.Pointers
import Derived.Laws.LoneSync
import Derived.Laws.NewBlocks
import Derived.RegionTactic
import Derived.RegionCalls
import Derived.ChangeAlike
import Derived.Laws.CopyRow
set_option linter.unusedSimpArgs false
set_option linter.unusedVariables false
namespace Go.Proofs.YtdapgmigogpdcaaGreatDoor.Qu
open Go Go.RowKit
open Go.iT
set_option maxHeartbeats 1600000
set_option maxRecDepth 100000
theorem disable (w:World):(callFunc 238 #[]).run Tryz.prog w=.ok (.value (.tuple #[])) w:=run_call_mark0 Tryz.func238 (by kernel_rfl) (by kernel_rfl) (by kernel_rfl) .disable (by kernel_rfl) w
theorem enable (w:World):(callFunc 240 #[]).run Tryz.prog w=.ok (.value (.tuple #[])) w:=run_call_mark0 Tryz.func240 (by kernel_rfl) (by kernel_rfl) (by kernel_rfl) .enable (by kernel_rfl) w
theorem acquire (a:Addr) (w:World):(callFunc 241 #[.pointer (some a)]).run Tryz.prog w=.ok (.value (.tuple #[])) w:=run_call_marked Tryz.func241 (by kernel_rfl) (by kernel_rfl) (by kernel_rfl) .acquire (by kernel_rfl) a w
theorem releaseMerge (a:Addr) (w:World):(callFunc 243 #[.pointer (some a)]).run Tryz.prog w=.ok (.value (.tuple #[])) w:=run_call_marked Tryz.func243 (by kernel_rfl) (by kernel_rfl) (by kernel_rfl) .releaseMerge (by kernel_rfl) a w
theorem Ci (a:Addr) (x:Value) (u:FrameMode) (w:World) (hc:w.cell? a=some x) (hz:w.frozen? a=false) :
  CallsD Tryz.prog 218 #[.pointer (some a),.bool true] u w fun e u' w'=>u'=u∧(e=.returned (.tuple #[])∧w'=w.drew.setCell a (.int .u32 1)):=by
 have hc':w.drew.cell? a=some x:=by go_simp
 have hz':w.drew.frozen? a=false:=by go_simp
 have hst:=run_call_store (P:=Tryz.prog) Tryz.func228 (by kernel_rfl) (by kernel_rfl) (by kernel_rfl) (by kernel_rfl) (k:=.u32) (y:=1) hc' hz'
 go_enter_d Tryz.func218,Tryz.ntmps218
 go_wp2
 go_region_calls
 all_goals (go_end0; exact ⟨rfl,rfl⟩)
theorem unlock_deferred (a:Addr) (u:FrameMode) (w:World) (hc:w.cell? a=some (.int .i32 1)) (hz:w.frozen? a=false) :
  CallsD Tryz.prog 217 #[.pointer (some a)] u w fun e u' w'=>u'=u∧(e=.returned (.tuple #[])∧w'=w.setCell a (.int .i32 0)):=by
 have hd:=disable;have he:=enable;have hr:=releaseMerge;have hadd:=run_call_add (P:=Tryz.prog) Tryz.func244 (by kernel_rfl) (by kernel_rfl) (by kernel_rfl) .i32 (by kernel_rfl) (y:=-1) (s:=0) hc hz (by simp [go_sem]; rfl);have hcv:=run_convert_to_unsafe (P:=Tryz.prog) (src:=268) (dst:=145) Tryz.underlying268 Tryz.underlying145 (by kernel_rfl) hc
 go_enter_d Tryz.func217,Tryz.ntmps217
 go_wp2
 all_goals first | (go_end0; go_wp2; go_end0; exact ⟨rfl,rfl⟩) | (go_end0; exact ⟨rfl,rfl⟩) | exact ⟨rfl,rfl⟩
theorem lock_free (a:Addr) (w:World) (hc:w.cell? a=some (.int .i32 0)) (hz:w.frozen? a=false) :
  Calls Tryz.prog 216 #[.pointer (some a)] w fun e w'=>e=.returned (.tuple #[])∧w'=w.setCell a (.int .i32 1):=by
 have hd:=disable;have he:=enable;have ha:=acquire;have hcas:=run_call_cas_hit (P:=Tryz.prog) Tryz.func239 (by kernel_rfl) (by kernel_rfl) (by kernel_rfl) .i32 (by kernel_rfl) (y:=1) hc hz;have hc':(w.setCell a (.int .i32 1)).cell? a=some (.int .i32 1):=World.cell?_setCell_same w a _ hc;have hcv:=run_convert_to_unsafe (P:=Tryz.prog) (src:=268) (dst:=145) Tryz.underlying268 Tryz.underlying145 (by kernel_rfl) hc'
 go_enter Tryz.func216,Tryz.ntmps216
 go_wp2
 all_goals first | (go_end0; go_wp2; go_end0; exact ⟨rfl,rfl⟩) | (go_end0; exact ⟨rfl,rfl⟩) | exact ⟨rfl,rfl⟩
end Go.Proofs.YtdapgmigogpdcaaGreatDoor.Qu
namespace Go.Proofs.YtdapgmigogpdcaaGreatDoor.Qu
open Go.iT
set_option maxRecDepth 100000
open Go Go.RowKit Go.iT Rp
def once (d m:Int) (r l:Value):Obj:=.cells #[.int .u32 d,.int .i32 m,.int .u32 0,r,l] 195
def lits:List (Bs):=[[92],[92,92],[34],[92,34],[10],[92,10]]
def tab (b:Nat):Value:=.iface 238 (.pointer (some ⟨b,0,none⟩))
theorem alW:afF True:=by
 unfold afF
 repeat' first | exact trivial | apply And.intro | decide | intro _
theorem built {g:ak} {b co:Nat} {ao:Option Addr} (Bo:bE g (.slice .str) [.slice ao 6 co] lits) {W:World} (hW:dm ⟨W,[b]⟩ [.blk b (once 0 1 .nilIface (.slice ao 6 co))] g W) :
  Calls Tryz.prog 174 #[.pointer (some ⟨b,0,none⟩)] W fun e W'=>e=.returned (.tuple #[])∧∃ g' b2,bf ⟨W,[b]⟩ g g'∧oG g' b2∧dm ⟨W,[b]⟩ [.blk b (once 0 1 (tab b2) (.slice none 0 0))] g' W' :=
 (afE (b:=b) Bo True alW W hW).mono fun e W' ⟨v,g',H',he,⟨b2,hv,hH,hT⟩,hx,hS⟩=>⟨by rw [he,hv],g',b2,hx,hT,by rw [hH] at hS; exact hS⟩
theorem slow {g:ak} {b co:Nat} {ao:Option Addr} (Bo:bE g (.slice .str) [.slice ao 6 co] lits) {W:World} (hW:dm ⟨W,[b]⟩ [.blk b (once 0 0 .nilIface (.slice ao 6 co))] g W) :
  Calls Tryz.prog 204 #[.pointer (some ⟨b,0,none⟩),.func (.func 174) #[.pointer (some ⟨b,0,none⟩)] #[]] W fun e W'=>e=.returned (.tuple #[])∧∃ g' b2,bf ⟨W,[b]⟩ g g'∧oG g' b2∧dm ⟨W,[b]⟩ [.blk b (once 1 0 (tab b2) (.slice none 0 0))] g' W':=by
 have hW1:dm ⟨W,[b]⟩ [.blk b (once 0 1 .nilIface (.slice ao 6 co))] g (W.setCell ⟨b,1,none⟩ (.int .i32 1)):=hW.setCell (i:=1) (.int .i32 1);have hl:=run_call_load (P:=Tryz.prog) Tryz.func215 kr kr kr .u32 kr (w:=W.setCell ⟨b,1,none⟩ (.int .i32 1)) (a:=⟨b,0,none⟩) (x:=0) (hW1.cellAt rfl);have hnot:∀ (x:Bool) (w:World),(Op.unary .not (.bool x)).run Tryz.prog w=.ok (.bool (!x)) w:=fun _ _=>rfl;have hc1:=hW.cellAt (i:=1) (v:=.int .i32 0) rfl;have hz1:=hW.LY 1;have hB:=built Bo hW1.ai7
 go_enter_defers Tryz.func204,Tryz.ntmps204
 go_wp2_with (first | (go_at_call 216; refine (lock_free ⟨b,1,none⟩ _ hc1 hz1).mono ?_; rintro e w' ⟨rfl,rfl⟩) | (go_at_call 174; refine hB.mono ?_; rintro e W2 ⟨rfl,g',b2,hx,hT,hS⟩) | (go_at_call 203; go_in))
 show Leaves _ _ _ _ _ .returning _;refine leaves_cons (f:=218) (args:=#[.pointer (some ⟨b,0,none⟩),.bool true]) (by simp) (by simp [go_sem]) ?_;refine (Ci ⟨b,0,none⟩ (.int .u32 0) .returning _ (hS.cellAt rfl) (hS.LY 0)).mono ?_;rintro e u' w'' ⟨rfl,rfl,rfl⟩;have hS2:dm _ [.blk b (once 1 1 (tab b2) (.slice none 0 0))] g' _:=(hS.drew).setCell (i:=0) (.int .u32 1);refine leaves_cons (f:=217) (args:=#[.pointer (some ⟨b,1,none⟩)]) (by simp [settle]) (by simp [go_sem]) ?_;refine (unlock_deferred ⟨b,1,none⟩ _ _ (hS2.cellAt rfl) (hS2.LY 1)).mono ?_;rintro e u' w'' ⟨rfl,rfl,rfl⟩;have hS3:dm _ [.blk b (once 1 0 (tab b2) (.slice none 0 0))] g' _:=hS2.setCell (i:=1) (.int .i32 0);have fin:∃ g' b2,bf ⟨W,[b]⟩ g g'∧oG g' b2∧dm ⟨W,[b]⟩ [.blk b (once 1 0 (tab b2) (.slice none 0 0))] g' ((W2.drew.setCell ⟨b,0,none⟩ (.int .u32 1)).setCell ⟨b,1,none⟩ (.int .i32 0)):=⟨g',b2,hx.Mi hW1.below,hT,hS3.Mi hW1.below⟩;refine ⟨_,by simp [settle,results,Tryz.results204],rfl,fin⟩
theorem done {g:ak} {b co:Nat} {ao:Option Addr} (Bo:bE g (.slice .str) [.slice ao 6 co] lits) {W:World} (hW:dm ⟨W,[b]⟩ [.blk b (once 0 0 .nilIface (.slice ao 6 co))] g W) :
  Calls Tryz.prog 173 #[.pointer (some ⟨b,0,none⟩),.func (.func 174) #[.pointer (some ⟨b,0,none⟩)] #[]] W fun e W'=>e=.returned (.tuple #[])∧∃ g' b2,bf ⟨W,[b]⟩ g g'∧oG g' b2∧dm ⟨W,[b]⟩ [.blk b (once 1 0 (tab b2) (.slice none 0 0))] g' W':=by
 have hl:=run_call_load (P:=Tryz.prog) Tryz.func215 kr kr kr .u32 kr (w:=W) (a:=⟨b,0,none⟩) (x:=0) (hW.cellAt rfl);have hnot:∀ (x:Bool) (w:World),(Op.unary .not (.bool x)).run Tryz.prog w=.ok (.bool (!x)) w:=fun _ _=>rfl;have hsl:=slow Bo hW
 go_enter Tryz.func173,Tryz.ntmps173
 go_wp2_with (first | (go_at_call 204; refine hsl.mono ?_; rintro e W2 ⟨rfl,hfin⟩) | (go_at_call 203; go_in))
 go_end0
 exact ⟨rfl,hfin⟩
theorem replaced {g:ak} {b co:Nat} {ao:Option Addr} (s:Bs) (hp:mG s) (Bo:bE g (.slice .str) [.slice ao 6 co] lits) :
  az Tryz.prog 126 #[.pointer (some ⟨b,0,none⟩),.string ⟨⟨s⟩⟩] g [.blk b (once 0 0 .nilIface (.slice ao 6 co))] (fun g' H' v=>v=.string ⟨⟨quoteS s⟩⟩∧H'=[]):=fun W hW=>by
 have hdn:=done Bo hW;have hmf:∀ (fn:Fn) (first cap:Array Value) (w:World),(Instr.makeFunc fn first cap).run Tryz.prog w=.ok (.func fn first cap) w:=fun _ _ _ _=>rfl
 go_enter Tryz.func126,Tryz.ntmps126
 go_wp2_with (first | (go_at_call 173; refine hdn.mono ?_; rintro e W2 ⟨rfl,g',b2,hx,hT,hS⟩; have c3:=hS.cellAt (i:=3) (v:=.iface 238 (.pointer (some ⟨b2,0,none⟩))) rfl) | (go_at_call 295; refine (ahu s hT hp W2 hS.ghost).mono ?_; rintro e W3 ⟨rfl,hBel⟩))
 go_ret
 exact ⟨_,g',[],rfl,⟨rfl,rfl⟩,hx,(hS.of_below hBel).sub (List.nil_sublist _)⟩
end Go.Proofs.YtdapgmigogpdcaaGreatDoor.Qu
namespace Go.Proofs.YtdapgmigogpdcaaGreatDoor.Qu
open _root_.Go.Proofs.Tryz Go Go.RowKit Go.iT Rp
set_option maxHeartbeats 4000000
set_option maxRecDepth 100000
def ah2 (xs:Bs) (K:Bs→Prop):Prop :=
 (((Int.tmod (([([92]:Bs),([92,92]:Bs),([34]:Bs),([92,34]:Bs),([10]:Bs),([92,10]:Bs)]:List Bs).length:Int) 2)==1)=true→False)∧(((Int.tmod (([([92]:Bs),([92,92]:Bs),([34]:Bs),([92,34]:Bs),([10]:Bs),([92,10]:Bs)]:List Bs).length:Int) 2)==1)=false→(([]:List Bs)++([([92]:Bs),([92,92]:Bs),([34]:Bs),([92,34]:Bs),([10]:Bs),([92,10]:Bs)]:List Bs)).length≤8796093022208∧mG xs∧K (quoteS xs))
theorem abk {g:ak} (xs:Bs) (K:Bs→Prop)
  (hF:ah2 xs K):az prog 82 #[sv xs] g [] (fun g' H' v=>∃ (r0:Bs),v=sv r0∧H'=[]∧K r0):=by
 refine aP 7 func82 rfl fun w0=>?_;refine ae (av 1 [(0,sv xs)] kr (aa (aF (aR ?_))));have hL1:aW g (.str) ([sv ([92]:Bs),sv ([92,92]:Bs),sv ([34]:Bs),sv ([92,34]:Bs),sv ([10]:Bs),sv ([92,10]:Bs)]:List Value) ([([92]:Bs),([92,92]:Bs),([34]:Bs),([92,34]:Bs),([10]:Bs),([92,10]:Bs)]:List Bs):=(aW.flat kr kr);refine ai (gz hL1 fun b1=>?_);refine ai (bO (args:=#[.slice (some ⟨b1,0,none⟩) ([([92]:Bs),([92,92]:Bs),([34]:Bs),([92,34]:Bs),([10]:Bs),([92,10]:Bs)]:List Bs).length 6]) 12 [(0,.slice (some ⟨b1,0,none⟩) ([([92]:Bs),([92,92]:Bs),([34]:Bs),([92,34]:Bs),([10]:Bs),([92,10]:Bs)]:List Bs).length 6)] gU func125 rfl rfl rfl rfl (ae (av 1 [(0,.slice (some ⟨b1,0,none⟩) ([([92]:Bs),([92,92]:Bs),([34]:Bs),([92,34]:Bs),([10]:Bs),([92,10]:Bs)]:List Bs).length 6)] kr (aa (aF (ae (ag 4 [0] [(6,.bool ((Int.tmod (([([92]:Bs),([92,92]:Bs),([34]:Bs),([92,34]:Bs),([10]:Bs),([92,10]:Bs)]:List Bs).length:Int) 2)==1))] ?_)))))));refine aa (aJ hF (fun hc2 hF=>?_) (fun hc2 hF=>?_))
 ·exact False.elim hF
 refine Ok.k (Ok.t (ae (av 1 [(8,.slice (some ⟨b1,0,none⟩) ([([92]:Bs),([92,92]:Bs),([34]:Bs),([92,34]:Bs),([10]:Bs),([92,10]:Bs)]:List Bs).length 6)] kr ?_)));have hL3:aW g (.str) [] []:=rfl;refine fT 9 1 ?_;obtain ⟨hb4,hF⟩:=hF;refine ai (fu (e:=.str) 16 8796093022208 0 1 rfl rfl rfl rfl hL3 hL1 underlying84 kr kr kr hb4 rfl fun a4 c4 xs4 hL4=>?_);refine av 1 [(10,.agg #[.int .u32 0,.int .i32 0,.int .u32 0,.nilIface,.slice a4 (([]:List Bs)++([([92]:Bs),([92,92]:Bs),([34]:Bs),([92,34]:Bs),([10]:Bs),([92,10]:Bs)]:List Bs)).length c4])] kr (ai (cO fun z0=>?_));refine av 1 [(2,pv z0 0)] kr (aa (Ok.ret (bA (vs:=[pv z0 0]) (.inl rfl) rfl (.cons (.tmp rfl) .nil) rfl (av 1 [(4,pv z0 0),(5,sv xs)] kr (sQ 1 rfl hL4 fun g6 hx6 apV=>?_)))));obtain ⟨Im,hF⟩:=hF;refine ai (bS (replaced xs Im apV) fun g7 _ _ hx7 hV7=>?_);obtain ⟨rfl,rfl⟩:=hV7;refine av 1 [(2,sv (quoteS xs))] kr (aa (Ok.ret ?_));exact jg (sv (quoteS xs)) (hx6.trans hx7) ⟨quoteS xs,rfl,rfl,hF⟩
theorem ah1 (s:Bs) (hp:mG s):ah2 s (fun r=>r=quoteS s):=⟨fun h=>absurd h dc,fun _=>⟨by decide,hp,rfl⟩⟩
theorem ah0 {g:ak} (xs:Bs)  (hp:mG xs):bC prog 82 #[sv xs] g (sv (quoteS xs)) :=
 (abk xs _ (ah1 xs hp)).gv
end Go.Proofs.YtdapgmigogpdcaaGreatDoor.Qu
namespace Go.Proofs.YtdapgmigogpdcaaGreatDoor.Qu
open Go Go.RowKit Go.iT Rp
def Er (s:Bs):Bs:=34::(quoteS s++[34])
end Go.Proofs.YtdapgmigogpdcaaGreatDoor.Qu
