/- The parser of scripts: its small functions. -/
import Derived.Test.YtalnampdiegmoaaDoorPan
import Derived.Test.YtalnampdiegmoaaDoorMor
import Derived.Test.YtalnampdiegmoaaDoorUp
import Derived.Test.YtalnampdiegmoaaDoorFrk
import Derived.Test.YtalnampdiegmoaaDoorTnl
import Derived.Test.YtalnampdiegmoaaDoorSee
namespace Go.Proofs.YtalnampdiegmoaaDoor.Ps
open _root_.Go.Proofs.Tryd Go Go.Eng Go.RowKit
set_option linter.unusedVariables false
set_option linter.unusedSimpArgs false
set_option maxHeartbeats 4000000
set_option maxRecDepth 100000
noncomputable section
def ppkF (xp:PS) (K:TK→Prop):Prop :=
 ((decide (xp.2.1<(xp.1.length:Int)))=true→0≤xp.2.1∧Int.toNat xp.2.1<xp.1.length∧K (xp.1.getD (Int.toNat xp.2.1) default))∧((decide (xp.2.1<(xp.1.length:Int)))=false→K (0,0,0,([]:Bs),0))
theorem ppk_ok {g:Ghost} {bxp:Nat} {z0:Option Addr} {v0:Nat} (xp:PS) (k0:Rep g yTs [.slice z0 xp.1.length v0] xp.1) (K:TK→Prop)
  (hF:ppkF xp K):CallsH prog 44 #[pv bxp 0] g [.blk bxp (.cells (aP xp z0 v0) 48)] (fun g' H' v=>∃ (r0:TK),v=.agg (aG r0)∧H'=[.blk bxp (.cells (aP xp z0 v0) 48)]∧K r0):=by
 refine CallsH.en 24 func44 rfl fun w0=>?_
 refine Ok.sr (Ok.o (OpOk.aw #[iv 0,iv 0,iv 0,sv Bz,iv 0] fun bs2=>?_))
 refine Ok.nt (Ok.q (Ok.q (Ok.quiet' kr kr (OkQ.B 3 [(0,pv bxp 0),(2,pv bs2 0),(5,pv bxp 1)] kr (OkQ.op rfl (OpQ.s (v:=iv xp.2.1) (Yields.l 1 rfl rfl underlying3 rfl kr) rfl rfl (OkQ.b 3 [0,2] [(6,iv xp.2.1),(9,pv bxp 0)] ?_)))))))
 refine OkQ.op rfl (OpQ.s (v:=.slice z0 xp.1.length v0) (Yields.l 1 rfl rfl underlying30 rfl kr) rfl rfl (OkQ.b 2 [0,2] [(12,.bool (decide (xp.2.1<(xp.1.length:Int))))] ?_))
 refine OkQ.j (Ok.t (Ok.cw hF (fun hc2 hF=>?_) (fun hc2 hF=>?_)))
 ·refine Ok.q (Ok.mi [] [] [0,1] [(0,true),(1,true),(2,true),(3,true),(4,true),(5,true),(6,true),(7,true),(8,true),(9,false),(10,false)] ?_)
  refine OkM.b 3 [0,2] [(15,pv bxp 0)] ?_
  refine OkM.hd (OpQ.s (v:=.slice z0 xp.1.length v0) (Yields.l 0 rfl rfl underlying30 rfl kr) rfl rfl ?_)
  refine OkM.b 3 [2] [(16,.slice z0 xp.1.length v0),(19,pv bxp 1)] ?_
  refine OkM.hd (OpQ.s (v:=iv xp.2.1) (Yields.l 0 rfl rfl underlying3 rfl kr) rfl rfl ?_)
  obtain ⟨h04,h14,hF⟩:=hF
  have he4:=get_of (l:=xp.1) default h14
  generalize hg4:(xp.1.getD (Int.toNat xp.2.1) default)=e4 at he4 hF ⊢
  refine OkM.hd (OpQ.indexRo (e:=yT) rfl rfl underlying30 kr k0 h04 he4 rfl fun q3 o3 cs3 _ x0 hr3=>?_)
  obtain ⟨_,_,rfl,rfl,⟨_,_,rfl,rfl,⟨_,_,rfl,rfl,⟨_,_,rfl,rfl,rfl⟩⟩⟩⟩:=hr3
  replace x0:At g q3 o3 [iv e4.1,iv e4.2.1,iv e4.2.2.1,sv e4.2.2.2.1,iv e4.2.2.2.2]:=x0
  refine OkM.t rfl rfl (OpOk.s (v:=.agg (aG e4)) (Yields.loadAggRo 0 5 (aG e4) x0 kr underlying40 rfl kr kr kr) rfl rfl (OkM.l1 (Gle.refl _) (OkM.t rfl rfl (OpOk.w 0 ?_))))
  refine OkM.l1 (Gle.refl _) (OkM.nil (Ok.t (Ok.ret (Ok.tr ?_))))
  exact Ok.p (vs:=[.agg (aG e4)]) [1] [.blk bxp (.cells (aP xp z0 v0) 48)] dc rfl (.inl rfl) rfl (.cons (.cellAgg 0 5 (aG e4) rfl rfl underlying40 rfl kr kr kr) .nil) (Gext.r w0 g) ⟨e4,rfl,rfl,hF⟩
 refine Ok.k (Ok.t (Ok.sr (Ok.b 1 [2] [(23,.agg #[iv 0,iv 0,iv 0,sv Bz,iv 0])] ?_)))
 refine Ok.o (OpOk.w 0 ?_)
 refine Ok.nt (Ok.ret ?_)
 exact Ok.p (vs:=[.agg #[iv 0,iv 0,iv 0,sv Bz,iv 0]]) [1] [.blk bxp (.cells (aP xp z0 v0) 48)] dc rfl (.inl rfl) rfl (.cons (.cellAgg 0 5 #[iv 0,iv 0,iv 0,sv Bz,iv 0] rfl rfl underlying40 rfl kr kr kr) .nil) (Gext.r w0 g) ⟨(0,0,0,Bz,0),rfl,rfl,hF⟩
def ppkS (p:PS):TK:=p.1.getD (Int.toNat p.2.1) (0,0,0,[],0)
/-- it stands within what is read, or at its end -/
def psP (p:PS):Prop:=0≤p.2.1∧p.2.1≤p.1.length∧p.1.length≤1000000
def psPs (p:PS) (_:Bs):Prop:=psP p
theorem ppk_F (p:PS) (hp:psP p):ppkF p (fun a=>a=ppkS p):=by
 obtain ⟨h1,h2,h3⟩:=hp
 refine ⟨fun h=>?_,fun h=>?_⟩
 ·have h:=of_decide_eq_true h
  refine ⟨h1,by omega,?_⟩
  unfold ppkS
  rw [List.getD_eq_getElem?_getD,List.getD_eq_getElem?_getD,List.getElem?_eq_getElem om]; rfl
 have h:=of_decide_eq_false h
 unfold ppkS
 rw [List.getD_eq_getElem?_getD,List.getElem?_eq_none om]; rfl
theorem ppk_c {g:Ghost} {bxp:Nat} {z0:Option Addr} {v0:Nat} (xp:PS) (k0:Rep g yTs [.slice z0 xp.1.length v0] xp.1)  (hp:psP xp):CallsH prog 44 #[pv bxp 0] g [.blk bxp (.cells (aP xp z0 v0) 48)] (fun g' H' v=>v=.agg (aG (ppkS xp))∧H'=[.blk bxp (.cells (aP xp z0 v0) 48)]) :=
 (ppk_ok xp k0 _ (ppk_F xp hp)).mono (by rintro g' H' v _ ⟨r0,rfl,rfl,hK⟩; subst hK; exact ⟨rfl,rfl⟩)
def pisV0 (xp:PS) (xs:Bs):Bool :=
 (if ((ppkS xp).1 != 4)=true then (((ppkS xp).1 != 5)||(!((ppkS xp).2.2.2.1==xs))) else !((ppkS xp).2.2.2.1==xs))
def pisj6 (xp:PS) (xs:Bs) (K:Bool→PS→Prop):Prop :=
 (pisV0 xp xs=true→K false xp)∧(pisV0 xp xs=false→K true (xp.1,w6 (xp.2.1+1),xp.2.2.1,xp.2.2.2))
def pisF (xp:PS) (xs:Bs) (K:Bool→PS→Prop):Prop :=
 psP xp∧(((ppkS xp).1 != 4)=true→(((ppkS xp).1 != 5)=true→pisj6 xp xs K)∧(((ppkS xp).1 != 5)=false→pisj6 xp xs K))∧(((ppkS xp).1 != 4)=false→pisj6 xp xs K)
theorem pis_ok {g:Ghost} {bxp:Nat} {z0:Option Addr} {v0:Nat} (xp:PS) (xs:Bs) (k0:Rep g yTs [.slice z0 xp.1.length v0] xp.1) (K:Bool→PS→Prop)
  (hF:pisF xp xs K):CallsH prog 32 #[pv bxp 0,sv xs] g [.blk bxp (.cells (aP xp z0 v0) 48)] (fun g' H' v=>∃ (r0:Bool),∃ (fxp:PS),∃ (y0:Option Addr) (u0:Nat),v=.bool r0∧Rep g' yTs [.slice y0 fxp.1.length u0] fxp.1∧H'=[.blk bxp (.cells (aP fxp y0 u0) 48)]∧K r0 fxp):=by
 refine CallsH.en 29 func32 rfl fun w0=>?_
 refine Ok.sr (Ok.B 1 [(0,pv bxp 0),(1,sv xs)] kr (Ok.nt (Ok.sr (Ok.b 1 [0,1] [(6,pv bxp 0)] ?_))))
 obtain ⟨hp1,hF⟩:=hF
 refine Ok.o (OpOk.ch (ppk_c xp k0 hp1) fun g2 _ _ hx2 hV2=>?_)
 obtain ⟨rfl,rfl⟩:=hV2
 replace k0:=k0.mono hx2.1
 refine Ok.o (OpOk.aw #[iv 0,iv 0,iv 0,sv Bz,iv 0] fun bs5=>?_)
 refine Ok.o (OpOk.w 0 ?_)
 refine Ok.nt (Ok.q (Ok.cg g2 [(0,pv bxp 0),(21,.bool (pisV0 xp xs))] [.blk bxp (.cells (aP xp z0 v0) 48)] (pisj6 xp xs K) ?_ (fun gj6 s0 hF=>?_)))
 ·
  refine Ok.r (Ok.rn 4 [.e 0] [0,1] [(5,pv bs5 0),(11,.bool ((ppkS xp).1 != 4))] ?_)
  refine Ok.bw 11 hF (fun hc5 hF=>?_) (fun hc5 hF=>?_)
  ·refine Ok.rn 5 [.e 0] [0,1,5] [(16,.bool ((ppkS xp).1 != 5))] ?_
   refine Ok.bw 16 hF (fun hc6 hF=>?_) (fun hc6 hF=>?_)
   ·refine Ok.b 5 [0] [(21,.bool true)] ?_
    refine Ok.nt (Ok.rb 21 (pisV0 xp xs) (Eq.trans (mor_t hc6) ((if_t hc5).symm)) ?_)
    exact fg hF
   refine Ok.rn 5 [.e 0] [0] [(21,.bool (!((ppkS xp).2.2.2.1==xs)))] ?_
   refine Ok.nt (Ok.rb 21 (pisV0 xp xs) (Eq.trans (mor_f hc6) ((if_t hc5).symm)) ?_)
   exact fg hF
  refine Ok.rn 10 [.e 0] [0] [(21,.bool (!((ppkS xp).2.2.2.1==xs)))] ?_
  refine Ok.nt (Ok.rb 21 (pisV0 xp xs) ((if_f hc5).symm) ?_)
  exact fg hF
 replace k0:=k0.mono s0.1
 refine Ok.cw hF (fun hc4 hF=>?_) (fun hc4 hF=>?_)
 ·refine Ok.sr (Ok.B 1 [(4,.bool false)] kr (Ok.nt (Ok.ret (Ok.tr ?_))))
  exact Ok.h1 (.bool false) (hx2.trans s0) ⟨false,xp,z0,v0,rfl,k0,rfl,hF⟩
 refine Ok.k (Ok.t (Ok.sr (Ok.rn 7 [.e 0] [] [(26,iv (w6 (xp.2.1+1))),(28,pv bxp 1)] ?_)))
 refine Ok.o (OpOk.w1 0 ?_)
 refine Ok.nt (Ok.sr (Ok.B 1 [(4,.bool true)] kr (Ok.nt (Ok.ret ?_))))
 exact Ok.h1 (.bool true) (hx2.trans s0) ⟨true,(xp.1,w6 (xp.2.1+1),xp.2.2.1,xp.2.2.2),z0,v0,rfl,k0,rfl,hF⟩
/-- does it stand here? -/
def isB (p:PS) (s:Bs):Bool:=((ppkS p).1==4||(ppkS p).1==5)&&(ppkS p).2.2.2.1==s
/-- one on -/
def onS (p:PS):PS:=(p.1,p.2.1+1,p.2.2.1,p.2.2.2)
def pisS0 (p:PS) (s:Bs):Bool×PS:=if isB p s=true then (true,onS p) else (false,p)
theorem rigid {α:Type} (a:α):∃ b:α,b=a:=⟨a,rfl⟩
def pisS:PS→Bs→Bool×PS:=Classical.choose (rigid pisS0)
theorem pisS_eq:pisS=pisS0:=Classical.choose_spec (rigid pisS0)
theorem isB_in {p:PS} {s:Bs} (hp:psP p) (h:isB p s=true):p.2.1<p.1.length:=by
 by_cases hl:p.2.1<p.1.length
 ·exact hl
 exfalso
 have e:ppkS p=(0,0,0,[],0):=by
  unfold ppkS
  rw [List.getD_eq_getElem?_getD,List.getElem?_eq_none (by have:=hp.1; omega)]; rfl
 unfold isB at h
 rw [e] at h
 cases h
theorem pis_F (p:PS) (s:Bs) (hp:psP p):pisF p s (fun a b=>(a,b)=pisS p s):=by
 rw [pisS_eq]
 have hj:pisj6 p s (fun a b=>(a,b)=pisS0 p s):=by
  have e:pisV0 p s = !(isB p s):=by
   unfold pisV0 isB
   simp only [bne]
   cases (ppkS p).1==4 <;> cases (ppkS p).1==5 <;> cases (ppkS p).2.2.2.1==s <;> rfl
  unfold pisj6
  rw [e]
  refine ⟨fun h=>?_,fun h=>?_⟩
  ·have h:isB p s=false:=by simpa using h
   unfold pisS0; rw [if_neg (by rw [h]; decide)]
  have h:isB p s=true:=by simpa using h
  have hl:=isB_in hp h
  obtain ⟨h1,h2,h3⟩:=hp
  unfold pisS0; rw [if_pos h,w6e om]; rfl
 refine ⟨hp,fun _=>⟨fun _=>hj,fun _=>hj⟩,fun _=>hj⟩
theorem pis_c {g:Ghost} {bxp:Nat} {z0:Option Addr} {v0:Nat} (xp:PS) (xs:Bs) (k0:Rep g yTs [.slice z0 xp.1.length v0] xp.1)  (hp:psPs xp xs):CallsH prog 32 #[pv bxp 0,sv xs] g [.blk bxp (.cells (aP xp z0 v0) 48)] (fun g' H' v=>∃ (y0:Option Addr) (u0:Nat),v=.bool (pisS xp xs).1∧Rep g' yTs [.slice y0 (pisS xp xs).2.1.length u0] (pisS xp xs).2.1∧H'=[.blk bxp (.cells (aP (pisS xp xs).2 y0 u0) 48)]) :=
 (pis_ok xp xs k0 _ (pis_F xp xs hp)).mono (by rintro g' H' v _ ⟨r0,fxp,y0,u0,rfl,j0,rfl,hK⟩; obtain ⟨rfl,rfl⟩:r0=(pisS xp xs).1∧fxp=(pisS xp xs).2:=⟨congrArg (fun z=>z.1) hK,congrArg (fun z=>z.2) hK⟩; exact ⟨y0,u0,rfl,j0,rfl⟩)
def pwiF (xis:Bool) (K:Prop) (Z:Prop):Prop :=
 ((!xis)=true→Z)∧((!xis)=false→K)
theorem pwi_ok {g:Ghost} (xis:Bool) (Z:Prop) (K:Prop)
  (hF:pwiF xis K Z):CallsP prog 42 #[.bool xis] g [] (fun g' H' v=>v=.tuple #[]∧H'=[]∧K) Z (.iface 44 (.agg #[])):=by
 refine CallsP.enter 6 [(0,.bool xis)] func42 rfl kr kr kr fun w0=>?_
 refine Ok.sr (Ok.B 2 [(3,.bool (!xis))] kr (Ok.nt (Ok.cw hF (fun hc1 hF=>?_) (fun hc1 hF=>?_))))
 ·refine Ok.r (Ok.B 2 [(5,.iface 44 (.agg #[]))] kr ?_)
  exact Ok.o (OpOk.throw rfl rfl (PanTo.up (Gext.r w0 g) (fun z a W hd hW=>panTop z a W hd hW) hF))
 refine Ok.k ?_
 exact Ok.fine (.inr rfl) (Ok.resH (vs:=[]) (.inr rfl) rfl .nil (Gext.r w0 g) ⟨rfl,rfl,hF⟩)
def pwiS (b:Bool):Option Unit:=if b=true then some () else none
theorem pwi_F (b:Bool):pwiF b (pwiS b=some ()) (pwiS b=none):=by
 unfold pwiF pwiS
 cases b
 ·exact ⟨fun _=>rfl,fun h=>(by cases h)⟩
 exact ⟨fun h=>(by cases h),fun _=>rfl⟩
theorem pwi_c {g:Ghost} (xis:Bool)  : CallsP prog 42 #[.bool xis] g [] (fun g' H' v=>∃ q0:Unit,pwiS xis=some q0∧v=.tuple #[]∧H'=[]) (pwiS xis=none) (.iface 44 (.agg #[])) :=
 (pwi_ok xis _ _ (pwi_F xis)).mono (by rintro g' H' v _ ⟨rfl,rfl,hK⟩; exact ⟨(),hK,rfl,rfl⟩) id
def pmuF (xp:PS) (xs:Bs) (K:PS→Prop) (Z:Prop):Prop :=
 psPs xp xs∧((!(pisS xp xs).1)=true→Z)∧((!(pisS xp xs).1)=false→K (pisS xp xs).2)
theorem pmu_ok {g:Ghost} {bxp:Nat} {z0:Option Addr} {v0:Nat} (xp:PS) (xs:Bs) (k0:Rep g yTs [.slice z0 xp.1.length v0] xp.1) (Z:Prop) (K:PS→Prop)
  (hF:pmuF xp xs K Z):CallsP prog 34 #[pv bxp 0,sv xs] g [.blk bxp (.cells (aP xp z0 v0) 48)] (fun g' H' v=>∃ (fxp:PS),∃ (y0:Option Addr) (u0:Nat),v=.tuple #[]∧Rep g' yTs [.slice y0 fxp.1.length u0] fxp.1∧H'=[.blk bxp (.cells (aP fxp y0 u0) 48)]∧K fxp) Z (.iface 44 (.agg #[])):=by
 refine CallsP.enter 10 [(0,pv bxp 0),(1,sv xs)] func34 rfl kr kr kr fun w0=>?_
 refine Ok.sr (Ok.B 2 [(4,pv bxp 0),(5,sv xs)] kr ?_)
 obtain ⟨hp1,hF⟩:=hF
 refine Ok.o (OpOk.ch (pis_c xp xs k0 hp1) fun g2 _ _ hx2 hV2=>?_)
 obtain ⟨a2_0,c2_0,rfl,hR2_0,rfl⟩:=hV2
 refine Ok.B 1 [(7,.bool (!(pisS xp xs).1))] kr (Ok.nt (Ok.cw hF (fun hc3 hF=>?_) (fun hc3 hF=>?_)))
 ·refine Ok.r (Ok.B 2 [(9,.iface 44 (.agg #[]))] kr ?_)
  exact Ok.o (OpOk.throw rfl rfl (PanTo.up hx2 (fun z a W hd hW=>panTop z a W hd hW) hF))
 refine Ok.k ?_
 exact Ok.fine (.inr rfl) (Ok.resH (vs:=[]) (.inr rfl) rfl .nil hx2 ⟨(pisS xp xs).2,a2_0,c2_0,rfl,hR2_0,rfl,hF⟩)
def pmuS (p:PS) (s:Bs):Option PS:=if isB p s=true then some (onS p) else none
theorem pmu_F (p:PS) (s:Bs) (hp:psP p):pmuF p s (fun a=>pmuS p s=some a) (pmuS p s=none):=by
 refine ⟨hp,?_⟩
 rw [pisS_eq]
 unfold pmuS pisS0
 cases h:isB p s with
 | true=>exact ⟨fun h=>(by cases h),fun _=>rfl⟩
 | false=>exact ⟨fun _=>rfl,fun h=>(by cases h)⟩
theorem pmu_c {g:Ghost} {bxp:Nat} {z0:Option Addr} {v0:Nat} (xp:PS) (xs:Bs) (k0:Rep g yTs [.slice z0 xp.1.length v0] xp.1)  (hp:psPs xp xs):CallsP prog 34 #[pv bxp 0,sv xs] g [.blk bxp (.cells (aP xp z0 v0) 48)] (fun g' H' v=>∃ q0:PS,pmuS xp xs=some q0∧∃ (y0:Option Addr) (u0:Nat),v=.tuple #[]∧Rep g' yTs [.slice y0 q0.1.length u0] q0.1∧H'=[.blk bxp (.cells (aP q0 y0 u0) 48)]) (pmuS xp xs=none) (.iface 44 (.agg #[])) :=
 (pmu_ok xp xs k0 _ _ (pmu_F xp xs hp)).mono (by rintro g' H' v _ ⟨fxp,y0,u0,rfl,j0,rfl,hK⟩; exact ⟨fxp,hK,y0,u0,rfl,j0,rfl⟩) id
def pnmF (xp:PS) (K:Bs→PS→Prop) (Z:Prop):Prop :=
 psP xp∧(((ppkS xp).1 != 1)=true→Z)∧(((ppkS xp).1 != 1)=false→K (ppkS xp).2.2.2.1 (xp.1,w6 (xp.2.1+1),xp.2.2.1,xp.2.2.2))
theorem pnm_ok {g:Ghost} {bxp:Nat} {z0:Option Addr} {v0:Nat} (xp:PS) (k0:Rep g yTs [.slice z0 xp.1.length v0] xp.1) (Z:Prop) (K:Bs→PS→Prop)
  (hF:pnmF xp K Z):CallsP prog 33 #[pv bxp 0] g [.blk bxp (.cells (aP xp z0 v0) 48)] (fun g' H' v=>∃ (r0:Bs),∃ (fxp:PS),∃ (y0:Option Addr) (u0:Nat),v=sv r0∧Rep g' yTs [.slice y0 fxp.1.length u0] fxp.1∧H'=[.blk bxp (.cells (aP fxp y0 u0) 48)]∧K r0 fxp) Z (.iface 44 (.agg #[])):=by
 refine CallsP.enter 20 [(0,pv bxp 0)] func33 rfl kr kr kr fun w0=>?_
 refine Ok.sr (Ok.B 1 [(0,pv bxp 0)] kr (Ok.nt (Ok.sr (Ok.b 1 [0] [(4,pv bxp 0)] ?_))))
 obtain ⟨hp1,hF⟩:=hF
 refine Ok.o (OpOk.ch (ppk_c xp k0 hp1) fun g2 _ _ hx2 hV2=>?_)
 obtain ⟨rfl,rfl⟩:=hV2
 replace k0:=k0.mono hx2.1
 refine Ok.o (OpOk.aw #[iv 0,iv 0,iv 0,sv Bz,iv 0] fun bs3=>?_)
 refine Ok.o (OpOk.w 0 ?_)
 refine Ok.nt (Ok.q (Ok.sr (Ok.rn 3 [.e 0] [0] [(3,pv bs3 0),(8,.bool ((ppkS xp).1 != 1))] ?_)))
 refine Ok.nt (Ok.cw hF (fun hc4 hF=>?_) (fun hc4 hF=>?_))
 ·refine Ok.r (Ok.b 2 [0,3] [(10,.iface 44 (.agg #[]))] ?_)
  exact Ok.o (OpOk.throw rfl rfl (PanTo.up hx2 (fun z a W hd hW=>panTop z a W hd hW) hF))
 refine Ok.k (Ok.t (Ok.sr (Ok.rn 7 [.e 1] [3] [(15,iv (w6 (xp.2.1+1))),(17,pv bxp 1)] ?_)))
 refine Ok.o (OpOk.w1 1 ?_)
 refine Ok.nt (Ok.sr (Ok.rn 3 [.e 0] [] [(2,sv ((ppkS xp).2.2.2.1))] ?_))
 refine Ok.nt (Ok.ret ?_)
 exact Ok.fine (.inl rfl) (Ok.p (vs:=[sv ((ppkS xp).2.2.2.1)]) [1] [.blk bxp (.cells #[.slice z0 xp.1.length v0,iv (w6 (xp.2.1+1)),.bool xp.2.2.1,.bool xp.2.2.2] 48)] dc rfl (.inl rfl) rfl (.cons (.tmp rfl) .nil) hx2 ⟨(ppkS xp).2.2.2.1,(xp.1,w6 (xp.2.1+1),xp.2.2.1,xp.2.2.2),z0,v0,rfl,k0,rfl,hF⟩)
def pnmS (p:PS):Option (Bs×PS):=if ((ppkS p).1==1)=true then some ((ppkS p).2.2.2.1,onS p) else none
theorem nm_in {p:PS} (hp:psP p) (h:((ppkS p).1==1)=true):p.2.1<p.1.length:=by
 by_cases hl:p.2.1<p.1.length
 ·exact hl
 exfalso
 have e:ppkS p=(0,0,0,[],0):=by
  unfold ppkS
  rw [List.getD_eq_getElem?_getD,List.getElem?_eq_none (by have:=hp.1; omega)]; rfl
 rw [e] at h
 cases h
theorem pnm_F (p:PS) (hp:psP p):pnmF p (fun a b=>pnmS p=some (a,b)) (pnmS p=none):=by
 refine ⟨hp,fun h=>?_,fun h=>?_⟩
 ·unfold pnmS; rw [if_neg (by simpa using h)]
 have h:((ppkS p).1==1)=true:=by simpa using h
 have hl:=nm_in hp h
 obtain ⟨h1,h2,h3⟩:=hp
 unfold pnmS; rw [if_pos h,w6e om]; rfl
theorem pnm_c {g:Ghost} {bxp:Nat} {z0:Option Addr} {v0:Nat} (xp:PS) (k0:Rep g yTs [.slice z0 xp.1.length v0] xp.1)  (hp:psP xp):CallsP prog 33 #[pv bxp 0] g [.blk bxp (.cells (aP xp z0 v0) 48)] (fun g' H' v=>∃ q0:Bs×PS,pnmS xp=some q0∧∃ (y0:Option Addr) (u0:Nat),v=sv q0.1∧Rep g' yTs [.slice y0 q0.2.1.length u0] q0.2.1∧H'=[.blk bxp (.cells (aP q0.2 y0 u0) 48)]) (pnmS xp=none) (.iface 44 (.agg #[])) :=
 (pnm_ok xp k0 _ _ (pnm_F xp hp)).mono (by rintro g' H' v _ ⟨r0,fxp,y0,u0,rfl,j0,rfl,hK⟩; exact ⟨(r0,fxp),hK,y0,u0,rfl,j0,rfl⟩) id
end
end Go.Proofs.YtalnampdiegmoaaDoor.Ps
