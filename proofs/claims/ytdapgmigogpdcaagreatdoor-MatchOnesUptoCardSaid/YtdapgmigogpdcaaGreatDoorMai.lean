/- match: the document's tests. -/
import Derived.Test.YtdapgmigogpdcaaGreatDoorMah
namespace Go.Proofs.YtdapgmigogpdcaaGreatDoor.Ma
open _root_.Go.Proofs.Tryz Go Go.Eng Go.RowKit Ti Do Se Sr Css Tk
set_option linter.unusedVariables false
set_option linter.unusedSimpArgs false
set_option maxHeartbeats 4000000
set_option maxRecDepth 100000
noncomputable section
def rtfS (d:DC) (n:Int) (t:Ts):Bool:=rtT d t n
def rsfS (d:DC) (n:Int) (s:List Ts):Bool:=rl1 d s n&&melS d n
def rpfS (d:DC) (n:Int) (p:Ph):Bool:=rpB d (rf2 d p.1) p.2 n
def rafyS (d:DC) (n:Int) (l:List Ph):Bool:=rn3 d l n
def rtfP (N:Nat) (d:DC) (n:Int) (t:Ts):Prop:=bT t<N∧bT t≤1048600∧DGood d∧inD d n∧∃ i,okT t i=true
def rsfP (N:Nat) (d:DC) (n:Int) (s:List Ts):Prop:=w1 s+1<N∧w1 s≤1048600∧DGood d∧inD d n∧∃ i,ok1 s i=true
def rpfP (N:Nat) (d:DC) (n:Int) (p:Ph):Prop:=mpaP N d n p
def rafyP (N:Nat) (d:DC) (n:Int) (l:List Ph):Prop:=msoP N d n l
def rtf_C (N:Nat):Prop:=∀ (g:Ghost) {q0:Option Addr} {k0:Nat} (xd:Dc) (xn:Int) {L0:Option Addr} {A0:Nat} (xt:TS) (u0:Rep g yNs [.slice q0 xd.1.length k0] xd.1) (G0:Rep g (.slice yP) [.slice L0 xt.kids.length A0] xt.kids) (hG0:SomeInt g 0)  (hp:rtfP N xd xn xt),CallsG prog 43 #[.agg (aD xd q0 k0),iv xn,.agg (aL xt.lab L0 xt.kids.length A0)] g (.bool (rtfS xd xn xt))
def rsf_C (N:Nat):Prop:=∀ (g:Ghost) {q0:Option Addr} {k0:Nat} (xd:Dc) (xn:Int) {axs_0:Option Addr} {cxs_0:Nat} (xs:List TS) (u0:Rep g yNs [.slice q0 xd.1.length k0] xd.1) (b1:Rep g (.slice yS) [.slice axs_0 xs.length cxs_0] xs) (hG0:SomeInt g 0)  (hp:rsfP N xd xn xs),CallsG prog 24 #[.agg (aD xd q0 k0),iv xn,.slice axs_0 xs.length cxs_0] g (.bool (rsfS xd xn xs))
def rpf_C (N:Nat):Prop:=∀ (g:Ghost) {q0:Option Addr} {k0:Nat} (xd:Dc) (xn:Int) {S0:Option Addr} {B0:Nat} {E0:Option Addr} {F0:Nat} (xp:PH) (u0:Rep g yNs [.slice q0 xd.1.length k0] xd.1) (K0:Rep g (.slice (.slice yS)) [.slice S0 xp.1.length B0] xp.1) (J0:Rep g (.slice yb) [.slice E0 xp.2.length F0] xp.2) (hG0:SomeInt g 0)  (hp:rpfP N xd xn xp),CallsG prog 10 #[.agg (aD xd q0 k0),iv xn,.agg #[.slice S0 xp.1.length B0,.slice E0 xp.2.length F0]] g (.bool (rpfS xd xn xp))
def rafy_C (N:Nat):Prop:=∀ (g:Ghost) {q0:Option Addr} {k0:Nat} (xd:Dc) (xn:Int) {z1:Option Addr} {v1:Nat} (xl:List PH) (u0:Rep g yNs [.slice q0 xd.1.length k0] xd.1) (c1:Rep g (.slice yP) [.slice z1 xl.length v1] xl) (hG0:SomeInt g 0)  (hp:rafyP N xd xn xl),CallsG prog 13 #[.agg (aD xd q0 k0),iv xn,.slice z1 xl.length v1] g (.bool (rafyS xd xn xl))
def rtfV0 (xd:Dc) (xn:Int) (xt:TS):Bool :=
 ((raoS xd xn ([105,100]:Bs)).2&&((raoS xd xn ([105,100]:Bs)).1==xt.lab.2.1))
def rtfV1 (xd:Dc) (xn:Int) (xt:TS):Bool :=
 ((raoS xd xn ([99,108,97,115,115]:Bs)).2&&(hwS (raoS xd xn ([99,108,97,115,115]:Bs)).1 xt.lab.2.1))
def rtfV2 (xd:Dc) (xn:Int) (xt:TS):Bool :=
 ((raoS xd xn xt.lab.2.1).2&&((xt.lab.2.2.1==0)||rafS (raoS xd xn xt.lab.2.1).1 xt))
def rtfV3 (e29:Nd):Bool :=
 ((e29.1==2)||((e29.1==3)&&(!(e29.2.2.2.1==([]:Bs)))))
def rtfV4 (xd:Dc) (xn:Int) (xt:TS) (x0:Int):Bool :=
 ((((kinL xd xn).getD x0.toNat default)==xn)&&(xt.lab.1==8))
def rtfj17 (xd:Dc) (xn:Int) (xt:TS) (K:Bool→Prop):Prop :=
 K (rtfV0 xd xn xt)
def rtfj27 (xd:Dc) (xn:Int) (xt:TS) (K:Bool→Prop):Prop :=
 K (rtfV1 xd xn xt)
def rtfj37 (xd:Dc) (xn:Int) (xt:TS) (K:Bool→Prop):Prop :=
 K (rtfV2 xd xn xt)
def rtfj68 (K:Bool→Prop) (e29:Nd) (f0:Int) (C57:Int→Prop):Prop :=
 (rtfV3 e29=true→K false)∧(rtfV3 e29=false→C57 (w6 (f0+1)))
def rtfl57b (xd:Dc) (xn:Int) (K:Bool→Prop) (f0:Int) (C57:Int→Prop):Prop :=
 0≤xn∧xn.toNat<xd.1.length∧((decide (f0<((xd.1.getD xn.toNat default).2.2.2.2.2.length:Int)))=true→0≤f0∧f0.toNat<(xd.1.getD xn.toNat default).2.2.2.2.2.length∧0≤((xd.1.getD xn.toNat default).2.2.2.2.2.getD f0.toNat default)∧Int.toNat ((xd.1.getD xn.toNat default).2.2.2.2.2.getD f0.toNat default)<xd.1.length∧(((xd.1.getD (Int.toNat ((xd.1.getD xn.toNat default).2.2.2.2.2.getD f0.toNat default)) default).1==2)=true→rtfj68 K (xd.1.getD (Int.toNat ((xd.1.getD xn.toNat default).2.2.2.2.2.getD f0.toNat default)) default) f0 C57)∧(((xd.1.getD (Int.toNat ((xd.1.getD xn.toNat default).2.2.2.2.2.getD f0.toNat default)) default).1==2)=false→(((xd.1.getD (Int.toNat ((xd.1.getD xn.toNat default).2.2.2.2.2.getD f0.toNat default)) default).1==3)=true→rtfj68 K (xd.1.getD (Int.toNat ((xd.1.getD xn.toNat default).2.2.2.2.2.getD f0.toNat default)) default) f0 C57)∧(((xd.1.getD (Int.toNat ((xd.1.getD xn.toNat default).2.2.2.2.2.getD f0.toNat default)) default).1==3)=false→rtfj68 K (xd.1.getD (Int.toNat ((xd.1.getD xn.toNat default).2.2.2.2.2.getD f0.toNat default)) default) f0 C57)))∧((decide (f0<((xd.1.getD xn.toNat default).2.2.2.2.2.length:Int)))=false→K true)
def rtfl57 (xd:Dc) (xn:Int) (K:Bool→Prop):Nat→Int→Prop
 | 0,_=>False
 | k+1,f0=>rtfl57b xd xn K f0 (rtfl57 xd xn K k)
def rtfj100 (xd:Dc) (xn:Int) (xt:TS) (K:Bool→Prop) (x0:Int) (C90:Int→Prop):Prop :=
 (rtfV4 xd xn xt x0=true→K (nthSp xt.lab.2.2.2.2.1 xt.lab.2.2.2.2.2 (w6 (x0+1))))∧(rtfV4 xd xn xt x0=false→0≤x0∧x0.toNat<(kinL xd xn).length∧((((kinL xd xn).getD x0.toNat default)==xn)=true→K (nthSp xt.lab.2.2.2.2.1 xt.lab.2.2.2.2.2 (w6 (((kinL xd xn).length:Int) - x0))))∧((((kinL xd xn).getD x0.toNat default)==xn)=false→C90 (w6 (x0+1))))
def rtfl90b (xd:Dc) (xn:Int) (xt:TS) (K:Bool→Prop) (x0:Int) (C90:Int→Prop):Prop :=
 ((decide (x0<((kinL xd xn).length:Int)))=true→0≤x0∧x0.toNat<(kinL xd xn).length∧((((kinL xd xn).getD x0.toNat default)==xn)=true→rtfj100 xd xn xt K x0 C90)∧((((kinL xd xn).getD x0.toNat default)==xn)=false→rtfj100 xd xn xt K x0 C90))∧((decide (x0<((kinL xd xn).length:Int)))=false→K false)
def rtfl90 (xd:Dc) (xn:Int) (xt:TS) (K:Bool→Prop):Nat→Int→Prop
 | 0,_=>False
 | k+1,x0=>rtfl90b xd xn xt K x0 (rtfl90 xd xn xt K k)
def rtfj81 (N:Nat) (xd:Dc) (xn:Int) (xt:TS) (K:Bool→Prop):Prop :=
 (((xt.lab.1==8)||(xt.lab.1==9))=true→kinP xd xn∧∃ k,rtfl90 xd xn xt K k 0)∧(((xt.lab.1==8)||(xt.lab.1==9))=false→((xt.lab.1==10)=true→rafyP N xd xn xt.kids∧K (!(rafyS xd xn xt.kids)))∧((xt.lab.1==10)=false→((xt.lab.1==11)=true→rafyP N xd xn xt.kids∧K (rafyS xd xn xt.kids))∧((xt.lab.1==11)=false→K true)))
def rtfF (N:Nat) (xd:Dc) (xn:Int) (xt:TS) (K:Bool→Prop):Prop :=
 ((xt.lab.1==2)=true→0≤xn∧xn.toNat<xd.1.length∧K ((xd.1.getD xn.toNat default).2.1==xt.lab.2.1))∧((xt.lab.1==2)=false→((xt.lab.1==3)=true→raoP xd xn ([105,100]:Bs)∧((raoS xd xn ([105,100]:Bs)).2=true→rtfj17 xd xn xt K)∧((raoS xd xn ([105,100]:Bs)).2=false→rtfj17 xd xn xt K))∧((xt.lab.1==3)=false→((xt.lab.1==4)=true→raoP xd xn ([99,108,97,115,115]:Bs)∧((raoS xd xn ([99,108,97,115,115]:Bs)).2=true→hwP (raoS xd xn ([99,108,97,115,115]:Bs)).1 xt.lab.2.1∧rtfj27 xd xn xt K)∧((raoS xd xn ([99,108,97,115,115]:Bs)).2=false→rtfj27 xd xn xt K))∧((xt.lab.1==4)=false→((xt.lab.1==5)=true→raoP xd xn xt.lab.2.1∧((raoS xd xn xt.lab.2.1).2=true→((xt.lab.2.2.1==0)=true→rtfj37 xd xn xt K)∧((xt.lab.2.2.1==0)=false→rafP (raoS xd xn xt.lab.2.1).1 xt∧rtfj37 xd xn xt K))∧((raoS xd xn xt.lab.2.1).2=false→rtfj37 xd xn xt K))∧((xt.lab.1==5)=false→((xt.lab.1==6)=true→0≤xn∧xn.toNat<xd.1.length∧K ((xd.1.getD xn.toNat default).2.2.2.2.1==0))∧((xt.lab.1==6)=false→((xt.lab.1==7)=true→∃ k,rtfl57 xd xn K k 0)∧((xt.lab.1==7)=false→((xt.lab.1==8)=true→rtfj81 N xd xn xt K)∧((xt.lab.1==8)=false→rtfj81 N xd xn xt K)))))))
theorem rtf_ok {g:Ghost} (N:Nat) (ih_rtf:rtf_C N) (ih_rsf:rsf_C N) (ih_rpf:rpf_C N) (ih_rafy:rafy_C N) {q0:Option Addr} {k0:Nat} (xd:Dc) (xn:Int) {L0:Option Addr} {A0:Nat} (xt:TS) (u0:Rep g yNs [.slice q0 xd.1.length k0] xd.1) (G0:Rep g (.slice yP) [.slice L0 xt.kids.length A0] xt.kids) (hG0:SomeInt g 0) (K:Bool→Prop)
  (hF:rtfF N xd xn xt K):CallsH prog 43 #[.agg (aD xd q0 k0),iv xn,.agg (aL xt.lab L0 xt.kids.length A0)] g [] (fun g' H' v=>∃ (r0:Bool),v=.bool r0∧H'=[]∧K r0):=by
 refine CallsH.en 200 func43 rfl fun w0=>?_
 refine Ok.sr (Ok.o (OpOk.bx (aD xd q0 k0) fun bs3=>?_))
 refine Ok.o (OpOk.bx (aL xt.lab L0 xt.kids.length A0) fun bs5=>?_)
 refine Ok.B 1 [(1,iv xn),(3,pv bs3 0),(5,pv bs5 0)] kr (Ok.nt (Ok.q (Ok.sr (Ok.rn 3 [.e 0] [1,3,5] [(19,.bool (xt.lab.1==2))] ?_))))
 refine Ok.nt (Ok.cw hF (fun hc3 hF=>?_) (fun hc3 hF=>?_))
 ·refine Ok.q (Ok.quiet' kr kr (OkQ.b 1 [1,5] [(20,pv bs3 0)] ?_))
  refine OkQ.op rfl (OpQ.s (v:=.slice q0 xd.1.length k0) (Yields.l 1 rfl rfl underlying22 rfl kr) rfl rfl (OkQ.b 1 [5] [(21,.slice q0 xd.1.length k0),(22,iv xn)] ?_))
  obtain ⟨h05,h15,hF⟩:=hF
  have he5:=get_of (l:=xd.1) default h15
  generalize hg5:(xd.1.getD xn.toNat default)=e5 at he5 hF ⊢
  refine OkQ.op rfl (OpQ.indexRo (e:=yN) rfl rfl underlying22 kr u0 h05 he5 rfl fun q4 o4 cs4 _ hat4 hr4=>?_)
  obtain ⟨a4_2,c4_2,a4_5,c4_5,rfl,hR4_2,hR4_5⟩:=oN hr4
  refine OkQ.b 1 [5] [(24,.pointer (some ⟨q4,o4+1,none⟩))] ?_
  refine OkQ.op rfl (OpQ.s (v:=sv e5.2.1) (Yields.lr 1 hat4 kr underlying9 rfl kr) rfl rfl (OkQ.B 1 [(25,sv e5.2.1),(26,pv bs5 1)] kr (OkQ.op rfl (OpQ.s (v:=sv xt.lab.2.1) (Yields.l 0 rfl rfl underlying9 rfl kr) rfl rfl (OkQ.op rfl (OpQ.s (v:=.bool (e5.2.1==xt.lab.2.1)) (Yields.sc (f:=.eql) (a:=e5.2.1) (b:=xt.lab.2.1) kr kr rfl) rfl rfl (OkQ.B 1 [(6,.bool (e5.2.1==xt.lab.2.1))] kr (OkQ.j (Ok.t (Ok.ret (Ok.tr ?_)))))))))))
  exact Ok.pb (e5.2.1==xt.lab.2.1) hF
 refine Ok.k (Ok.t (Ok.q (Ok.sr (Ok.rn 3 [.e 0] [1,3,5] [(31,.bool (xt.lab.1==3))] ?_))))
 refine Ok.nt (Ok.cw hF (fun hc6 hF=>?_) (fun hc6 hF=>?_))
 ·refine Ok.q (Ok.r ?_)
  obtain ⟨hp7,hF⟩:=hF
  refine Ok.rn 8 [.e 1,.k (rao_c xd xn ([105,100]:Bs) u0 hp7)] [5] [(7,sv ((raoS xd xn ([105,100]:Bs)).1)),(8,.bool (raoS xd xn ([105,100]:Bs)).2)] ?_
  refine Ok.nt (Ok.cg g [(6,.bool (rtfV0 xd xn xt))] [] (rtfj17 xd xn xt K) ?_ (fun gj17 g2 hF=>?_))
  ·
   refine Ok.r (Ok.b 2 [5,7] [(39,.bool (raoS xd xn ([105,100]:Bs)).2)] ?_)
   refine Ok.bw 39 hF (fun hc8 hF=>?_) (fun hc8 hF=>?_)
   ·refine Ok.rn 6 [.e 0] [] [(6,.bool ((raoS xd xn ([105,100]:Bs)).1==xt.lab.2.1))] ?_
    refine Ok.nt (Ok.rb 6 (rtfV0 xd xn xt) (mand_t hc8) ?_)
    exact fg hF
   refine Ok.B 6 [(6,.bool false)] kr (Ok.nt (Ok.rb 6 (rtfV0 xd xn xt) (mand_f hc8) ?_))
   exact fg hF
  replace hG0:=hG0.mono g2.1
  refine Ok.ret (Ok.tr ?_)
  exact Ok.h1 (.bool (rtfV0 xd xn xt)) g2 ⟨_,rfl,rfl,hF⟩
 refine Ok.k (Ok.t (Ok.q (Ok.sr (Ok.rn 3 [.e 0] [1,3,5] [(47,.bool (xt.lab.1==4))] ?_))))
 refine Ok.nt (Ok.cw hF (fun hc9 hF=>?_) (fun hc9 hF=>?_))
 ·refine Ok.q (Ok.r ?_)
  obtain ⟨hp10,hF⟩:=hF
  refine Ok.rn 8 [.e 1,.k (rao_c xd xn ([99,108,97,115,115]:Bs) u0 hp10)] [5] [(9,sv ((raoS xd xn ([99,108,97,115,115]:Bs)).1)),(10,.bool (raoS xd xn ([99,108,97,115,115]:Bs)).2)] ?_
  refine Ok.nt (Ok.cg g [(6,.bool (rtfV1 xd xn xt))] [] (rtfj27 xd xn xt K) ?_ (fun gj27 m2 hF=>?_))
  ·
   refine Ok.r (Ok.b 2 [5,9] [(55,.bool (raoS xd xn ([99,108,97,115,115]:Bs)).2)] ?_)
   refine Ok.bw 55 hF (fun r2 hF=>?_) (fun r2 hF=>?_)
   ·obtain ⟨hp12,hF⟩:=hF
    refine Ok.rn 6 [.e 0,.k (rhw_c (raoS xd xn ([99,108,97,115,115]:Bs)).1 xt.lab.2.1 hp12)] [] [(6,.bool (hwS (raoS xd xn ([99,108,97,115,115]:Bs)).1 xt.lab.2.1))] ?_
    refine Ok.nt (Ok.rb 6 (rtfV1 xd xn xt) (mand_t r2) ?_)
    exact fg hF
   refine Ok.B 6 [(6,.bool false)] kr (Ok.nt (Ok.rb 6 (rtfV1 xd xn xt) (mand_f r2) ?_))
   exact fg hF
  replace hG0:=hG0.mono m2.1
  refine Ok.ret (Ok.tr ?_)
  exact Ok.h1 (.bool (rtfV1 xd xn xt)) m2 ⟨_,rfl,rfl,hF⟩
 refine Ok.k (Ok.t (Ok.q (Ok.sr (Ok.rn 3 [.e 0] [1,3,5] [(63,.bool (xt.lab.1==5))] ?_))))
 refine Ok.nt (Ok.cw hF (fun hc13 hF=>?_) (fun hc13 hF=>?_))
 ·refine Ok.q (Ok.r ?_)
  obtain ⟨hp14,hF⟩:=hF
  refine Ok.rn 10 [.e 1,.e 0,.k (rao_c xd xn xt.lab.2.1 u0 hp14)] [5] [(11,sv ((raoS xd xn xt.lab.2.1).1)),(12,.bool (raoS xd xn xt.lab.2.1).2)] ?_
  refine Ok.nt (Ok.cg g [(6,.bool (rtfV2 xd xn xt))] [] (rtfj37 xd xn xt K) ?_ (fun gj37 n2 hF=>?_))
  ·
   refine Ok.r (Ok.b 2 [5,11] [(73,.bool (raoS xd xn xt.lab.2.1).2)] ?_)
   refine Ok.bw 73 hF (fun H1 hF=>?_) (fun H1 hF=>?_)
   ·refine Ok.rn 4 [.e 0] [5,11] [(73,.bool true),(77,.bool (xt.lab.2.2.1==0))] ?_
    refine Ok.bw 77 hF (fun t2 hF=>?_) (fun t2 hF=>?_)
    ·refine Ok.B 6 [(6,.bool true)] kr (Ok.nt (Ok.rb 6 (rtfV2 xd xn xt) (Eq.trans (mor_t t2) (mand_t H1)) ?_))
     exact fg hF
    obtain ⟨hp17,hF⟩:=hF
    refine Ok.rn 6 [.e 0,.k (raf_c (raoS xd xn xt.lab.2.1).1 xt G0 hp17)] [] [(6,.bool (rafS (raoS xd xn xt.lab.2.1).1 xt))] ?_
    refine Ok.nt (Ok.rb 6 (rtfV2 xd xn xt) (Eq.trans (mor_f t2) (mand_t H1)) ?_)
    exact fg hF
   refine Ok.B 10 [(6,.bool false)] kr (Ok.nt (Ok.rb 6 (rtfV2 xd xn xt) (mand_f H1) ?_))
   exact fg hF
  replace hG0:=hG0.mono n2.1
  refine Ok.ret (Ok.tr ?_)
  exact Ok.h1 (.bool (rtfV2 xd xn xt)) n2 ⟨_,rfl,rfl,hF⟩
 refine Ok.k (Ok.t (Ok.q (Ok.sr (Ok.rn 3 [.e 0] [1,3,5] [(85,.bool (xt.lab.1==6))] ?_))))
 refine Ok.nt (Ok.cw hF (fun hc18 hF=>?_) (fun hc18 hF=>?_))
 ·refine Ok.sr (Ok.rn 3 [.e 1] [] [(87,.slice q0 xd.1.length k0),(88,iv xn)] ?_)
  obtain ⟨h020,h120,hF⟩:=hF
  have X2:=get_of (l:=xd.1) default h120
  generalize hg20:(xd.1.getD xn.toNat default)=e20 at X2 hF ⊢
  refine Ok.o (OpOk.indexRo (e:=yN) rfl rfl underlying22 kr u0 h020 X2 rfl fun q19 o19 cs19 _ hat19 hr19=>?_)
  obtain ⟨a19_2,c19_2,a19_5,c19_5,rfl,hR19_2,hR19_5⟩:=oN hr19
  refine Ok.rn 4 [.a 4 hat19] [] [(6,.bool (e20.2.2.2.2.1==0))] ?_
  refine Ok.nt (Ok.ret (Ok.tr ?_))
  exact Ok.pb (e20.2.2.2.2.1==0) hF
 refine Ok.k (Ok.t (Ok.q (Ok.sr (Ok.rn 3 [.e 0] [1,3,5] [(95,.bool (xt.lab.1==7))] ?_))))
 refine Ok.nt (Ok.cw hF (fun N1 hF=>?_) (fun N1 hF=>?_))
 ·refine Ok.q (Ok.sr (Ok.b 1 [1,3] [(13,iv 0)] ?_))
  refine Ok.nt (Ok.block ?_)
  obtain ⟨k,hF⟩:=hF
  refine Ok.L (fun k a W=>∃ d1:Ghost,Gext w0 g d1∧∃ (f0:Int),StA 200 [(1,iv xn),(3,pv bs3 0),(13,iv f0)] a∧StW w0 [.blk bs3 (.cells (aD xd q0 k0) 24)] d1 W∧rtfl57 xd xn K k f0) k ?_ ?_
  ·
   exact fun _ _ u v=>⟨g,Gext.r w0 g,0,fA u v hF⟩
  clear hF
  rintro (_ | k57) _ _ ⟨d1,U1,f0,q⟩
  exact (q.2.2:False).elim
  refine jn (fun hF=>?_) _ _ q
  replace u0:=u0.mono U1.1
  replace hG0:=hG0.mono U1.1
  refine Ok.q (Ok.sr (Ok.rn 4 [.e 0] [1,3,13] [(96,iv f0),(98,.slice q0 xd.1.length k0),(99,iv xn)] ?_))
  obtain ⟨S2,h123,hF⟩:=hF
  have a2:=get_of (l:=xd.1) default h123
  generalize hg23:(xd.1.getD xn.toNat default)=e23 at a2 hF ⊢
  refine Ok.o (OpOk.indexRo (e:=yN) rfl rfl underlying22 kr u0 S2 a2 rfl fun q22 o22 cs22 _ hat22 hr22=>?_)
  obtain ⟨a22_2,c22_2,a22_5,c22_5,rfl,hR22_2,hR22_5⟩:=oN hr22
  refine Ok.rn 4 [.a 5 hat22] [1,3,13] [(104,.bool (decide (f0<(e23.2.2.2.2.2.length:Int))))] ?_
  refine Ok.nt (Ok.cn hF rfl (fun i2=>?_) (fun i2=>?_))
  ·replace hF:=hF.1 i2
   refine Ok.k (Ok.t (Ok.q (Ok.block (Ok.q (Ok.mix [] [] [.blk bs3 (.cells (aD xd q0 k0) 24)] [(0,true),(1,true),(2,true),(3,true),(4,true),(5,true),(6,true),(7,true),(8,true),(9,true),(10,true),(11,true),(12,true),(13,false),(14,false)] kr kr (.cons_cons _ .slnil) (OkM.b 1 [1,3,13] [(107,pv bs3 0)] ?_))))))
   refine OkM.h rfl rfl rfl (OpQ.s (v:=.slice q0 xd.1.length k0) (Yields.l 0 rfl rfl underlying22 rfl kr) rfl rfl (OkM.b 1 [1,3,13] [(108,.slice q0 xd.1.length k0),(109,pv bs3 0)] ?_))
   refine OkM.h rfl rfl rfl (OpQ.s (v:=.slice q0 xd.1.length k0) (Yields.l 0 rfl rfl underlying22 rfl kr) rfl rfl (OkM.b 1 [1,3,13,108] [(110,.slice q0 xd.1.length k0),(111,iv xn)] ?_))
   refine OkM.h rfl rfl rfl (OpQ.indexRo (e:=yN) rfl rfl underlying22 kr u0 S2 a2 rfl fun q25 o25 cs25 _ hat25 hr25=>?_)
   obtain ⟨a25_2,c25_2,o2,p2,rfl,hR25_2,hR25_5⟩:=oN hr25
   refine OkM.b 1 [1,3,13,108] [(113,.pointer (some ⟨q25,o25+5,none⟩))] ?_
   refine OkM.h rfl rfl rfl (OpQ.s (v:=.slice o2 e23.2.2.2.2.2.length p2) (Yields.lr 5 hat25 kr underlying46 rfl kr) rfl rfl (OkM.b 1 [1,3,13,108] [(114,.slice o2 e23.2.2.2.2.2.length p2),(115,iv f0)] ?_))
   obtain ⟨h027,h127,hF⟩:=hF
   have B2:=get_of (l:=e23.2.2.2.2.2) default h127
   generalize hg27:(e23.2.2.2.2.2.getD f0.toNat default)=e27 at B2 hF ⊢
   refine OkM.h rfl rfl rfl (OpQ.indexRo (e:=.int .i64) rfl rfl underlying46 kr hR25_5 h027 B2 rfl fun q26 o26 cs26 _ O1 hr26=>?_)
   obtain rfl:=hr26
   replace O1:At d1 q26 o26 [iv e27]:=O1
   refine OkM.h rfl rfl rfl (OpQ.s (v:=iv e27) (Yields.lr 0 O1 kr underlying3 rfl kr) rfl rfl ?_)
   obtain ⟨h029,h129,hF⟩:=hF
   have C2:=get_of (l:=xd.1) default h129
   generalize hg29:(xd.1.getD e27.toNat default)=e29 at C2 hF ⊢
   refine OkM.h rfl rfl rfl (OpQ.indexRo (e:=yN) rfl rfl underlying22 kr u0 h029 C2 rfl fun q28 o28 cs28 _ hat28 hr28=>?_)
   obtain ⟨C1,D1,E1,F1,rfl,hR28_2,hR28_5⟩:=oN hr28
   refine OkM.h rfl rfl rfl (OpQ.s (v:=.agg (aN e29 C1 D1 E1 F1)) (Yields.loadAggRo 0 6 (aN e29 C1 D1 E1 F1) hat28 kr underlying48 rfl kr kr kr) rfl rfl (OkM.t rfl rfl (OpOk.aw #[iv 0,sv ([]:Bs),.slice none 0 0,sv ([]:Bs),iv 0,.slice none 0 0] fun bs14=>?_)))
   refine OkM.l (i:=13) rfl (Gle.refl _) (.cons _ (.cons_cons _ .slnil)) (OkM.t rfl rfl (OpOk.sw 0 (aN e29 C1 D1 E1 F1) rfl rfl rfl ?_))
   refine OkM.l (i:=14) rfl (Gle.refl _) (.cons _ (.cons_cons _ .slnil)) (OkM.nil (Ok.t (Ok.cut (fun a W=>∃ c2:Ghost,Gext w0 d1 c2∧StA 200 [(1,iv xn),(3,pv bs3 0),(13,iv f0),(132,.bool (rtfV3 e29))] a∧StW w0 [.blk bs3 (.cells (aD xd q0 k0) 24)] c2 W∧rtfj68 K e29 f0 (rtfl57 xd xn K k57)) ?_ ?_)))
   ·
    refine Ok.r (Ok.rn 4 [.e 0] [1,3,13] [(14,pv bs14 0),(123,.bool (e29.1==2))] ?_)
    refine Ok.bw 123 hF (fun d2 hF=>?_) (fun d2 hF=>?_)
    ·refine Ok.b 9 [1,3,13] [(132,.bool true)] ?_
     refine Ok.nt (Ok.rb 132 (rtfV3 e29) (mor_t d2) ?_)
     exact fg hF
    refine Ok.rn 4 [.e 0] [1,3,13,14] [(123,.bool false),(127,.bool (e29.1==3))] ?_
    refine Ok.bw 127 hF (fun P1 hF=>?_) (fun P1 hF=>?_)
    ·refine Ok.rn 5 [.e 0] [1,3,13] [(132,.bool (!(e29.2.2.2.1==([]:Bs))))] ?_
     refine Ok.nt (Ok.rb 132 (rtfV3 e29) (Eq.trans (mand_t P1) (mor_f d2)) ?_)
     exact fg hF
    refine Ok.b 5 [1,3,13] [(132,.bool false)] ?_
    refine Ok.nt (Ok.rb 132 (rtfV3 e29) (Eq.trans (mand_f P1) (mor_f d2)) ?_)
    exact fg hF
   clear hF
   rintro _ _ ⟨c2,G1,q⟩
   refine jn (fun hF=>?_) _ _ q
   replace u0:=u0.mono G1.1
   replace hG0:=hG0.mono G1.1
   refine Ok.cn hF rfl (fun Z2=>?_) (fun Z2=>?_)
   ·replace hF:=hF.1 Z2
    refine Ok.sr (Ok.B 1 [(6,.bool false)] kr (Ok.nt (Ok.ret (Ok.kr (Ok.tr (Ok.tr (Ok.kr (Ok.tr (Ok.tr ?_)))))))))
    exact Ok.p1 (.bool false) (U1.trans G1) ⟨_,rfl,rfl,hF⟩
   replace hF:=hF.2 Z2
   refine Ok.k (Ok.kn (Ok.t (Ok.r (Ok.b 3 [1,3] [(13,iv (w6 (f0+1)))] ?_))))
   refine Ok.j (Ok.t ?_)
   subst hg29
   subst hg27
   subst hg23
   exact fun _ _ u v=>⟨k57,nl,c2,U1.trans G1,w6 (f0+1),fA u v hF⟩
  replace hF:=hF.2 i2
  refine Ok.x (Ok.thenE (Ok.thenE (Ok.blockHit (Ok.t (Ok.sr (Ok.B 1 [(6,.bool true)] kr (Ok.nt (Ok.ret (Ok.tr ?_)))))))))
  exact Ok.p1 (.bool true) U1 ⟨_,rfl,rfl,hF⟩
 refine Ok.k (Ok.t (Ok.q (Ok.cg g [(1,iv xn),(3,pv bs3 0),(5,pv bs5 0),(140,.bool ((xt.lab.1==8)||(xt.lab.1==9)))] [.blk bs5 (.cells (aL xt.lab L0 xt.kids.length A0) 60),.blk bs3 (.cells (aD xd q0 k0) 24)] (rtfj81 N xd xn xt K) ?_ (fun gj81 k1 hF=>?_))))
 ·
  refine Ok.r (Ok.rn 4 [.e 0] [1,3,5] [(136,.bool (xt.lab.1==8))] ?_)
  refine Ok.bw 136 hF (fun V2 hF=>?_) (fun V2 hF=>?_)
  ·refine Ok.b 4 [1,3,5] [(140,.bool true)] ?_
   refine Ok.nt (Ok.rb 140 ((xt.lab.1==8)||(xt.lab.1==9)) (mor_t V2) ?_)
   exact fg hF
  refine Ok.rn 4 [.e 0] [1,3,5] [(140,.bool (xt.lab.1==9))] ?_
  refine Ok.nt (Ok.rb 140 ((xt.lab.1==8)||(xt.lab.1==9)) (mor_f V2) ?_)
  exact fg hF
 replace G0:=G0.mono k1.1
 replace u0:=u0.mono k1.1
 replace hG0:=hG0.mono k1.1
 refine Ok.cw hF (fun T1 hF=>?_) (fun T1 hF=>?_)
 ·refine Ok.sr (Ok.rn 2 [.e 1] [1,5] [(141,.agg (aD xd q0 k0)),(142,iv xn)] ?_)
  obtain ⟨hp35,hF⟩:=hF
  refine Ok.o (OpOk.callH [] _ enr rfl (ram_c xd xn u0 hp35) rfl fun g36 _ _ M1 hV36=>?_)
  obtain ⟨e1,f1,Z1,rfl,u1,rfl⟩:=hV36
  replace u0:=u0.mono M1.1
  replace G0:=G0.mono M1.1
  replace hG0:=hG0.mono M1.1
  refine Ok.b 1 [1,5] [(15,.slice e1 (kinL xd xn).length f1)] ?_
  refine Ok.nt (Ok.q (Ok.sr (Ok.b 1 [1,5,15] [(16,iv 0)] ?_)))
  refine Ok.nt (Ok.block ?_)
  obtain ⟨k,hF⟩:=hF
  refine Ok.L (fun k a W=>∃ J1:Ghost,Gext w0 g36 J1∧∃ (x0:Int),StA 200 [(1,iv xn),(5,pv bs5 0),(15,.slice e1 (kinL xd xn).length f1),(16,iv x0)] a∧StW w0 [.own (.slice e1 (kinL xd xn).length f1) 3 1 (kinL xd xn).length Z1,.blk bs5 (.cells (aL xt.lab L0 xt.kids.length A0) 60)] J1 W∧rtfl90 xd xn xt K k x0) k ?_ ?_
  ·
   exact fun _ _ u v=>⟨g36,Gext.r w0 g36,0,fA u v hF⟩
  clear hF
  rintro (_ | k90) _ _ ⟨J1,g1,x0,q⟩
  exact (q.2.2:False).elim
  refine jn (fun hF=>?_) _ _ q
  replace u1:=u1.mono g1.1
  replace G0:=G0.mono g1.1
  replace hG0:=hG0.mono g1.1
  refine Ok.q (Ok.sr (Ok.b 4 [1,5,15,16] [(147,.bool (decide (x0<((kinL xd xn).length:Int))))] ?_))
  refine Ok.nt (Ok.cw hF (fun hc37 hF=>?_) (fun hc37 hF=>?_))
  ·refine Ok.k (Ok.t (Ok.q (Ok.block (Ok.q (Ok.cg J1 [(1,iv xn),(5,pv bs5 0),(15,.slice e1 (kinL xd xn).length f1),(16,iv x0),(160,.bool (rtfV4 xd xn xt x0))] [.own (.slice e1 (kinL xd xn).length f1) 3 1 (kinL xd xn).length Z1,.blk bs5 (.cells (aL xt.lab L0 xt.kids.length A0) 60)] (rtfj100 xd xn xt K x0 (rtfl90 xd xn xt K k90)) ?_ (fun gj100 j1 hF=>?_))))))
   ·
    refine Ok.r (Ok.b 2 [1,5,15,16] [(150,.slice e1 (kinL xd xn).length f1),(151,iv x0)] ?_)
    obtain ⟨h043,h143,hF⟩:=hF
    have D2:=get_of (l:=kinL xd xn) default h143
    generalize E2:((kinL xd xn).getD x0.toNat default)=e43 at D2 hF ⊢
    refine Ok.o (OpOk.indexOwn (e:=.int .i64) 0 rfl u1 rfl rfl underlying46 kr kr h043 D2 rfl fun cs42 _ hr42 Q2=>?_)
    obtain rfl:=hr42
    replace Q2:∀ j v,([iv e43]:List Value)[j]? = some v→Z1[x0.toNat * 1+j]? = some v:=Q2
    refine Ok.o (OpOk.s (v:=iv e43) (Yields.loadOwn 0 0 rfl Q2 rfl underlying3 rfl kr) rfl rfl (Ok.b 3 [1,5,15,16] [(156,.bool (e43==xn))] ?_))
    refine Ok.a 156 (e43==xn) rfl (fun L1=>?_) (fun L1=>?_)
    ·replace hF:=hF.1 L1
     refine Ok.rn 4 [.e 1] [1,5,15,16] [(160,.bool (xt.lab.1==8))] ?_
     refine Ok.j (Ok.t ?_)
     subst E2
     refine Ok.rb 160 (rtfV4 xd xn xt x0) (mand_t L1) ?_
     exact fg hF
    replace hF:=hF.2 L1
    refine Ok.b 4 [1,5,15,16] [(160,.bool false)] ?_
    refine Ok.j (Ok.t ?_)
    subst E2
    refine Ok.rb 160 (rtfV4 xd xn xt x0) (mand_f L1) ?_
    exact fg hF
   replace u1:=u1.mono j1.1
   replace G0:=G0.mono j1.1
   replace hG0:=hG0.mono j1.1
   refine Ok.cw hF (fun hc38 hF=>?_) (fun hc38 hF=>?_)
   ·refine Ok.sr (Ok.rn 8 [.e 1,.e 1,.k (rni_c xt.lab.2.2.2.2.1 xt.lab.2.2.2.2.2 (w6 (x0+1)))] [] [(6,.bool (nthSp xt.lab.2.2.2.2.1 xt.lab.2.2.2.2.2 (w6 (x0+1))))] ?_)
    refine Ok.nt (Ok.ret (Ok.tr (Ok.kr (Ok.tr (Ok.tr (Ok.kr (Ok.tr (Ok.tr ?_))))))))
    exact Ok.p1 (.bool (nthSp xt.lab.2.2.2.2.1 xt.lab.2.2.2.2.2 (w6 (x0+1)))) (((k1.trans M1).trans g1).trans j1) ⟨_,rfl,rfl,hF⟩
   refine Ok.k (Ok.t (Ok.sr (Ok.b 2 [1,5,15,16] [(168,.slice e1 (kinL xd xn).length f1),(169,iv x0)] ?_)))
   obtain ⟨h040,h140,hF⟩:=hF
   have F2:=get_of (l:=kinL xd xn) default h140
   generalize hg40:((kinL xd xn).getD x0.toNat default)=e40 at F2 hF ⊢
   refine Ok.o (OpOk.indexOwn (e:=.int .i64) 0 rfl u1 rfl rfl underlying46 kr kr h040 F2 rfl fun cs39 _ hr39 K2=>?_)
   obtain rfl:=hr39
   replace K2:∀ j v,([iv e40]:List Value)[j]? = some v→Z1[x0.toNat * 1+j]? = some v:=K2
   refine Ok.o (OpOk.s (v:=iv e40) (Yields.loadOwn 0 0 rfl K2 rfl underlying3 rfl kr) rfl rfl (Ok.b 2 [1,5,15,16] [(173,.bool (e40==xn))] ?_))
   refine Ok.nt (Ok.cn hF rfl (fun Y2=>?_) (fun Y2=>?_))
   ·replace hF:=hF.1 Y2
    refine Ok.sr (Ok.rn 10 [.e 1,.e 1,.k (rni_c xt.lab.2.2.2.2.1 xt.lab.2.2.2.2.2 (w6 (((kinL xd xn).length:Int) - x0)))] [] [(6,.bool (nthSp xt.lab.2.2.2.2.1 xt.lab.2.2.2.2.2 (w6 (((kinL xd xn).length:Int) - x0))))] ?_)
    refine Ok.nt (Ok.ret (Ok.kr (Ok.tr (Ok.tr (Ok.kr (Ok.tr (Ok.tr ?_)))))))
    exact Ok.p1 (.bool (nthSp xt.lab.2.2.2.2.1 xt.lab.2.2.2.2.2 (w6 (((kinL xd xn).length:Int) - x0)))) (((k1.trans M1).trans g1).trans j1) ⟨_,rfl,rfl,hF⟩
   replace hF:=hF.2 Y2
   refine Ok.k (Ok.kn (Ok.t (Ok.r (Ok.b 3 [1,5,15] [(16,iv (w6 (x0+1)))] ?_))))
   refine Ok.j (Ok.t ?_)
   subst hg40
   exact fun _ _ u v=>⟨k90,nl,gj100,g1.trans j1,w6 (x0+1),fA u v hF⟩
  refine Ok.x (Ok.thenE (Ok.thenE (Ok.blockHit (Ok.t (Ok.sr (Ok.B 1 [(6,.bool false)] kr (Ok.nt (Ok.ret (Ok.tr ?_)))))))))
  exact Ok.p1 (.bool false) ((k1.trans M1).trans g1) ⟨_,rfl,rfl,hF⟩
 refine Ok.k (Ok.t (Ok.q (Ok.sr (Ok.rn 3 [.e 0] [1,3,5] [(185,.bool (xt.lab.1==10))] ?_))))
 refine Ok.nt (Ok.cw hF (fun hc45 hF=>?_) (fun hc45 hF=>?_))
 ·refine Ok.q (Ok.r ?_)
  obtain ⟨hp46,hF⟩:=hF
  refine Ok.rn 7 [.e 1,.e 0,.k (ih_rafy _ xd xn xt.kids u0 G0 hG0 hp46)] [] [(6,.bool (!(rafyS xd xn xt.kids)))] ?_
  refine Ok.nt (Ok.ret (Ok.tr ?_))
  exact Ok.p1 (.bool (!(rafyS xd xn xt.kids))) k1 ⟨_,rfl,rfl,hF⟩
 refine Ok.k (Ok.t (Ok.q (Ok.sr (Ok.rn 3 [.e 0] [1,3,5] [(194,.bool (xt.lab.1==11))] ?_))))
 refine Ok.nt (Ok.cw hF (fun hc47 hF=>?_) (fun hc47 hF=>?_))
 ·refine Ok.q (Ok.r ?_)
  obtain ⟨hp48,hF⟩:=hF
  refine Ok.rn 6 [.e 1,.e 0,.k (ih_rafy _ xd xn xt.kids u0 G0 hG0 hp48)] [] [(6,.bool (rafyS xd xn xt.kids))] ?_
  refine Ok.nt (Ok.ret (Ok.tr ?_))
  exact Ok.p1 (.bool (rafyS xd xn xt.kids)) k1 ⟨_,rfl,rfl,hF⟩
 refine Ok.k (Ok.t (Ok.sr (Ok.B 1 [(6,.bool true)] kr (Ok.nt (Ok.ret ?_)))))
 exact Ok.p1 (.bool true) k1 ⟨_,rfl,rfl,hF⟩
def rsfl7b (N:Nat) (xd:Dc) (xn:Int) (xs:List TS) (K:Bool→Prop) (C0:Int) (C7:Int→Prop):Prop :=
 ((decide (C0<(xs.length:Int)))=true→(0:Int)≤C0∧Int.toNat C0<xs.length∧rtfP N xd xn (xs.getD (Int.toNat C0) default)∧((!(rtfS xd xn (xs.getD (Int.toNat C0) default)))=true→K false)∧((!(rtfS xd xn (xs.getD (Int.toNat C0) default)))=false→C7 (w6 (C0+1))))∧((decide (C0<(xs.length:Int)))=false→0≤xn∧xn.toNat<xd.1.length∧K ((xd.1.getD xn.toNat default).1==2))
def rsfl7 (N:Nat) (xd:Dc) (xn:Int) (xs:List TS) (K:Bool→Prop):Nat→Int→Prop
 | 0,_=>False
 | k+1,C0=>rsfl7b N xd xn xs K C0 (rsfl7 N xd xn xs K k)
def rsfF (N:Nat) (xd:Dc) (xn:Int) (xs:List TS) (K:Bool→Prop):Prop :=
 ∃ k,rsfl7 N xd xn xs K k 0
theorem rsf_ok {g:Ghost} (N:Nat) (ih_rtf:rtf_C N) (ih_rsf:rsf_C N) (ih_rpf:rpf_C N) (ih_rafy:rafy_C N) {q0:Option Addr} {k0:Nat} (xd:Dc) (xn:Int) {axs_0:Option Addr} {cxs_0:Nat} (xs:List TS) (u0:Rep g yNs [.slice q0 xd.1.length k0] xd.1) (b1:Rep g (.slice yS) [.slice axs_0 xs.length cxs_0] xs) (hG0:SomeInt g 0) (K:Bool→Prop)
  (hF:rsfF N xd xn xs K):CallsH prog 24 #[.agg (aD xd q0 k0),iv xn,.slice axs_0 xs.length cxs_0] g [] (fun g' H' v=>∃ (r0:Bool),v=.bool r0∧H'=[]∧K r0):=by
 refine CallsH.en 25 func24 rfl fun w0=>?_
 refine Ok.sr (Ok.o (OpOk.bx (aD xd q0 k0) fun bs3=>?_))
 refine Ok.B 1 [(1,iv xn),(2,.slice axs_0 xs.length cxs_0),(3,pv bs3 0)] kr (Ok.nt (Ok.q (Ok.sr (Ok.b 1 [1,2,3] [(7,iv 0)] ?_))))
 refine Ok.nt (Ok.block ?_)
 obtain ⟨k,hF⟩:=hF
 refine Ok.L (fun k a W=>∃ (C0:Int),StA 25 [(1,iv xn),(2,.slice axs_0 xs.length cxs_0),(3,pv bs3 0),(7,iv C0)] a∧StW w0 [.blk bs3 (.cells (aD xd q0 k0) 24)] g W∧rsfl7 N xd xn xs K k C0) k ?_ ?_
 ·
  exact fun _ _ u v=>⟨0,fA u v hF⟩
 clear hF
 rintro (_ | k7) _ _ ⟨C0,q⟩
 exact (q.2.2:False).elim
 refine jn (fun hF=>?_) _ _ q
 refine Ok.q (Ok.sr (Ok.b 4 [1,2,3,7] [(11,.bool (decide (C0<(xs.length:Int))))] ?_))
 refine Ok.nt (Ok.cw hF (fun hc2 hF=>?_) (fun hc2 hF=>?_))
 ·refine Ok.k (Ok.t (Ok.q (Ok.block (Ok.q (Ok.quiet' kr kr (OkQ.op rfl (OpQ.s (v:=.agg (aD xd q0 k0)) (Yields.loadAgg 0 2 (aD xd q0 k0) rfl rfl underlying24 rfl kr kr kr) rfl rfl (OkQ.b 3 [1,2,3,7] [(14,.agg (aD xd q0 k0)),(15,iv xn),(16,.slice axs_0 xs.length cxs_0),(17,iv C0)] ?_))))))))
  obtain ⟨h04,h14,hF⟩:=hF
  have he4:=get_of (l:=xs) default h14
  generalize hg4:(xs.getD (Int.toNat C0) default)=e4 at he4 hF ⊢
  refine OkQ.op rfl (OpQ.indexRo (e:=yS) rfl rfl underlying54 kr b1 h04 he4 rfl fun q3 o3 cs3 _ Q1 hr3=>?_)
  have A1:=hr3
  replace A1:=Rep.tst.1 A1
  obtain ⟨_,_,rfl,⟨_,_,rfl,rfl,⟨_,_,rfl,rfl,⟨_,_,rfl,rfl,⟨_,_,rfl,rfl,⟨_,_,rfl,rfl,rfl⟩⟩⟩⟩⟩,⟨I1,z2,rfl,hm3_6,hr3_6⟩⟩:=A1
  have hR3_6:Rep g (.slice yP) [.slice I1 e4.kids.length z2] e4.kids:=⟨I1,z2,rfl,hm3_6,hr3_6⟩
  replace Q1:At g q3 o3 (vL e4.lab I1 e4.kids.length z2):=Q1
  refine OkQ.op rfl (OpQ.s (v:=.agg (aL e4.lab I1 e4.kids.length z2)) (Yields.loadAggRo 0 7 (aL e4.lab I1 e4.kids.length z2) Q1 kr underlying60 rfl kr kr kr) rfl rfl ?_)
  obtain ⟨hp5,hF⟩:=hF
  refine OkQ.op rfl (OpQ.f enr (fun W hW=>ih_rtf _ xd xn e4 (u0.mono hW.sees) (hR3_6.mono hW.sees) (hG0.mono hW.sees) hp5) rfl ?_)
  refine OkQ.b 1 [1,2,3,7] [(21,.bool (!(rtfS xd xn e4)))] ?_
  refine OkQ.j (Ok.t (Ok.cn hF rfl (fun hc6=>?_) (fun hc6=>?_)))
  ·replace hF:=hF.1 hc6
   refine Ok.sr (Ok.B 1 [(6,.bool false)] kr (Ok.nt (Ok.ret (Ok.kr (Ok.tr (Ok.tr (Ok.kr (Ok.tr ?_))))))))
   exact Ok.pb false hF
  replace hF:=hF.2 hc6
  refine Ok.k (Ok.kn (Ok.t (Ok.r (Ok.b 3 [1,2,3] [(7,iv (w6 (C0+1)))] ?_))))
  refine Ok.j (Ok.t ?_)
  subst hg4
  exact fun _ _ u v=>⟨k7,nl,w6 (C0+1),fA u v hF⟩
 refine Ok.x (Ok.thenE (Ok.thenE (Ok.blockHit (Ok.t (Ok.sr (Ok.rn 2 [.e 0] [] [(22,.agg (aD xd q0 k0)),(23,iv xn)] ?_))))))
 refine Ok.o (OpOk.i (args:=#[.agg (aD xd q0 k0),iv xn]) 12 [(0,.agg (aD xd q0 k0)),(1,iv xn)] enr func44 rfl rfl rfl rfl (Ok.sr (Ok.o (OpOk.bx (aD xd q0 k0) fun bs2i24=>?_))))
 refine Ok.B 1 [(1,iv xn),(2,pv bs2i24 0)] kr (Ok.nt (Ok.sr (Ok.rn 3 [.e 0] [] [(6,.slice q0 xd.1.length k0),(7,iv xn)] ?_)))
 obtain ⟨h09,h19,hF⟩:=hF
 have he9:=get_of (l:=xd.1) default h19
 generalize hg9:(xd.1.getD xn.toNat default)=e9 at he9 hF ⊢
 refine Ok.o (OpOk.indexRo (e:=yN) rfl rfl underlying22 kr u0 h09 he9 rfl fun q8 o8 cs8 _ hat8 hr8=>?_)
 obtain ⟨a8_2,c8_2,a8_5,c8_5,rfl,hR8_2,hR8_5⟩:=oN hr8
 refine Ok.rn 4 [.a 0 hat8] [] [(4,.bool (e9.1==2))] ?_
 refine Ok.nt (Ok.ret (Ok.back (vs:=[.bool (e9.1==2)]) (.inl rfl) rfl (.cons (.tmp rfl) .nil) rfl (Ok.B 1 [(6,.bool (e9.1==2))] kr (Ok.nt (Ok.ret ?_)))))
 exact Ok.pb (e9.1==2) hF
def rpfV2 (xd:Dc) (xp:PH) (b0:Int) (y0:List Int):List Int :=
 (if (rsfS xd b0 (xp.1.getD (Int.toNat 0) default))=true then (y0++([b0]:List Int)) else y0)
def rpfj24 (xd:Dc) (xp:PH) (b0:Int) (y0:List Int) (C17:Int→List Int→Prop):Prop :=
 C17 (w6 (b0+1)) (rpfV2 xd xp b0 y0)
def rpfj58 (j0:Int) (Y0:List Int) (C51:Int→List Int→Prop):Prop :=
 C51 (w6 (j0+1)) Y0
def rpfj77 (xd:Dc) (xp:PH) (t0:Bool) (j0:Int) (s0:Int) (v0:List Int) (C51:Int→List Int→Prop):Prop :=
 ((t0&&(rsfS xd j0 (xp.1.getD s0.toNat default)))=true→(v0++([j0]:List Int)).length≤17592186044416∧rpfj58 j0 (v0++([j0]:List Int)) C51)∧((t0&&(rsfS xd j0 (xp.1.getD s0.toNat default)))=false→rpfj58 j0 v0 C51)
def rpfl66b (N:Nat) (xd:Dc) (xp:PH) (j0:Int) (s0:Int) (z0:List Int) (v0:List Int) (C51:Int→List Int→Prop) (t0:Bool) (a0:Int) (C66:Bool→Int→Prop):Prop :=
 (((decide (a0<(z0.length:Int)))&&(!t0))=true→0≤a0∧a0.toNat<z0.length∧0≤w6 (s0 - 1)∧Int.toNat (w6 (s0 - 1))<xp.2.length∧rstP xd (z0.getD a0.toNat default) j0 (xp.2.getD (Int.toNat (w6 (s0 - 1))) default)∧C66 (staS xd (z0.getD a0.toNat default) j0 (xp.2.getD (Int.toNat (w6 (s0 - 1))) default)) (w6 (a0+1)))∧(((decide (a0<(z0.length:Int)))&&(!t0))=false→(t0=true→0≤s0∧s0.toNat<xp.1.length∧rsfP N xd j0 (xp.1.getD s0.toNat default)∧rpfj77 xd xp t0 j0 s0 v0 C51)∧(t0=false→rpfj77 xd xp t0 j0 s0 v0 C51))
def rpfl66 (N:Nat) (xd:Dc) (xp:PH) (j0:Int) (s0:Int) (z0:List Int) (v0:List Int) (C51:Int→List Int→Prop):Nat→Bool→Int→Prop
 | 0,_,_=>False
 | k+1,t0,a0=>rpfl66b N xd xp j0 s0 z0 v0 C51 t0 a0 (rpfl66 N xd xp j0 s0 z0 v0 C51 k)
def rpfl51b (N:Nat) (xd:Dc) (xp:PH) (s0:Int) (z0:List Int) (C36:Int→List Int→Prop) (j0:Int) (v0:List Int) (C51:Int→List Int→Prop):Prop :=
 ((decide (j0<(xd.1.length:Int)))=true→∃ k,rpfl66 N xd xp j0 s0 z0 v0 C51 k false 0)∧((decide (j0<(xd.1.length:Int)))=false→C36 (w6 (s0+1)) v0)
def rpfl51 (N:Nat) (xd:Dc) (xp:PH) (s0:Int) (z0:List Int) (C36:Int→List Int→Prop):Nat→Int→List Int→Prop
 | 0,_,_=>False
 | k+1,j0,v0=>rpfl51b N xd xp s0 z0 C36 j0 v0 (rpfl51 N xd xp s0 z0 C36 k)
def rpfl89b (xn:Int) (K:Bool→Prop) (z0:List Int) (D0:Int) (C89:Int→Prop):Prop :=
 ((decide (D0<(z0.length:Int)))=true→(0:Int)≤D0∧Int.toNat D0<z0.length∧((z0.getD (Int.toNat D0) default==xn)=true→K true)∧((z0.getD (Int.toNat D0) default==xn)=false→C89 (w6 (D0+1))))∧((decide (D0<(z0.length:Int)))=false→K false)
def rpfl89 (xn:Int) (K:Bool→Prop) (z0:List Int):Nat→Int→Prop
 | 0,_=>False
 | k+1,D0=>rpfl89b xn K z0 D0 (rpfl89 xn K z0 k)
def rpfl36b (N:Nat) (xd:Dc) (xn:Int) (xp:PH) (K:Bool→Prop) (s0:Int) (z0:List Int) (C36:Int→List Int→Prop):Prop :=
 ((decide (s0<(xp.1.length:Int)))=true→∃ k,rpfl51 N xd xp s0 z0 C36 k 0 ([]:List Int))∧((decide (s0<(xp.1.length:Int)))=false→∃ k,rpfl89 xn K z0 k 0)
def rpfl36 (N:Nat) (xd:Dc) (xn:Int) (xp:PH) (K:Bool→Prop):Nat→Int→List Int→Prop
 | 0,_,_=>False
 | k+1,s0,z0=>rpfl36b N xd xn xp K s0 z0 (rpfl36 N xd xn xp K k)
def rpfl17b (N:Nat) (xd:Dc) (xn:Int) (xp:PH) (K:Bool→Prop) (b0:Int) (y0:List Int) (C17:Int→List Int→Prop):Prop :=
 ((decide (b0<(xd.1.length:Int)))=true→(0:Int)≤0∧Int.toNat 0<xp.1.length∧rsfP N xd b0 (xp.1.getD (Int.toNat 0) default)∧((rsfS xd b0 (xp.1.getD (Int.toNat 0) default))=true→(y0++([b0]:List Int)).length≤17592186044416∧rpfj24 xd xp b0 y0 C17)∧((rsfS xd b0 (xp.1.getD (Int.toNat 0) default))=false→rpfj24 xd xp b0 y0 C17))∧((decide (b0<(xd.1.length:Int)))=false→∃ k,rpfl36 N xd xn xp K k 1 y0)
def rpfl17 (N:Nat) (xd:Dc) (xn:Int) (xp:PH) (K:Bool→Prop):Nat→Int→List Int→Prop
 | 0,_,_=>False
 | k+1,b0,y0=>rpfl17b N xd xn xp K b0 y0 (rpfl17 N xd xn xp K k)
def rpfF (N:Nat) (xd:Dc) (xn:Int) (xp:PH) (K:Bool→Prop):Prop :=
 0≤(w6 ((xp.1.length:Int) - 1))∧Int.toNat (w6 ((xp.1.length:Int) - 1))<xp.1.length∧rsfP N xd xn (xp.1.getD (Int.toNat (w6 ((xp.1.length:Int) - 1))) default)∧((!(rsfS xd xn (xp.1.getD (Int.toNat (w6 ((xp.1.length:Int) - 1))) default)))=true→K false)∧((!(rsfS xd xn (xp.1.getD (Int.toNat (w6 ((xp.1.length:Int) - 1))) default)))=false→∃ k,rpfl17 N xd xn xp K k 0 ([]:List Int))
theorem rpf_ok {g:Ghost} (N:Nat) (ih_rtf:rtf_C N) (ih_rsf:rsf_C N) (ih_rpf:rpf_C N) (ih_rafy:rafy_C N) {q0:Option Addr} {k0:Nat} (xd:Dc) (xn:Int) {S0:Option Addr} {B0:Nat} {E0:Option Addr} {F0:Nat} (xp:PH) (u0:Rep g yNs [.slice q0 xd.1.length k0] xd.1) (K0:Rep g (.slice (.slice yS)) [.slice S0 xp.1.length B0] xp.1) (J0:Rep g (.slice yb) [.slice E0 xp.2.length F0] xp.2) (hG0:SomeInt g 0) (K:Bool→Prop)
  (hF:rpfF N xd xn xp K):CallsH prog 10 #[.agg (aD xd q0 k0),iv xn,.agg #[.slice S0 xp.1.length B0,.slice E0 xp.2.length F0]] g [] (fun g' H' v=>∃ (r0:Bool),v=.bool r0∧H'=[]∧K r0):=by
 refine CallsH.en 110 func10 rfl fun w0=>?_
 refine Ok.sr (Ok.o (OpOk.bx (aD xd q0 k0) fun bs3=>?_))
 refine Ok.o (OpOk.bx #[.slice S0 xp.1.length B0,.slice E0 xp.2.length F0] fun bs5=>?_)
 refine Ok.B 1 [(1,iv xn),(3,pv bs3 0),(5,pv bs5 0)] kr (Ok.nt (Ok.q (Ok.q (Ok.quiet' kr kr (OkQ.op rfl (OpQ.s (v:=.agg (aD xd q0 k0)) (Yields.loadAgg 1 2 (aD xd q0 k0) rfl rfl underlying24 rfl kr kr kr) rfl rfl (OkQ.b 2 [1,3,5] [(15,.agg (aD xd q0 k0)),(16,iv xn),(17,pv bs5 0)] ?_)))))))
 refine OkQ.op rfl (OpQ.s (v:=.slice S0 xp.1.length B0) (Yields.l 0 rfl rfl underlying25 rfl kr) rfl rfl (OkQ.b 1 [1,3,5,15,16] [(18,.slice S0 xp.1.length B0),(19,pv bs5 0)] ?_))
 refine OkQ.op rfl (OpQ.s (v:=.slice S0 xp.1.length B0) (Yields.l 0 rfl rfl underlying25 rfl kr) rfl rfl (OkQ.b 2 [1,3,5,15,16,18] [(22,iv (w6 ((xp.1.length:Int) - 1)))] ?_))
 obtain ⟨h04,h14,hF⟩:=hF
 have he4:=get_of (l:=xp.1) default h14
 generalize hg4:(xp.1.getD (Int.toNat (w6 ((xp.1.length:Int) - 1))) default)=e4 at he4 hF ⊢
 refine OkQ.op rfl (OpQ.indexRo (e:=.slice yS) rfl rfl underlying25 kr K0 h04 he4 rfl fun q3 o3 cs3 _ Q1 hr3=>?_)
 obtain ⟨S1,B1,rfl,v2⟩:=oS hr3
 refine OkQ.op rfl (OpQ.s (v:=.slice S1 e4.length B1) (Yields.lr 0 Q1 kr underlying54 rfl kr) rfl rfl ?_)
 obtain ⟨hp5,hF⟩:=hF
 refine OkQ.op rfl (OpQ.f enr (fun W hW=>ih_rsf _ xd xn e4 (u0.mono hW.sees) (v2.mono hW.sees) (hG0.mono hW.sees) hp5) rfl ?_)
 refine OkQ.b 1 [1,3,5] [(26,.bool (!(rsfS xd xn e4)))] ?_
 refine OkQ.j (Ok.t (Ok.cw hF (fun hc6 hF=>?_) (fun hc6 hF=>?_)))
 ·refine Ok.sr (Ok.B 1 [(6,.bool false)] kr (Ok.nt (Ok.ret (Ok.tr ?_))))
  exact Ok.pb false hF
 refine Ok.k (Ok.t (Ok.sr (Ok.b 1 [1,3,5] [(7,.slice none 0 0)] ?_)))
 have hL7:RepL g (.int .i64) [] []:=rfl
 refine Ok.ownNil 3 1 (Ok.nt (Ok.q (Ok.sr (Ok.b 1 [1,3,5] [(7,.slice none ([]:List Int).length 0),(8,iv 0)] ?_))))
 refine Ok.nt (Ok.block ?_)
 obtain ⟨k,hF⟩:=hF
 refine Ok.L (fun k a W=>∃ q1:Ghost,Gext w0 g q1∧∃ (b0:Int) (V0:Option Addr) (Q0:Nat) (y0:List Int) (U0:List Value),RepL q1 (.int .i64) U0 y0∧StA 110 [(1,iv xn),(3,pv bs3 0),(5,pv bs5 0),(7,.slice V0 y0.length Q0),(8,iv b0)] a∧StW w0 [.own (.slice V0 y0.length Q0) 3 1 y0.length U0,.blk bs5 (.cells #[.slice S0 xp.1.length B0,.slice E0 xp.2.length F0] 28),.blk bs3 (.cells (aD xd q0 k0) 24)] q1 W∧rpfl17 N xd xn xp K k b0 y0) k ?_ ?_
 ·
  exact fun _ _ u v=>⟨g,Gext.r w0 g,0,none,0,([]:List Int),[],hL7,fA u v hF⟩
 clear hF
 rintro (_ | k17) _ _ ⟨q1,m1,b0,V0,Q0,y0,U0,I0,q⟩
 exact (q.2.2:False).elim
 refine jn (fun hF=>?_) _ _ q
 replace K0:=K0.mono m1.1
 replace J0:=J0.mono m1.1
 replace u0:=u0.mono m1.1
 replace hG0:=hG0.mono m1.1
 refine Ok.q (Ok.sr (Ok.rn 5 [.e 2] [1,3,5,7,8] [(31,.bool (decide (b0<(xd.1.length:Int))))] ?_))
 refine Ok.nt (Ok.cw hF (fun hc8 hF=>?_) (fun hc8 hF=>?_))
 ·refine Ok.k (Ok.t (Ok.cut (fun a W=>∃ y2:Ghost,Gext w0 q1 y2∧∃ (P0:Option Addr) (T0:Nat) (M0:List Value),RepL y2 (.int .i64) M0 (rpfV2 xd xp b0 y0)∧StA 110 [(1,iv xn),(3,pv bs3 0),(5,pv bs5 0),(7,.slice P0 (rpfV2 xd xp b0 y0).length T0),(8,iv b0)] a∧StW w0 [.own (.slice P0 (rpfV2 xd xp b0 y0).length T0) 3 1 (rpfV2 xd xp b0 y0).length M0,.blk bs5 (.cells #[.slice S0 xp.1.length B0,.slice E0 xp.2.length F0] 28),.blk bs3 (.cells (aD xd q0 k0) 24)] y2 W∧rpfj24 xd xp b0 y0 (rpfl17 N xd xn xp K k17)) ?_ ?_))
  ·
   refine Ok.block (Ok.q (Ok.quiet' kr kr (OkQ.op rfl (OpQ.s (v:=.agg (aD xd q0 k0)) (Yields.loadAgg 2 2 (aD xd q0 k0) rfl rfl underlying24 rfl kr kr kr) rfl rfl (OkQ.b 2 [1,3,5,7,8] [(34,.agg (aD xd q0 k0)),(35,iv b0),(36,pv bs5 0)] ?_)))))
   refine OkQ.op rfl (OpQ.s (v:=.slice S0 xp.1.length B0) (Yields.l 1 rfl rfl underlying25 rfl kr) rfl rfl ?_)
   obtain ⟨h010,h110,hF⟩:=hF
   have G2:=get_of (l:=xp.1) default h110
   generalize H2:(xp.1.getD (Int.toNat 0) default)=e10 at G2 hF ⊢
   refine OkQ.op rfl (OpQ.indexRo (e:=.slice yS) rfl rfl underlying25 kr K0 h010 G2 rfl fun q9 o9 cs9 _ hat9 hr9=>?_)
   obtain ⟨a9_0,c9_0,rfl,hR9_0⟩:=oS hr9
   refine OkQ.op rfl (OpQ.s (v:=.slice a9_0 e10.length c9_0) (Yields.lr 0 hat9 kr underlying54 rfl kr) rfl rfl ?_)
   obtain ⟨hp11,hF⟩:=hF
   refine OkQ.op rfl (OpQ.f enr (fun W hW=>ih_rsf _ xd b0 e10 (u0.mono hW.sees) (hR9_0.mono hW.sees) (hG0.mono hW.sees) hp11) rfl ?_)
   refine OkQ.j (Ok.t (Ok.cn hF rfl (fun K1=>?_) (fun K1=>?_)))
   ·replace hF:=hF.1 K1
    refine Ok.r (Ok.b 2 [1,3,5,8] [(41,.slice V0 y0.length Q0),(42,iv b0)] ?_)
    have M2:RepL q1 (.int .i64) ([iv b0]:List Value) ([b0]:List Int):=(RepL.consN (c:=[iv b0]) rfl rfl)
    refine Ok.o (OpOk.lit (E:=3) (.int .i64) ([b0]:List Int) ([iv b0]:List Value) kr kr rfl kr M2 rfl fun b13=>?_)
    obtain ⟨hb14,hF⟩:=hF
    refine Ok.o (OpOk.append' (e:=.int .i64) 8 17592186044416 1 0 rfl rfl rfl rfl I0 M2 underlying46 kr kr kr hb14 rfl fun a14 c14 e2 hL14=>?_)
    refine Ok.b 1 [1,3,5,8] [(7,.slice a14 (y0++([b0]:List Int)).length c14)] ?_
    refine Ok.j (Ok.kn (Ok.t ?_))
    subst H2
    refine Ok.v 7 rfl (show (.slice a14 (y0++([b0]:List Int)).length c14:Value)=.slice a14 (rpfV2 xd xp b0 y0).length c14 from congrArg (fun l:List Int=>Value.slice a14 l.length c14) ((if_t K1).symm)) ?_
    refine Ok.heapEq (H':=[.own (.slice (some ⟨b13,0,none⟩) ([b0]:List Int).length 1) 3 1 ([b0]:List Int).length ([iv b0]:List Value),.own (.slice a14 (rpfV2 xd xp b0 y0).length c14) 3 1 (rpfV2 xd xp b0 y0).length e2,.blk bs5 (.cells #[.slice S0 xp.1.length B0,.slice E0 xp.2.length F0] 28),.blk bs3 (.cells (aD xd q0 k0) 24)]) (econs (rfl) (econs (congrArg (fun l:List Int=>Ent.own (.slice a14 l.length c14) 3 1 l.length e2) ((if_t K1).symm)) (econs (rfl) (econs (rfl) rfl)))) ?_
    exact fun _ _ u v=>⟨q1,Gext.r w0 q1,a14,c14,e2,(Eq.mp (congrArg (fun l:List Int=>RepL q1 (.int .i64) e2 l) ((if_t K1).symm)) hL14),fA u v hF⟩
   replace hF:=hF.2 K1
   refine Ok.k (Ok.kn (Ok.t ?_))
   subst H2
   refine Ok.v 7 rfl (show (.slice V0 y0.length Q0:Value)=.slice V0 (rpfV2 xd xp b0 y0).length Q0 from congrArg (fun l:List Int=>Value.slice V0 l.length Q0) ((if_f K1).symm)) ?_
   refine Ok.heapEq (H':=[.own (.slice V0 (rpfV2 xd xp b0 y0).length Q0) 3 1 (rpfV2 xd xp b0 y0).length U0,.blk bs5 (.cells #[.slice S0 xp.1.length B0,.slice E0 xp.2.length F0] 28),.blk bs3 (.cells (aD xd q0 k0) 24)]) (econs (congrArg (fun l:List Int=>Ent.own (.slice V0 l.length Q0) 3 1 l.length U0) ((if_f K1).symm)) (econs (rfl) (econs (rfl) rfl))) ?_
   exact fun _ _ u v=>⟨q1,Gext.r w0 q1,V0,Q0,U0,(Eq.mp (congrArg (fun l:List Int=>RepL q1 (.int .i64) U0 l) ((if_f K1).symm)) I0),fA u v hF⟩
  clear hF
  rintro _ _ ⟨y2,W1,P0,T0,M0,hLyown7_0j24,q⟩
  refine jn (fun hF=>?_) _ _ q
  replace K0:=K0.mono W1.1
  replace J0:=J0.mono W1.1
  replace u0:=u0.mono W1.1
  replace hG0:=hG0.mono W1.1
  refine Ok.r (Ok.b 3 [1,3,5,7] [(8,iv (w6 (b0+1)))] ?_)
  refine Ok.j (Ok.t ?_)
  exact fun _ _ u v=>⟨k17,nl,y2,m1.trans W1,w6 (b0+1),P0,T0,rpfV2 xd xp b0 y0,M0,hLyown7_0j24,fA u v hF⟩
 refine Ok.x (Ok.thenE (Ok.thenE (Ok.blockHit (Ok.t (Ok.q (Ok.sr (Ok.b 1 [1,3,5,7] [(9,iv 1)] ?_)))))))
 refine Ok.nt (Ok.block ?_)
 obtain ⟨k,hF⟩:=hF
 refine Ok.L (fun k a W=>∃ o1:Ghost,Gext w0 q1 o1∧∃ (s0:Int) (c0:Option Addr) (d0:Nat) (z0:List Int) (Z0:List Value),RepL o1 (.int .i64) Z0 z0∧StA 110 [(1,iv xn),(3,pv bs3 0),(5,pv bs5 0),(7,.slice c0 z0.length d0),(9,iv s0)] a∧StW w0 [.own (.slice c0 z0.length d0) 3 1 z0.length Z0,.blk bs5 (.cells #[.slice S0 xp.1.length B0,.slice E0 xp.2.length F0] 28),.blk bs3 (.cells (aD xd q0 k0) 24)] o1 W∧rpfl36 N xd xn xp K k s0 z0) k ?_ ?_
 ·
  exact fun _ _ u v=>⟨q1,Gext.r w0 q1,1,V0,Q0,y0,U0,I0,fA u v hF⟩
 clear hF
 rintro (_ | k36) _ _ ⟨o1,r1,s0,c0,d0,z0,Z0,g0,q⟩
 exact (q.2.2:False).elim
 refine jn (fun hF=>?_) _ _ q
 replace K0:=K0.mono r1.1
 replace J0:=J0.mono r1.1
 replace u0:=u0.mono r1.1
 replace hG0:=hG0.mono r1.1
 refine Ok.q (Ok.sr (Ok.rn 5 [.e 1] [1,3,5,7,9] [(49,.bool (decide (s0<(xp.1.length:Int))))] ?_))
 refine Ok.nt (Ok.cw hF (fun H1 hF=>?_) (fun H1 hF=>?_))
 ·refine Ok.k (Ok.t (Ok.q (Ok.block (Ok.sr (Ok.b 1 [1,3,5,7,9] [(10,.slice none 0 0)] ?_)))))
  have hL16:RepL o1 (.int .i64) [] []:=rfl
  refine Ok.ownNil 3 1 (Ok.nt (Ok.q (Ok.sr (Ok.b 1 [1,3,5,7,9] [(10,.slice none ([]:List Int).length 0),(11,iv 0)] ?_))))
  refine Ok.nt (Ok.block ?_)
  obtain ⟨k,hF⟩:=hF
  refine Ok.L (fun k a W=>∃ Y1:Ghost,Gext w0 o1 Y1∧∃ (j0:Int) (m0:Option Addr) (o0:Nat) (v0:List Int) (W0:List Value),RepL Y1 (.int .i64) W0 v0∧StA 110 [(1,iv xn),(3,pv bs3 0),(5,pv bs5 0),(7,.slice c0 z0.length d0),(9,iv s0),(10,.slice m0 v0.length o0),(11,iv j0)] a∧StW w0 [.own (.slice m0 v0.length o0) 3 1 v0.length W0,.own (.slice c0 z0.length d0) 3 1 z0.length Z0,.blk bs5 (.cells #[.slice S0 xp.1.length B0,.slice E0 xp.2.length F0] 28),.blk bs3 (.cells (aD xd q0 k0) 24)] Y1 W∧rpfl51 N xd xp s0 z0 (rpfl36 N xd xn xp K k36) k j0 v0) k ?_ ?_
  ·
   exact fun _ _ u v=>⟨o1,Gext.r w0 o1,0,none,0,([]:List Int),[],hL16,fA u v hF⟩
  clear hF
  rintro (_ | k51) _ _ ⟨Y1,t1,j0,m0,o0,v0,W0,X0,q⟩
  exact (q.2.2:False).elim
  refine jn (fun hF=>?_) _ _ q
  replace g0:=g0.mono t1.1
  replace K0:=K0.mono t1.1
  replace J0:=J0.mono t1.1
  replace u0:=u0.mono t1.1
  replace hG0:=hG0.mono t1.1
  refine Ok.q (Ok.sr (Ok.rn 5 [.e 3] [1,3,5,7,9,10,11] [(56,.bool (decide (j0<(xd.1.length:Int))))] ?_))
  refine Ok.nt (Ok.cw hF (fun hc17 hF=>?_) (fun hc17 hF=>?_))
  ·refine Ok.k (Ok.t (Ok.cut (fun a W=>∃ u2:Ghost,Gext w0 Y1 u2∧∃ (N0:Option Addr) (O0:Nat) (Y0:List Int) (H0:List Value),RepL u2 (.int .i64) H0 Y0∧StA 110 [(1,iv xn),(3,pv bs3 0),(5,pv bs5 0),(7,.slice c0 z0.length d0),(9,iv s0),(10,.slice N0 Y0.length O0),(11,iv j0)] a∧StW w0 [.own (.slice N0 Y0.length O0) 3 1 Y0.length H0,.own (.slice c0 z0.length d0) 3 1 z0.length Z0,.blk bs5 (.cells #[.slice S0 xp.1.length B0,.slice E0 xp.2.length F0] 28),.blk bs3 (.cells (aD xd q0 k0) 24)] u2 W∧rpfj58 j0 Y0 (rpfl51 N xd xp s0 z0 (rpfl36 N xd xn xp K k36) k51)) ?_ ?_))
   ·
    refine Ok.block (Ok.sr (Ok.b 1 [1,3,5,7,9,10,11] [(12,.bool false)] ?_))
    refine Ok.nt (Ok.q (Ok.sr (Ok.b 1 [1,3,5,7,9,10,11,12] [(13,iv 0)] ?_)))
    refine Ok.nt (Ok.block ?_)
    obtain ⟨k,hF⟩:=hF
    refine Ok.L (fun k a W=>∃ a1:Ghost,Gext w0 Y1 a1∧∃ (t0:Bool) (a0:Int),StA 110 [(1,iv xn),(3,pv bs3 0),(5,pv bs5 0),(7,.slice c0 z0.length d0),(9,iv s0),(10,.slice m0 v0.length o0),(11,iv j0),(12,.bool t0),(13,iv a0)] a∧StW w0 [.own (.slice m0 v0.length o0) 3 1 v0.length W0,.own (.slice c0 z0.length d0) 3 1 z0.length Z0,.blk bs5 (.cells #[.slice S0 xp.1.length B0,.slice E0 xp.2.length F0] 28),.blk bs3 (.cells (aD xd q0 k0) 24)] a1 W∧rpfl66 N xd xp j0 s0 z0 v0 (rpfl51 N xd xp s0 z0 (rpfl36 N xd xn xp K k36) k51) k t0 a0) k ?_ ?_
    ·
     exact fun _ _ u v=>⟨Y1,Gext.r w0 Y1,false,0,fA u v hF⟩
    clear hF
    rintro (_ | k66) _ _ ⟨a1,y1,t0,a0,q⟩
    exact (q.2.2:False).elim
    refine jn (fun hF=>?_) _ _ q
    replace g0:=g0.mono y1.1
    replace X0:=X0.mono y1.1
    replace K0:=K0.mono y1.1
    replace J0:=J0.mono y1.1
    replace u0:=u0.mono y1.1
    replace hG0:=hG0.mono y1.1
    refine Ok.q (Ok.sr (Ok.b 5 [1,3,5,7,9,10,11,12,13] [(63,.bool (decide (a0<(z0.length:Int))))] ?_))
    refine Ok.w 3 [(1,iv xn),(3,pv bs3 0),(5,pv bs5 0),(7,.slice c0 z0.length d0),(9,iv s0),(10,.slice m0 v0.length o0),(11,iv j0),(12,.bool t0),(13,iv a0),(66,.bool ((decide (a0<(z0.length:Int)))&&(!t0)))] (fun N2=>?_) ?_
    ·refine Ok.a 63 (decide (a0<(z0.length:Int))) rfl (fun U2=>?_) (fun U2=>?_)
     ·skip
      refine Ok.b 3 [1,3,5,7,9,10,11,12,13] [(66,.bool (!t0))] ?_
      refine Ok.rb 66 ((decide (a0<(z0.length:Int)))&&(!t0)) (mand_t U2) (Ok.b 0 [1,3,5,7,9,10,11,12,13] [(66,.bool ((decide (a0<(z0.length:Int)))&&(!t0)))] ?_)
      exact N2
     skip
     refine Ok.b 3 [1,3,5,7,9,10,11,12,13] [(66,.bool false)] ?_
     refine Ok.rb 66 ((decide (a0<(z0.length:Int)))&&(!t0)) (mand_f U2) (Ok.b 0 [1,3,5,7,9,10,11,12,13] [(66,.bool ((decide (a0<(z0.length:Int)))&&(!t0)))] ?_)
     exact N2
    refine Ok.nt (Ok.cw hF (fun hc20 hF=>?_) (fun hc20 hF=>?_))
    ·refine Ok.k (Ok.t (Ok.q (Ok.block (Ok.quiet' kr kr (OkQ.op rfl (OpQ.s (v:=.agg (aD xd q0 k0)) (Yields.loadAgg 3 2 (aD xd q0 k0) rfl rfl underlying24 rfl kr kr kr) rfl rfl (OkQ.b 2 [1,3,5,7,9,10,11,13] [(69,.agg (aD xd q0 k0)),(70,.slice c0 z0.length d0),(71,iv a0)] ?_)))))))
     obtain ⟨h022,h122,hF⟩:=hF
     have O2:=get_of (l:=z0) default h122
     generalize hg22:(z0.getD a0.toNat default)=e22 at O2 hF ⊢
     refine OkQ.op rfl (OpQ.indexOwn (e:=.int .i64) 1 rfl g0 rfl rfl underlying46 kr kr h022 O2 rfl fun cs21 _ hr21 N1=>?_)
     obtain rfl:=hr21
     replace N1:∀ j v,([iv e22]:List Value)[j]? = some v→Z0[a0.toNat * 1+j]? = some v:=N1
     refine OkQ.op rfl (OpQ.s (v:=iv e22) (Yields.loadOwn 1 0 rfl N1 rfl underlying3 rfl kr) rfl rfl (OkQ.b 2 [1,3,5,7,9,10,11,13,69] [(73,iv e22),(74,iv j0),(75,pv bs5 1)] ?_))
     refine OkQ.op rfl (OpQ.s (v:=.slice E0 xp.2.length F0) (Yields.l 2 rfl rfl underlying26 rfl kr) rfl rfl (OkQ.b 2 [1,3,5,7,9,10,11,13,69,73,74] [(76,.slice E0 xp.2.length F0),(78,iv (w6 (s0 - 1)))] ?_))
     obtain ⟨h024,h124,hF⟩:=hF
     have P2:=get_of (l:=xp.2) default h124
     generalize hg24:(xp.2.getD (Int.toNat (w6 (s0 - 1))) default)=e24 at P2 hF ⊢
     refine OkQ.op rfl (OpQ.indexRo (e:=.int .u8) rfl rfl underlying26 kr J0 h024 P2 rfl fun q23 o23 cs23 _ j2 hr23=>?_)
     obtain rfl:=hr23
     replace j2:At a1 q23 o23 [.int .u8 e24]:=j2
     refine OkQ.op rfl (OpQ.s (v:=.int .u8 e24) (Yields.lr 0 j2 kr underlying5 rfl kr) rfl rfl ?_)
     obtain ⟨hp25,hF⟩:=hF
     refine OkQ.op rfl (OpQ.f enr (fun W hW=>rst_c xd e22 j0 e24 (u0.mono hW.sees) hp25) rfl ?_)
     refine OkQ.b 1 [1,3,5,7,9,10,11,13] [(12,.bool (staS xd e22 j0 e24))] ?_
     refine OkQ.j (Ok.kn (Ok.t (Ok.r (Ok.b 3 [1,3,5,7,9,10,11,12] [(13,iv (w6 (a0+1)))] ?_))))
     refine Ok.j (Ok.t ?_)
     subst hg24
     subst hg22
     exact fun _ _ u v=>⟨k66,nl,a1,y1,(staS xd (z0.getD a0.toNat default) j0 (xp.2.getD (Int.toNat (w6 (s0 - 1))) default)),w6 (a0+1),fA u v hF⟩
    refine Ok.x (Ok.thenE (Ok.thenE (Ok.blockHit (Ok.t (Ok.cg a1 [(1,iv xn),(3,pv bs3 0),(5,pv bs5 0),(7,.slice c0 z0.length d0),(9,iv s0),(10,.slice m0 v0.length o0),(11,iv j0),(92,.bool (t0&&(rsfS xd j0 (xp.1.getD s0.toNat default))))] [.own (.slice m0 v0.length o0) 3 1 v0.length W0,.own (.slice c0 z0.length d0) 3 1 z0.length Z0,.blk bs5 (.cells #[.slice S0 xp.1.length B0,.slice E0 xp.2.length F0] 28),.blk bs3 (.cells (aD xd q0 k0) 24)] (rpfj77 xd xp t0 j0 s0 v0 (rpfl51 N xd xp s0 z0 (rpfl36 N xd xn xp K k36) k51)) ?_ (fun J2 x1 hF=>?_))))))
    ·
     refine Ok.quiet' kr kr (OkQ.b 2 [1,3,5,7,9,10,11] [(83,.bool t0)] ?_)
     refine OkQ.boolAt 83 (t0) rfl (fun x2=>?_) (fun x2=>?_)
     ·replace hF:=hF.1 x2
      refine OkQ.y (j:=1) (d:=83) (want:=true) (b:=true) rfl kr kr rfl (OpQ.s (v:=.agg (aD xd q0 k0)) (Yields.loadAgg 3 2 (aD xd q0 k0) rfl rfl underlying24 rfl kr kr kr) rfl rfl (OkQ.b 2 [1,3,5,7,9,10,11] [(83,.bool true),(84,.agg (aD xd q0 k0)),(85,iv j0),(86,pv bs5 0)] ?_))
      refine OkQ.y (j:=1) (d:=83) (want:=true) (b:=true) rfl kr kr rfl (OpQ.s (v:=.slice S0 xp.1.length B0) (Yields.l 2 rfl rfl underlying25 rfl kr) rfl rfl (OkQ.b 1 [1,3,5,7,9,10,11,83,84,85] [(87,.slice S0 xp.1.length B0),(88,iv s0)] ?_))
      obtain ⟨h031,h131,hF⟩:=hF
      have R2:=get_of (l:=xp.1) default h131
      generalize hg31:(xp.1.getD s0.toNat default)=e31 at R2 hF ⊢
      refine OkQ.y (j:=1) (d:=83) (want:=true) (b:=true) rfl kr kr rfl (OpQ.indexRo (e:=.slice yS) rfl rfl underlying25 kr K0 h031 R2 rfl fun q30 o30 cs30 _ hat30 hr30=>?_)
      obtain ⟨a30_0,c30_0,rfl,hR30_0⟩:=oS hr30
      refine OkQ.y (j:=1) (d:=83) (want:=true) (b:=true) rfl kr kr rfl (OpQ.s (v:=.slice a30_0 e31.length c30_0) (Yields.lr 0 hat30 kr underlying54 rfl kr) rfl rfl ?_)
      obtain ⟨hp32,hF⟩:=hF
      refine OkQ.y (j:=1) (d:=83) (want:=true) (b:=true) rfl kr kr rfl (OpQ.f enr (fun W hW=>ih_rsf _ xd j0 e31 (u0.mono hW.sees) (hR30_0.mono hW.sees) (hG0.mono hW.sees) hp32) rfl ?_)
      refine OkQ.b 1 [1,3,5,7,9,10,11] [(92,.bool (rsfS xd j0 e31))] ?_
      refine OkQ.j (Ok.t ?_)
      subst hg31
      refine Ok.rb 92 (t0&&(rsfS xd j0 (xp.1.getD s0.toNat default))) (mand_t x2) ?_
      exact fg hF
     replace hF:=hF.2 x2
     refine OkQ.b 9 [1,3,5,7,9,10,11] [(92,.bool false)] ?_
     refine OkQ.j (Ok.t (Ok.rb 92 (t0&&(rsfS xd j0 (xp.1.getD s0.toNat default))) (mand_f x2) ?_))
     exact fg hF
    replace g0:=g0.mono x1.1
    replace X0:=X0.mono x1.1
    refine Ok.cw hF (fun hc26 hF=>?_) (fun hc26 hF=>?_)
    ·refine Ok.r (Ok.b 2 [1,3,5,7,9,11] [(93,.slice m0 v0.length o0),(94,iv j0)] ?_)
     have T2:RepL J2 (.int .i64) ([iv j0]:List Value) ([j0]:List Int):=(RepL.consN (c:=[iv j0]) rfl rfl)
     refine Ok.o (OpOk.lit (E:=3) (.int .i64) ([j0]:List Int) ([iv j0]:List Value) kr kr rfl kr T2 rfl fun b27=>?_)
     obtain ⟨hb28,hF⟩:=hF
     refine Ok.o (OpOk.append' (e:=.int .i64) 8 17592186044416 1 0 rfl rfl rfl rfl X0 T2 underlying46 kr kr kr hb28 rfl fun a28 c28 xs28 hL28=>?_)
     refine Ok.b 1 [1,3,5,7,9,11] [(10,.slice a28 (v0++([j0]:List Int)).length c28)] ?_
     refine Ok.j (Ok.kn (Ok.t ?_))
     exact fun _ _ u v=>⟨J2,y1.trans x1,a28,c28,(v0++([j0]:List Int)),xs28,hL28,fA u v hF⟩
    refine Ok.k (Ok.kn (Ok.t ?_))
    exact fun _ _ u v=>⟨J2,y1.trans x1,m0,o0,v0,W0,X0,fA u v hF⟩
   clear hF
   rintro _ _ ⟨u2,i1,N0,O0,Y0,H0,hLyown16_0j58,q⟩
   refine jn (fun hF=>?_) _ _ q
   replace g0:=g0.mono i1.1
   refine Ok.r (Ok.b 3 [1,3,5,7,9,10] [(11,iv (w6 (j0+1)))] ?_)
   refine Ok.j (Ok.t ?_)
   exact fun _ _ u v=>⟨k51,nl,u2,t1.trans i1,w6 (j0+1),N0,O0,Y0,H0,hLyown16_0j58,fA u v hF⟩
  refine Ok.x (Ok.thenE (Ok.thenE (Ok.blockHit (Ok.t (Ok.r (Ok.b 2 [1,3,5,9] [(7,.slice m0 v0.length o0)] ?_))))))
  refine Ok.j (Ok.kn (Ok.t (Ok.r (Ok.b 3 [1,3,5,7] [(9,iv (w6 (s0+1)))] ?_))))
  refine Ok.j (Ok.t ?_)
  exact fun _ _ u v=>⟨k36,nl,Y1,r1.trans t1,w6 (s0+1),m0,o0,v0,W0,X0,fA u v hF⟩
 refine Ok.x (Ok.thenE (Ok.thenE (Ok.blockHit (Ok.t (Ok.q (Ok.sr (Ok.b 1 [1,7] [(14,iv 0)] ?_)))))))
 refine Ok.nt (Ok.block ?_)
 obtain ⟨k,hF⟩:=hF
 refine Ok.L (fun k a W=>∃ f2:Ghost,Gext w0 o1 f2∧∃ (D0:Int),StA 110 [(1,iv xn),(7,.slice c0 z0.length d0),(14,iv D0)] a∧StW w0 [.own (.slice c0 z0.length d0) 3 1 z0.length Z0] f2 W∧rpfl89 xn K z0 k D0) k ?_ ?_
 ·
  exact fun _ _ u v=>⟨o1,Gext.r w0 o1,0,fA u v hF⟩
 clear hF
 rintro (_ | k89) _ _ ⟨f2,X1,D0,q⟩
 exact (q.2.2:False).elim
 refine jn (fun hF=>?_) _ _ q
 replace g0:=g0.mono X1.1
 refine Ok.q (Ok.sr (Ok.b 4 [1,7,14] [(101,.bool (decide (D0<(z0.length:Int))))] ?_))
 refine Ok.nt (Ok.cw hF (fun P1 hF=>?_) (fun P1 hF=>?_))
 ·refine Ok.k (Ok.t (Ok.q (Ok.block (Ok.sr (Ok.b 2 [1,7,14] [(104,.slice c0 z0.length d0),(105,iv D0)] ?_)))))
  obtain ⟨h035,h135,hF⟩:=hF
  have L2:=get_of (l:=z0) default h135
  generalize hg35:(z0.getD (Int.toNat D0) default)=e35 at L2 hF ⊢
  refine Ok.o (OpOk.indexOwn (e:=.int .i64) 0 rfl g0 rfl rfl underlying46 kr kr h035 L2 rfl fun cs34 _ hr34 T1=>?_)
  obtain rfl:=hr34
  replace T1:∀ j v,([iv e35]:List Value)[j]? = some v→Z0[Int.toNat D0 * 1+j]? = some v:=T1
  refine Ok.o (OpOk.s (v:=iv e35) (Yields.loadOwn 0 0 rfl T1 rfl underlying3 rfl kr) rfl rfl (Ok.b 2 [1,7,14] [(109,.bool (e35==xn))] ?_))
  refine Ok.nt (Ok.cn hF rfl (fun W2=>?_) (fun W2=>?_))
  ·replace hF:=hF.1 W2
   refine Ok.sr (Ok.B 1 [(6,.bool true)] kr (Ok.nt (Ok.ret (Ok.kr (Ok.tr (Ok.tr (Ok.kr (Ok.tr ?_))))))))
   exact Ok.p1 (.bool true) ((m1.trans r1).trans X1) ⟨_,rfl,rfl,hF⟩
  replace hF:=hF.2 W2
  refine Ok.k (Ok.kn (Ok.t (Ok.r (Ok.b 3 [1,7] [(14,iv (w6 (D0+1)))] ?_))))
  refine Ok.j (Ok.t ?_)
  subst hg35
  exact fun _ _ u v=>⟨k89,nl,f2,X1,w6 (D0+1),fA u v hF⟩
 refine Ok.x (Ok.thenE (Ok.thenE (Ok.blockHit (Ok.t (Ok.sr (Ok.B 1 [(6,.bool false)] kr (Ok.nt (Ok.ret ?_))))))))
 exact Ok.p1 (.bool false) ((m1.trans r1).trans X1) ⟨_,rfl,rfl,hF⟩
def rafyl7b (N:Nat) (xd:Dc) (xn:Int) (xl:List PH) (K:Bool→Prop) (C0:Int) (C7:Int→Prop):Prop :=
 ((decide (C0<(xl.length:Int)))=true→(0:Int)≤C0∧Int.toNat C0<xl.length∧rpfP N xd xn (xl.getD (Int.toNat C0) default)∧((rpfS xd xn (xl.getD (Int.toNat C0) default))=true→K true)∧((rpfS xd xn (xl.getD (Int.toNat C0) default))=false→C7 (w6 (C0+1))))∧((decide (C0<(xl.length:Int)))=false→K false)
def rafyl7 (N:Nat) (xd:Dc) (xn:Int) (xl:List PH) (K:Bool→Prop):Nat→Int→Prop
 | 0,_=>False
 | k+1,C0=>rafyl7b N xd xn xl K C0 (rafyl7 N xd xn xl K k)
def rafyF (N:Nat) (xd:Dc) (xn:Int) (xl:List PH) (K:Bool→Prop):Prop :=
 ∃ k,rafyl7 N xd xn xl K k 0
theorem rafy_ok {g:Ghost} (N:Nat) (ih_rtf:rtf_C N) (ih_rsf:rsf_C N) (ih_rpf:rpf_C N) (ih_rafy:rafy_C N) {q0:Option Addr} {k0:Nat} (xd:Dc) (xn:Int) {z1:Option Addr} {v1:Nat} (xl:List PH) (u0:Rep g yNs [.slice q0 xd.1.length k0] xd.1) (c1:Rep g (.slice yP) [.slice z1 xl.length v1] xl) (hG0:SomeInt g 0) (K:Bool→Prop)
  (hF:rafyF N xd xn xl K):CallsH prog 13 #[.agg (aD xd q0 k0),iv xn,.slice z1 xl.length v1] g [] (fun g' H' v=>∃ (r0:Bool),v=.bool r0∧H'=[]∧K r0):=by
 refine CallsH.en 21 func13 rfl fun w0=>?_
 refine Ok.sr (Ok.o (OpOk.bx (aD xd q0 k0) fun bs3=>?_))
 refine Ok.B 1 [(1,iv xn),(2,.slice z1 xl.length v1),(3,pv bs3 0)] kr (Ok.nt (Ok.q (Ok.sr (Ok.b 1 [1,2,3] [(7,iv 0)] ?_))))
 refine Ok.nt (Ok.block ?_)
 obtain ⟨k,hF⟩:=hF
 refine Ok.L (fun k a W=>∃ (C0:Int),StA 21 [(1,iv xn),(2,.slice z1 xl.length v1),(3,pv bs3 0),(7,iv C0)] a∧StW w0 [.blk bs3 (.cells (aD xd q0 k0) 24)] g W∧rafyl7 N xd xn xl K k C0) k ?_ ?_
 ·
  exact fun _ _ u v=>⟨0,fA u v hF⟩
 clear hF
 rintro (_ | k7) _ _ ⟨C0,q⟩
 exact (q.2.2:False).elim
 refine jn (fun hF=>?_) _ _ q
 refine Ok.q (Ok.sr (Ok.b 4 [1,2,3,7] [(11,.bool (decide (C0<(xl.length:Int))))] ?_))
 refine Ok.nt (Ok.cw hF (fun hc2 hF=>?_) (fun hc2 hF=>?_))
 ·refine Ok.k (Ok.t (Ok.q (Ok.block (Ok.q (Ok.quiet' kr kr (OkQ.op rfl (OpQ.s (v:=.agg (aD xd q0 k0)) (Yields.loadAgg 0 2 (aD xd q0 k0) rfl rfl underlying24 rfl kr kr kr) rfl rfl (OkQ.b 3 [1,2,3,7] [(14,.agg (aD xd q0 k0)),(15,iv xn),(16,.slice z1 xl.length v1),(17,iv C0)] ?_))))))))
  obtain ⟨h04,h14,hF⟩:=hF
  have he4:=get_of (l:=xl) default h14
  generalize hg4:(xl.getD (Int.toNat C0) default)=e4 at he4 hF ⊢
  refine OkQ.op rfl (OpQ.indexRo (e:=yP) rfl rfl underlying33 kr c1 h04 he4 rfl fun q3 o3 cs3 _ Q1 hr3=>?_)
  obtain ⟨_,_,rfl,⟨S1,B1,rfl,hm3_0,hr3_0⟩,⟨s2,b2,rfl,hm3_1,hr3_1⟩⟩:=hr3
  have v2:Rep g (.slice (.slice yS)) [.slice S1 e4.1.length B1] e4.1:=⟨S1,B1,rfl,hm3_0,hr3_0⟩
  have hR3_1:Rep g (.slice yb) [.slice s2 e4.2.length b2] e4.2:=⟨s2,b2,rfl,hm3_1,hr3_1⟩
  replace Q1:At g q3 o3 [.slice S1 e4.1.length B1,.slice s2 e4.2.length b2]:=Q1
  refine OkQ.op rfl (OpQ.s (v:=.agg #[.slice S1 e4.1.length B1,.slice s2 e4.2.length b2]) (Yields.loadAggRo 0 2 #[.slice S1 e4.1.length B1,.slice s2 e4.2.length b2] Q1 kr underlying28 rfl kr kr kr) rfl rfl ?_)
  obtain ⟨hp5,hF⟩:=hF
  refine OkQ.op rfl (OpQ.f enr (fun W hW=>ih_rpf _ xd xn e4 (u0.mono hW.sees) (v2.mono hW.sees) (hR3_1.mono hW.sees) (hG0.mono hW.sees) hp5) rfl ?_)
  refine OkQ.j (Ok.t (Ok.cn hF rfl (fun hc6=>?_) (fun hc6=>?_)))
  ·replace hF:=hF.1 hc6
   refine Ok.sr (Ok.B 1 [(6,.bool true)] kr (Ok.nt (Ok.ret (Ok.kr (Ok.tr (Ok.tr (Ok.kr (Ok.tr ?_))))))))
   exact Ok.pb true hF
  replace hF:=hF.2 hc6
  refine Ok.k (Ok.kn (Ok.t (Ok.r (Ok.b 3 [1,2,3] [(7,iv (w6 (C0+1)))] ?_))))
  refine Ok.j (Ok.t ?_)
  subst hg4
  exact fun _ _ u v=>⟨k7,nl,w6 (C0+1),fA u v hF⟩
 refine Ok.x (Ok.thenE (Ok.thenE (Ok.blockHit (Ok.t (Ok.sr (Ok.B 1 [(6,.bool false)] kr (Ok.nt (Ok.ret ?_))))))))
 exact Ok.pb false hF
theorem rtf_0 (d:DC) (n:Int) (t:Ts):¬ rtfP 0 d n t:=fun h=>absurd h.1 (Nat.not_lt_zero _)
theorem rsf_0 (d:DC) (n:Int) (t:List Ts):¬ rsfP 0 d n t:=fun h=>absurd h.1 (Nat.not_lt_zero _)
theorem rpf_0 (d:DC) (n:Int) (t:Ph):¬ rpfP 0 d n t:=fun h=>absurd h.1 (Nat.not_lt_zero _)
theorem rafy_0 (d:DC) (n:Int) (t:List Ph):¬ rafyP 0 d n t:=fun h=>absurd h.1 (Nat.not_lt_zero _)
theorem rtT_eq (d:DC) (t:Ts) (n:Int):rtT d t n=labB d t.lab n (rn3 d t.kids n):=by obtain ⟨x,l⟩:=t; rw [rtT]; rfl
theorem rn3_cons (d:DC) (q:Ph) (l:List Ph) (n:Int):rn3 d (q::l) n=(rpB d (rf2 d q.1) q.2 n||rn3 d l n):=by obtain ⟨p,js⟩:=q; rw [rn3]
theorem att_no {l:List (Bs×Bs)} {w:Bs} (h:(attS l w).2=false):(attS l w).1=[]:=by
 induction l with
 | nil=>rfl
 | cons a l ih =>
  rw [attS] at h ⊢
  split at h
  ·cases h
  rename_i hc
  rw [if_neg hc]; exact ih h
theorem hw_nil (w:Bs):hwS [] w=false:=by
 unfold hwS
 rw [fld_eq]
 rfl
theorem kin_idxN (d:DC) (n:Int):(kinS d n).2=idxN (fun x=>n==x) (kinL d n) 0:=by
 show (if decide (par d.1 n.toNat<0)=true then (0:Int) else idxN (fun x=>n==x) (kinL d n) 0)=_
 split
 ·rename_i hc
  unfold kinL
  rw [if_pos hc,idxN,if_pos (beq_self_eq_true n)]; rfl
 rfl
theorem rtf_F (N:Nat) (d:DC) (n:Int) (t:Ts) (h:rtfP (N+1) d n t):rtfF N d n t (fun r=>r=rtfS d n t):=by
 obtain ⟨h1,h2,hG,hn,hk⟩:=h
 have hA:=good_at hG hn
 have hR:∀ w,raoP d n w:=fun w=>⟨hG,hn⟩
 have hM:rafP (raoS d n t.lab.2.1).1 t:=⟨att_len hA.2 _,by have:=labP (t:=t); omega⟩
 have hW:hwP (raoS d n wClass).1 t.lab.2.1:=by
  show (attS (nodeS d n).2.2.1 wClass).1.length≤1000
  have:=att_len hA.2 wClass; omega
 have hS:rafyP N d n t.kids:=⟨by have:=bT_kids t; omega,by have:=bT_kids t; omega,hG,hn,kids_ok hk⟩
 have hr:rtfS d n t=labB d t.lab n (rn3 d t.kids n):=rtT_eq d t n
 generalize rtfS d n t=r at hr
 unfold labB at hr
 have j81:(t.lab.1==2)=false→(t.lab.1==3)=false→(t.lab.1==4)=false→(t.lab.1==5)=false→(t.lab.1==6)=false→(t.lab.1==7)=false→rtfj81 N d n t (fun a=>a=r):=by
  intro q2 q3 q4 q5 q6 q7
  rw [if_f q2,if_f q3,if_f q4,if_f q5,if_f q6,if_f q7] at hr
  refine ⟨fun h89=>⟨⟨hG,hn⟩,?_⟩,fun h=>?_⟩
  ·have hkl:=kin_len hG hn
   rw [kin_idxN,show (kinS d n).1=kinL d n from rfl] at hr
   generalize hL:kinL d n=l at hr hkl
   have e8:∀ m:Nat,idxN (fun x=>n==x) l 0=(m:Int)→(t.lab.1==8)=true→r=nthSp t.lab.2.2.2.2.1 t.lab.2.2.2.2.2 ((m:Int)+1):=fun m hm h8=>by
    rw [if_t h8,hm,decide_eq_true om,Bool.true_and] at hr; exact hr
   have e9:∀ m:Nat,idxN (fun x=>n==x) l 0=(m:Int)→(t.lab.1==8)=false→r=nthSp t.lab.2.2.2.2.1 t.lab.2.2.2.2.2 ((l.length:Int) - (m:Int)):=fun m hm h8=>by
    rw [h8,Bool.false_or] at h89
    rw [if_f h8,if_t h89,hm,decide_eq_true om,Bool.true_and] at hr; exact hr
   have e0:idxN (fun x=>n==x) l 0 = -1→r=false:=fun hm=>by
    cases h8:(t.lab.1==8) with
    | true=>rw [if_t h8,hm,decide_eq_false om,Bool.false_and] at hr; exact hr
    | false =>
     rw [h8,Bool.false_or] at h89
     rw [if_f h8,if_t h89,hm,decide_eq_false om,Bool.false_and] at hr; exact hr
   have loop:∀ (k m:Nat),m+k=l.length→idxN (fun x=>n==x) l 0=idxN (fun x=>n==x) (l.drop m) m→rtfl90 d n t (fun a=>a=r) (k+1) (m:Int):=by
    intro k
    induction k with
    | zero =>
     intro m h3 h4
     rw [List.drop_of_length_le om,idxN] at h4
     rw [rtfl90]
     unfold rtfl90b
     rw [hL]
     exact ⟨fun hc=>od hc,fun _=>(e0 h4).symm⟩
    | succ k ih =>
     intro m h3 h4
     rw [drop_get (l:=l) default om,idxN] at h4
     have A2:rtfj100 d n t (fun a=>a=r) (m:Int) (rtfl90 d n t (fun a=>a=r) (k+1)):=by
      unfold rtfj100 rtfV4
      rw [hL,tnc,w64 om,w64 om]
      cases hx:(l.getD m default==n) with
      | true =>
       have hx':(n==l.getD m default)=true:=by rw [eq_of_beq hx]; exact beq_self_eq_true n
       rw [if_t hx'] at h4
       rw [Bool.true_and]
       exact ⟨fun h8=>(e8 m h4 h8).symm,fun h8=>⟨by omega,by omega,fun _=>(e9 m h4 h8).symm,(fun h=>by cases h)⟩⟩
      | false =>
       have hx':(n==l.getD m default)=false:=by
        rw [beq_eq_false_iff_ne] at hx ⊢
        exact fun e=>hx e.symm
       rw [if_f hx'] at h4
       rw [Bool.false_and]
       exact ⟨(fun h=>by cases h),fun _=>⟨by omega,by omega,(fun h=>by cases h),fun _=>ih (m+1) om h4⟩⟩
     rw [rtfl90]
     unfold rtfl90b
     rw [hL]
     exact ⟨fun _=>⟨by omega,by rw [tnc]; omega,fun _=>A2,fun _=>A2⟩,fun hc=>oe hc⟩
   exact ⟨_,loop l.length 0 om rfl⟩
  rw [Bool.or_eq_false_iff] at h
  rw [if_f h.1,if_f h.2] at hr
  refine ⟨fun q=>⟨hS,?_⟩,fun q=>⟨fun q'=>⟨hS,?_⟩,fun q'=>?_⟩⟩
  ·rw [if_t q] at hr; exact hr.symm
  ·rw [if_f q,if_t q'] at hr; exact hr.symm
  rw [if_f q,if_f q'] at hr; exact hr.symm
 have n0:=hn.1
 have n1:=inNat hn
 have V1:rtfV1 d n t=hwS (attS (nodeS d n).2.2.1 wClass).1 t.lab.2.1:=by
  show ((attS (nodeS d n).2.2.1 wClass).2&&hwS (attS (nodeS d n).2.2.1 wClass).1 t.lab.2.1)=_
  cases hh:(attS (nodeS d n).2.2.1 wClass).2 with
  | true=>rw [Bool.true_and]
  | false=>rw [Bool.false_and,att_no hh,hw_nil]
 refine ⟨fun q2=>⟨n0,n1,?_⟩,fun q2=>⟨fun q3=>⟨hR _,fun _=>?_,fun _=>?_⟩,fun q3=>⟨fun q4=>⟨hR _,fun _=>⟨hW,?_⟩,fun _=>?_⟩,fun q4=>⟨fun q5=>⟨hR _,fun _=>⟨fun _=>?_,fun _=>⟨hM,?_⟩⟩,fun _=>?_⟩,fun q5=>⟨fun q6=>⟨n0,n1,?_⟩,fun q6=>⟨fun q7=>?_,fun q7=>⟨fun _=>j81 q2 q3 q4 q5 q6 q7,fun _=>j81 q2 q3 q4 q5 q6 q7⟩⟩⟩⟩⟩⟩⟩
 ·rw [if_t q2] at hr; exact hr.symm
 ·rw [if_f q2,if_t q3] at hr; exact hr.symm
 ·rw [if_f q2,if_t q3] at hr; exact hr.symm
 ·rw [if_f q2,if_f q3,if_t q4] at hr; exact V1.trans hr.symm
 ·rw [if_f q2,if_f q3,if_t q4] at hr; exact V1.trans hr.symm
 ·rw [if_f q2,if_f q3,if_f q4,if_t q5] at hr; exact hr.symm
 ·rw [if_f q2,if_f q3,if_f q4,if_t q5] at hr; exact hr.symm
 ·rw [if_f q2,if_f q3,if_f q4,if_t q5] at hr; exact hr.symm
 ·rw [if_f q2,if_f q3,if_f q4,if_f q5,if_t q6] at hr; exact hr.symm
 rw [if_f q2,if_f q3,if_f q4,if_f q5,if_f q6,if_t q7] at hr
 have hkl:=kids_len hG (inNat hn)
 have hin:=fun x hx=>hG.kids.kid n.toNat (inNat hn) x hx
 have he:(d.1.getD n.toNat default).2.2.2.2.2=kidsOf d.1 n.toNat:=rfl
 have hr:r = !((kidsOf d.1 n.toNat).any (fulB d)):=hr
 generalize kidsOf d.1 n.toNat=l at hkl hin hr he
 have loop:∀ (k m:Nat),m+k=l.length→r = !((l.drop m).any (fulB d))→rtfl57 d n (fun a=>a=r) (k+1) (m:Int):=by
  intro k
  induction k with
  | zero =>
   intro m h3 h4
   rw [List.drop_of_length_le om] at h4
   rw [rtfl57]
   unfold rtfl57b
   rw [he]
   exact ⟨n0,n1,fun hc=>od hc,fun _=>h4.symm⟩
  | succ k ih =>
   intro m h3 h4
   have hx:=hin (l.getD m default) (mem_getD default om)
   rw [drop_get (l:=l) default om,List.any_cons] at h4
   have j68:rtfj68 (fun a=>a=r) (d.1.getD (Int.toNat (l.getD m default)) default) (m:Int) (rtfl57 d n (fun a=>a=r) (k+1)):=by
    have hV:rtfV3 (d.1.getD (Int.toNat (l.getD m default)) default)=fulB d (l.getD m default):=rfl
    unfold rtfj68
    rw [hV]
    refine ⟨fun hc=>?_,fun hc=>?_⟩
    ·rw [hc,Bool.true_or] at h4; exact h4.symm
    rw [hc,Bool.false_or] at h4
    rw [w64 om]
    exact ih (m+1) om h4
   rw [rtfl57]
   unfold rtfl57b
   rw [he,tnc]
   exact ⟨n0,n1,fun _=>⟨by omega,by omega,hx.1,by omega,fun _=>j68,fun _=>⟨fun _=>j68,fun _=>j68⟩⟩,fun hc=>oe hc⟩
 exact ⟨_,loop l.length 0 om hr⟩
theorem rsf_F (N:Nat) (d:DC) (n:Int) (s:List Ts) (h:rsfP (N+1) d n s):rsfF N d n s (fun r=>r=rsfS d n s):=by
 obtain ⟨h1,h2,hG,hn,i0,hk⟩:=h
 have hl:s.length≤1048600:=by have:=w1_len s; omega
 have hP:∀ t ∈ s,rtfP N d n t:=fun t ht=>by
  have:=w1_in ht
  exact ⟨by omega,by omega,hG,hn,ok1_in hk ht⟩
 have hr:rsfS d n s=(rl1 d s n&&melS d n):=rfl
 generalize rsfS d n s=r at hr
 have loop:∀ (k i:Nat),i+k=s.length→r=(rl1 d (s.drop i) n&&melS d n)→rsfl7 N d n s (fun a=>a=r) (k+1) (i:Int):=by
  intro k
  induction k with
  | zero =>
   intro i h3 h4
   rw [List.drop_of_length_le om,rl1,Bool.true_and] at h4
   exact ⟨fun hc=>od hc,fun _=>⟨hn.1,inNat hn,h4.symm⟩⟩
  | succ k ih =>
   intro i h3 h4
   rw [drop_get (l:=s) default om,rl1] at h4
   refine ⟨fun _=>?_,fun hc=>oe hc⟩
   rw [tnc]
   refine ⟨by omega,by omega,hP _ (mem_getD default om),fun hc=>?_,fun hc=>?_⟩
   ·have hc:rtT d (s.getD i default) n=false:=by rw [Bool.not_eq_true'] at hc; exact hc
    rw [hc,Bool.false_and,Bool.false_and] at h4
    exact h4.symm
   have hc:rtT d (s.getD i default) n=true:=by rw [Bool.not_eq_false'] at hc; exact hc
   rw [hc,Bool.true_and] at h4
   rw [w64 om]
   exact ih (i+1) om h4
 exact ⟨_,loop s.length 0 om hr⟩
theorem rng_len (d:DC):(rng d).length=d.1.length:=by unfold rng; rw [List.length_map,List.length_range]
theorem rng_get (d:DC) {i:Nat} (h:i<d.1.length):(rng d).getD i default=(i:Int):=by
 unfold rng
 rw [List.getD_eq_getElem?_getD,List.getElem?_map,List.getElem?_range h]; rfl
theorem rf2_len (d:DC) (p:List (List Ts)):(rf2 d p).length=p.length:=by rw [rf2_eq,List.length_map]
theorem rf2_get (d:DC) (p:List (List Ts)) {k:Nat} (h:k<p.length):(rf2 d p).getD k default=fun x=>rsfS d x (p.getD k default):=by
 rw [rf2_eq,List.getD_eq_getElem?_getD,List.getElem?_map,List.getD_eq_getElem?_getD,List.getElem?_eq_getElem h]; rfl
theorem rf2_last (d:DC) (p:List (List Ts)) (h:0<p.length):(rf2 d p).getLastD (fun _=>false)=fun x=>rsfS d x (p.getD (p.length - 1) default):=by
 rw [← rf2_get d p (show p.length - 1<p.length by omega),List.getLastD_eq_getLast?,List.getLast?_eq_getElem?,rf2_len,List.getD_eq_getElem?_getD,List.getElem?_eq_getElem (by rw [rf2_len]; omega)]; rfl
theorem rf2_head (d:DC) (p:List (List Ts)) (h:0<p.length):(rf2 d p).headD (fun _=>false)=fun x=>rsfS d x (p.getD 0 default):=by
 cases p with
 | nil=>simp at h
 | cons s p=>rfl
theorem filt_next (l:List Int) (f:Int→Bool) {i:Nat} (h:i<l.length):(if f (l.getD i default)=true then (l.take i).filter f++[l.getD i default] else (l.take i).filter f)=(l.take (i+1)).filter f:=by
 rw [take_get default h,List.filter_append]
 cases hm:f (l.getD i default) with
 | true=>rw [if_pos rfl,List.filter_cons_of_pos hm,List.filter_nil]
 | false=>rw [if_neg dc,List.filter_cons_of_neg (by rw [hm]; decide),List.filter_nil,List.append_nil]
theorem rpf_F (N:Nat) (d:DC) (n:Int) (p:Ph) (h:rpfP (N+1) d n p):rpfF N d n p (fun r=>r=rpfS d n p):=by
 obtain ⟨hw1,hw2,hG,hn,hp1,hp2,hp3,hp4⟩:=h
 have hlen:p.1.length≤1048600:=by have:=w2_len p.1; omega
 have hpos:0<p.1.length:=List.length_pos_iff.2 hp1
 have hfew:=hG.few
 have hT:∀ (a:Nat),a<p.1.length→∀ x,inD d x→rsfP N d x (p.1.getD a default):=fun a ha x hx=>by
  have hs:p.1.getD a default ∈ p.1:=mem_getD default ha
  have h2:=w2_in hs
  obtain ⟨i,hi⟩:=ok2_in hp3 hs
  exact ⟨by omega,by omega,hG,hx,i,hi⟩
 have hr:rpfS d n p=(rsfS d n (p.1.getD (p.1.length - 1) default)&&(nowS d (rf2 d p.1).tail p.2 ((rng d).filter fun x=>rsfS d x (p.1.getD 0 default))).any fun m=>m==n):=by
  unfold rpfS rpB
  rw [rf2_last d p.1 hpos,rf2_head d p.1 hpos]
 generalize rpfS d n p=r at hr
 have elast:w6 ((p.1.length:Int) - 1)=((p.1.length - 1:Nat):Int):=by rw [w64 om]; omega
 unfold rpfF
 rw [elast,tnc]
 refine ⟨by omega,by omega,hT _ om n hn,fun hc=>?_,fun hc=>?_⟩
 ·have hc:rsfS d n (p.1.getD (p.1.length - 1) default)=false:=by rw [Bool.not_eq_true'] at hc; exact hc
  rw [hc,Bool.false_and] at hr
  exact hr.symm
 have hc:rsfS d n (p.1.getD (p.1.length - 1) default)=true:=by rw [Bool.not_eq_false'] at hc; exact hc
 rw [hc,Bool.true_and] at hr
 have hin:∀ i:Nat,i<d.1.length→inD d (i:Int):=fun i hi=>⟨by omega,by omega⟩
 have hfl:∀ (f:Int→Bool) (i:Nat),(((rng d).take i).filter f).length≤200:=fun f i=>Nat.le_trans (List.length_filter_le ..) (by rw [List.length_take,rng_len]; omega)
 -- is it there?
 have l89:∀ (now:List Int),now.length≤200→∀ (k i:Nat),i+k=now.length→(r=(now.drop i).any fun m=>m==n)→rpfl89 n (fun a=>a=r) now (k+1) (i:Int):=by
  intro now hl k
  induction k with
  | zero =>
   intro i h3 h4
   rw [List.drop_of_length_le om] at h4
   exact ⟨fun hc=>od hc,fun _=>h4.symm⟩
  | succ k ih =>
   intro i h3 h4
   rw [drop_get (l:=now) default om,List.any_cons] at h4
   refine ⟨fun _=>?_,fun hc=>oe hc⟩
   rw [tnc]
   refine ⟨by omega,by omega,fun hc=>?_,fun hc=>?_⟩
   ·rw [hc,Bool.true_or] at h4; exact h4.symm
   rw [hc,Bool.false_or] at h4
   rw [w64 om]
   exact ih (i+1) om h4
 have l36:∀ (k q:Nat) (now:List Int),1≤q→q+k=p.1.length→now.length≤200→(r=(nowS d ((rf2 d p.1).drop q) (p.2.drop (q - 1)) now).any fun m=>m==n)→rpfl36 N d n p (fun a=>a=r) (k+1) (q:Int) now:=by
  intro k
  induction k with
  | zero =>
   intro q now hq h3 hl h4
   rw [List.drop_of_length_le (by rw [rf2_len]; omega),nowS] at h4
   exact ⟨fun hc=>od hc,fun _=>⟨_,l89 now hl now.length 0 om h4⟩⟩
  | succ k ih =>
   intro q now hq h3 hl h4
   have hjq:q - 1<p.2.length:=by omega
   rw [drop_get (l:=rf2 d p.1) default (by rw [rf2_len]; omega),rf2_get d p.1 om,drop_get (l:=p.2) default hjq,nowS,show q - 1+1=q by omega] at h4
   have h4:r=(nowS d ((rf2 d p.1).drop (q+1)) (p.2.drop q) ((rng d).filter fun i=>(now.any fun m=>staS d m i (p.2.getD (q - 1) default))&&rsfS d i (p.1.getD q default))).any fun m=>m==n:=h4
   have eq1:w6 ((q:Int) - 1)=((q - 1:Nat):Int):=by rw [w64 om]; omega
   refine ⟨fun _=>?_,fun hc=>oe hc⟩
   have l51:∀ (k2 i:Nat),i+k2=d.1.length→rpfl51 N d p (q:Int) now (rpfl36 N d n p (fun a=>a=r) (k+1)) (k2+1) (i:Int) (((rng d).take i).filter fun i=>(now.any fun m=>staS d m i (p.2.getD (q - 1) default))&&rsfS d i (p.1.getD q default)):=by
    intro k2
    induction k2 with
    | zero =>
     intro i h5
     refine ⟨fun hc=>od hc,fun _=>?_⟩
     rw [List.take_of_length_le (by rw [rng_len]; omega),w64 om]
     refine ih (q+1) _ om om ?_ h4
     have:=hfl (fun i=>(now.any fun m=>staS d m i (p.2.getD (q - 1) default))&&rsfS d i (p.1.getD q default)) (rng d).length
     rw [List.take_length] at this
     exact this
    | succ k2 ih2 =>
     intro i h5
     have hacc:=hfl (fun i=>(now.any fun m=>staS d m i (p.2.getD (q - 1) default))&&rsfS d i (p.1.getD q default)) i
     have hnext:=filt_next (rng d) (fun i=>(now.any fun m=>staS d m i (p.2.getD (q - 1) default))&&rsfS d i (p.1.getD q default)) (i:=i) (by rw [rng_len]; omega)
     rw [rng_get d om] at hnext
     generalize ((rng d).take i).filter (fun i=>(now.any fun m=>staS d m i (p.2.getD (q - 1) default))&&rsfS d i (p.1.getD q default))=acc at hacc hnext
     have j58:∀ acc',acc'=((rng d).take (i+1)).filter (fun i=>(now.any fun m=>staS d m i (p.2.getD (q - 1) default))&&rsfS d i (p.1.getD q default))→rpfj58 (i:Int) acc' (rpfl51 N d p (q:Int) now (rpfl36 N d n p (fun a=>a=r) (k+1)) (k2+1)):=fun acc' ha=>by
      unfold rpfj58
      rw [w64 om,ha]
      exact ih2 (i+1) om
     have j77:∀ b,b=(now.any fun m=>staS d m (i:Int) (p.2.getD (q - 1) default))→rpfj77 d p b (i:Int) (q:Int) acc (rpfl51 N d p (q:Int) now (rpfl36 N d n p (fun a=>a=r) (k+1)) (k2+1)):=fun b hb=>by
      unfold rpfj77
      rw [tnc,hb]
      refine ⟨fun hc=>⟨by rw [List.length_append,List.length_singleton]; omega,j58 _ ?_⟩,fun hc=>j58 _ ?_⟩
      ·rw [← hnext,if_t hc]
      rw [← hnext,if_f hc]
     have l66:∀ (k3 m:Nat) (b:Bool),m+k3=now.length→(now.any fun m=>staS d m (i:Int) (p.2.getD (q - 1) default))=(b||(now.drop m).any fun m=>staS d m (i:Int) (p.2.getD (q - 1) default))→rpfl66 N d p (i:Int) (q:Int) now acc (rpfl51 N d p (q:Int) now (rpfl36 N d n p (fun a=>a=r) (k+1)) (k2+1)) (k3+1) b (m:Int):=by
      have fin:∀ b,b=(now.any fun m=>staS d m (i:Int) (p.2.getD (q - 1) default))→((b=true→(0:Int)≤(q:Int)∧Int.toNat (q:Int)<p.1.length∧rsfP N d (i:Int) (p.1.getD (Int.toNat (q:Int)) default)∧rpfj77 d p b (i:Int) (q:Int) acc (rpfl51 N d p (q:Int) now (rpfl36 N d n p (fun a=>a=r) (k+1)) (k2+1)))∧(b=false→rpfj77 d p b (i:Int) (q:Int) acc (rpfl51 N d p (q:Int) now (rpfl36 N d n p (fun a=>a=r) (k+1)) (k2+1)))):=fun b hb=>by
       rw [tnc]
       exact ⟨fun _=>⟨by omega,by omega,hT q om _ (hin i om),j77 b hb⟩,fun _=>j77 b hb⟩
      intro k3
      induction k3 with
      | zero =>
       intro m b h6 h7
       rw [List.drop_of_length_le om,List.any_nil,Bool.or_false] at h7
       refine ⟨fun hc=>?_,fun _=>fin b h7.symm⟩
       rw [Bool.and_eq_true] at hc
       have:=of_decide_eq_true hc.1
       omega
      | succ k3 ih3 =>
       intro m b h6 h7
       cases b with
       | true=>exact ⟨(fun hc=>by rw [Bool.not_true,Bool.and_false] at hc; cases hc),fun _=>fin true (by rw [h7,Bool.true_or])⟩
       | false =>
        rw [drop_get (l:=now) default om,List.any_cons,Bool.false_or] at h7
        refine ⟨fun _=>?_,fun hc=>?_⟩
        ·rw [eq1,tnc,tnc,w64 om]
         exact ⟨by omega,by omega,by omega,hjq,⟨hG,hin i om⟩,ih3 (m+1) _ om h7⟩
        rw [decide_eq_true om] at hc; cases hc
     exact ⟨fun _=>⟨_,l66 now.length 0 false om rfl⟩,fun hc=>oe hc⟩
   exact ⟨_,l51 d.1.length 0 om⟩
 have l17:∀ (k i:Nat),i+k=d.1.length→rpfl17 N d n p (fun a=>a=r) (k+1) (i:Int) (((rng d).take i).filter fun x=>rsfS d x (p.1.getD 0 default)):=by
  intro k
  induction k with
  | zero =>
   intro i h3
   refine ⟨fun hc=>od hc,fun _=>⟨_,l36 (p.1.length - 1) 1 _ (Nat.le_refl _) om (hfl _ _) ?_⟩⟩
   rw [List.take_of_length_le (by rw [rng_len]; omega)]
   rw [hr,← List.drop_one]; rfl
  | succ k ih =>
   intro i h3
   have hacc:=hfl (fun x=>rsfS d x (p.1.getD 0 default)) i
   have hnext:=filt_next (rng d) (fun x=>rsfS d x (p.1.getD 0 default)) (i:=i) (by rw [rng_len]; omega)
   rw [rng_get d om] at hnext
   generalize ((rng d).take i).filter (fun x=>rsfS d x (p.1.getD 0 default))=acc at hacc hnext
   have j24:rpfj24 d p (i:Int) acc (rpfl17 N d n p (fun a=>a=r) (k+1)):=by
    unfold rpfj24 rpfV2
    rw [show Int.toNat 0=0 from rfl,hnext,w64 om]
    exact ih (i+1) om
   exact ⟨fun _=>⟨Int.le_refl _,hpos,hT 0 hpos _ (hin i om),fun _=>⟨by rw [List.length_append,List.length_singleton]; omega,j24⟩,fun _=>j24⟩,fun hc=>oe hc⟩
 exact ⟨_,l17 d.1.length 0 om⟩
theorem rafy_F (N:Nat) (d:DC) (n:Int) (l:List Ph) (h:rafyP (N+1) d n l):rafyF N d n l (fun r=>r=rafyS d n l):=by
 obtain ⟨h1,h2,hG,hn,hk⟩:=h
 rw [b3_eq] at h1 h2
 have hl:l.length≤1048600:=by have:=w3_len l; omega
 have hP:∀ q ∈ l,rpfP N d n q:=fun q hq=>by
  have:=w3_in hq
  have ho:=ok3_in hk hq
  exact ⟨by omega,by omega,hG,hn,ho.1.1,ho.1.2.1,ho.2,ho.1.2.2⟩
 have loop:∀ (k i:Nat),i+k=l.length→rafyS d n l=rn3 d (l.drop i) n→rafyl7 N d n l (fun r=>r=rafyS d n l) (k+1) (i:Int):=by
  intro k
  induction k with
  | zero =>
   intro i h3 h4
   rw [List.drop_of_length_le om,rn3] at h4
   exact ⟨fun hc=>od hc,fun _=>h4.symm⟩
  | succ k ih =>
   intro i h3 h4
   rw [drop_get (l:=l) default om,rn3_cons] at h4
   refine ⟨fun _=>⟨by omega,by rw [tnc]; omega,hP _ (mem_getD default (by rw [tnc]; omega)),fun hc=>?_,fun hc=>?_⟩,fun hc=>oe hc⟩
   ·rw [tnc] at hc
    have hc:rpB d (rf2 d (l.getD i default).1) (l.getD i default).2 n=true:=hc
    rw [hc,Bool.true_or] at h4
    exact h4.symm
   rw [tnc] at hc
   have hc:rpB d (rf2 d (l.getD i default).1) (l.getD i default).2 n=false:=hc
   rw [hc,Bool.false_or] at h4
   rw [w64 om]
   exact ih (i+1) om h4
 exact ⟨_,loop l.length 0 om rfl⟩
theorem rtf_rec:∀ N,rtf_C N∧rsf_C N∧rpf_C N∧rafy_C N
 | 0=>⟨(by intro g q0 k0 xd xn L0 A0 xt u0 G0 hG0 hp; exact (rtf_0 xd xn xt hp).elim),(by intro g q0 k0 xd xn axs_0 cxs_0 xs u0 b1 hG0 hp; exact (rsf_0 xd xn xs hp).elim),(by intro g q0 k0 xd xn S0 B0 E0 F0 xp u0 K0 J0 hG0 hp; exact (rpf_0 xd xn xp hp).elim),(by intro g q0 k0 xd xn z1 v1 xl u0 c1 hG0 hp; exact (rafy_0 xd xn xl hp).elim)⟩
 | N+1 =>
  have ih:=rtf_rec N
  ⟨(by intro g q0 k0 xd xn L0 A0 xt u0 G0 hG0 hp; exact (rtf_ok N ih.1 ih.2.1 ih.2.2.1 ih.2.2.2 xd xn xt u0 G0 hG0 _ (rtf_F N xd xn xt hp)).gv),(by intro g q0 k0 xd xn axs_0 cxs_0 xs u0 b1 hG0 hp; exact (rsf_ok N ih.1 ih.2.1 ih.2.2.1 ih.2.2.2 xd xn xs u0 b1 hG0 _ (rsf_F N xd xn xs hp)).gv),(by intro g q0 k0 xd xn S0 B0 E0 F0 xp u0 K0 J0 hG0 hp; exact (rpf_ok N ih.1 ih.2.1 ih.2.2.1 ih.2.2.2 xd xn xp u0 K0 J0 hG0 _ (rpf_F N xd xn xp hp)).gv),(by intro g q0 k0 xd xn z1 v1 xl u0 c1 hG0 hp; exact (rafy_ok N ih.1 ih.2.1 ih.2.2.1 ih.2.2.2 xd xn xl u0 c1 hG0 _ (rafy_F N xd xn xl hp)).gv)⟩
def rpfPE (xd:Dc) (xn:Int) (xp:PH):Prop:=∃ N,rpfP N xd xn xp
theorem rpf_c {g:Ghost} {q0:Option Addr} {k0:Nat} (xd:Dc) (xn:Int) {S0:Option Addr} {B0:Nat} {E0:Option Addr} {F0:Nat} (xp:PH) (u0:Rep g yNs [.slice q0 xd.1.length k0] xd.1) (K0:Rep g (.slice (.slice yS)) [.slice S0 xp.1.length B0] xp.1) (J0:Rep g (.slice yb) [.slice E0 xp.2.length F0] xp.2) (hG0:SomeInt g 0)  (hp:rpfPE xd xn xp):CallsG prog 10 #[.agg (aD xd q0 k0),iv xn,.agg #[.slice S0 xp.1.length B0,.slice E0 xp.2.length F0]] g (.bool (rpfS xd xn xp)):=by
 obtain ⟨N,hp⟩:=hp
 exact (rtf_rec N).2.2.1 _ xd xn xp u0 K0 J0 hG0 hp
end
end Go.Proofs.YtdapgmigogpdcaaGreatDoor.Ma
