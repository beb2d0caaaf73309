/- match: the document's tests. -/
import Derived.Test.YtdapgmigogpdcaaGreatDoorMah
set_option linter.unusedSimpArgs false
set_option linter.unusedVariables false
namespace Go.Proofs.YtdapgmigogpdcaaGreatDoor.Ma
open _root_.Go.Proofs.Tryz Go Go.iT Go.RowKit Ti Do Se Sr tO Tk
set_option maxHeartbeats 4000000
set_option maxRecDepth 100000
noncomputable section
def Mf (d:DC) (n:Int) (t:Ts):Bool:=Zp d t n
def kR (d:DC) (n:Int) (s:List Ts):Bool:=Rs d s n&&eU d n
def rR (d:DC) (n:Int) (p:Ph):Bool:=SF d (Gz d p.1) p.2 n
def vZ (d:DC) (n:Int) (l:List Ph):Bool:=Qy d l n
def Sz (N:Nat) (d:DC) (n:Int) (t:Ts):Prop:=bT t<N∧bT t≤1048600∧gN d∧nu d n∧∃ i,yh t i=true
def JN (N:Nat) (d:DC) (n:Int) (s:List Ts):Prop:=w1 s+1<N∧w1 s≤1048600∧gN d∧nu d n∧∃ i,ok1 s i=true
def Qx (N:Nat) (d:DC) (n:Int) (p:Ph):Prop:=QN N d n p
def Fg (N:Nat) (d:DC) (n:Int) (l:List Ph):Prop:=Ke N d n l
def JK (N:Nat):Prop:=∀ (g:ak) {k0:Option Addr} {y0:Nat} (xd:Dc) (xn:Int) {P0:Option Addr} {R0:Nat} (xt:TS) (u0:bE g qj [.slice k0 xd.1.length y0] xd.1) (E0:bE g (.slice yP) [.slice P0 xt.kids.length R0] xt.kids) (hG0:bR g 0)  (hp:Sz N xd xn xt),bC prog 43 #[.agg (aD xd k0 y0),iv xn,.agg (aL xt.lab P0 xt.kids.length R0)] g (.bool (Mf xd xn xt))
def JM (N:Nat):Prop:=∀ (g:ak) {k0:Option Addr} {y0:Nat} (xd:Dc) (xn:Int) {axs_0:Option Addr} {cxs_0:Nat} (xs:List TS) (u0:bE g qj [.slice k0 xd.1.length y0] xd.1) (v1:bE g (.slice yS) [.slice axs_0 xs.length cxs_0] xs) (hG0:bR g 0)  (hp:JN N xd xn xs),bC prog 24 #[.agg (aD xd k0 y0),iv xn,.slice axs_0 xs.length cxs_0] g (.bool (kR xd xn xs))
def JO (N:Nat):Prop:=∀ (g:ak) {k0:Option Addr} {y0:Nat} (xd:Dc) (xn:Int) {C0:Option Addr} {D0:Nat} {F0:Option Addr} {G0:Nat} (xp:PH) (u0:bE g qj [.slice k0 xd.1.length y0] xd.1) (K0:bE g (.slice (.slice yS)) [.slice C0 xp.1.length D0] xp.1) (J0:bE g (.slice yb) [.slice F0 xp.2.length G0] xp.2) (hG0:bR g 0)  (hp:Qx N xd xn xp),bC prog 10 #[.agg (aD xd k0 y0),iv xn,.agg #[.slice C0 xp.1.length D0,.slice F0 xp.2.length G0]] g (.bool (rR xd xn xp))
def CK (N:Nat):Prop:=∀ (g:ak) {k0:Option Addr} {y0:Nat} (xd:Dc) (xn:Int) {T0:Option Addr} {L0:Nat} (xl:List PH) (u0:bE g qj [.slice k0 xd.1.length y0] xd.1) (q1:bE g (.slice yP) [.slice T0 xl.length L0] xl) (hG0:bR g 0)  (hp:Fg N xd xn xl),bC prog 13 #[.agg (aD xd k0 y0),iv xn,.slice T0 xl.length L0] g (.bool (vZ xd xn xl))
def JL (xd:Dc) (xn:Int) (xt:TS):Bool :=
 ((jY xd xn ([105,100]:Bs)).2&&((jY xd xn ([105,100]:Bs)).1==xt.lab.2.1))
def E9 (xd:Dc) (xn:Int) (xt:TS):Bool :=
 ((jY xd xn ([99,108,97,115,115]:Bs)).2&&(Dx (jY xd xn ([99,108,97,115,115]:Bs)).1 xt.lab.2.1))
def E8 (xd:Dc) (xn:Int) (xt:TS):Bool :=
 ((jY xd xn xt.lab.2.1).2&&((xt.lab.2.2.1==0)||QB (jY xd xn xt.lab.2.1).1 xt))
def Cu (e29:Nd):Bool :=
 ((e29.1==2)||((e29.1==3)&&(!(e29.2.2.2.1==([]:Bs)))))
def E5 (xd:Dc) (xn:Int) (xt:TS) (x0:Int):Bool :=
 ((((d_ xd xn).getD x0.toNat default)==xn)&&(xt.lab.1==8))
def Md (xd:Dc) (xn:Int) (xt:TS) (K:Bool→Prop):Prop :=
 K (JL xd xn xt)
def Mc (xd:Dc) (xn:Int) (xt:TS) (K:Bool→Prop):Prop :=
 K (E9 xd xn xt)
def Gp (xd:Dc) (xn:Int) (xt:TS) (K:Bool→Prop):Prop :=
 K (E8 xd xn xt)
def za (K:Bool→Prop) (e29:Nd) (d0:Int) (C57:Int→Prop):Prop :=
 (Cu e29=true→K false)∧(Cu e29=false→C57 (w6 (d0+1)))
def Gm (xd:Dc) (xn:Int) (K:Bool→Prop) (d0:Int) (C57:Int→Prop):Prop :=
 0≤xn∧xn.toNat<xd.1.length∧((decide (d0<((xd.1.getD xn.toNat default).2.2.2.2.2.length:Int)))=true→0≤d0∧d0.toNat<(xd.1.getD xn.toNat default).2.2.2.2.2.length∧0≤((xd.1.getD xn.toNat default).2.2.2.2.2.getD d0.toNat default)∧Int.toNat ((xd.1.getD xn.toNat default).2.2.2.2.2.getD d0.toNat default)<xd.1.length∧(((xd.1.getD (Int.toNat ((xd.1.getD xn.toNat default).2.2.2.2.2.getD d0.toNat default)) default).1==2)=true→za K (xd.1.getD (Int.toNat ((xd.1.getD xn.toNat default).2.2.2.2.2.getD d0.toNat default)) default) d0 C57)∧(((xd.1.getD (Int.toNat ((xd.1.getD xn.toNat default).2.2.2.2.2.getD d0.toNat default)) default).1==2)=false→(((xd.1.getD (Int.toNat ((xd.1.getD xn.toNat default).2.2.2.2.2.getD d0.toNat default)) default).1==3)=true→za K (xd.1.getD (Int.toNat ((xd.1.getD xn.toNat default).2.2.2.2.2.getD d0.toNat default)) default) d0 C57)∧(((xd.1.getD (Int.toNat ((xd.1.getD xn.toNat default).2.2.2.2.2.getD d0.toNat default)) default).1==3)=false→za K (xd.1.getD (Int.toNat ((xd.1.getD xn.toNat default).2.2.2.2.2.getD d0.toNat default)) default) d0 C57)))∧((decide (d0<((xd.1.getD xn.toNat default).2.2.2.2.2.length:Int)))=false→K true)
def uf (xd:Dc) (xn:Int) (K:Bool→Prop):Nat→Int→Prop
 | 0,_=>False
 | k+1,d0=>Gm xd xn K d0 (uf xd xn K k)
def xW (xd:Dc) (xn:Int) (xt:TS) (K:Bool→Prop) (x0:Int) (C90:Int→Prop):Prop :=
 (E5 xd xn xt x0=true→K (kD xt.lab.2.2.2.2.1 xt.lab.2.2.2.2.2 (w6 (x0+1))))∧(E5 xd xn xt x0=false→0≤x0∧x0.toNat<(d_ xd xn).length∧((((d_ xd xn).getD x0.toNat default)==xn)=true→K (kD xt.lab.2.2.2.2.1 xt.lab.2.2.2.2.2 (w6 (((d_ xd xn).length:Int) - x0))))∧((((d_ xd xn).getD x0.toNat default)==xn)=false→C90 (w6 (x0+1))))
def Gl (xd:Dc) (xn:Int) (xt:TS) (K:Bool→Prop) (x0:Int) (C90:Int→Prop):Prop :=
 ((decide (x0<((d_ xd xn).length:Int)))=true→0≤x0∧x0.toNat<(d_ xd xn).length∧((((d_ xd xn).getD x0.toNat default)==xn)=true→xW xd xn xt K x0 C90)∧((((d_ xd xn).getD x0.toNat default)==xn)=false→xW xd xn xt K x0 C90))∧((decide (x0<((d_ xd xn).length:Int)))=false→K false)
def t_ (xd:Dc) (xn:Int) (xt:TS) (K:Bool→Prop):Nat→Int→Prop
 | 0,_=>False
 | k+1,x0=>Gl xd xn xt K x0 (t_ xd xn xt K k)
def Gn (N:Nat) (xd:Dc) (xn:Int) (xt:TS) (K:Bool→Prop):Prop :=
 (((xt.lab.1==8)||(xt.lab.1==9))=true→Dp xd xn∧∃ k,t_ xd xn xt K k 0)∧(((xt.lab.1==8)||(xt.lab.1==9))=false→((xt.lab.1==10)=true→Fg N xd xn xt.kids∧K (!(vZ xd xn xt.kids)))∧((xt.lab.1==10)=false→((xt.lab.1==11)=true→Fg N xd xn xt.kids∧K (vZ xd xn xt.kids))∧((xt.lab.1==11)=false→K true)))
def ahn (N:Nat) (xd:Dc) (xn:Int) (xt:TS) (K:Bool→Prop):Prop :=
 ((xt.lab.1==2)=true→0≤xn∧xn.toNat<xd.1.length∧K ((xd.1.getD xn.toNat default).2.1==xt.lab.2.1))∧((xt.lab.1==2)=false→((xt.lab.1==3)=true→QA xd xn ([105,100]:Bs)∧((jY xd xn ([105,100]:Bs)).2=true→Md xd xn xt K)∧((jY xd xn ([105,100]:Bs)).2=false→Md xd xn xt K))∧((xt.lab.1==3)=false→((xt.lab.1==4)=true→QA xd xn ([99,108,97,115,115]:Bs)∧((jY xd xn ([99,108,97,115,115]:Bs)).2=true→XR (jY xd xn ([99,108,97,115,115]:Bs)).1 xt.lab.2.1∧Mc xd xn xt K)∧((jY xd xn ([99,108,97,115,115]:Bs)).2=false→Mc xd xn xt K))∧((xt.lab.1==4)=false→((xt.lab.1==5)=true→QA xd xn xt.lab.2.1∧((jY xd xn xt.lab.2.1).2=true→((xt.lab.2.2.1==0)=true→Gp xd xn xt K)∧((xt.lab.2.2.1==0)=false→Xc (jY xd xn xt.lab.2.1).1 xt∧Gp xd xn xt K))∧((jY xd xn xt.lab.2.1).2=false→Gp xd xn xt K))∧((xt.lab.1==5)=false→((xt.lab.1==6)=true→0≤xn∧xn.toNat<xd.1.length∧K ((xd.1.getD xn.toNat default).2.2.2.2.1==0))∧((xt.lab.1==6)=false→((xt.lab.1==7)=true→∃ k,uf xd xn K k 0)∧((xt.lab.1==7)=false→((xt.lab.1==8)=true→Gn N xd xn xt K)∧((xt.lab.1==8)=false→Gn N xd xn xt K)))))))
theorem aaT {g:ak} (N:Nat) (Ie:JK N) (zy:JM N) (Ig:JO N) (yC:CK N) {k0:Option Addr} {y0:Nat} (xd:Dc) (xn:Int) {P0:Option Addr} {R0:Nat} (xt:TS) (u0:bE g qj [.slice k0 xd.1.length y0] xd.1) (E0:bE g (.slice yP) [.slice P0 xt.kids.length R0] xt.kids) (hG0:bR g 0) (K:Bool→Prop)
  (hF:ahn N xd xn xt K):az prog 43 #[.agg (aD xd k0 y0),iv xn,.agg (aL xt.lab P0 xt.kids.length R0)] g [] (fun g' H' v=>∃ (r0:Bool),v=.bool r0∧H'=[]∧K r0):=by
 refine aP 200 func43 rfl fun w0=>?_;refine ae (ai (cO fun dD=>?_));refine ai (cO fun iF=>?_);refine av 1 [(1,iv xn),(3,pv dD 0),(5,pv iF 0)] kr (aa (aF (ae (aj 3 [.e 0] [1,3,5] [(19,.bool (xt.lab.1==2))] ?_))));refine aa (aJ hF (fun hc3 hF=>?_) (fun hc3 hF=>?_))
 ·refine aF (gq kr kr (eZ 1 [1,5] [(20,pv dD 0)] ?_));refine dS.op rfl (fK.s (v:=.slice k0 xd.1.length y0) (aS 1 rfl rfl underlying22 rfl kr) rfl rfl (eZ 1 [5] [(21,.slice k0 xd.1.length y0),(22,iv xn)] ?_));obtain ⟨Ep,IE,hF⟩:=hF;have DD:=aT (l:=xd.1) default IE;generalize hg5:(xd.1.getD xn.toNat default)=e5 at DD hF ⊢;refine dS.op rfl (fK.aX (e:=yN) rfl rfl underlying22 kr u0 Ep DD rfl fun q4 o4 cs4 _ ac7 hr4=>?_);obtain ⟨awv,awf,awt,awd,rfl,UQ,ath⟩:=oN hr4;refine eZ 1 [5] [(24,.pointer (some ⟨q4,o4+1,none⟩))] ?_;let F:=e5.2.1==xt.lab.2.1;refine dS.op rfl (fK.s (v:=sv e5.2.1) (fe 1 ac7 kr underlying9 rfl kr) rfl rfl (yX 1 [(25,sv e5.2.1),(26,pv iF 1)] kr (dS.op rfl (fK.s (v:=sv xt.lab.2.1) (aS 0 rfl rfl underlying9 rfl kr) rfl rfl (dS.op rfl (fK.s (v:=.bool F) (iG (f:=.eql) (a:=e5.2.1) (b:=xt.lab.2.1) kr kr rfl) rfl rfl (yX 1 [(6,.bool F)] kr (kQ (Ok.t (Ok.ret (aC ?_)))))))))));exact dE F hF
 refine Ok.k (Ok.t (aF (ae (aj 3 [.e 0] [1,3,5] [(31,.bool (xt.lab.1==3))] ?_))));refine aa (aJ hF (fun hc6 hF=>?_) (fun hc6 hF=>?_))
 ·refine aF (aR ?_);obtain ⟨Im,hF⟩:=hF;let E:=([105,100]:Bs);refine aj 8 [.e 1,.k (SN xd xn E u0 Im)] [5] [(7,sv ((jY xd xn E).1)),(8,.bool (jY xd xn E).2)] ?_;refine aa (iK g [(6,.bool (JL xd xn xt))] [] (Md xd xn xt K) ?_ (fun avB s2 hF=>?_))
  ·
   refine aR (ag 2 [5,7] [(39,.bool (jY xd xn E).2)] ?_);refine bP 39 hF (fun hc8 hF=>?_) (fun hc8 hF=>?_)
   ·refine aj 6 [.e 0] [] [(6,.bool ((jY xd xn E).1==xt.lab.2.1))] ?_;refine aa (aB 6 (JL xd xn xt) (bn hc8) ?_);exact fg hF
   refine av 6 [(6,.bool false)] kr (aa (aB 6 (JL xd xn xt) (bZ hc8) ?_));exact fg hF
  replace hG0:=hG0.mono s2.1;refine Ok.ret (aC ?_);exact qg (.bool (JL xd xn xt)) s2 ⟨_,rfl,rfl,hF⟩
 refine Ok.k (Ok.t (aF (ae (aj 3 [.e 0] [1,3,5] [(47,.bool (xt.lab.1==4))] ?_))));refine aa (aJ hF (fun mq hF=>?_) (fun mq hF=>?_))
 ·refine aF (aR ?_);obtain ⟨Dy,hF⟩:=hF;let A:=([99,108,97,115,115]:Bs);refine aj 8 [.e 1,.k (SN xd xn A u0 Dy)] [5] [(9,sv ((jY xd xn A).1)),(10,.bool (jY xd xn A).2)] ?_;refine aa (iK g [(6,.bool (E9 xd xn xt))] [] (Mc xd xn xt K) ?_ (fun avz b2 hF=>?_))
  ·
   refine aR (ag 2 [5,9] [(55,.bool (jY xd xn A).2)] ?_);refine bP 55 hF (fun o2 hF=>?_) (fun o2 hF=>?_)
   ·obtain ⟨aou,hF⟩:=hF;refine aj 6 [.e 0,.k (Zx (jY xd xn A).1 xt.lab.2.1 aou)] [] [(6,.bool (Dx (jY xd xn A).1 xt.lab.2.1))] ?_;refine aa (aB 6 (E9 xd xn xt) (bn o2) ?_);exact fg hF
   refine av 6 [(6,.bool false)] kr (aa (aB 6 (E9 xd xn xt) (bZ o2) ?_));exact fg hF
  replace hG0:=hG0.mono b2.1;refine Ok.ret (aC ?_);exact qg (.bool (E9 xd xn xt)) b2 ⟨_,rfl,rfl,hF⟩
 refine Ok.k (Ok.t (aF (ae (aj 3 [.e 0] [1,3,5] [(63,.bool (xt.lab.1==5))] ?_))));refine aa (aJ hF (fun UK hF=>?_) (fun UK hF=>?_))
 ·refine aF (aR ?_);obtain ⟨acG,hF⟩:=hF;refine aj 10 [.e 1,.e 0,.k (SN xd xn xt.lab.2.1 u0 acG)] [5] [(11,sv ((jY xd xn xt.lab.2.1).1)),(12,.bool (jY xd xn xt.lab.2.1).2)] ?_;refine aa (iK g [(6,.bool (E8 xd xn xt))] [] (Gp xd xn xt K) ?_ (fun avx c2 hF=>?_))
  ·
   refine aR (ag 2 [5,11] [(73,.bool (jY xd xn xt.lab.2.1).2)] ?_);refine bP 73 hF (fun C1 hF=>?_) (fun C1 hF=>?_)
   ·refine aj 4 [.e 0] [5,11] [(73,.bool true),(77,.bool (xt.lab.2.2.1==0))] ?_;refine bP 77 hF (fun p2 hF=>?_) (fun p2 hF=>?_)
    ·refine av 6 [(6,.bool true)] kr (aa (aB 6 (E8 xd xn xt) (au (cK p2) (bn C1)) ?_));exact fg hF
    obtain ⟨UA,hF⟩:=hF;refine aj 6 [.e 0,.k (ahY (jY xd xn xt.lab.2.1).1 xt E0 UA)] [] [(6,.bool (QB (jY xd xn xt.lab.2.1).1 xt))] ?_;refine aa (aB 6 (E8 xd xn xt) (au (bN p2) (bn C1)) ?_);exact fg hF
   refine av 10 [(6,.bool false)] kr (aa (aB 6 (E8 xd xn xt) (bZ C1) ?_));exact fg hF
  replace hG0:=hG0.mono c2.1;refine Ok.ret (aC ?_);exact qg (.bool (E8 xd xn xt)) c2 ⟨_,rfl,rfl,hF⟩
 refine Ok.k (Ok.t (aF (ae (aj 3 [.e 0] [1,3,5] [(85,.bool (xt.lab.1==6))] ?_))));refine aa (aJ hF (fun hc18 hF=>?_) (fun hc18 hF=>?_))
 ·refine ae (aj 3 [.e 1] [] [(87,.slice k0 xd.1.length y0),(88,iv xn)] ?_);obtain ⟨aek,aea,hF⟩:=hF;have J2:=aT (l:=xd.1) default aea;generalize aj1:(xd.1.getD xn.toNat default)=e20 at J2 hF ⊢;refine ai (af.aX (e:=yN) rfl rfl underlying22 kr u0 aek J2 rfl fun q19 o19 arM _ akf acn=>?_);obtain ⟨aud,atG,auc,atF,rfl,aqk,aqj⟩:=oN acn;refine aj 4 [.a 4 akf] [] [(6,.bool (e20.2.2.2.2.1==0))] ?_;refine aa (Ok.ret (aC ?_));exact dE (e20.2.2.2.2.1==0) hF
 refine Ok.k (Ok.t (aF (ae (aj 3 [.e 0] [1,3,5] [(95,.bool (xt.lab.1==7))] ?_))));refine aa (aJ hF (fun E1 hF=>?_) (fun E1 hF=>?_))
 ·refine aF (ae (ag 1 [1,3] [(13,iv 0)] ?_));refine aa (Ok.block ?_);obtain ⟨k,hF⟩:=hF;refine fQ (fun k a W=>∃ c1:ak,bf w0 g c1∧∃ (d0:Int),fC 200 [(1,iv xn),(3,pv dD 0),(13,iv d0)] a∧dm w0 [.blk dD (.cells (aD xd k0 y0) 24)] c1 W∧uf xd xn K k d0) k ?_ ?_
  ·
   exact fun _ _ u v=>⟨g,bu w0 g,0,fA u v hF⟩
  clear hF;rintro (_ | k57) _ _ ⟨c1,Y1,d0,q⟩;exact (q.2.2:False).elim;refine jn (fun hF=>?_) _ _ q;replace u0:=u0.mono Y1.1;replace hG0:=hG0.mono Y1.1;refine aF (ae (aj 4 [.e 0] [1,3,13] [(96,iv d0),(98,.slice k0 xd.1.length y0),(99,iv xn)] ?_));obtain ⟨W2,II,hF⟩:=hF;have r2:=aT (l:=xd.1) default II;generalize acO:(xd.1.getD xn.toNat default)=e23 at r2 hF ⊢;refine ai (af.aX (e:=yN) rfl rfl underlying22 kr u0 W2 r2 rfl fun q22 o22 ala _ akd Ut=>?_);obtain ⟨at7,atC,at6,atB,rfl,aqf,aqe⟩:=oN Ut;refine aj 4 [.a 5 akd] [1,3,13] [(104,.bool (decide (d0<(e23.2.2.2.2.2.length:Int))))] ?_;refine aa (dW hF rfl (fun t2=>?_) (fun t2=>?_))
  ·replace hF:=hF.1 t2;refine Ok.k (Ok.t (aF (Ok.block (aF (wH [] [] [1] [(0,true),(1,true),(2,true),(3,true),(4,true),(5,true),(6,true),(7,true),(8,true),(9,true),(10,true),(11,true),(12,true),(13,false),(14,false)] ?_)))));refine iJ 1 [1,3,13] [(107,pv dD 0)] ?_;refine eH.hd (fK.s (v:=.slice k0 xd.1.length y0) (aS 0 rfl rfl underlying22 rfl kr) rfl rfl ?_);refine iJ 1 [1,3,13] [(108,.slice k0 xd.1.length y0),(109,pv dD 0)] ?_;refine eH.hd (fK.s (v:=.slice k0 xd.1.length y0) (aS 0 rfl rfl underlying22 rfl kr) rfl rfl ?_);refine iJ 1 [1,3,13,108] [(110,.slice k0 xd.1.length y0),(111,iv xn)] ?_;refine eH.hd (fK.aX (e:=yN) rfl rfl underlying22 kr u0 W2 r2 rfl fun q25 o25 arJ _ akc acj=>?_);obtain ⟨at5,atA,d2,e2,rfl,aqc,adx⟩:=oN acj;refine iJ 1 [1,3,13,108] [(113,.pointer (some ⟨q25,o25+5,none⟩))] ?_;refine eH.hd (fK.s (v:=.slice d2 e23.2.2.2.2.2.length e2) (fe 5 akc kr underlying46 rfl kr) rfl rfl ?_);refine iJ 1 [1,3,13,108] [(114,.slice d2 e23.2.2.2.2.2.length e2),(115,iv d0)] ?_;obtain ⟨U7,h127,hF⟩:=hF;have X2:=aT (l:=e23.2.2.2.2.2) default h127;generalize aoJ:(e23.2.2.2.2.2.getD d0.toNat default)=e27 at X2 hF ⊢;refine eH.hd (fK.aX (e:=.int .i64) rfl rfl underlying46 kr adx U7 X2 rfl fun q26 o26 av0 _ F1 aoc=>?_);obtain rfl:=aoc;replace F1:At c1 q26 o26 [iv e27]:=F1;refine eH.hd (fK.s (v:=iv e27) (fe 0 F1 kr underlying3 rfl kr) rfl rfl ?_);obtain ⟨Np,Nj,hF⟩:=hF;have S2:=aT (l:=xd.1) default Nj;generalize UG:(xd.1.getD e27.toNat default)=e29 at S2 hF ⊢;refine eH.hd (fK.aX (e:=yN) rfl rfl underlying22 kr u0 Np S2 rfl fun q28 o28 ak8 _ aka Ur=>?_);obtain ⟨f2,g2,m2,n2,rfl,ap7,ap6⟩:=oN Ur;refine eH.hd (fK.s (v:=.agg (aN e29 f2 g2 m2 n2)) (bL 0 6 (aN e29 f2 g2 m2 n2) aka kr underlying48 rfl kr kr kr) rfl rfl ?_);refine eH.t rfl rfl (bI #[iv 0,sv ([]:Bs),.slice none 0 0,sv ([]:Bs),iv 0,.slice none 0 0] fun ar1=>?_);refine h_ (lG.refl _) (eH.t rfl rfl (af.w 0 ?_));refine h_ (lG.refl _) (eH.nil (Ok.t (Ok.cut (fun a W=>∃ y2:ak,bf w0 c1 y2∧fC 200 [(1,iv xn),(3,pv dD 0),(13,iv d0),(132,.bool (Cu e29))] a∧dm w0 [.blk dD (.cells (aD xd k0 y0) 24)] y2 W∧za K e29 d0 (uf xd xn K k57)) ?_ ?_)))
   ·
    refine aR (aj 4 [.e 0] [1,3,13] [(14,pv ar1 0),(123,.bool (e29.1==2))] ?_);refine bP 123 hF (fun u2 hF=>?_) (fun u2 hF=>?_)
    ·refine ag 9 [1,3,13] [(132,.bool true)] ?_;refine aa (aB 132 (Cu e29) (cK u2) ?_);exact fg hF
    refine aj 4 [.e 0] [1,3,13,14] [(123,.bool false),(127,.bool (e29.1==3))] ?_;refine bP 127 hF (fun G1 hF=>?_) (fun G1 hF=>?_)
    ·refine aj 5 [.e 0] [1,3,13] [(132,.bool (!(e29.2.2.2.1==([]:Bs))))] ?_;refine aa (aB 132 (Cu e29) (au (bn G1) (bN u2)) ?_);exact fg hF
    refine ag 5 [1,3,13] [(132,.bool false)] ?_;refine aa (aB 132 (Cu e29) (au (bZ G1) (bN u2)) ?_);exact fg hF
   clear hF;rintro _ _ ⟨y2,B1,q⟩;refine jn (fun hF=>?_) _ _ q;replace u0:=u0.mono B1.1;replace hG0:=hG0.mono B1.1;refine dW hF rfl (fun a2=>?_) (fun a2=>?_)
   ·replace hF:=hF.1 a2;refine ae (av 1 [(6,.bool false)] kr (aa (Ok.ret (aV (aC (aC (aV (aC (aC ?_)))))))));exact jg (.bool false) (Y1.trans B1) ⟨_,rfl,rfl,hF⟩
   replace hF:=hF.2 a2;refine Ok.k (bG (Ok.t (aR (ag 3 [1,3] [(13,iv (w6 (d0+1)))] ?_))));refine bV (Ok.t ?_);subst UG;subst aoJ;subst acO;exact fun _ _ u v=>⟨k57,nl,y2,Y1.trans B1,w6 (d0+1),fA u v hF⟩
  replace hF:=hF.2 t2;refine fw (ay (ay (aM (Ok.t (ae (av 1 [(6,.bool true)] kr (aa (Ok.ret (aC ?_)))))))));exact jg (.bool true) Y1 ⟨_,rfl,rfl,hF⟩
 let B:=(.cells (aL xt.lab P0 xt.kids.length R0) 60:Obj);let D:=(xt.lab.1==8)||(xt.lab.1==9);refine Ok.k (Ok.t (aF (iK g [(1,iv xn),(3,pv dD 0),(5,pv iF 0),(140,.bool D)] [.blk iF B,.blk dD (.cells (aD xd k0 y0) 24)] (Gn N xd xn xt K) ?_ (fun avu y1 hF=>?_))))
 ·
  refine aR (aj 4 [.e 0] [1,3,5] [(136,.bool (xt.lab.1==8))] ?_);refine bP 136 hF (fun i2 hF=>?_) (fun i2 hF=>?_)
  ·refine ag 4 [1,3,5] [(140,.bool true)] ?_;refine aa (aB 140 D (cK i2) ?_);exact fg hF
  refine aj 4 [.e 0] [1,3,5] [(140,.bool (xt.lab.1==9))] ?_;refine aa (aB 140 D (bN i2) ?_);exact fg hF
 replace E0:=E0.mono y1.1;replace u0:=u0.mono y1.1;replace hG0:=hG0.mono y1.1;refine aJ hF (fun H1 hF=>?_) (fun H1 hF=>?_)
 ·refine ae (aj 2 [.e 1] [1,5] [(141,.agg (aD xd k0 y0)),(142,iv xn)] ?_);obtain ⟨aor,hF⟩:=hF;refine ai (bS (Zy xd xn u0 aor) fun g36 _ _ D1 apH=>?_);obtain ⟨d1,e1,i1,rfl,j1,rfl⟩:=apH;replace u0:=u0.mono D1.1;replace E0:=E0.mono D1.1;replace hG0:=hG0.mono D1.1;refine ag 1 [1,5] [(15,.slice d1 (d_ xd xn).length e1)] ?_;refine aa (aF (ae (ag 1 [1,5,15] [(16,iv 0)] ?_)));refine aa (Ok.block ?_);obtain ⟨k,hF⟩:=hF;refine fQ (fun k a W=>∃ U1:ak,bf w0 g36 U1∧∃ (x0:Int),fC 200 [(1,iv xn),(5,pv iF 0),(15,.slice d1 (d_ xd xn).length e1),(16,iv x0)] a∧dm w0 [.own (.slice d1 (d_ xd xn).length e1) 3 1 (d_ xd xn).length i1,.blk iF B] U1 W∧t_ xd xn xt K k x0) k ?_ ?_
  ·
   exact fun _ _ u v=>⟨g36,bu w0 g36,0,fA u v hF⟩
  clear hF;rintro (_ | k90) _ _ ⟨U1,f1,x0,q⟩;exact (q.2.2:False).elim;refine jn (fun hF=>?_) _ _ q;replace j1:=j1.mono f1.1;replace E0:=E0.mono f1.1;replace hG0:=hG0.mono f1.1;refine aF (ae (ag 4 [1,5,15,16] [(147,.bool (decide (x0<((d_ xd xn).length:Int))))] ?_));refine aa (aJ hF (fun acT hF=>?_) (fun acT hF=>?_))
  ·refine Ok.k (Ok.t (aF (Ok.block (aF (iK U1 [(1,iv xn),(5,pv iF 0),(15,.slice d1 (d_ xd xn).length e1),(16,iv x0),(160,.bool (E5 xd xn xt x0))] [.own (.slice d1 (d_ xd xn).length e1) 3 1 (d_ xd xn).length i1,.blk iF B] (xW xd xn xt K x0 (t_ xd xn xt K k90)) ?_ (fun akN x1 hF=>?_))))))
   ·
    refine aR (ag 2 [1,5,15,16] [(150,.slice d1 (d_ xd xn).length e1),(151,iv x0)] ?_);obtain ⟨U5,adZ,hF⟩:=hF;have B2:=aT (l:=d_ xd xn) default adZ;generalize C2:((d_ xd xn).getD x0.toNat default)=e43 at B2 hF ⊢;refine ai (af.fZ (e:=.int .i64) 0 rfl j1 rfl rfl underlying46 kr kr U5 B2 rfl fun avT _ an5 Z2=>?_);obtain rfl:=an5;replace Z2:∀ j v,([iv e43]:List Value)[j]? = some v→i1[x0.toNat * 1+j]? = some v:=Z2;refine ai (af.s (v:=iv e43) (dP 0 0 rfl Z2 rfl underlying3 rfl kr) rfl rfl (ag 3 [1,5,15,16] [(156,.bool (e43==xn))] ?_));refine Ok.a 156 (e43==xn) rfl (fun M1=>?_) (fun M1=>?_)
    ·replace hF:=hF.1 M1;refine aj 4 [.e 1] [1,5,15,16] [(160,.bool (xt.lab.1==8))] ?_;refine bV (Ok.t ?_);subst C2;refine aB 160 (E5 xd xn xt x0) (bn M1) ?_;exact fg hF
    replace hF:=hF.2 M1;refine ag 4 [1,5,15,16] [(160,.bool false)] ?_;refine bV (Ok.t ?_);subst C2;refine aB 160 (E5 xd xn xt x0) (bZ M1) ?_;exact fg hF
   replace j1:=j1.mono x1.1;replace E0:=E0.mono x1.1;replace hG0:=hG0.mono x1.1;refine aJ hF (fun hc38 hF=>?_) (fun hc38 hF=>?_)
   ·refine ae (aj 8 [.e 1,.e 1,.k (Zt xt.lab.2.2.2.2.1 xt.lab.2.2.2.2.2 (w6 (x0+1)))] [] [(6,.bool (kD xt.lab.2.2.2.2.1 xt.lab.2.2.2.2.2 (w6 (x0+1))))] ?_);refine aa (Ok.ret (aC (aV (aC (aC (aV (aC (aC ?_))))))));exact jg (.bool (kD xt.lab.2.2.2.2.1 xt.lab.2.2.2.2.2 (w6 (x0+1)))) (((y1.trans D1).trans f1).trans x1) ⟨_,rfl,rfl,hF⟩
   refine Ok.k (Ok.t (ae (ag 2 [1,5,15,16] [(168,.slice d1 (d_ xd xn).length e1),(169,iv x0)] ?_)));obtain ⟨aec,ad1,hF⟩:=hF;have D2:=aT (l:=d_ xd xn) default ad1;generalize aoE:((d_ xd xn).getD x0.toNat default)=e40 at D2 hF ⊢;refine ai (af.fZ (e:=.int .i64) 0 rfl j1 rfl rfl underlying46 kr kr aec D2 rfl fun avV _ an7 V2=>?_);obtain rfl:=an7;replace V2:∀ j v,([iv e40]:List Value)[j]? = some v→i1[x0.toNat * 1+j]? = some v:=V2;refine ai (af.s (v:=iv e40) (dP 0 0 rfl V2 rfl underlying3 rfl kr) rfl rfl (ag 2 [1,5,15,16] [(173,.bool (e40==xn))] ?_));refine aa (dW hF rfl (fun Q2=>?_) (fun Q2=>?_))
   ·replace hF:=hF.1 Q2;let G:=w6 (((d_ xd xn).length:Int) - x0);let C:=kD xt.lab.2.2.2.2.1 xt.lab.2.2.2.2.2 G;refine ae (aj 10 [.e 1,.e 1,.k (Zt xt.lab.2.2.2.2.1 xt.lab.2.2.2.2.2 G)] [] [(6,.bool C)] ?_);refine aa (Ok.ret (aV (aC (aC (aV (aC (aC ?_)))))));exact jg (.bool C) (((y1.trans D1).trans f1).trans x1) ⟨_,rfl,rfl,hF⟩
   replace hF:=hF.2 Q2;refine Ok.k (bG (Ok.t (aR (ag 3 [1,5,15] [(16,iv (w6 (x0+1)))] ?_))));refine bV (Ok.t ?_);subst aoE;exact fun _ _ u v=>⟨k90,nl,akN,f1.trans x1,w6 (x0+1),fA u v hF⟩
  refine fw (ay (ay (aM (Ok.t (ae (av 1 [(6,.bool false)] kr (aa (Ok.ret (aC ?_)))))))));exact jg (.bool false) ((y1.trans D1).trans f1) ⟨_,rfl,rfl,hF⟩
 refine Ok.k (Ok.t (aF (ae (aj 3 [.e 0] [1,3,5] [(185,.bool (xt.lab.1==10))] ?_))));refine aa (aJ hF (fun acS hF=>?_) (fun acS hF=>?_))
 ·refine aF (aR ?_);obtain ⟨aon,hF⟩:=hF;refine aj 7 [.e 1,.e 0,.k (yC _ xd xn xt.kids u0 E0 hG0 aon)] [] [(6,.bool (!(vZ xd xn xt.kids)))] ?_;refine aa (Ok.ret (aC ?_));exact jg (.bool (!(vZ xd xn xt.kids))) y1 ⟨_,rfl,rfl,hF⟩
 refine Ok.k (Ok.t (aF (ae (aj 3 [.e 0] [1,3,5] [(194,.bool (xt.lab.1==11))] ?_))));refine aa (aJ hF (fun hc47 hF=>?_) (fun hc47 hF=>?_))
 ·refine aF (aR ?_);obtain ⟨aol,hF⟩:=hF;refine aj 6 [.e 1,.e 0,.k (yC _ xd xn xt.kids u0 E0 hG0 aol)] [] [(6,.bool (vZ xd xn xt.kids))] ?_;refine aa (Ok.ret (aC ?_));exact jg (.bool (vZ xd xn xt.kids)) y1 ⟨_,rfl,rfl,hF⟩
 refine Ok.k (Ok.t (ae (av 1 [(6,.bool true)] kr (aa (Ok.ret ?_)))));exact jg (.bool true) y1 ⟨_,rfl,rfl,hF⟩
def aaX (N:Nat) (xd:Dc) (xn:Int) (xs:List TS) (K:Bool→Prop) (S0:Int) (C7:Int→Prop):Prop :=
 ((decide (S0<(xs.length:Int)))=true→(0:Int)≤S0∧Int.toNat S0<xs.length∧Sz N xd xn (xs.getD (Int.toNat S0) default)∧((!(Mf xd xn (xs.getD (Int.toNat S0) default)))=true→K false)∧((!(Mf xd xn (xs.getD (Int.toNat S0) default)))=false→C7 (w6 (S0+1))))∧((decide (S0<(xs.length:Int)))=false→0≤xn∧xn.toNat<xd.1.length∧K ((xd.1.getD xn.toNat default).1==2))
def OQ (N:Nat) (xd:Dc) (xn:Int) (xs:List TS) (K:Bool→Prop):Nat→Int→Prop
 | 0,_=>False
 | k+1,S0=>aaX N xd xn xs K S0 (OQ N xd xn xs K k)
def aht (N:Nat) (xd:Dc) (xn:Int) (xs:List TS) (K:Bool→Prop):Prop :=
 ∃ k,OQ N xd xn xs K k 0
theorem aaY {g:ak} (N:Nat) (Ie:JK N) (zy:JM N) (Ig:JO N) (yC:CK N) {k0:Option Addr} {y0:Nat} (xd:Dc) (xn:Int) {axs_0:Option Addr} {cxs_0:Nat} (xs:List TS) (u0:bE g qj [.slice k0 xd.1.length y0] xd.1) (v1:bE g (.slice yS) [.slice axs_0 xs.length cxs_0] xs) (hG0:bR g 0) (K:Bool→Prop)
  (hF:aht N xd xn xs K):az prog 24 #[.agg (aD xd k0 y0),iv xn,.slice axs_0 xs.length cxs_0] g [] (fun g' H' v=>∃ (r0:Bool),v=.bool r0∧H'=[]∧K r0):=by
 refine aP 25 func24 rfl fun w0=>?_;refine ae (ai (cO fun dD=>?_));refine av 1 [(1,iv xn),(2,.slice axs_0 xs.length cxs_0),(3,pv dD 0)] kr (aa (aF (ae (ag 1 [1,2,3] [(7,iv 0)] ?_))));refine aa (Ok.block ?_);obtain ⟨k,hF⟩:=hF;refine fQ (fun k a W=>∃ (S0:Int),fC 25 [(1,iv xn),(2,.slice axs_0 xs.length cxs_0),(3,pv dD 0),(7,iv S0)] a∧dm w0 [.blk dD (.cells (aD xd k0 y0) 24)] g W∧OQ N xd xn xs K k S0) k ?_ ?_
 ·
  exact fun _ _ u v=>⟨0,fA u v hF⟩
 clear hF;rintro (_ | k7) _ _ ⟨S0,q⟩;exact (q.2.2:False).elim;refine jn (fun hF=>?_) _ _ q;refine aF (ae (ag 4 [1,2,3,7] [(11,.bool (decide (S0<(xs.length:Int))))] ?_));refine aa (aJ hF (fun hc2 hF=>?_) (fun hc2 hF=>?_))
 ·refine Ok.k (Ok.t (aF (Ok.block (aF (gq kr kr (dS.op rfl (fK.s (v:=.agg (aD xd k0 y0)) (aZ 0 2 (aD xd k0 y0) rfl rfl underlying24 rfl kr kr kr) rfl rfl (eZ 3 [1,2,3,7] [(14,.agg (aD xd k0 y0)),(15,iv xn),(16,.slice axs_0 xs.length cxs_0),(17,iv S0)] ?_))))))));obtain ⟨oo,pg,hF⟩:=hF;have ny:=aT (l:=xs) default pg;generalize hg4:(xs.getD (Int.toNat S0) default)=e4 at ny hF ⊢;refine dS.op rfl (fK.aX (e:=yS) rfl rfl underlying54 kr v1 oo ny rfl fun q3 o3 Rz _ Z1 hr3=>?_);have N1:=hr3;replace N1:=bE.tst.1 N1;obtain ⟨_,_,rfl,⟨_,_,rfl,rfl,⟨_,_,rfl,rfl,⟨_,_,rfl,rfl,⟨_,_,rfl,rfl,⟨_,_,rfl,rfl,rfl⟩⟩⟩⟩⟩,⟨O1,P1,rfl,ajX,ajF⟩⟩:=N1;have akE:bE g (.slice yP) [.slice O1 e4.kids.length P1] e4.kids:=⟨O1,P1,rfl,ajX,ajF⟩;replace Z1:At g q3 o3 (vL e4.lab O1 e4.kids.length P1):=Z1;let A:=aL e4.lab O1 e4.kids.length P1;refine dS.op rfl (fK.s (v:=.agg A) (bL 0 7 A Z1 kr underlying60 rfl kr kr kr) rfl rfl ?_);obtain ⟨M3,hF⟩:=hF;refine dS.op rfl (fK.f gU (fun W hW=>Ie _ xd xn e4 (u0.mono hW.sees) (akE.mono hW.sees) (hG0.mono hW.sees) M3) rfl ?_);refine eZ 1 [1,2,3,7] [(21,.bool (!(Mf xd xn e4)))] ?_;refine kQ (Ok.t (dW hF rfl (fun hc6=>?_) (fun hc6=>?_)))
  ·replace hF:=hF.1 hc6;refine ae (av 1 [(6,.bool false)] kr (aa (Ok.ret (aV (aC (aC (aV (aC ?_))))))));exact dE false hF
  replace hF:=hF.2 hc6;refine Ok.k (bG (Ok.t (aR (ag 3 [1,2,3] [(7,iv (w6 (S0+1)))] ?_))));refine bV (Ok.t ?_);subst hg4;exact fun _ _ u v=>⟨k7,nl,w6 (S0+1),fA u v hF⟩
 refine fw (ay (ay (aM (Ok.t (ae (aj 2 [.e 0] [] [(22,.agg (aD xd k0 y0)),(23,iv xn)] ?_))))));refine ai (bO (args:=#[.agg (aD xd k0 y0),iv xn]) 12 [(0,.agg (aD xd k0 y0)),(1,iv xn)] gU func44 rfl rfl rfl rfl (ae (ai (cO fun afy=>?_))));refine av 1 [(1,iv xn),(2,pv afy 0)] kr (aa (ae (aj 3 [.e 0] [] [(6,.slice k0 xd.1.length y0),(7,iv xn)] ?_)));obtain ⟨Eo,h19,hF⟩:=hF;have Rv:=aT (l:=xd.1) default h19;generalize hg9:(xd.1.getD xn.toNat default)=e9 at Rv hF ⊢;refine ai (af.aX (e:=yN) rfl rfl underlying22 kr u0 Eo Rv rfl fun q8 o8 cs8 _ apv hr8=>?_);obtain ⟨ar6,arV,awo,av4,rfl,akv,atb⟩:=oN hr8;refine aj 4 [.a 0 apv] [] [(4,.bool (e9.1==2))] ?_;refine aa (Ok.ret (bA (vs:=[.bool (e9.1==2)]) (.inl rfl) rfl (.cons (.tmp rfl) .nil) rfl (av 1 [(6,.bool (e9.1==2))] kr (aa (Ok.ret ?_)))));exact dE (e9.1==2) hF
def qP (xd:Dc) (xp:PH) (f0:Int) (q0:List Int):List Int :=
 (if (kR xd f0 (xp.1.getD (Int.toNat 0) default))=true then (q0++([f0]:List Int)) else q0)
def Cx (xd:Dc) (xp:PH) (f0:Int) (q0:List Int) (C17:Int→List Int→Prop):Prop :=
 C17 (w6 (f0+1)) (qP xd xp f0 q0)
def Cw (j0:Int) (Y0:List Int) (RD:Int→List Int→Prop):Prop :=
 RD (w6 (j0+1)) Y0
def wN (xd:Dc) (xp:PH) (t0:Bool) (j0:Int) (s0:Int) (v0:List Int) (RD:Int→List Int→Prop):Prop :=
 ((t0&&(kR xd j0 (xp.1.getD s0.toNat default)))=true→(v0++([j0]:List Int)).length≤17592186044416∧Cw j0 (v0++([j0]:List Int)) RD)∧((t0&&(kR xd j0 (xp.1.getD s0.toNat default)))=false→Cw j0 v0 RD)
def WR (N:Nat) (xd:Dc) (xp:PH) (j0:Int) (s0:Int) (z0:List Int) (v0:List Int) (RD:Int→List Int→Prop) (t0:Bool) (a0:Int) (C66:Bool→Int→Prop):Prop :=
 (((decide (a0<(z0.length:Int)))&&(!t0))=true→0≤a0∧a0.toNat<z0.length∧0≤w6 (s0 - 1)∧Int.toNat (w6 (s0 - 1))<xp.2.length∧aaW xd (z0.getD a0.toNat default) j0 (xp.2.getD (Int.toNat (w6 (s0 - 1))) default)∧C66 (nJ xd (z0.getD a0.toNat default) j0 (xp.2.getD (Int.toNat (w6 (s0 - 1))) default)) (w6 (a0+1)))∧(((decide (a0<(z0.length:Int)))&&(!t0))=false→(t0=true→0≤s0∧s0.toNat<xp.1.length∧JN N xd j0 (xp.1.getD s0.toNat default)∧wN xd xp t0 j0 s0 v0 RD)∧(t0=false→wN xd xp t0 j0 s0 v0 RD))
def Gu (N:Nat) (xd:Dc) (xp:PH) (j0:Int) (s0:Int) (z0:List Int) (v0:List Int) (RD:Int→List Int→Prop):Nat→Bool→Int→Prop
 | 0,_,_=>False
 | k+1,t0,a0=>WR N xd xp j0 s0 z0 v0 RD t0 a0 (Gu N xd xp j0 s0 z0 v0 RD k)
def WS (N:Nat) (xd:Dc) (xp:PH) (s0:Int) (z0:List Int) (C36:Int→List Int→Prop) (j0:Int) (v0:List Int) (RD:Int→List Int→Prop):Prop :=
 ((decide (j0<(xd.1.length:Int)))=true→∃ k,Gu N xd xp j0 s0 z0 v0 RD k false 0)∧((decide (j0<(xd.1.length:Int)))=false→C36 (w6 (s0+1)) v0)
def nU (N:Nat) (xd:Dc) (xp:PH) (s0:Int) (z0:List Int) (C36:Int→List Int→Prop):Nat→Int→List Int→Prop
 | 0,_,_=>False
 | k+1,j0,v0=>WS N xd xp s0 z0 C36 j0 v0 (nU N xd xp s0 z0 C36 k)
def WQ (xn:Int) (K:Bool→Prop) (z0:List Int) (B0:Int) (C89:Int→Prop):Prop :=
 ((decide (B0<(z0.length:Int)))=true→(0:Int)≤B0∧Int.toNat B0<z0.length∧((z0.getD (Int.toNat B0) default==xn)=true→K true)∧((z0.getD (Int.toNat B0) default==xn)=false→C89 (w6 (B0+1))))∧((decide (B0<(z0.length:Int)))=false→K false)
def Gt (xn:Int) (K:Bool→Prop) (z0:List Int):Nat→Int→Prop
 | 0,_=>False
 | k+1,B0=>WQ xn K z0 B0 (Gt xn K z0 k)
def WT (N:Nat) (xd:Dc) (xn:Int) (xp:PH) (K:Bool→Prop) (s0:Int) (z0:List Int) (C36:Int→List Int→Prop):Prop :=
 ((decide (s0<(xp.1.length:Int)))=true→∃ k,nU N xd xp s0 z0 C36 k 0 ([]:List Int))∧((decide (s0<(xp.1.length:Int)))=false→∃ k,Gt xn K z0 k 0)
def mF (N:Nat) (xd:Dc) (xn:Int) (xp:PH) (K:Bool→Prop):Nat→Int→List Int→Prop
 | 0,_,_=>False
 | k+1,s0,z0=>WT N xd xn xp K s0 z0 (mF N xd xn xp K k)
def WU (N:Nat) (xd:Dc) (xn:Int) (xp:PH) (K:Bool→Prop) (f0:Int) (q0:List Int) (C17:Int→List Int→Prop):Prop :=
 ((decide (f0<(xd.1.length:Int)))=true→(0:Int)≤0∧Int.toNat 0<xp.1.length∧JN N xd f0 (xp.1.getD (Int.toNat 0) default)∧((kR xd f0 (xp.1.getD (Int.toNat 0) default))=true→(q0++([f0]:List Int)).length≤17592186044416∧Cx xd xp f0 q0 C17)∧((kR xd f0 (xp.1.getD (Int.toNat 0) default))=false→Cx xd xp f0 q0 C17))∧((decide (f0<(xd.1.length:Int)))=false→∃ k,mF N xd xn xp K k 1 q0)
def ze (N:Nat) (xd:Dc) (xn:Int) (xp:PH) (K:Bool→Prop):Nat→Int→List Int→Prop
 | 0,_,_=>False
 | k+1,f0,q0=>WU N xd xn xp K f0 q0 (ze N xd xn xp K k)
def aa0 (N:Nat) (xd:Dc) (xn:Int) (xp:PH) (K:Bool→Prop):Prop :=
 0≤(w6 ((xp.1.length:Int) - 1))∧Int.toNat (w6 ((xp.1.length:Int) - 1))<xp.1.length∧JN N xd xn (xp.1.getD (Int.toNat (w6 ((xp.1.length:Int) - 1))) default)∧((!(kR xd xn (xp.1.getD (Int.toNat (w6 ((xp.1.length:Int) - 1))) default)))=true→K false)∧((!(kR xd xn (xp.1.getD (Int.toNat (w6 ((xp.1.length:Int) - 1))) default)))=false→∃ k,ze N xd xn xp K k 0 ([]:List Int))
theorem aaZ {g:ak} (N:Nat) (Ie:JK N) (zy:JM N) (Ig:JO N) (yC:CK N) {k0:Option Addr} {y0:Nat} (xd:Dc) (xn:Int) {C0:Option Addr} {D0:Nat} {F0:Option Addr} {G0:Nat} (xp:PH) (u0:bE g qj [.slice k0 xd.1.length y0] xd.1) (K0:bE g (.slice (.slice yS)) [.slice C0 xp.1.length D0] xp.1) (J0:bE g (.slice yb) [.slice F0 xp.2.length G0] xp.2) (hG0:bR g 0) (K:Bool→Prop)
  (hF:aa0 N xd xn xp K):az prog 10 #[.agg (aD xd k0 y0),iv xn,.agg #[.slice C0 xp.1.length D0,.slice F0 xp.2.length G0]] g [] (fun g' H' v=>∃ (r0:Bool),v=.bool r0∧H'=[]∧K r0):=by
 refine aP 110 func10 rfl fun w0=>?_;refine ae (ai (cO fun dD=>?_));refine ai (cO fun iF=>?_);refine av 1 [(1,iv xn),(3,pv dD 0),(5,pv iF 0)] kr (aa (aF (aF (gq kr kr (dS.op rfl (fK.s (v:=.agg (aD xd k0 y0)) (aZ 1 2 (aD xd k0 y0) rfl rfl underlying24 rfl kr kr kr) rfl rfl (eZ 2 [1,3,5] [(15,.agg (aD xd k0 y0)),(16,iv xn),(17,pv iF 0)] ?_)))))));refine dS.op rfl (fK.s (v:=.slice C0 xp.1.length D0) (aS 0 rfl rfl underlying25 rfl kr) rfl rfl (eZ 1 [1,3,5,15,16] [(18,.slice C0 xp.1.length D0),(19,pv iF 0)] ?_));refine dS.op rfl (fK.s (v:=.slice C0 xp.1.length D0) (aS 0 rfl rfl underlying25 rfl kr) rfl rfl (eZ 2 [1,3,5,15,16,18] [(22,iv (w6 ((xp.1.length:Int) - 1)))] ?_));obtain ⟨oo,pg,hF⟩:=hF;have ny:=aT (l:=xp.1) default pg;generalize hg4:(xp.1.getD (Int.toNat (w6 ((xp.1.length:Int) - 1))) default)=e4 at ny hF ⊢;refine dS.op rfl (fK.aX (e:=.slice yS) rfl rfl underlying25 kr K0 oo ny rfl fun q3 o3 Rz _ Z1 hr3=>?_);obtain ⟨X1,S1,rfl,R1⟩:=oS hr3;refine dS.op rfl (fK.s (v:=.slice X1 e4.length S1) (fe 0 Z1 kr underlying54 rfl kr) rfl rfl ?_);obtain ⟨M3,hF⟩:=hF;refine dS.op rfl (fK.f gU (fun W hW=>zy _ xd xn e4 (u0.mono hW.sees) (R1.mono hW.sees) (hG0.mono hW.sees) M3) rfl ?_);refine eZ 1 [1,3,5] [(26,.bool (!(kR xd xn e4)))] ?_;refine kQ (Ok.t (aJ hF (fun hc6 hF=>?_) (fun hc6 hF=>?_)))
 ·refine ae (av 1 [(6,.bool false)] kr (aa (Ok.ret (aC ?_))));exact dE false hF
 refine Ok.k (Ok.t (ae (ag 1 [1,3,5] [(7,.slice none 0 0)] ?_)));have hL7:aW g (.int .i64) [] []:=rfl;refine fT 3 1 (aa (aF (ae (ag 1 [1,3,5] [(7,.slice none ([]:List Int).length 0),(8,iv 0)] ?_))));refine aa (Ok.block ?_);obtain ⟨k,hF⟩:=hF;refine fQ (fun k a W=>∃ k1:ak,bf w0 g k1∧∃ (f0:Int) (V0:Option Addr) (Q0:Nat) (q0:List Int) (U0:List Value),aW k1 (.int .i64) U0 q0∧fC 110 [(1,iv xn),(3,pv dD 0),(5,pv iF 0),(7,.slice V0 q0.length Q0),(8,iv f0)] a∧dm w0 [.own (.slice V0 q0.length Q0) 3 1 q0.length U0,.blk iF (.cells #[.slice C0 xp.1.length D0,.slice F0 xp.2.length G0] 28),.blk dD (.cells (aD xd k0 y0) 24)] k1 W∧ze N xd xn xp K k f0 q0) k ?_ ?_
 ·
  exact fun _ _ u v=>⟨g,bu w0 g,0,none,0,([]:List Int),[],hL7,fA u v hF⟩
 clear hF;rintro (_ | k17) _ _ ⟨k1,g1,f0,V0,Q0,q0,U0,z1,q⟩;exact (q.2.2:False).elim;refine jn (fun hF=>?_) _ _ q;replace K0:=K0.mono g1.1;replace J0:=J0.mono g1.1;replace u0:=u0.mono g1.1;replace hG0:=hG0.mono g1.1;refine aF (ae (aj 5 [.e 2] [1,3,5,7,8] [(31,.bool (decide (f0<(xd.1.length:Int))))] ?_));refine aa (aJ hF (fun hc8 hF=>?_) (fun hc8 hF=>?_))
 ·refine Ok.k (Ok.t (Ok.cut (fun a W=>∃ T1:ak,bf w0 k1 T1∧∃ (A0:Option Addr) (I0:Nat) (M0:List Value),aW T1 (.int .i64) M0 (qP xd xp f0 q0)∧fC 110 [(1,iv xn),(3,pv dD 0),(5,pv iF 0),(7,.slice A0 (qP xd xp f0 q0).length I0),(8,iv f0)] a∧dm w0 [.own (.slice A0 (qP xd xp f0 q0).length I0) 3 1 (qP xd xp f0 q0).length M0,.blk iF (.cells #[.slice C0 xp.1.length D0,.slice F0 xp.2.length G0] 28),.blk dD (.cells (aD xd k0 y0) 24)] T1 W∧Cx xd xp f0 q0 (ze N xd xn xp K k17)) ?_ ?_))
  ·
   refine Ok.block (aF (gq kr kr (dS.op rfl (fK.s (v:=.agg (aD xd k0 y0)) (aZ 2 2 (aD xd k0 y0) rfl rfl underlying24 rfl kr kr kr) rfl rfl (eZ 2 [1,3,5,7,8] [(34,.agg (aD xd k0 y0)),(35,iv f0),(36,pv iF 0)] ?_)))));refine dS.op rfl (fK.s (v:=.slice C0 xp.1.length D0) (aS 1 rfl rfl underlying25 rfl kr) rfl rfl ?_);obtain ⟨U_,Nn,hF⟩:=hF;have E2:=aT (l:=xp.1) default Nn;generalize F2:(xp.1.getD (Int.toNat 0) default)=e10 at E2 hF ⊢;refine dS.op rfl (fK.aX (e:=.slice yS) rfl rfl underlying25 kr K0 U_ E2 rfl fun q9 o9 cs9 _ apu Um=>?_);obtain ⟨ar5,arU,rfl,Pz⟩:=oS Um;refine dS.op rfl (fK.s (v:=.slice ar5 e10.length arU) (fe 0 apu kr underlying54 rfl kr) rfl rfl ?_);obtain ⟨Io,hF⟩:=hF;refine dS.op rfl (fK.f gU (fun W hW=>zy _ xd f0 e10 (u0.mono hW.sees) (Pz.mono hW.sees) (hG0.mono hW.sees) Io) rfl ?_);refine kQ (Ok.t (dW hF rfl (fun Q1=>?_) (fun Q1=>?_)))
   ·replace hF:=hF.1 Q1;refine aR (ag 2 [1,3,5,8] [(41,.slice V0 q0.length Q0),(42,iv f0)] ?_);have G2:aW k1 (.int .i64) ([iv f0]:List Value) ([f0]:List Int):=(dx (c:=[iv f0]) rfl rfl);refine ai (gz G2 fun b13=>?_);obtain ⟨apt,hF⟩:=hF;refine ai (fu (e:=.int .i64) 8 17592186044416 1 0 rfl rfl rfl rfl z1 G2 underlying46 kr kr kr apt rfl fun a14 c14 j2 UY=>?_);refine ag 1 [1,3,5,8] [(7,.slice a14 (q0++([f0]:List Int)).length c14)] ?_;refine bV (bG (Ok.t ?_));subst F2;refine gX 7 rfl (show (.slice a14 (q0++([f0]:List Int)).length c14:Value)=.slice a14 (qP xd xp f0 q0).length c14 from aA (fun l:List Int=>Value.slice a14 l.length c14) ((aU Q1).symm)) ?_;refine kg (E':=.own (.slice a14 (qP xd xp f0 q0).length c14) 3 1 (qP xd xp f0 q0).length j2) 1 (aA (fun l:List Int=>cu.own (.slice a14 l.length c14) 3 1 l.length j2) ((aU Q1).symm)) ?_;exact fun _ _ u v=>⟨k1,bu w0 k1,a14,c14,j2,(Eq.mp (aA (fun l:List Int=>aW k1 (.int .i64) j2 l) ((aU Q1).symm)) UY),fA u v hF⟩
   replace hF:=hF.2 Q1;refine Ok.k (bG (Ok.t ?_));subst F2;refine gX 7 rfl (show (.slice V0 q0.length Q0:Value)=.slice V0 (qP xd xp f0 q0).length Q0 from aA (fun l:List Int=>Value.slice V0 l.length Q0) ((aG Q1).symm)) ?_;refine kg (E':=.own (.slice V0 (qP xd xp f0 q0).length Q0) 3 1 (qP xd xp f0 q0).length U0) 0 (aA (fun l:List Int=>cu.own (.slice V0 l.length Q0) 3 1 l.length U0) ((aG Q1).symm)) ?_;exact fun _ _ u v=>⟨k1,bu w0 k1,V0,Q0,U0,(Eq.mp (aA (fun l:List Int=>aW k1 (.int .i64) U0 l) ((aG Q1).symm)) z1),fA u v hF⟩
  clear hF;rintro _ _ ⟨T1,J1,A0,I0,M0,Iz,q⟩;refine jn (fun hF=>?_) _ _ q;replace K0:=K0.mono J1.1;replace J0:=J0.mono J1.1;replace u0:=u0.mono J1.1;replace hG0:=hG0.mono J1.1;refine aR (ag 3 [1,3,5,7] [(8,iv (w6 (f0+1)))] ?_);refine bV (Ok.t ?_);exact fun _ _ u v=>⟨k17,nl,T1,g1.trans J1,w6 (f0+1),A0,I0,qP xd xp f0 q0,M0,Iz,fA u v hF⟩
 refine fw (ay (ay (aM (Ok.t (aF (ae (ag 1 [1,3,5,7] [(9,iv 1)] ?_)))))));refine aa (Ok.block ?_);obtain ⟨k,hF⟩:=hF;refine fQ (fun k a W=>∃ m1:ak,bf w0 k1 m1∧∃ (s0:Int) (b0:Option Addr) (c0:Nat) (z0:List Int) (Z0:List Value),aW m1 (.int .i64) Z0 z0∧fC 110 [(1,iv xn),(3,pv dD 0),(5,pv iF 0),(7,.slice b0 z0.length c0),(9,iv s0)] a∧dm w0 [.own (.slice b0 z0.length c0) 3 1 z0.length Z0,.blk iF (.cells #[.slice C0 xp.1.length D0,.slice F0 xp.2.length G0] 28),.blk dD (.cells (aD xd k0 y0) 24)] m1 W∧mF N xd xn xp K k s0 z0) k ?_ ?_
 ·
  exact fun _ _ u v=>⟨k1,bu w0 k1,1,V0,Q0,q0,U0,z1,fA u v hF⟩
 clear hF;rintro (_ | k36) _ _ ⟨m1,o1,s0,b0,c0,z0,Z0,g0,q⟩;exact (q.2.2:False).elim;refine jn (fun hF=>?_) _ _ q;replace K0:=K0.mono o1.1;replace J0:=J0.mono o1.1;replace u0:=u0.mono o1.1;replace hG0:=hG0.mono o1.1;refine aF (ae (aj 5 [.e 1] [1,3,5,7,9] [(49,.bool (decide (s0<(xp.1.length:Int))))] ?_));refine aa (aJ hF (fun C1 hF=>?_) (fun C1 hF=>?_))
 ·refine Ok.k (Ok.t (aF (Ok.block (ae (ag 1 [1,3,5,7,9] [(10,.slice none 0 0)] ?_)))));have adM:aW m1 (.int .i64) [] []:=rfl;refine fT 3 1 (aa (aF (ae (ag 1 [1,3,5,7,9] [(10,.slice none ([]:List Int).length 0),(11,iv 0)] ?_))));refine aa (Ok.block ?_);obtain ⟨k,hF⟩:=hF;refine fQ (fun k a W=>∃ K1:ak,bf w0 m1 K1∧∃ (j0:Int) (m0:Option Addr) (o0:Nat) (v0:List Int) (W0:List Value),aW K1 (.int .i64) W0 v0∧fC 110 [(1,iv xn),(3,pv dD 0),(5,pv iF 0),(7,.slice b0 z0.length c0),(9,iv s0),(10,.slice m0 v0.length o0),(11,iv j0)] a∧dm w0 [.own (.slice m0 v0.length o0) 3 1 v0.length W0,.own (.slice b0 z0.length c0) 3 1 z0.length Z0,.blk iF (.cells #[.slice C0 xp.1.length D0,.slice F0 xp.2.length G0] 28),.blk dD (.cells (aD xd k0 y0) 24)] K1 W∧nU N xd xp s0 z0 (mF N xd xn xp K k36) k j0 v0) k ?_ ?_
  ·
   exact fun _ _ u v=>⟨m1,bu w0 m1,0,none,0,([]:List Int),[],adM,fA u v hF⟩
  clear hF;rintro (_ | k51) _ _ ⟨K1,r1,j0,m0,o0,v0,W0,X0,q⟩;exact (q.2.2:False).elim;refine jn (fun hF=>?_) _ _ q;replace g0:=g0.mono r1.1;replace K0:=K0.mono r1.1;replace J0:=J0.mono r1.1;replace u0:=u0.mono r1.1;replace hG0:=hG0.mono r1.1;refine aF (ae (aj 5 [.e 3] [1,3,5,7,9,10,11] [(56,.bool (decide (j0<(xd.1.length:Int))))] ?_));refine aa (aJ hF (fun hc17 hF=>?_) (fun hc17 hF=>?_))
  ·refine Ok.k (Ok.t (Ok.cut (fun a W=>∃ L1:ak,bf w0 K1 L1∧∃ (N0:Option Addr) (O0:Nat) (Y0:List Int) (H0:List Value),aW L1 (.int .i64) H0 Y0∧fC 110 [(1,iv xn),(3,pv dD 0),(5,pv iF 0),(7,.slice b0 z0.length c0),(9,iv s0),(10,.slice N0 Y0.length O0),(11,iv j0)] a∧dm w0 [.own (.slice N0 Y0.length O0) 3 1 Y0.length H0,.own (.slice b0 z0.length c0) 3 1 z0.length Z0,.blk iF (.cells #[.slice C0 xp.1.length D0,.slice F0 xp.2.length G0] 28),.blk dD (.cells (aD xd k0 y0) 24)] L1 W∧Cw j0 Y0 (nU N xd xp s0 z0 (mF N xd xn xp K k36) k51)) ?_ ?_))
   ·
    refine Ok.block (ae (ag 1 [1,3,5,7,9,10,11] [(12,.bool false)] ?_));refine aa (aF (ae (ag 1 [1,3,5,7,9,10,11,12] [(13,iv 0)] ?_)));refine aa (Ok.block ?_);obtain ⟨k,hF⟩:=hF;refine fQ (fun k a W=>∃ t1:ak,bf w0 K1 t1∧∃ (t0:Bool) (a0:Int),fC 110 [(1,iv xn),(3,pv dD 0),(5,pv iF 0),(7,.slice b0 z0.length c0),(9,iv s0),(10,.slice m0 v0.length o0),(11,iv j0),(12,.bool t0),(13,iv a0)] a∧dm w0 [.own (.slice m0 v0.length o0) 3 1 v0.length W0,.own (.slice b0 z0.length c0) 3 1 z0.length Z0,.blk iF (.cells #[.slice C0 xp.1.length D0,.slice F0 xp.2.length G0] 28),.blk dD (.cells (aD xd k0 y0) 24)] t1 W∧Gu N xd xp j0 s0 z0 v0 (nU N xd xp s0 z0 (mF N xd xn xp K k36) k51) k t0 a0) k ?_ ?_
    ·
     exact fun _ _ u v=>⟨K1,bu w0 K1,false,0,fA u v hF⟩
    clear hF;rintro (_ | k66) _ _ ⟨t1,u1,t0,a0,q⟩;exact (q.2.2:False).elim;refine jn (fun hF=>?_) _ _ q;replace g0:=g0.mono u1.1;replace X0:=X0.mono u1.1;replace K0:=K0.mono u1.1;replace J0:=J0.mono u1.1;replace u0:=u0.mono u1.1;replace hG0:=hG0.mono u1.1;refine aF (ae (ag 5 [1,3,5,7,9,10,11,12,13] [(63,.bool (decide (a0<(z0.length:Int))))] ?_));refine Ok.w 3 [(1,iv xn),(3,pv dD 0),(5,pv iF 0),(7,.slice b0 z0.length c0),(9,iv s0),(10,.slice m0 v0.length o0),(11,iv j0),(12,.bool t0),(13,iv a0),(66,.bool ((decide (a0<(z0.length:Int)))&&(!t0)))] (fun H2=>?_) ?_
    ·refine Ok.a 63 (decide (a0<(z0.length:Int))) rfl (fun K2=>?_) (fun K2=>?_)
     ·skip;refine ag 3 [1,3,5,7,9,10,11,12,13] [(66,.bool (!t0))] ?_;refine aB 66 ((decide (a0<(z0.length:Int)))&&(!t0)) (bn K2) (ag 0 [1,3,5,7,9,10,11,12,13] [(66,.bool ((decide (a0<(z0.length:Int)))&&(!t0)))] ?_);exact H2
     skip;refine ag 3 [1,3,5,7,9,10,11,12,13] [(66,.bool false)] ?_;refine aB 66 ((decide (a0<(z0.length:Int)))&&(!t0)) (bZ K2) (ag 0 [1,3,5,7,9,10,11,12,13] [(66,.bool ((decide (a0<(z0.length:Int)))&&(!t0)))] ?_);exact H2
    refine aa (aJ hF (fun Na hF=>?_) (fun Na hF=>?_))
    ·refine Ok.k (Ok.t (aF (Ok.block (gq kr kr (dS.op rfl (fK.s (v:=.agg (aD xd k0 y0)) (aZ 3 2 (aD xd k0 y0) rfl rfl underlying24 rfl kr kr kr) rfl rfl (eZ 2 [1,3,5,7,9,10,11,13] [(69,.agg (aD xd k0 y0)),(70,.slice b0 z0.length c0),(71,iv a0)] ?_)))))));obtain ⟨U8,h122,hF⟩:=hF;have M2:=aT (l:=z0) default h122;generalize aoL:(z0.getD a0.toNat default)=e22 at M2 hF ⊢;refine dS.op rfl (fK.fZ (e:=.int .i64) 1 rfl g0 rfl rfl underlying46 kr kr U8 M2 rfl fun arL _ acm E1=>?_);obtain rfl:=acm;replace E1:∀ j v,([iv e22]:List Value)[j]? = some v→Z0[a0.toNat * 1+j]? = some v:=E1;refine dS.op rfl (fK.s (v:=iv e22) (dP 1 0 rfl E1 rfl underlying3 rfl kr) rfl rfl (eZ 2 [1,3,5,7,9,10,11,13,69] [(73,iv e22),(74,iv j0),(75,pv iF 1)] ?_));refine dS.op rfl (fK.s (v:=.slice F0 xp.2.length G0) (aS 2 rfl rfl underlying26 rfl kr) rfl rfl (eZ 2 [1,3,5,7,9,10,11,13,69,73,74] [(76,.slice F0 xp.2.length G0),(78,iv (w6 (s0 - 1)))] ?_));obtain ⟨aej,ad8,hF⟩:=hF;have N2:=aT (l:=xp.2) default ad8;generalize aoK:(xp.2.getD (Int.toNat (w6 (s0 - 1))) default)=e24 at N2 hF ⊢;refine dS.op rfl (fK.aX (e:=.int .u8) rfl rfl underlying26 kr J0 aej N2 rfl fun q23 o23 arK _ A1 ack=>?_);obtain rfl:=ack;replace A1:At t1 q23 o23 [.int .u8 e24]:=A1;refine dS.op rfl (fK.s (v:=.int .u8 e24) (fe 0 A1 kr underlying5 rfl kr) rfl rfl ?_);obtain ⟨M4,hF⟩:=hF;refine dS.op rfl (fK.f gU (fun W hW=>aho xd e22 j0 e24 (u0.mono hW.sees) M4) rfl ?_);refine eZ 1 [1,3,5,7,9,10,11,13] [(12,.bool (nJ xd e22 j0 e24))] ?_;refine kQ (bG (Ok.t (aR (ag 3 [1,3,5,7,9,10,11,12] [(13,iv (w6 (a0+1)))] ?_))));refine bV (Ok.t ?_);subst aoK;subst aoL;exact fun _ _ u v=>⟨k66,nl,t1,u1,(nJ xd (z0.getD a0.toNat default) j0 (xp.2.getD (Int.toNat (w6 (s0 - 1))) default)),w6 (a0+1),fA u v hF⟩
    refine fw (ay (ay (aM (Ok.t (iK t1 [(1,iv xn),(3,pv dD 0),(5,pv iF 0),(7,.slice b0 z0.length c0),(9,iv s0),(10,.slice m0 v0.length o0),(11,iv j0),(92,.bool (t0&&(kR xd j0 (xp.1.getD s0.toNat default))))] [.own (.slice m0 v0.length o0) 3 1 v0.length W0,.own (.slice b0 z0.length c0) 3 1 z0.length Z0,.blk iF (.cells #[.slice C0 xp.1.length D0,.slice F0 xp.2.length G0] 28),.blk dD (.cells (aD xd k0 y0) 24)] (wN xd xp t0 j0 s0 v0 (nU N xd xp s0 z0 (mF N xd xn xp K k36) k51)) ?_ (fun Y2 b1 hF=>?_))))))
    ·
     refine gq kr kr (eZ 2 [1,3,5,7,9,10,11] [(83,.bool t0)] ?_);refine sP 83 (t0) rfl (fun I1=>?_) (fun I1=>?_)
     ·replace hF:=hF.1 I1;refine lS (j:=1) (d:=83) (want:=true) (b:=true) rfl kr kr rfl (fK.s (v:=.agg (aD xd k0 y0)) (aZ 3 2 (aD xd k0 y0) rfl rfl underlying24 rfl kr kr kr) rfl rfl (eZ 2 [1,3,5,7,9,10,11] [(83,.bool true),(84,.agg (aD xd k0 y0)),(85,iv j0),(86,pv iF 0)] ?_));refine lS (j:=1) (d:=83) (want:=true) (b:=true) rfl kr kr rfl (fK.s (v:=.slice C0 xp.1.length D0) (aS 2 rfl rfl underlying25 rfl kr) rfl rfl (eZ 1 [1,3,5,7,9,10,11,83,84,85] [(87,.slice C0 xp.1.length D0),(88,iv s0)] ?_));obtain ⟨aeh,ad7,hF⟩:=hF;have O2:=aT (l:=xp.1) default ad7;generalize aoH:(xp.1.getD s0.toNat default)=e31 at O2 hF ⊢;refine lS (j:=1) (d:=83) (want:=true) (b:=true) rfl kr kr rfl (fK.aX (e:=.slice yS) rfl rfl underlying25 kr K0 aeh O2 rfl fun q30 o30 arH _ aj9 ach=>?_);obtain ⟨amh,alC,rfl,adv⟩:=oS ach;refine lS (j:=1) (d:=83) (want:=true) (b:=true) rfl kr kr rfl (fK.s (v:=.slice amh e31.length alC) (fe 0 aj9 kr underlying54 rfl kr) rfl rfl ?_);obtain ⟨acA,hF⟩:=hF;refine lS (j:=1) (d:=83) (want:=true) (b:=true) rfl kr kr rfl (fK.f gU (fun W hW=>zy _ xd j0 e31 (u0.mono hW.sees) (adv.mono hW.sees) (hG0.mono hW.sees) acA) rfl ?_);refine eZ 1 [1,3,5,7,9,10,11] [(92,.bool (kR xd j0 e31))] ?_;refine kQ (Ok.t ?_);subst aoH;refine aB 92 (t0&&(kR xd j0 (xp.1.getD s0.toNat default))) (bn I1) ?_;exact fg hF
     replace hF:=hF.2 I1;refine eZ 9 [1,3,5,7,9,10,11] [(92,.bool false)] ?_;refine kQ (Ok.t (aB 92 (t0&&(kR xd j0 (xp.1.getD s0.toNat default))) (bZ I1) ?_));exact fg hF
    replace g0:=g0.mono b1.1;replace X0:=X0.mono b1.1;refine aJ hF (fun M_ hF=>?_) (fun M_ hF=>?_)
    ·refine aR (ag 2 [1,3,5,7,9,11] [(93,.slice m0 v0.length o0),(94,iv j0)] ?_);have P2:aW Y2 (.int .i64) ([iv j0]:List Value) ([j0]:List Int):=(dx (c:=[iv j0]) rfl rfl);refine ai (gz P2 fun b27=>?_);obtain ⟨apm,hF⟩:=hF;refine ai (fu (e:=.int .i64) 8 17592186044416 1 0 rfl rfl rfl rfl X0 P2 underlying46 kr kr kr apm rfl fun a28 c28 am8 aqz=>?_);refine ag 1 [1,3,5,7,9,11] [(10,.slice a28 (v0++([j0]:List Int)).length c28)] ?_;refine bV (bG (Ok.t ?_));exact fun _ _ u v=>⟨Y2,u1.trans b1,a28,c28,(v0++([j0]:List Int)),am8,aqz,fA u v hF⟩
    refine Ok.k (bG (Ok.t ?_));exact fun _ _ u v=>⟨Y2,u1.trans b1,m0,o0,v0,W0,X0,fA u v hF⟩
   clear hF;rintro _ _ ⟨L1,a1,N0,O0,Y0,H0,EB,q⟩;refine jn (fun hF=>?_) _ _ q;replace g0:=g0.mono a1.1;refine aR (ag 3 [1,3,5,7,9,10] [(11,iv (w6 (j0+1)))] ?_);refine bV (Ok.t ?_);exact fun _ _ u v=>⟨k51,nl,L1,r1.trans a1,w6 (j0+1),N0,O0,Y0,H0,EB,fA u v hF⟩
  refine fw (ay (ay (aM (Ok.t (aR (ag 2 [1,3,5,9] [(7,.slice m0 v0.length o0)] ?_))))));refine bV (bG (Ok.t (aR (ag 3 [1,3,5,7] [(9,iv (w6 (s0+1)))] ?_))));refine bV (Ok.t ?_);exact fun _ _ u v=>⟨k36,nl,K1,o1.trans r1,w6 (s0+1),m0,o0,v0,W0,X0,fA u v hF⟩
 refine fw (ay (ay (aM (Ok.t (aF (ae (ag 1 [1,7] [(14,iv 0)] ?_)))))));refine aa (Ok.block ?_);obtain ⟨k,hF⟩:=hF;refine fQ (fun k a W=>∃ x2:ak,bf w0 m1 x2∧∃ (B0:Int),fC 110 [(1,iv xn),(7,.slice b0 z0.length c0),(14,iv B0)] a∧dm w0 [.own (.slice b0 z0.length c0) 3 1 z0.length Z0] x2 W∧Gt xn K z0 k B0) k ?_ ?_
 ·
  exact fun _ _ u v=>⟨m1,bu w0 m1,0,fA u v hF⟩
 clear hF;rintro (_ | k89) _ _ ⟨x2,W1,B0,q⟩;exact (q.2.2:False).elim;refine jn (fun hF=>?_) _ _ q;replace g0:=g0.mono W1.1;refine aF (ae (ag 4 [1,7,14] [(101,.bool (decide (B0<(z0.length:Int))))] ?_));refine aa (aJ hF (fun G1 hF=>?_) (fun G1 hF=>?_))
 ·refine Ok.k (Ok.t (aF (Ok.block (ae (ag 2 [1,7,14] [(104,.slice b0 z0.length c0),(105,iv B0)] ?_)))));obtain ⟨U6,U4,hF⟩:=hF;have R2:=aT (l:=z0) default U4;generalize X4:(z0.getD (Int.toNat B0) default)=e35 at R2 hF ⊢;refine ai (af.fZ (e:=.int .i64) 0 rfl g0 rfl rfl underlying46 kr kr U6 R2 rfl fun ak7 _ Un H1=>?_);obtain rfl:=Un;replace H1:∀ j v,([iv e35]:List Value)[j]? = some v→Z0[Int.toNat B0 * 1+j]? = some v:=H1;refine ai (af.s (v:=iv e35) (dP 0 0 rfl H1 rfl underlying3 rfl kr) rfl rfl (ag 2 [1,7,14] [(109,.bool (e35==xn))] ?_));refine aa (dW hF rfl (fun U2=>?_) (fun U2=>?_))
  ·replace hF:=hF.1 U2;refine ae (av 1 [(6,.bool true)] kr (aa (Ok.ret (aV (aC (aC (aV (aC ?_))))))));exact jg (.bool true) ((g1.trans o1).trans W1) ⟨_,rfl,rfl,hF⟩
  replace hF:=hF.2 U2;refine Ok.k (bG (Ok.t (aR (ag 3 [1,7] [(14,iv (w6 (B0+1)))] ?_))));refine bV (Ok.t ?_);subst X4;exact fun _ _ u v=>⟨k89,nl,x2,W1,w6 (B0+1),fA u v hF⟩
 refine fw (ay (ay (aM (Ok.t (ae (av 1 [(6,.bool false)] kr (aa (Ok.ret ?_))))))));exact jg (.bool false) ((g1.trans o1).trans W1) ⟨_,rfl,rfl,hF⟩
def Xa (N:Nat) (xd:Dc) (xn:Int) (xl:List PH) (K:Bool→Prop) (S0:Int) (C7:Int→Prop):Prop :=
 ((decide (S0<(xl.length:Int)))=true→(0:Int)≤S0∧Int.toNat S0<xl.length∧Qx N xd xn (xl.getD (Int.toNat S0) default)∧((rR xd xn (xl.getD (Int.toNat S0) default))=true→K true)∧((rR xd xn (xl.getD (Int.toNat S0) default))=false→C7 (w6 (S0+1))))∧((decide (S0<(xl.length:Int)))=false→K false)
def GI (N:Nat) (xd:Dc) (xn:Int) (xl:List PH) (K:Bool→Prop):Nat→Int→Prop
 | 0,_=>False
 | k+1,S0=>Xa N xd xn xl K S0 (GI N xd xn xl K k)
def Zz (N:Nat) (xd:Dc) (xn:Int) (xl:List PH) (K:Bool→Prop):Prop :=
 ∃ k,GI N xd xn xl K k 0
theorem Xb {g:ak} (N:Nat) (Ie:JK N) (zy:JM N) (Ig:JO N) (yC:CK N) {k0:Option Addr} {y0:Nat} (xd:Dc) (xn:Int) {T0:Option Addr} {L0:Nat} (xl:List PH) (u0:bE g qj [.slice k0 xd.1.length y0] xd.1) (q1:bE g (.slice yP) [.slice T0 xl.length L0] xl) (hG0:bR g 0) (K:Bool→Prop)
  (hF:Zz N xd xn xl K):az prog 13 #[.agg (aD xd k0 y0),iv xn,.slice T0 xl.length L0] g [] (fun g' H' v=>∃ (r0:Bool),v=.bool r0∧H'=[]∧K r0):=by
 refine aP 21 func13 rfl fun w0=>?_;refine ae (ai (cO fun dD=>?_));refine av 1 [(1,iv xn),(2,.slice T0 xl.length L0),(3,pv dD 0)] kr (aa (aF (ae (ag 1 [1,2,3] [(7,iv 0)] ?_))));refine aa (Ok.block ?_);obtain ⟨k,hF⟩:=hF;refine fQ (fun k a W=>∃ (S0:Int),fC 21 [(1,iv xn),(2,.slice T0 xl.length L0),(3,pv dD 0),(7,iv S0)] a∧dm w0 [.blk dD (.cells (aD xd k0 y0) 24)] g W∧GI N xd xn xl K k S0) k ?_ ?_
 ·
  exact fun _ _ u v=>⟨0,fA u v hF⟩
 clear hF;rintro (_ | k7) _ _ ⟨S0,q⟩;exact (q.2.2:False).elim;refine jn (fun hF=>?_) _ _ q;refine aF (ae (ag 4 [1,2,3,7] [(11,.bool (decide (S0<(xl.length:Int))))] ?_));refine aa (aJ hF (fun hc2 hF=>?_) (fun hc2 hF=>?_))
 ·refine Ok.k (Ok.t (aF (Ok.block (aF (gq kr kr (dS.op rfl (fK.s (v:=.agg (aD xd k0 y0)) (aZ 0 2 (aD xd k0 y0) rfl rfl underlying24 rfl kr kr kr) rfl rfl (eZ 3 [1,2,3,7] [(14,.agg (aD xd k0 y0)),(15,iv xn),(16,.slice T0 xl.length L0),(17,iv S0)] ?_))))))));obtain ⟨oo,pg,hF⟩:=hF;have ny:=aT (l:=xl) default pg;generalize hg4:(xl.getD (Int.toNat S0) default)=e4 at ny hF ⊢;refine dS.op rfl (fK.aX (e:=yP) rfl rfl underlying33 kr q1 oo ny rfl fun q3 o3 Rz _ Z1 hr3=>?_);obtain ⟨_,_,rfl,⟨X1,S1,rfl,KX,KU⟩,⟨z2,v2,rfl,KW,KS⟩⟩:=hr3;have R1:bE g (.slice (.slice yS)) [.slice X1 e4.1.length S1] e4.1:=⟨X1,S1,rfl,KX,KU⟩;have akG:bE g (.slice yb) [.slice z2 e4.2.length v2] e4.2:=⟨z2,v2,rfl,KW,KS⟩;replace Z1:At g q3 o3 [.slice X1 e4.1.length S1,.slice z2 e4.2.length v2]:=Z1;let A:=(#[.slice X1 e4.1.length S1,.slice z2 e4.2.length v2]:Array Value);refine dS.op rfl (fK.s (v:=.agg A) (bL 0 2 A Z1 kr underlying28 rfl kr kr kr) rfl rfl ?_);obtain ⟨M3,hF⟩:=hF;refine dS.op rfl (fK.f gU (fun W hW=>Ig _ xd xn e4 (u0.mono hW.sees) (R1.mono hW.sees) (akG.mono hW.sees) (hG0.mono hW.sees) M3) rfl ?_);refine kQ (Ok.t (dW hF rfl (fun hc6=>?_) (fun hc6=>?_)))
  ·replace hF:=hF.1 hc6;refine ae (av 1 [(6,.bool true)] kr (aa (Ok.ret (aV (aC (aC (aV (aC ?_))))))));exact dE true hF
  replace hF:=hF.2 hc6;refine Ok.k (bG (Ok.t (aR (ag 3 [1,2,3] [(7,iv (w6 (S0+1)))] ?_))));refine bV (Ok.t ?_);subst hg4;exact fun _ _ u v=>⟨k7,nl,w6 (S0+1),fA u v hF⟩
 refine fw (ay (ay (aM (Ok.t (ae (av 1 [(6,.bool false)] kr (aa (Ok.ret ?_))))))));exact dE false hF
theorem ahm (d:DC) (n:Int) (t:Ts):¬ Sz 0 d n t:=fun h=>absurd h.1 (iN _)
theorem ahs (d:DC) (n:Int) (t:List Ts):¬ JN 0 d n t:=fun h=>absurd h.1 (iN _)
theorem ahx (d:DC) (n:Int) (t:Ph):¬ Qx 0 d n t:=fun h=>absurd h.1 (iN _)
theorem abg (d:DC) (n:Int) (t:List Ph):¬ Fg 0 d n t:=fun h=>absurd h.1 (iN _)
theorem aaU (d:DC) (t:Ts) (n:Int):Zp d t n=KJ d t.lab n (Qy d t.kids n):=by obtain ⟨x,l⟩:=t; rw [Zp]; rfl
theorem SG (d:DC) (q:Ph) (l:List Ph) (n:Int):Qy d (q::l) n=(SF d (Gz d q.1) q.2 n||Qy d l n):=by obtain ⟨p,js⟩:=q; rw [Qy]
theorem afK {l:List (Bs×Bs)} {w:Bs} (h:(jK l w).2=false):(jK l w).1=[]:=by
 induction l with
 | nil=>rfl
 | cons a l ih =>
  rw [jK] at h ⊢
  split at h
  ·cases h
  rename_i hc
  rw [aQ hc]; exact ih h
theorem acb (w:Bs):Dx [] w=false:=by
 unfold Dx;rw [Nw];rfl
theorem T_ (d:DC) (n:Int):(cB d n).2=jZ (fun x=>n==x) (d_ d n) 0:=by
 show (if decide (par d.1 n.toNat<0)=true then (0:Int) else jZ (fun x=>n==x) (d_ d n) 0)=_
 split
 ·rename_i hc
  unfold d_;rw [bB hc,jZ,bB (uM n)]; rfl
 rfl
theorem ahl (N:Nat) (d:DC) (n:Int) (t:Ts) (h:Sz (N+1) d n t):ahn N d n t (fun r=>r=Mf d n t):=by
 obtain ⟨h1,h2,hG,hn,hk⟩:=h;have hA:=IM hG hn;have hR:∀ w,QA d n w:=fun w=>⟨hG,hn⟩;have hM:Xc (jY d n t.lab.2.1).1 t:=⟨BH hA.2 _,by have:=ai8 (t:=t); omega⟩
 have hW:XR (jY d n oP).1 t.lab.2.1:=by
  show (jK (lI d n).2.2.1 oP).1.length≤1000;have:=BH hA.2 oP; omega
 have hS:Fg N d n t.kids:=⟨by have:=kE t; omega,by have:=kE t; omega,hG,hn,Pv hk⟩;have hr:Mf d n t=KJ d t.lab n (Qy d t.kids n):=aaU d t n;generalize Mf d n t=r at hr;unfold KJ at hr
 have j81:(t.lab.1==2)=false→(t.lab.1==3)=false→(t.lab.1==4)=false→(t.lab.1==5)=false→(t.lab.1==6)=false→(t.lab.1==7)=false→Gn N d n t (fun a=>a=r):=by
  intro q2 q3 q4 q5 q6 q7;rw [aG q2,aG q3,aG q4,aG q5,aG q6,aG q7] at hr;refine ⟨fun h89=>⟨⟨hG,hn⟩,?_⟩,fun h=>?_⟩
  ·have hkl:=yx hG hn;rw [T_,show (cB d n).1=d_ d n from rfl] at hr;generalize hL:d_ d n=l at hr hkl
   have e8:∀ m:Nat,jZ (fun x=>n==x) l 0=(m:Int)→(t.lab.1==8)=true→r=kD t.lab.2.2.2.2.1 t.lab.2.2.2.2.2 ((m:Int)+1):=fun m hm h8=>by
    rw [aU h8,hm,gu om,fJ] at hr; exact hr
   have e9:∀ m:Nat,jZ (fun x=>n==x) l 0=(m:Int)→(t.lab.1==8)=false→r=kD t.lab.2.2.2.2.1 t.lab.2.2.2.2.2 ((l.length:Int) - (m:Int)):=fun m hm h8=>by
    rw [h8,lC] at h89;rw [aG h8,aU h89,hm,gu om,fJ] at hr; exact hr
   have e0:jZ (fun x=>n==x) l 0 = -1→r=false:=fun hm=>by
    cases h8:(t.lab.1==8) with
    | true=>rw [aU h8,hm,l6 om,iw] at hr; exact hr
    | false =>
     rw [h8,lC] at h89;rw [aG h8,aU h89,hm,l6 om,iw] at hr; exact hr
   have loop:∀ (k m:Nat),m+k=l.length→jZ (fun x=>n==x) l 0=jZ (fun x=>n==x) (l.drop m) m→t_ d n t (fun a=>a=r) (k+1) (m:Int):=by
    intro k
    induction k with
    | zero =>
     intro m h3 h4;rw [eD om,jZ] at h4;rw [t_];unfold Gl;rw [hL];exact ⟨fun hc=>od hc,fun _=>(e0 h4).symm⟩
    | succ k ih =>
     intro m h3 h4;rw [bX (l:=l) default om,jZ] at h4
     have T2:xW d n t (fun a=>a=r) (m:Int) (t_ d n t (fun a=>a=r) (k+1)):=by
      unfold xW E5;rw [hL,dR,fU om,fU om]
      cases hx:(l.getD m default==n) with
      | true =>
       have hx':(n==l.getD m default)=true:=by rw [eq_of_beq hx]; exact uM n
       rw [aU hx'] at h4;rw [fJ];exact ⟨fun h8=>(e8 m h4 h8).symm,fun h8=>⟨om,om,fun _=>(e9 m h4 h8).symm,(fun h=>by cases h)⟩⟩
      | false =>
       have hx':(n==l.getD m default)=false:=by
        rw [dX] at hx ⊢;exact fun e=>hx e.symm
       rw [aG hx'] at h4;rw [iw];exact ⟨(fun h=>by cases h),fun _=>⟨om,om,(fun h=>by cases h),fun _=>ih (m+1) om h4⟩⟩
     rw [t_];unfold Gl;rw [hL];exact ⟨fun _=>⟨om,by rw [dR]; omega,fun _=>T2,fun _=>T2⟩,fun hc=>oe hc⟩
   exact ⟨_,loop l.length 0 om rfl⟩
  rw [dB] at h;rw [aG h.1,aG h.2] at hr;refine ⟨fun q=>⟨hS,?_⟩,fun q=>⟨fun q'=>⟨hS,?_⟩,fun q'=>?_⟩⟩
  ·rw [aU q] at hr; exact hr.symm
  ·rw [aG q,aU q'] at hr; exact hr.symm
  rw [aG q,aG q'] at hr; exact hr.symm
 have n0:=hn.1;have n1:=o_ hn
 have V1:E9 d n t=Dx (jK (lI d n).2.2.1 oP).1 t.lab.2.1:=by
  show ((jK (lI d n).2.2.1 oP).2&&Dx (jK (lI d n).2.2.1 oP).1 t.lab.2.1)=_
  cases hh:(jK (lI d n).2.2.1 oP).2 with
  | true=>rw [fJ]
  | false=>rw [iw,afK hh,acb]
 refine ⟨fun q2=>⟨n0,n1,?_⟩,fun q2=>⟨fun q3=>⟨hR _,fun _=>?_,fun _=>?_⟩,fun q3=>⟨fun q4=>⟨hR _,fun _=>⟨hW,?_⟩,fun _=>?_⟩,fun q4=>⟨fun q5=>⟨hR _,fun _=>⟨fun _=>?_,fun _=>⟨hM,?_⟩⟩,fun _=>?_⟩,fun q5=>⟨fun q6=>⟨n0,n1,?_⟩,fun q6=>⟨fun q7=>?_,fun q7=>⟨fun _=>j81 q2 q3 q4 q5 q6 q7,fun _=>j81 q2 q3 q4 q5 q6 q7⟩⟩⟩⟩⟩⟩⟩
 ·rw [aU q2] at hr; exact hr.symm
 ·rw [aG q2,aU q3] at hr; exact hr.symm
 ·rw [aG q2,aU q3] at hr; exact hr.symm
 ·rw [aG q2,aG q3,aU q4] at hr; exact V1.trans hr.symm
 ·rw [aG q2,aG q3,aU q4] at hr; exact V1.trans hr.symm
 ·rw [aG q2,aG q3,aG q4,aU q5] at hr; exact hr.symm
 ·rw [aG q2,aG q3,aG q4,aU q5] at hr; exact hr.symm
 ·rw [aG q2,aG q3,aG q4,aU q5] at hr; exact hr.symm
 ·rw [aG q2,aG q3,aG q4,aG q5,aU q6] at hr; exact hr.symm
 rw [aG q2,aG q3,aG q4,aG q5,aG q6,aU q7] at hr;have hkl:=uy hG (o_ hn);have hin:=fun x hx=>hG.kids.kid n.toNat (o_ hn) x hx;have he:(d.1.getD n.toNat default).2.2.2.2.2=fo d.1 n.toNat:=rfl;have hr:r = !((fo d.1 n.toNat).any (AP d)):=hr;generalize fo d.1 n.toNat=l at hkl hin hr he
 have loop:∀ (k m:Nat),m+k=l.length→r = !((l.drop m).any (AP d))→uf d n (fun a=>a=r) (k+1) (m:Int):=by
  intro k
  induction k with
  | zero =>
   intro m h3 h4;rw [eD om] at h4;rw [uf];unfold Gm;rw [he];exact ⟨n0,n1,fun hc=>od hc,fun _=>h4.symm⟩
  | succ k ih =>
   intro m h3 h4;have hx:=hin (l.getD m default) (gM default om);rw [bX (l:=l) default om,jM] at h4
   have j68:za (fun a=>a=r) (d.1.getD (Int.toNat (l.getD m default)) default) (m:Int) (uf d n (fun a=>a=r) (k+1)):=by
    have hV:Cu (d.1.getD (Int.toNat (l.getD m default)) default)=AP d (l.getD m default):=rfl;unfold za;rw [hV];refine ⟨fun hc=>?_,fun hc=>?_⟩
    ·rw [hc,pM] at h4; exact h4.symm
    rw [hc,lC] at h4;rw [fU om];exact ih (m+1) om h4
   rw [uf];unfold Gm;rw [he,dR];exact ⟨n0,n1,fun _=>⟨om,om,hx.1,om,fun _=>j68,fun _=>⟨fun _=>j68,fun _=>j68⟩⟩,fun hc=>oe hc⟩
 exact ⟨_,loop l.length 0 om hr⟩
theorem ahr (N:Nat) (d:DC) (n:Int) (s:List Ts) (h:JN (N+1) d n s):aht N d n s (fun r=>r=kR d n s):=by
 obtain ⟨h1,h2,hG,hn,i0,hk⟩:=h
 have hl:s.length≤1048600:=by have:=rO s; omega
 have hP:∀ t ∈ s,Sz N d n t:=fun t ht=>by
  have:=xK ht;exact ⟨om,om,hG,hn,GR hk ht⟩
 have hr:kR d n s=(Rs d s n&&eU d n):=rfl;generalize kR d n s=r at hr
 have loop:∀ (k i:Nat),i+k=s.length→r=(Rs d (s.drop i) n&&eU d n)→OQ N d n s (fun a=>a=r) (k+1) (i:Int):=by
  intro k
  induction k with
  | zero =>
   intro i h3 h4;rw [eD om,Rs,fJ] at h4;exact ⟨fun hc=>od hc,fun _=>⟨hn.1,o_ hn,h4.symm⟩⟩
  | succ k ih =>
   intro i h3 h4;rw [bX (l:=s) default om,Rs] at h4;refine ⟨fun _=>?_,fun hc=>oe hc⟩;rw [dR];refine ⟨om,om,hP _ (gM default om),fun hc=>?_,fun hc=>?_⟩
   ·have hc:Zp d (s.getD i default) n=false:=by rw [dC] at hc; exact hc
    rw [hc,iw,iw] at h4;exact h4.symm
   have hc:Zp d (s.getD i default) n=true:=by rw [eX] at hc; exact hc
   rw [hc,fJ] at h4;rw [fU om];exact ih (i+1) om h4
 exact ⟨_,loop s.length 0 om hr⟩
theorem xY (d:DC):(A_ d).length=d.1.length:=by unfold A_; rw [iY,List.length_range]
theorem OW (d:DC) {i:Nat} (h:i<d.1.length):(A_ d).getD i default=(i:Int):=by
 unfold A_;rw [gT,iZ,List.getElem?_range h]; rfl
theorem Ba (d:DC) (p:List (List Ts)):(Gz d p).length=p.length:=by rw [wT,iY]
theorem OZ (d:DC) (p:List (List Ts)) {k:Nat} (h:k<p.length):(Gz d p).getD k default=fun x=>kR d x (p.getD k default):=by
 rw [wT,gT,iZ,gT,gH h]; rfl
theorem SH (d:DC) (p:List (List Ts)) (h:0<p.length):(Gz d p).getLastD (fun _=>false)=fun x=>kR d x (p.getD (p.length - 1) default):=by
 rw [← OZ d p (show p.length - 1<p.length by omega),List.getLastD_eq_getLast?,List.getLast?_eq_getElem?,Ba,gT,gH (by rw [Ba]; omega)]; rfl
theorem SI (d:DC) (p:List (List Ts)) (h:0<p.length):(Gz d p).headD (fun _=>false)=fun x=>kR d x (p.getD 0 default):=by
 cases p with
 | nil=>simp at h
 | cons s p=>rfl
theorem FK (l:List Int) (f:Int→Bool) {i:Nat} (h:i<l.length):(if f (l.getD i default)=true then (l.take i).filter f++[l.getD i default] else (l.take i).filter f)=(l.take (i+1)).filter f:=by
 rw [iD default h,zW]
 cases hm:f (l.getD i default) with
 | true=>rw [bB rfl,List.filter_cons_of_pos hm,uV]
 | false=>rw [aQ dc,List.filter_cons_of_neg (by rw [hm]; decide),uV,gK]
theorem ahw (N:Nat) (d:DC) (n:Int) (p:Ph) (h:Qx (N+1) d n p):aa0 N d n p (fun r=>r=rR d n p):=by
 obtain ⟨hw1,hw2,hG,hn,hp1,hp2,hp3,XT⟩:=h
 have hlen:p.1.length≤1048600:=by have:=rM p.1; omega
 have hpos:0<p.1.length:=List.length_pos_iff.2 hp1;have avf:=hG.few
 have hT:∀ (a:Nat),a<p.1.length→∀ x,nu d x→JN N d x (p.1.getD a default):=fun a ha x hx=>by
  have hs:p.1.getD a default ∈ p.1:=gM default ha;have h2:=tQ hs;obtain ⟨i,hi⟩:=rW hp3 hs;exact ⟨om,om,hG,hx,i,hi⟩
 have hr:rR d n p=(kR d n (p.1.getD (p.1.length - 1) default)&&(zm d (Gz d p.1).tail p.2 ((A_ d).filter fun x=>kR d x (p.1.getD 0 default))).any fun m=>m==n):=by
  unfold rR SF;rw [SH d p.1 hpos,SI d p.1 hpos]
 generalize rR d n p=r at hr
 have elast:w6 ((p.1.length:Int) - 1)=((p.1.length - 1:Nat):Int):=by rw [fU om]; omega
 unfold aa0;rw [elast,dR];refine ⟨om,om,hT _ om n hn,fun hc=>?_,fun hc=>?_⟩
 ·have hc:kR d n (p.1.getD (p.1.length - 1) default)=false:=by rw [dC] at hc; exact hc
  rw [hc,iw] at hr;exact hr.symm
 have hc:kR d n (p.1.getD (p.1.length - 1) default)=true:=by rw [eX] at hc; exact hc
 rw [hc,fJ] at hr;have hin:∀ i:Nat,i<d.1.length→nu d (i:Int):=fun i hi=>⟨om,om⟩;have hfl:∀ (f:Int→Bool) (i:Nat),(((A_ d).take i).filter f).length≤200:=fun f i=>gQ (zT ..) (by rw [gG,xY]; omega)
 -- is it there?
 have l89:∀ (now:List Int),now.length≤200→∀ (k i:Nat),i+k=now.length→(r=(now.drop i).any fun m=>m==n)→Gt n (fun a=>a=r) now (k+1) (i:Int):=by
  intro now hl k
  induction k with
  | zero =>
   intro i h3 h4;rw [eD om] at h4;exact ⟨fun hc=>od hc,fun _=>h4.symm⟩
  | succ k ih =>
   intro i h3 h4;rw [bX (l:=now) default om,jM] at h4;refine ⟨fun _=>?_,fun hc=>oe hc⟩;rw [dR];refine ⟨om,om,fun hc=>?_,fun hc=>?_⟩
   ·rw [hc,pM] at h4; exact h4.symm
   rw [hc,lC] at h4;rw [fU om];exact ih (i+1) om h4
 have l36:∀ (k q:Nat) (now:List Int),1≤q→q+k=p.1.length→now.length≤200→(r=(zm d ((Gz d p.1).drop q) (p.2.drop (q - 1)) now).any fun m=>m==n)→mF N d n p (fun a=>a=r) (k+1) (q:Int) now:=by
  intro k
  induction k with
  | zero =>
   intro q now hq h3 hl h4;rw [eD (by rw [Ba]; omega),zm] at h4;exact ⟨fun hc=>od hc,fun _=>⟨_,l89 now hl now.length 0 om h4⟩⟩
  | succ k ih =>
   intro q now hq h3 hl h4;have hjq:q - 1<p.2.length:=om;rw [bX (l:=Gz d p.1) default (by rw [Ba]; omega),OZ d p.1 om,bX (l:=p.2) default hjq,zm,show q - 1+1=q by omega] at h4;have h4:r=(zm d ((Gz d p.1).drop (q+1)) (p.2.drop q) ((A_ d).filter fun i=>(now.any fun m=>nJ d m i (p.2.getD (q - 1) default))&&kR d i (p.1.getD q default))).any fun m=>m==n:=h4
   have eq1:w6 ((q:Int) - 1)=((q - 1:Nat):Int):=by rw [fU om]; omega
   refine ⟨fun _=>?_,fun hc=>oe hc⟩
   have l51:∀ (k2 i:Nat),i+k2=d.1.length→nU N d p (q:Int) now (mF N d n p (fun a=>a=r) (k+1)) (k2+1) (i:Int) (((A_ d).take i).filter fun i=>(now.any fun m=>nJ d m i (p.2.getD (q - 1) default))&&kR d i (p.1.getD q default)):=by
    intro k2
    induction k2 with
    | zero =>
     intro i h5;refine ⟨fun hc=>od hc,fun _=>?_⟩;rw [jU (by rw [xY]; omega),fU om];refine ih (q+1) _ om om ?_ h4;have:=hfl (fun i=>(now.any fun m=>nJ d m i (p.2.getD (q - 1) default))&&kR d i (p.1.getD q default)) (A_ d).length;rw [iX] at this;exact this
    | succ k2 ih2 =>
     intro i h5;have hacc:=hfl (fun i=>(now.any fun m=>nJ d m i (p.2.getD (q - 1) default))&&kR d i (p.1.getD q default)) i;have hnext:=FK (A_ d) (fun i=>(now.any fun m=>nJ d m i (p.2.getD (q - 1) default))&&kR d i (p.1.getD q default)) (i:=i) (by rw [xY]; omega);rw [OW d om] at hnext;generalize ((A_ d).take i).filter (fun i=>(now.any fun m=>nJ d m i (p.2.getD (q - 1) default))&&kR d i (p.1.getD q default))=acc at hacc hnext
     have j58:∀ acc',acc'=((A_ d).take (i+1)).filter (fun i=>(now.any fun m=>nJ d m i (p.2.getD (q - 1) default))&&kR d i (p.1.getD q default))→Cw (i:Int) acc' (nU N d p (q:Int) now (mF N d n p (fun a=>a=r) (k+1)) (k2+1)):=fun acc' ha=>by
      unfold Cw;rw [fU om,ha];exact ih2 (i+1) om
     have j77:∀ b,b=(now.any fun m=>nJ d m (i:Int) (p.2.getD (q - 1) default))→wN d p b (i:Int) (q:Int) acc (nU N d p (q:Int) now (mF N d n p (fun a=>a=r) (k+1)) (k2+1)):=fun b hb=>by
      unfold wN;rw [dR,hb];refine ⟨fun hc=>⟨by rw [bD,mQ]; omega,j58 _ ?_⟩,fun hc=>j58 _ ?_⟩
      ·rw [← hnext,aU hc]
      rw [← hnext,aG hc]
     have l66:∀ (k3 m:Nat) (b:Bool),m+k3=now.length→(now.any fun m=>nJ d m (i:Int) (p.2.getD (q - 1) default))=(b||(now.drop m).any fun m=>nJ d m (i:Int) (p.2.getD (q - 1) default))→Gu N d p (i:Int) (q:Int) now acc (nU N d p (q:Int) now (mF N d n p (fun a=>a=r) (k+1)) (k2+1)) (k3+1) b (m:Int):=by
      have fin:∀ b,b=(now.any fun m=>nJ d m (i:Int) (p.2.getD (q - 1) default))→((b=true→(0:Int)≤(q:Int)∧Int.toNat (q:Int)<p.1.length∧JN N d (i:Int) (p.1.getD (Int.toNat (q:Int)) default)∧wN d p b (i:Int) (q:Int) acc (nU N d p (q:Int) now (mF N d n p (fun a=>a=r) (k+1)) (k2+1)))∧(b=false→wN d p b (i:Int) (q:Int) acc (nU N d p (q:Int) now (mF N d n p (fun a=>a=r) (k+1)) (k2+1)))):=fun b hb=>by
       rw [dR];exact ⟨fun _=>⟨om,om,hT q om _ (hin i om),j77 b hb⟩,fun _=>j77 b hb⟩
      intro k3
      induction k3 with
      | zero =>
       intro m b h6 h7;rw [eD om,xB,nD] at h7;refine ⟨fun hc=>?_,fun _=>fin b h7.symm⟩;rw [aH] at hc;have:=df hc.1;omega
      | succ k3 ih3 =>
       intro m b h6 h7
       cases b with
       | true=>exact ⟨(fun hc=>by rw [Bool.not_true,uY] at hc; cases hc),fun _=>fin true (by rw [h7,pM])⟩
       | false =>
        rw [bX (l:=now) default om,jM,lC] at h7;refine ⟨fun _=>?_,fun hc=>?_⟩
        ·rw [eq1,dR,dR,fU om];exact ⟨om,om,om,hjq,⟨hG,hin i om⟩,ih3 (m+1) _ om h7⟩
        rw [gu om] at hc; cases hc
     exact ⟨fun _=>⟨_,l66 now.length 0 false om rfl⟩,fun hc=>oe hc⟩
   exact ⟨_,l51 d.1.length 0 om⟩
 have l17:∀ (k i:Nat),i+k=d.1.length→ze N d n p (fun a=>a=r) (k+1) (i:Int) (((A_ d).take i).filter fun x=>kR d x (p.1.getD 0 default)):=by
  intro k
  induction k with
  | zero =>
   intro i h3;refine ⟨fun hc=>od hc,fun _=>⟨_,l36 (p.1.length - 1) 1 _ (fP _) om (hfl _ _) ?_⟩⟩;rw [jU (by rw [xY]; omega)];rw [hr,← List.drop_one]; rfl
  | succ k ih =>
   intro i h3;have hacc:=hfl (fun x=>kR d x (p.1.getD 0 default)) i;have hnext:=FK (A_ d) (fun x=>kR d x (p.1.getD 0 default)) (i:=i) (by rw [xY]; omega);rw [OW d om] at hnext;generalize ((A_ d).take i).filter (fun x=>kR d x (p.1.getD 0 default))=acc at hacc hnext
   have j24:Cx d p (i:Int) acc (ze N d n p (fun a=>a=r) (k+1)):=by
    unfold Cx qP;rw [show Int.toNat 0=0 from rfl,hnext,fU om];exact ih (i+1) om
   exact ⟨fun _=>⟨lv _,hpos,hT 0 hpos _ (hin i om),fun _=>⟨by rw [bD,mQ]; omega,j24⟩,fun _=>j24⟩,fun hc=>oe hc⟩
 exact ⟨_,l17 d.1.length 0 om⟩
theorem abf (N:Nat) (d:DC) (n:Int) (l:List Ph) (h:Fg (N+1) d n l):Zz N d n l (fun r=>r=vZ d n l):=by
 obtain ⟨h1,h2,hG,hn,hk⟩:=h;rw [mO] at h1 h2
 have hl:l.length≤1048600:=by have:=qo l; omega
 have hP:∀ q ∈ l,Qx N d n q:=fun q hq=>by
  have:=sW hq;have ho:=kI hk hq;exact ⟨om,om,hG,hn,ho.1.1,ho.1.2.1,ho.2,ho.1.2.2⟩
 have loop:∀ (k i:Nat),i+k=l.length→vZ d n l=Qy d (l.drop i) n→GI N d n l (fun r=>r=vZ d n l) (k+1) (i:Int):=by
  intro k
  induction k with
  | zero =>
   intro i h3 h4;rw [eD om,Qy] at h4;exact ⟨fun hc=>od hc,fun _=>h4.symm⟩
  | succ k ih =>
   intro i h3 h4;rw [bX (l:=l) default om,SG] at h4;refine ⟨fun _=>⟨om,by rw [dR]; omega,hP _ (gM default (by rw [dR]; omega)),fun hc=>?_,fun hc=>?_⟩,fun hc=>oe hc⟩
   ·rw [dR] at hc;have hc:SF d (Gz d (l.getD i default).1) (l.getD i default).2 n=true:=hc;rw [hc,pM] at h4;exact h4.symm
   rw [dR] at hc;have hc:SF d (Gz d (l.getD i default).1) (l.getD i default).2 n=false:=hc;rw [hc,lC] at h4;rw [fU om];exact ih (i+1) om h4
 exact ⟨_,loop l.length 0 om rfl⟩
theorem OP:∀ N,JK N∧JM N∧JO N∧CK N
 | 0=>⟨(by intro g k0 y0 xd xn P0 R0 xt u0 E0 hG0 hp; exact (ahm xd xn xt hp).elim),(by intro g k0 y0 xd xn axs_0 cxs_0 xs u0 v1 hG0 hp; exact (ahs xd xn xs hp).elim),(by intro g k0 y0 xd xn C0 D0 F0 G0 xp u0 K0 J0 hG0 hp; exact (ahx xd xn xp hp).elim),(by intro g k0 y0 xd xn T0 L0 xl u0 q1 hG0 hp; exact (abg xd xn xl hp).elim)⟩
 | N+1 =>
  have ih:=OP N
  ⟨(by intro g k0 y0 xd xn P0 R0 xt u0 E0 hG0 hp; exact (aaT N ih.1 ih.2.1 ih.2.2.1 ih.2.2.2 xd xn xt u0 E0 hG0 _ (ahl N xd xn xt hp)).gv),(by intro g k0 y0 xd xn axs_0 cxs_0 xs u0 v1 hG0 hp; exact (aaY N ih.1 ih.2.1 ih.2.2.1 ih.2.2.2 xd xn xs u0 v1 hG0 _ (ahr N xd xn xs hp)).gv),(by intro g k0 y0 xd xn C0 D0 F0 G0 xp u0 K0 J0 hG0 hp; exact (aaZ N ih.1 ih.2.1 ih.2.2.1 ih.2.2.2 xd xn xp u0 K0 J0 hG0 _ (ahw N xd xn xp hp)).gv),(by intro g k0 y0 xd xn T0 L0 xl u0 q1 hG0 hp; exact (Xb N ih.1 ih.2.1 ih.2.2.1 ih.2.2.2 xd xn xl u0 q1 hG0 _ (abf N xd xn xl hp)).gv)⟩
def Zq (xd:Dc) (xn:Int) (xp:PH):Prop:=∃ N,Qx N xd xn xp
theorem ahv {g:ak} {k0:Option Addr} {y0:Nat} (xd:Dc) (xn:Int) {C0:Option Addr} {D0:Nat} {F0:Option Addr} {G0:Nat} (xp:PH) (u0:bE g qj [.slice k0 xd.1.length y0] xd.1) (K0:bE g (.slice (.slice yS)) [.slice C0 xp.1.length D0] xp.1) (J0:bE g (.slice yb) [.slice F0 xp.2.length G0] xp.2) (hG0:bR g 0)  (hp:Zq xd xn xp):bC prog 10 #[.agg (aD xd k0 y0),iv xn,.agg #[.slice C0 xp.1.length D0,.slice F0 xp.2.length G0]] g (.bool (rR xd xn xp)):=by
 obtain ⟨N,hp⟩:=hp;exact (OP N).2.2.1 _ xd xn xp u0 K0 J0 hG0 hp
end
end Go.Proofs.YtdapgmigogpdcaaGreatDoor.Ma
