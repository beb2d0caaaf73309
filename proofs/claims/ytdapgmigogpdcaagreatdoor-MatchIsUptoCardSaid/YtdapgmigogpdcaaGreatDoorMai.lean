/- match: the document's tests. -/
import Derived.Test.YtdapgmigogpdcaaGreatDoorMah
namespace Go.Proofs.YtdapgmigogpdcaaGreatDoor.Ma
open _root_.Go.Proofs.Tryz Go Go.iQ Go.RowKit Ti Do Se Sr tF Tk
set_option linter.unusedVariables false
set_option linter.unusedSimpArgs false
set_option maxHeartbeats 4000000
set_option maxRecDepth 100000
noncomputable section
def Lh (d:DC) (n:Int) (t:Ts):Bool:=Yv d t n
def kL (d:DC) (n:Int) (s:List Ts):Bool:=QA d s n&&eP d n
def Li (d:DC) (n:Int) (p:Ph):Bool:=VR d (Jo d p.1) p.2 n
def pW (d:DC) (n:Int) (l:List Ph):Bool:=N9 d l n
def Rn (N:Nat) (d:DC) (n:Int) (t:Ts):Prop:=bT t<N∧bT t≤1048600∧gP d∧nC d n∧∃ i,xZ t i=true
def Jl (N:Nat) (d:DC) (n:Int) (s:List Ts):Prop:=w1 s+1<N∧w1 s≤1048600∧gP d∧nC d n∧∃ i,ok1 s i=true
def Ro (N:Nat) (d:DC) (n:Int) (p:Ph):Prop:=PV N d n p
def CE (N:Nat) (d:DC) (n:Int) (l:List Ph):Prop:=JH N d n l
def Ji (N:Nat):Prop:=∀ (g:ak) {k0:Option Addr} {y0:Nat} (xd:Dc) (xn:Int) {P0:Option Addr} {R0:Nat} (xt:TS) (u0:bG g qh [.slice k0 xd.1.length y0] xd.1) (E0:bG g (.slice yP) [.slice P0 xt.kids.length R0] xt.kids) (hG0:bP g 0)  (hp:Rn N xd xn xt),bE prog 43 #[.agg (aD xd k0 y0),iv xn,.agg (aL xt.lab P0 xt.kids.length R0)] g (.bool (Lh xd xn xt))
def Jk (N:Nat):Prop:=∀ (g:ak) {k0:Option Addr} {y0:Nat} (xd:Dc) (xn:Int) {axs_0:Option Addr} {cxs_0:Nat} (xs:List TS) (u0:bG g qh [.slice k0 xd.1.length y0] xd.1) (v1:bG g (.slice yS) [.slice axs_0 xs.length cxs_0] xs) (hG0:bP g 0)  (hp:Jl N xd xn xs),bE prog 24 #[.agg (aD xd k0 y0),iv xn,.slice axs_0 xs.length cxs_0] g (.bool (kL xd xn xs))
def Jm (N:Nat):Prop:=∀ (g:ak) {k0:Option Addr} {y0:Nat} (xd:Dc) (xn:Int) {C0:Option Addr} {D0:Nat} {F0:Option Addr} {G0:Nat} (xp:PH) (u0:bG g qh [.slice k0 xd.1.length y0] xd.1) (K0:bG g (.slice (.slice yS)) [.slice C0 xp.1.length D0] xp.1) (J0:bG g (.slice yb) [.slice F0 xp.2.length G0] xp.2) (hG0:bP g 0)  (hp:Ro N xd xn xp),bE prog 10 #[.agg (aD xd k0 y0),iv xn,.agg #[.slice C0 xp.1.length D0,.slice F0 xp.2.length G0]] g (.bool (Li xd xn xp))
def CB (N:Nat):Prop:=∀ (g:ak) {k0:Option Addr} {y0:Nat} (xd:Dc) (xn:Int) {T0:Option Addr} {L0:Nat} (xl:List PH) (u0:bG g qh [.slice k0 xd.1.length y0] xd.1) (q1:bG g (.slice yP) [.slice T0 xl.length L0] xl) (hG0:bP g 0)  (hp:CE N xd xn xl),bE prog 13 #[.agg (aD xd k0 y0),iv xn,.slice T0 xl.length L0] g (.bool (pW xd xn xl))
def Jj (xd:Dc) (xn:Int) (xt:TS):Bool :=
 ((jV xd xn ([105,100]:Bs)).2&&((jV xd xn ([105,100]:Bs)).1==xt.lab.2.1))
def ER (xd:Dc) (xn:Int) (xt:TS):Bool :=
 ((jV xd xn ([99,108,97,115,115]:Bs)).2&&(Dv (jV xd xn ([99,108,97,115,115]:Bs)).1 xt.lab.2.1))
def EP (xd:Dc) (xn:Int) (xt:TS):Bool :=
 ((jV xd xn xt.lab.2.1).2&&((xt.lab.2.2.1==0)||PI (jV xd xn xt.lab.2.1).1 xt))
def Co (e29:Nd):Bool :=
 ((e29.1==2)||((e29.1==3)&&(!(e29.2.2.2.1==([]:Bs)))))
def EO (xd:Dc) (xn:Int) (xt:TS) (x0:Int):Bool :=
 ((((dY xd xn).getD x0.toNat default)==xn)&&(xt.lab.1==8))
def Lg (xd:Dc) (xn:Int) (xt:TS) (K:Bool→Prop):Prop :=
 K (Jj xd xn xt)
def Lf (xd:Dc) (xn:Int) (xt:TS) (K:Bool→Prop):Prop :=
 K (ER xd xn xt)
def FY (xd:Dc) (xn:Int) (xt:TS) (K:Bool→Prop):Prop :=
 K (EP xd xn xt)
def y5 (K:Bool→Prop) (e29:Nd) (d0:Int) (C57:Int→Prop):Prop :=
 (Co e29=true→K false)∧(Co e29=false→C57 (w6 (d0+1)))
def FW (xd:Dc) (xn:Int) (K:Bool→Prop) (d0:Int) (C57:Int→Prop):Prop :=
 0≤xn∧xn.toNat<xd.1.length∧((decide (d0<((xd.1.getD xn.toNat default).2.2.2.2.2.length:Int)))=true→0≤d0∧d0.toNat<(xd.1.getD xn.toNat default).2.2.2.2.2.length∧0≤((xd.1.getD xn.toNat default).2.2.2.2.2.getD d0.toNat default)∧Int.toNat ((xd.1.getD xn.toNat default).2.2.2.2.2.getD d0.toNat default)<xd.1.length∧(((xd.1.getD (Int.toNat ((xd.1.getD xn.toNat default).2.2.2.2.2.getD d0.toNat default)) default).1==2)=true→y5 K (xd.1.getD (Int.toNat ((xd.1.getD xn.toNat default).2.2.2.2.2.getD d0.toNat default)) default) d0 C57)∧(((xd.1.getD (Int.toNat ((xd.1.getD xn.toNat default).2.2.2.2.2.getD d0.toNat default)) default).1==2)=false→(((xd.1.getD (Int.toNat ((xd.1.getD xn.toNat default).2.2.2.2.2.getD d0.toNat default)) default).1==3)=true→y5 K (xd.1.getD (Int.toNat ((xd.1.getD xn.toNat default).2.2.2.2.2.getD d0.toNat default)) default) d0 C57)∧(((xd.1.getD (Int.toNat ((xd.1.getD xn.toNat default).2.2.2.2.2.getD d0.toNat default)) default).1==3)=false→y5 K (xd.1.getD (Int.toNat ((xd.1.getD xn.toNat default).2.2.2.2.2.getD d0.toNat default)) default) d0 C57)))∧((decide (d0<((xd.1.getD xn.toNat default).2.2.2.2.2.length:Int)))=false→K true)
def tQ (xd:Dc) (xn:Int) (K:Bool→Prop):Nat→Int→Prop
 | 0,_=>False
 | k+1,d0=>FW xd xn K d0 (tQ xd xn K k)
def xO (xd:Dc) (xn:Int) (xt:TS) (K:Bool→Prop) (x0:Int) (C90:Int→Prop):Prop :=
 (EO xd xn xt x0=true→K (kz xt.lab.2.2.2.2.1 xt.lab.2.2.2.2.2 (w6 (x0+1))))∧(EO xd xn xt x0=false→0≤x0∧x0.toNat<(dY xd xn).length∧((((dY xd xn).getD x0.toNat default)==xn)=true→K (kz xt.lab.2.2.2.2.1 xt.lab.2.2.2.2.2 (w6 (((dY xd xn).length:Int) - x0))))∧((((dY xd xn).getD x0.toNat default)==xn)=false→C90 (w6 (x0+1))))
def FV (xd:Dc) (xn:Int) (xt:TS) (K:Bool→Prop) (x0:Int) (C90:Int→Prop):Prop :=
 ((decide (x0<((dY xd xn).length:Int)))=true→0≤x0∧x0.toNat<(dY xd xn).length∧((((dY xd xn).getD x0.toNat default)==xn)=true→xO xd xn xt K x0 C90)∧((((dY xd xn).getD x0.toNat default)==xn)=false→xO xd xn xt K x0 C90))∧((decide (x0<((dY xd xn).length:Int)))=false→K false)
def tO (xd:Dc) (xn:Int) (xt:TS) (K:Bool→Prop):Nat→Int→Prop
 | 0,_=>False
 | k+1,x0=>FV xd xn xt K x0 (tO xd xn xt K k)
def FX (N:Nat) (xd:Dc) (xn:Int) (xt:TS) (K:Bool→Prop):Prop :=
 (((xt.lab.1==8)||(xt.lab.1==9))=true→Dm xd xn∧∃ k,tO xd xn xt K k 0)∧(((xt.lab.1==8)||(xt.lab.1==9))=false→((xt.lab.1==10)=true→CE N xd xn xt.kids∧K (!(pW xd xn xt.kids)))∧((xt.lab.1==10)=false→((xt.lab.1==11)=true→CE N xd xn xt.kids∧K (pW xd xn xt.kids))∧((xt.lab.1==11)=false→K true)))
def afU (N:Nat) (xd:Dc) (xn:Int) (xt:TS) (K:Bool→Prop):Prop :=
 ((xt.lab.1==2)=true→0≤xn∧xn.toNat<xd.1.length∧K ((xd.1.getD xn.toNat default).2.1==xt.lab.2.1))∧((xt.lab.1==2)=false→((xt.lab.1==3)=true→PG xd xn ([105,100]:Bs)∧((jV xd xn ([105,100]:Bs)).2=true→Lg xd xn xt K)∧((jV xd xn ([105,100]:Bs)).2=false→Lg xd xn xt K))∧((xt.lab.1==3)=false→((xt.lab.1==4)=true→PG xd xn ([99,108,97,115,115]:Bs)∧((jV xd xn ([99,108,97,115,115]:Bs)).2=true→WQ (jV xd xn ([99,108,97,115,115]:Bs)).1 xt.lab.2.1∧Lf xd xn xt K)∧((jV xd xn ([99,108,97,115,115]:Bs)).2=false→Lf xd xn xt K))∧((xt.lab.1==4)=false→((xt.lab.1==5)=true→PG xd xn xt.lab.2.1∧((jV xd xn xt.lab.2.1).2=true→((xt.lab.2.2.1==0)=true→FY xd xn xt K)∧((xt.lab.2.2.1==0)=false→VY (jV xd xn xt.lab.2.1).1 xt∧FY xd xn xt K))∧((jV xd xn xt.lab.2.1).2=false→FY xd xn xt K))∧((xt.lab.1==5)=false→((xt.lab.1==6)=true→0≤xn∧xn.toNat<xd.1.length∧K ((xd.1.getD xn.toNat default).2.2.2.2.1==0))∧((xt.lab.1==6)=false→((xt.lab.1==7)=true→∃ k,tQ xd xn K k 0)∧((xt.lab.1==7)=false→((xt.lab.1==8)=true→FX N xd xn xt K)∧((xt.lab.1==8)=false→FX N xd xn xt K)))))))
theorem ZR {g:ak} (N:Nat) (Hm:Ji N) (zq:Jk N) (Ho:Jm N) (yo:CB N) {k0:Option Addr} {y0:Nat} (xd:Dc) (xn:Int) {P0:Option Addr} {R0:Nat} (xt:TS) (u0:bG g qh [.slice k0 xd.1.length y0] xd.1) (E0:bG g (.slice yP) [.slice P0 xt.kids.length R0] xt.kids) (hG0:bP g 0) (K:Bool→Prop)
  (hF:afU N xd xn xt K):az prog 43 #[.agg (aD xd k0 y0),iv xn,.agg (aL xt.lab P0 xt.kids.length R0)] g [] (fun g' H' v=>∃ (r0:Bool),v=.bool r0∧H'=[]∧K r0):=by
 refine aP 200 func43 rfl fun w0=>?_
 refine ae (ai (di fun dK=>?_))
 refine ai (di fun iD=>?_)
 refine av 1 [(1,iv xn),(3,pv dK 0),(5,pv iD 0)] kr (aa (aH (ae (aj 3 [.e 0] [1,3,5] [(19,.bool (xt.lab.1==2))] ?_))))
 refine aa (aM hF (fun hc3 hF=>?_) (fun hc3 hF=>?_))
 ·refine aH (gu kr kr (fe 1 [1,5] [(20,pv dK 0)] ?_))
  refine dX.op rfl (fM.s (v:=.slice k0 xd.1.length y0) (aR 1 rfl rfl underlying22 rfl kr) rfl rfl (fe 1 [5] [(21,.slice k0 xd.1.length y0),(22,iv xn)] ?_))
  obtain ⟨Ei,H_,hF⟩:=hF
  have Dx:=aV (l:=xd.1) default H_
  generalize hg5:(xd.1.getD xn.toNat default)=e5 at Dx hF ⊢
  refine dX.op rfl (fM.bf (e:=yN) rfl rfl underlying22 kr u0 Ei Dx rfl fun q4 o4 cs4 _ ab3 hr4=>?_)
  obtain ⟨auU,auD,auS,auB,rfl,TL,arC⟩:=oN hr4
  refine fe 1 [5] [(24,.pointer (some ⟨q4,o4+1,none⟩))] ?_
  let F:=e5.2.1==xt.lab.2.1
  refine dX.op rfl (fM.s (v:=sv e5.2.1) (eX 1 ab3 kr underlying9 rfl kr) rfl rfl (yO 1 [(25,sv e5.2.1),(26,pv iD 1)] kr (dX.op rfl (fM.s (v:=sv xt.lab.2.1) (aR 0 rfl rfl underlying9 rfl kr) rfl rfl (dX.op rfl (fM.s (v:=.bool F) (iE (f:=.eql) (a:=e5.2.1) (b:=xt.lab.2.1) kr kr rfl) rfl rfl (yO 1 [(6,.bool F)] kr (kU (Ok.t (Ok.ret (aC ?_)))))))))))
  exact dD F hF
 refine Ok.k (Ok.t (aH (ae (aj 3 [.e 0] [1,3,5] [(31,.bool (xt.lab.1==3))] ?_))))
 refine aa (aM hF (fun hc6 hF=>?_) (fun hc6 hF=>?_))
 ·refine aH (aS ?_)
  obtain ⟨Md,hF⟩:=hF
  let E:=([105,100]:Bs)
  refine aj 8 [.e 1,.k (Rz xd xn E u0 Md)] [5] [(7,sv ((jV xd xn E).1)),(8,.bool (jV xd xn E).2)] ?_
  refine aa (iO g [(6,.bool (Jj xd xn xt))] [] (Lg xd xn xt K) ?_ (fun atU s2 hF=>?_))
  ·
   refine aS (ag 2 [5,7] [(39,.bool (jV xd xn E).2)] ?_)
   refine bN 39 hF (fun hc8 hF=>?_) (fun hc8 hF=>?_)
   ·refine aj 6 [.e 0] [] [(6,.bool ((jV xd xn E).1==xt.lab.2.1))] ?_
    refine aa (aB 6 (Jj xd xn xt) (aZ hc8) ?_)
    exact fg hF
   refine av 6 [(6,.bool false)] kr (aa (aB 6 (Jj xd xn xt) (bW hc8) ?_))
   exact fg hF
  replace hG0:=hG0.mono s2.1
  refine Ok.ret (aC ?_)
  exact qd (.bool (Jj xd xn xt)) s2 ⟨_,rfl,rfl,hF⟩
 refine Ok.k (Ok.t (aH (ae (aj 3 [.e 0] [1,3,5] [(47,.bool (xt.lab.1==4))] ?_))))
 refine aa (aM hF (fun mW hF=>?_) (fun mW hF=>?_))
 ·refine aH (aS ?_)
  obtain ⟨Hw,hF⟩:=hF
  let A:=([99,108,97,115,115]:Bs)
  refine aj 8 [.e 1,.k (Rz xd xn A u0 Hw)] [5] [(9,sv ((jV xd xn A).1)),(10,.bool (jV xd xn A).2)] ?_
  refine aa (iO g [(6,.bool (ER xd xn xt))] [] (Lf xd xn xt K) ?_ (fun atS b2 hF=>?_))
  ·
   refine aS (ag 2 [5,9] [(55,.bool (jV xd xn A).2)] ?_)
   refine bN 55 hF (fun o2 hF=>?_) (fun o2 hF=>?_)
   ·obtain ⟨amS,hF⟩:=hF
    refine aj 6 [.e 0,.k (YA (jV xd xn A).1 xt.lab.2.1 amS)] [] [(6,.bool (Dv (jV xd xn A).1 xt.lab.2.1))] ?_
    refine aa (aB 6 (ER xd xn xt) (aZ o2) ?_)
    exact fg hF
   refine av 6 [(6,.bool false)] kr (aa (aB 6 (ER xd xn xt) (bW o2) ?_))
   exact fg hF
  replace hG0:=hG0.mono b2.1
  refine Ok.ret (aC ?_)
  exact qd (.bool (ER xd xn xt)) b2 ⟨_,rfl,rfl,hF⟩
 refine Ok.k (Ok.t (aH (ae (aj 3 [.e 0] [1,3,5] [(63,.bool (xt.lab.1==5))] ?_))))
 refine aa (aM hF (fun TG hF=>?_) (fun TG hF=>?_))
 ·refine aH (aS ?_)
  obtain ⟨Tx,hF⟩:=hF
  refine aj 10 [.e 1,.e 0,.k (Rz xd xn xt.lab.2.1 u0 Tx)] [5] [(11,sv ((jV xd xn xt.lab.2.1).1)),(12,.bool (jV xd xn xt.lab.2.1).2)] ?_
  refine aa (iO g [(6,.bool (EP xd xn xt))] [] (FY xd xn xt K) ?_ (fun atP c2 hF=>?_))
  ·
   refine aS (ag 2 [5,11] [(73,.bool (jV xd xn xt.lab.2.1).2)] ?_)
   refine bN 73 hF (fun C1 hF=>?_) (fun C1 hF=>?_)
   ·refine aj 4 [.e 0] [5,11] [(73,.bool true),(77,.bool (xt.lab.2.2.1==0))] ?_
    refine bN 77 hF (fun p2 hF=>?_) (fun p2 hF=>?_)
    ·refine av 6 [(6,.bool true)] kr (aa (aB 6 (EP xd xn xt) (au (df p2) (aZ C1)) ?_))
     exact fg hF
    obtain ⟨Tw,hF⟩:=hF
    refine aj 6 [.e 0,.k (agr (jV xd xn xt.lab.2.1).1 xt E0 Tw)] [] [(6,.bool (PI (jV xd xn xt.lab.2.1).1 xt))] ?_
    refine aa (aB 6 (EP xd xn xt) (au (bR p2) (aZ C1)) ?_)
    exact fg hF
   refine av 10 [(6,.bool false)] kr (aa (aB 6 (EP xd xn xt) (bW C1) ?_))
   exact fg hF
  replace hG0:=hG0.mono c2.1
  refine Ok.ret (aC ?_)
  exact qd (.bool (EP xd xn xt)) c2 ⟨_,rfl,rfl,hF⟩
 refine Ok.k (Ok.t (aH (ae (aj 3 [.e 0] [1,3,5] [(85,.bool (xt.lab.1==6))] ?_))))
 refine aa (aM hF (fun hc18 hF=>?_) (fun hc18 hF=>?_))
 ·refine ae (aj 3 [.e 1] [] [(87,.slice k0 xd.1.length y0),(88,iv xn)] ?_)
  obtain ⟨adi,ac6,hF⟩:=hF
  have J2:=aV (l:=xd.1) default ac6
  generalize aiu:(xd.1.getD xn.toNat default)=e20 at J2 hF ⊢
  refine ai (af.bf (e:=yN) rfl rfl underlying22 kr u0 adi J2 rfl fun q19 o19 ap7 _ aiI abl=>?_)
  obtain ⟨ast,arY,ass,arX,rfl,aoK,aoJ⟩:=oN abl
  refine aj 4 [.a 4 aiI] [] [(6,.bool (e20.2.2.2.2.1==0))] ?_
  refine aa (Ok.ret (aC ?_))
  exact dD (e20.2.2.2.2.1==0) hF
 refine Ok.k (Ok.t (aH (ae (aj 3 [.e 0] [1,3,5] [(95,.bool (xt.lab.1==7))] ?_))))
 refine aa (aM hF (fun E1 hF=>?_) (fun E1 hF=>?_))
 ·refine aH (ae (ag 1 [1,3] [(13,iv 0)] ?_))
  refine aa (Ok.block ?_)
  obtain ⟨k,hF⟩:=hF
  refine gF (fun k a W=>∃ c1:ak,aY w0 g c1∧∃ (d0:Int),fJ 200 [(1,iv xn),(3,pv dK 0),(13,iv d0)] a∧dh w0 [.blk dK (.cells (aD xd k0 y0) 24)] c1 W∧tQ xd xn K k d0) k ?_ ?_
  ·
   exact fun _ _ u v=>⟨g,bq w0 g,0,fA u v hF⟩
  clear hF
  rintro (_ | k57) _ _ ⟨c1,Y1,d0,q⟩
  exact (q.2.2:False).elim
  refine jn (fun hF=>?_) _ _ q
  replace u0:=u0.mono Y1.1
  replace hG0:=hG0.mono Y1.1
  refine aH (ae (aj 4 [.e 0] [1,3,13] [(96,iv d0),(98,.slice k0 xd.1.length y0),(99,iv xn)] ?_))
  obtain ⟨W2,Ib,hF⟩:=hF
  have r2:=aV (l:=xd.1) default Ib
  generalize abK:(xd.1.getD xn.toNat default)=e23 at r2 hF ⊢
  refine ai (af.bf (e:=yN) rfl rfl underlying22 kr u0 W2 r2 rfl fun q22 o22 ajz _ aiG Tf=>?_)
  obtain ⟨aso,arU,asn,arT,rfl,aoF,aoE⟩:=oN Tf
  refine aj 4 [.a 5 aiG] [1,3,13] [(104,.bool (decide (d0<(e23.2.2.2.2.2.length:Int))))] ?_
  refine aa (ed hF rfl (fun t2=>?_) (fun t2=>?_))
  ·replace hF:=hF.1 t2
   refine Ok.k (Ok.t (aH (Ok.block (aH (wz [] [] [1] [(0,true),(1,true),(2,true),(3,true),(4,true),(5,true),(6,true),(7,true),(8,true),(9,true),(10,true),(11,true),(12,true),(13,false),(14,false)] ?_)))))
   refine iI 1 [1,3,13] [(107,pv dK 0)] ?_
   refine eF.hd (fM.s (v:=.slice k0 xd.1.length y0) (aR 0 rfl rfl underlying22 rfl kr) rfl rfl ?_)
   refine iI 1 [1,3,13] [(108,.slice k0 xd.1.length y0),(109,pv dK 0)] ?_
   refine eF.hd (fM.s (v:=.slice k0 xd.1.length y0) (aR 0 rfl rfl underlying22 rfl kr) rfl rfl ?_)
   refine iI 1 [1,3,13,108] [(110,.slice k0 xd.1.length y0),(111,iv xn)] ?_
   refine eF.hd (fM.bf (e:=yN) rfl rfl underlying22 kr u0 W2 r2 rfl fun q25 o25 ap4 _ aiF abh=>?_)
   obtain ⟨asl,arS,d2,e2,rfl,aoC,acv⟩:=oN abh
   refine iI 1 [1,3,13,108] [(113,.pointer (some ⟨q25,o25+5,none⟩))] ?_
   refine eF.hd (fM.s (v:=.slice d2 e23.2.2.2.2.2.length e2) (eX 5 aiF kr underlying46 rfl kr) rfl rfl ?_)
   refine iI 1 [1,3,13,108] [(114,.slice d2 e23.2.2.2.2.2.length e2),(115,iv d0)] ?_
   obtain ⟨T9,h127,hF⟩:=hF
   have X2:=aV (l:=e23.2.2.2.2.2) default h127
   generalize am7:(e23.2.2.2.2.2.getD d0.toNat default)=e27 at X2 hF ⊢
   refine eF.hd (fM.bf (e:=.int .i64) rfl rfl underlying46 kr acv T9 X2 rfl fun q26 o26 aup _ F1 amz=>?_)
   obtain rfl:=amz
   replace F1:At c1 q26 o26 [iv e27]:=F1
   refine eF.hd (fM.s (v:=iv e27) (eX 0 F1 kr underlying3 rfl kr) rfl rfl ?_)
   obtain ⟨MH,MB,hF⟩:=hF
   have S2:=aV (l:=xd.1) default MB
   generalize TC:(xd.1.getD e27.toNat default)=e29 at S2 hF ⊢
   refine eF.hd (fM.bf (e:=yN) rfl rfl underlying22 kr u0 MH S2 rfl fun q28 o28 ajx _ aiD Td=>?_)
   obtain ⟨f2,g2,m2,n2,rfl,aox,aow⟩:=oN Td
   refine eF.hd (fM.s (v:=.agg (aN e29 f2 g2 m2 n2)) (bU 0 6 (aN e29 f2 g2 m2 n2) aiD kr underlying48 rfl kr kr kr) rfl rfl ?_)
   refine eF.t rfl rfl (bK #[iv 0,sv ([]:Bs),.slice none 0 0,sv ([]:Bs),iv 0,.slice none 0 0] fun aql=>?_)
   refine g_ (lC.refl _) (eF.t rfl rfl (af.w 0 ?_))
   refine g_ (lC.refl _) (eF.nil (Ok.t (Ok.cut (fun a W=>∃ y2:ak,aY w0 c1 y2∧fJ 200 [(1,iv xn),(3,pv dK 0),(13,iv d0),(132,.bool (Co e29))] a∧dh w0 [.blk dK (.cells (aD xd k0 y0) 24)] y2 W∧y5 K e29 d0 (tQ xd xn K k57)) ?_ ?_)))
   ·
    refine aS (aj 4 [.e 0] [1,3,13] [(14,pv aql 0),(123,.bool (e29.1==2))] ?_)
    refine bN 123 hF (fun u2 hF=>?_) (fun u2 hF=>?_)
    ·refine ag 9 [1,3,13] [(132,.bool true)] ?_
     refine aa (aB 132 (Co e29) (df u2) ?_)
     exact fg hF
    refine aj 4 [.e 0] [1,3,13,14] [(123,.bool false),(127,.bool (e29.1==3))] ?_
    refine bN 127 hF (fun G1 hF=>?_) (fun G1 hF=>?_)
    ·refine aj 5 [.e 0] [1,3,13] [(132,.bool (!(e29.2.2.2.1==([]:Bs))))] ?_
     refine aa (aB 132 (Co e29) (au (aZ G1) (bR u2)) ?_)
     exact fg hF
    refine ag 5 [1,3,13] [(132,.bool false)] ?_
    refine aa (aB 132 (Co e29) (au (bW G1) (bR u2)) ?_)
    exact fg hF
   clear hF
   rintro _ _ ⟨y2,B1,q⟩
   refine jn (fun hF=>?_) _ _ q
   replace u0:=u0.mono B1.1
   replace hG0:=hG0.mono B1.1
   refine ed hF rfl (fun a2=>?_) (fun a2=>?_)
   ·replace hF:=hF.1 a2
    refine ae (av 1 [(6,.bool false)] kr (aa (Ok.ret (aU (aC (aC (aU (aC (aC ?_)))))))))
    exact jd (.bool false) (Y1.trans B1) ⟨_,rfl,rfl,hF⟩
   replace hF:=hF.2 a2
   refine Ok.k (bJ (Ok.t (aS (ag 3 [1,3] [(13,iv (w6 (d0+1)))] ?_))))
   refine bY (Ok.t ?_)
   subst TC
   subst am7
   subst abK
   exact fun _ _ u v=>⟨k57,nl,y2,Y1.trans B1,w6 (d0+1),fA u v hF⟩
  replace hF:=hF.2 t2
  refine fU (aA (aA (aO (Ok.t (ae (av 1 [(6,.bool true)] kr (aa (Ok.ret (aC ?_)))))))))
  exact jd (.bool true) Y1 ⟨_,rfl,rfl,hF⟩
 let B:=(.cells (aL xt.lab P0 xt.kids.length R0) 60:Obj)
 let D:=(xt.lab.1==8)||(xt.lab.1==9)
 refine Ok.k (Ok.t (aH (iO g [(1,iv xn),(3,pv dK 0),(5,pv iD 0),(140,.bool D)] [.blk iD B,.blk dK (.cells (aD xd k0 y0) 24)] (FX N xd xn xt K) ?_ (fun atM y1 hF=>?_))))
 ·
  refine aS (aj 4 [.e 0] [1,3,5] [(136,.bool (xt.lab.1==8))] ?_)
  refine bN 136 hF (fun i2 hF=>?_) (fun i2 hF=>?_)
  ·refine ag 4 [1,3,5] [(140,.bool true)] ?_
   refine aa (aB 140 D (df i2) ?_)
   exact fg hF
  refine aj 4 [.e 0] [1,3,5] [(140,.bool (xt.lab.1==9))] ?_
  refine aa (aB 140 D (bR i2) ?_)
  exact fg hF
 replace E0:=E0.mono y1.1
 replace u0:=u0.mono y1.1
 replace hG0:=hG0.mono y1.1
 refine aM hF (fun H1 hF=>?_) (fun H1 hF=>?_)
 ·refine ae (aj 2 [.e 1] [1,5] [(141,.agg (aD xd k0 y0)),(142,iv xn)] ?_)
  obtain ⟨amP,hF⟩:=hF
  refine ai (bQ (YB xd xn u0 amP) fun g36 _ _ D1 an7=>?_)
  obtain ⟨d1,e1,i1,rfl,j1,rfl⟩:=an7
  replace u0:=u0.mono D1.1
  replace E0:=E0.mono D1.1
  replace hG0:=hG0.mono D1.1
  refine ag 1 [1,5] [(15,.slice d1 (dY xd xn).length e1)] ?_
  refine aa (aH (ae (ag 1 [1,5,15] [(16,iv 0)] ?_)))
  refine aa (Ok.block ?_)
  obtain ⟨k,hF⟩:=hF
  refine gF (fun k a W=>∃ U1:ak,aY w0 g36 U1∧∃ (x0:Int),fJ 200 [(1,iv xn),(5,pv iD 0),(15,.slice d1 (dY xd xn).length e1),(16,iv x0)] a∧dh w0 [.own (.slice d1 (dY xd xn).length e1) 3 1 (dY xd xn).length i1,.blk iD B] U1 W∧tO xd xn xt K k x0) k ?_ ?_
  ·
   exact fun _ _ u v=>⟨g36,bq w0 g36,0,fA u v hF⟩
  clear hF
  rintro (_ | k90) _ _ ⟨U1,f1,x0,q⟩
  exact (q.2.2:False).elim
  refine jn (fun hF=>?_) _ _ q
  replace j1:=j1.mono f1.1
  replace E0:=E0.mono f1.1
  replace hG0:=hG0.mono f1.1
  refine aH (ae (ag 4 [1,5,15,16] [(147,.bool (decide (x0<((dY xd xn).length:Int))))] ?_))
  refine aa (aM hF (fun abP hF=>?_) (fun abP hF=>?_))
  ·refine Ok.k (Ok.t (aH (Ok.block (aH (iO U1 [(1,iv xn),(5,pv iD 0),(15,.slice d1 (dY xd xn).length e1),(16,iv x0),(160,.bool (EO xd xn xt x0))] [.own (.slice d1 (dY xd xn).length e1) 3 1 (dY xd xn).length i1,.blk iD B] (xO xd xn xt K x0 (tO xd xn xt K k90)) ?_ (fun ajc x1 hF=>?_))))))
   ·
    refine aS (ag 2 [1,5,15,16] [(150,.slice d1 (dY xd xn).length e1),(151,iv x0)] ?_)
    obtain ⟨TY,acX,hF⟩:=hF
    have B2:=aV (l:=dY xd xn) default acX
    generalize C2:((dY xd xn).getD x0.toNat default)=e43 at B2 hF ⊢
    refine ai (af.fQ (e:=.int .i64) 0 rfl j1 rfl rfl underlying46 kr kr TY B2 rfl fun aui _ ams Z2=>?_)
    obtain rfl:=ams
    replace Z2:∀ j v,([iv e43]:List Value)[j]? = some v→i1[x0.toNat * 1+j]? = some v:=Z2
    refine ai (af.s (v:=iv e43) (dN 0 0 rfl Z2 rfl underlying3 rfl kr) rfl rfl (ag 3 [1,5,15,16] [(156,.bool (e43==xn))] ?_))
    refine Ok.a 156 (e43==xn) rfl (fun M1=>?_) (fun M1=>?_)
    ·replace hF:=hF.1 M1
     refine aj 4 [.e 1] [1,5,15,16] [(160,.bool (xt.lab.1==8))] ?_
     refine bY (Ok.t ?_)
     subst C2
     refine aB 160 (EO xd xn xt x0) (aZ M1) ?_
     exact fg hF
    replace hF:=hF.2 M1
    refine ag 4 [1,5,15,16] [(160,.bool false)] ?_
    refine bY (Ok.t ?_)
    subst C2
    refine aB 160 (EO xd xn xt x0) (bW M1) ?_
    exact fg hF
   replace j1:=j1.mono x1.1
   replace E0:=E0.mono x1.1
   replace hG0:=hG0.mono x1.1
   refine aM hF (fun hc38 hF=>?_) (fun hc38 hF=>?_)
   ·refine ae (aj 8 [.e 1,.e 1,.k (Yw xt.lab.2.2.2.2.1 xt.lab.2.2.2.2.2 (w6 (x0+1)))] [] [(6,.bool (kz xt.lab.2.2.2.2.1 xt.lab.2.2.2.2.2 (w6 (x0+1))))] ?_)
    refine aa (Ok.ret (aC (aU (aC (aC (aU (aC (aC ?_))))))))
    exact jd (.bool (kz xt.lab.2.2.2.2.1 xt.lab.2.2.2.2.2 (w6 (x0+1)))) (((y1.trans D1).trans f1).trans x1) ⟨_,rfl,rfl,hF⟩
   refine Ok.k (Ok.t (ae (ag 2 [1,5,15,16] [(168,.slice d1 (dY xd xn).length e1),(169,iv x0)] ?_)))
   obtain ⟨ac8,acY,hF⟩:=hF
   have D2:=aV (l:=dY xd xn) default acY
   generalize am2:((dY xd xn).getD x0.toNat default)=e40 at D2 hF ⊢
   refine ai (af.fQ (e:=.int .i64) 0 rfl j1 rfl rfl underlying46 kr kr ac8 D2 rfl fun auk _ amu V2=>?_)
   obtain rfl:=amu
   replace V2:∀ j v,([iv e40]:List Value)[j]? = some v→i1[x0.toNat * 1+j]? = some v:=V2
   refine ai (af.s (v:=iv e40) (dN 0 0 rfl V2 rfl underlying3 rfl kr) rfl rfl (ag 2 [1,5,15,16] [(173,.bool (e40==xn))] ?_))
   refine aa (ed hF rfl (fun Q2=>?_) (fun Q2=>?_))
   ·replace hF:=hF.1 Q2
    let G:=w6 (((dY xd xn).length:Int) - x0)
    let C:=kz xt.lab.2.2.2.2.1 xt.lab.2.2.2.2.2 G
    refine ae (aj 10 [.e 1,.e 1,.k (Yw xt.lab.2.2.2.2.1 xt.lab.2.2.2.2.2 G)] [] [(6,.bool C)] ?_)
    refine aa (Ok.ret (aU (aC (aC (aU (aC (aC ?_)))))))
    exact jd (.bool C) (((y1.trans D1).trans f1).trans x1) ⟨_,rfl,rfl,hF⟩
   replace hF:=hF.2 Q2
   refine Ok.k (bJ (Ok.t (aS (ag 3 [1,5,15] [(16,iv (w6 (x0+1)))] ?_))))
   refine bY (Ok.t ?_)
   subst am2
   exact fun _ _ u v=>⟨k90,nl,ajc,f1.trans x1,w6 (x0+1),fA u v hF⟩
  refine fU (aA (aA (aO (Ok.t (ae (av 1 [(6,.bool false)] kr (aa (Ok.ret (aC ?_)))))))))
  exact jd (.bool false) ((y1.trans D1).trans f1) ⟨_,rfl,rfl,hF⟩
 refine Ok.k (Ok.t (aH (ae (aj 3 [.e 0] [1,3,5] [(185,.bool (xt.lab.1==10))] ?_))))
 refine aa (aM hF (fun abO hF=>?_) (fun abO hF=>?_))
 ·refine aH (aS ?_)
  obtain ⟨amL,hF⟩:=hF
  refine aj 7 [.e 1,.e 0,.k (yo _ xd xn xt.kids u0 E0 hG0 amL)] [] [(6,.bool (!(pW xd xn xt.kids)))] ?_
  refine aa (Ok.ret (aC ?_))
  exact jd (.bool (!(pW xd xn xt.kids))) y1 ⟨_,rfl,rfl,hF⟩
 refine Ok.k (Ok.t (aH (ae (aj 3 [.e 0] [1,3,5] [(194,.bool (xt.lab.1==11))] ?_))))
 refine aa (aM hF (fun hc47 hF=>?_) (fun hc47 hF=>?_))
 ·refine aH (aS ?_)
  obtain ⟨amJ,hF⟩:=hF
  refine aj 6 [.e 1,.e 0,.k (yo _ xd xn xt.kids u0 E0 hG0 amJ)] [] [(6,.bool (pW xd xn xt.kids))] ?_
  refine aa (Ok.ret (aC ?_))
  exact jd (.bool (pW xd xn xt.kids)) y1 ⟨_,rfl,rfl,hF⟩
 refine Ok.k (Ok.t (ae (av 1 [(6,.bool true)] kr (aa (Ok.ret ?_)))))
 exact jd (.bool true) y1 ⟨_,rfl,rfl,hF⟩
def ZW (N:Nat) (xd:Dc) (xn:Int) (xs:List TS) (K:Bool→Prop) (S0:Int) (C7:Int→Prop):Prop :=
 ((decide (S0<(xs.length:Int)))=true→(0:Int)≤S0∧Int.toNat S0<xs.length∧Rn N xd xn (xs.getD (Int.toNat S0) default)∧((!(Lh xd xn (xs.getD (Int.toNat S0) default)))=true→K false)∧((!(Lh xd xn (xs.getD (Int.toNat S0) default)))=false→C7 (w6 (S0+1))))∧((decide (S0<(xs.length:Int)))=false→0≤xn∧xn.toNat<xd.1.length∧K ((xd.1.getD xn.toNat default).1==2))
def NW (N:Nat) (xd:Dc) (xn:Int) (xs:List TS) (K:Bool→Prop):Nat→Int→Prop
 | 0,_=>False
 | k+1,S0=>ZW N xd xn xs K S0 (NW N xd xn xs K k)
def af0 (N:Nat) (xd:Dc) (xn:Int) (xs:List TS) (K:Bool→Prop):Prop :=
 ∃ k,NW N xd xn xs K k 0
theorem ZX {g:ak} (N:Nat) (Hm:Ji N) (zq:Jk N) (Ho:Jm N) (yo:CB N) {k0:Option Addr} {y0:Nat} (xd:Dc) (xn:Int) {axs_0:Option Addr} {cxs_0:Nat} (xs:List TS) (u0:bG g qh [.slice k0 xd.1.length y0] xd.1) (v1:bG g (.slice yS) [.slice axs_0 xs.length cxs_0] xs) (hG0:bP g 0) (K:Bool→Prop)
  (hF:af0 N xd xn xs K):az prog 24 #[.agg (aD xd k0 y0),iv xn,.slice axs_0 xs.length cxs_0] g [] (fun g' H' v=>∃ (r0:Bool),v=.bool r0∧H'=[]∧K r0):=by
 refine aP 25 func24 rfl fun w0=>?_
 refine ae (ai (di fun dK=>?_))
 refine av 1 [(1,iv xn),(2,.slice axs_0 xs.length cxs_0),(3,pv dK 0)] kr (aa (aH (ae (ag 1 [1,2,3] [(7,iv 0)] ?_))))
 refine aa (Ok.block ?_)
 obtain ⟨k,hF⟩:=hF
 refine gF (fun k a W=>∃ (S0:Int),fJ 25 [(1,iv xn),(2,.slice axs_0 xs.length cxs_0),(3,pv dK 0),(7,iv S0)] a∧dh w0 [.blk dK (.cells (aD xd k0 y0) 24)] g W∧NW N xd xn xs K k S0) k ?_ ?_
 ·
  exact fun _ _ u v=>⟨0,fA u v hF⟩
 clear hF
 rintro (_ | k7) _ _ ⟨S0,q⟩
 exact (q.2.2:False).elim
 refine jn (fun hF=>?_) _ _ q
 refine aH (ae (ag 4 [1,2,3,7] [(11,.bool (decide (S0<(xs.length:Int))))] ?_))
 refine aa (aM hF (fun hc2 hF=>?_) (fun hc2 hF=>?_))
 ·refine Ok.k (Ok.t (aH (Ok.block (aH (gu kr kr (dX.op rfl (fM.s (v:=.agg (aD xd k0 y0)) (a_ 0 2 (aD xd k0 y0) rfl rfl underlying24 rfl kr kr kr) rfl rfl (fe 3 [1,2,3,7] [(14,.agg (aD xd k0 y0)),(15,iv xn),(16,.slice axs_0 xs.length cxs_0),(17,iv S0)] ?_))))))))
  obtain ⟨qA,ru,hF⟩:=hF
  have pR:=aV (l:=xs) default ru
  generalize hg4:(xs.getD (Int.toNat S0) default)=e4 at pR hF ⊢
  refine dX.op rfl (fM.bf (e:=yS) rfl rfl underlying54 kr v1 qA pR rfl fun q3 o3 XQ _ Z1 hr3=>?_)
  have N1:=hr3
  replace N1:=bG.tst.1 N1
  obtain ⟨_,_,rfl,⟨_,_,rfl,rfl,⟨_,_,rfl,rfl,⟨_,_,rfl,rfl,⟨_,_,rfl,rfl,⟨_,_,rfl,rfl,rfl⟩⟩⟩⟩⟩,⟨O1,P1,rfl,aio,ah8⟩⟩:=N1
  have ai3:bG g (.slice yP) [.slice O1 e4.kids.length P1] e4.kids:=⟨O1,P1,rfl,aio,ah8⟩
  replace Z1:At g q3 o3 (vL e4.lab O1 e4.kids.length P1):=Z1
  let A:=aL e4.lab O1 e4.kids.length P1
  refine dX.op rfl (fM.s (v:=.agg A) (bU 0 7 A Z1 kr underlying60 rfl kr kr kr) rfl rfl ?_)
  obtain ⟨Kj,hF⟩:=hF
  refine dX.op rfl (fM.f gT (fun W hW=>Hm _ xd xn e4 (u0.mono hW.sees) (ai3.mono hW.sees) (hG0.mono hW.sees) Kj) rfl ?_)
  refine fe 1 [1,2,3,7] [(21,.bool (!(Lh xd xn e4)))] ?_
  refine kU (Ok.t (ed hF rfl (fun hc6=>?_) (fun hc6=>?_)))
  ·replace hF:=hF.1 hc6
   refine ae (av 1 [(6,.bool false)] kr (aa (Ok.ret (aU (aC (aC (aU (aC ?_))))))))
   exact dD false hF
  replace hF:=hF.2 hc6
  refine Ok.k (bJ (Ok.t (aS (ag 3 [1,2,3] [(7,iv (w6 (S0+1)))] ?_))))
  refine bY (Ok.t ?_)
  subst hg4
  exact fun _ _ u v=>⟨k7,nl,w6 (S0+1),fA u v hF⟩
 refine fU (aA (aA (aO (Ok.t (ae (aj 2 [.e 0] [] [(22,.agg (aD xd k0 y0)),(23,iv xn)] ?_))))))
 refine ai (bM (args:=#[.agg (aD xd k0 y0),iv xn]) 12 [(0,.agg (aD xd k0 y0)),(1,iv xn)] gT func44 rfl rfl rfl rfl (ae (ai (di fun aev=>?_))))
 refine av 1 [(1,iv xn),(2,pv aev 0)] kr (aa (ae (aj 3 [.e 0] [] [(6,.slice k0 xd.1.length y0),(7,iv xn)] ?_)))
 obtain ⟨Eh,h19,hF⟩:=hF
 have QD:=aV (l:=xd.1) default h19
 generalize hg9:(xd.1.getD xn.toNat default)=e9 at QD hF ⊢
 refine ai (af.bf (e:=yN) rfl rfl underlying22 kr u0 Eh QD rfl fun q8 o8 cs8 _ anV hr8=>?_)
 obtain ⟨aqr,aqg,auN,aut,rfl,aiZ,arw⟩:=oN hr8
 refine aj 4 [.a 0 anV] [] [(4,.bool (e9.1==2))] ?_
 refine aa (Ok.ret (bu (vs:=[.bool (e9.1==2)]) (.inl rfl) rfl (.cons (.tmp rfl) .nil) rfl (av 1 [(6,.bool (e9.1==2))] kr (aa (Ok.ret ?_)))))
 exact dD (e9.1==2) hF
def qM (xd:Dc) (xp:PH) (f0:Int) (q0:List Int):List Int :=
 (if (kL xd f0 (xp.1.getD (Int.toNat 0) default))=true then (q0++([f0]:List Int)) else q0)
def Cs (xd:Dc) (xp:PH) (f0:Int) (q0:List Int) (C17:Int→List Int→Prop):Prop :=
 C17 (w6 (f0+1)) (qM xd xp f0 q0)
def Cr (j0:Int) (Y0:List Int) (QJ:Int→List Int→Prop):Prop :=
 QJ (w6 (j0+1)) Y0
def wI (xd:Dc) (xp:PH) (t0:Bool) (j0:Int) (s0:Int) (v0:List Int) (QJ:Int→List Int→Prop):Prop :=
 ((t0&&(kL xd j0 (xp.1.getD s0.toNat default)))=true→(v0++([j0]:List Int)).length≤17592186044416∧Cr j0 (v0++([j0]:List Int)) QJ)∧((t0&&(kL xd j0 (xp.1.getD s0.toNat default)))=false→Cr j0 v0 QJ)
def VL (N:Nat) (xd:Dc) (xp:PH) (j0:Int) (s0:Int) (z0:List Int) (v0:List Int) (QJ:Int→List Int→Prop) (t0:Bool) (a0:Int) (C66:Bool→Int→Prop):Prop :=
 (((decide (a0<(z0.length:Int)))&&(!t0))=true→0≤a0∧a0.toNat<z0.length∧0≤w6 (s0 - 1)∧Int.toNat (w6 (s0 - 1))<xp.2.length∧ZV xd (z0.getD a0.toNat default) j0 (xp.2.getD (Int.toNat (w6 (s0 - 1))) default)∧C66 (nH xd (z0.getD a0.toNat default) j0 (xp.2.getD (Int.toNat (w6 (s0 - 1))) default)) (w6 (a0+1)))∧(((decide (a0<(z0.length:Int)))&&(!t0))=false→(t0=true→0≤s0∧s0.toNat<xp.1.length∧Jl N xd j0 (xp.1.getD s0.toNat default)∧wI xd xp t0 j0 s0 v0 QJ)∧(t0=false→wI xd xp t0 j0 s0 v0 QJ))
def F6 (N:Nat) (xd:Dc) (xp:PH) (j0:Int) (s0:Int) (z0:List Int) (v0:List Int) (QJ:Int→List Int→Prop):Nat→Bool→Int→Prop
 | 0,_,_=>False
 | k+1,t0,a0=>VL N xd xp j0 s0 z0 v0 QJ t0 a0 (F6 N xd xp j0 s0 z0 v0 QJ k)
def VM (N:Nat) (xd:Dc) (xp:PH) (s0:Int) (z0:List Int) (C36:Int→List Int→Prop) (j0:Int) (v0:List Int) (QJ:Int→List Int→Prop):Prop :=
 ((decide (j0<(xd.1.length:Int)))=true→∃ k,F6 N xd xp j0 s0 z0 v0 QJ k false 0)∧((decide (j0<(xd.1.length:Int)))=false→C36 (w6 (s0+1)) v0)
def nT (N:Nat) (xd:Dc) (xp:PH) (s0:Int) (z0:List Int) (C36:Int→List Int→Prop):Nat→Int→List Int→Prop
 | 0,_,_=>False
 | k+1,j0,v0=>VM N xd xp s0 z0 C36 j0 v0 (nT N xd xp s0 z0 C36 k)
def VK (xn:Int) (K:Bool→Prop) (z0:List Int) (B0:Int) (C89:Int→Prop):Prop :=
 ((decide (B0<(z0.length:Int)))=true→(0:Int)≤B0∧Int.toNat B0<z0.length∧((z0.getD (Int.toNat B0) default==xn)=true→K true)∧((z0.getD (Int.toNat B0) default==xn)=false→C89 (w6 (B0+1))))∧((decide (B0<(z0.length:Int)))=false→K false)
def F5 (xn:Int) (K:Bool→Prop) (z0:List Int):Nat→Int→Prop
 | 0,_=>False
 | k+1,B0=>VK xn K z0 B0 (F5 xn K z0 k)
def VN (N:Nat) (xd:Dc) (xn:Int) (xp:PH) (K:Bool→Prop) (s0:Int) (z0:List Int) (C36:Int→List Int→Prop):Prop :=
 ((decide (s0<(xp.1.length:Int)))=true→∃ k,nT N xd xp s0 z0 C36 k 0 ([]:List Int))∧((decide (s0<(xp.1.length:Int)))=false→∃ k,F5 xn K z0 k 0)
def mr (N:Nat) (xd:Dc) (xn:Int) (xp:PH) (K:Bool→Prop):Nat→Int→List Int→Prop
 | 0,_,_=>False
 | k+1,s0,z0=>VN N xd xn xp K s0 z0 (mr N xd xn xp K k)
def VO (N:Nat) (xd:Dc) (xn:Int) (xp:PH) (K:Bool→Prop) (f0:Int) (q0:List Int) (C17:Int→List Int→Prop):Prop :=
 ((decide (f0<(xd.1.length:Int)))=true→(0:Int)≤0∧Int.toNat 0<xp.1.length∧Jl N xd f0 (xp.1.getD (Int.toNat 0) default)∧((kL xd f0 (xp.1.getD (Int.toNat 0) default))=true→(q0++([f0]:List Int)).length≤17592186044416∧Cs xd xp f0 q0 C17)∧((kL xd f0 (xp.1.getD (Int.toNat 0) default))=false→Cs xd xp f0 q0 C17))∧((decide (f0<(xd.1.length:Int)))=false→∃ k,mr N xd xn xp K k 1 q0)
def y8 (N:Nat) (xd:Dc) (xn:Int) (xp:PH) (K:Bool→Prop):Nat→Int→List Int→Prop
 | 0,_,_=>False
 | k+1,f0,q0=>VO N xd xn xp K f0 q0 (y8 N xd xn xp K k)
def ZZ (N:Nat) (xd:Dc) (xn:Int) (xp:PH) (K:Bool→Prop):Prop :=
 0≤(w6 ((xp.1.length:Int) - 1))∧Int.toNat (w6 ((xp.1.length:Int) - 1))<xp.1.length∧Jl N xd xn (xp.1.getD (Int.toNat (w6 ((xp.1.length:Int) - 1))) default)∧((!(kL xd xn (xp.1.getD (Int.toNat (w6 ((xp.1.length:Int) - 1))) default)))=true→K false)∧((!(kL xd xn (xp.1.getD (Int.toNat (w6 ((xp.1.length:Int) - 1))) default)))=false→∃ k,y8 N xd xn xp K k 0 ([]:List Int))
theorem ZY {g:ak} (N:Nat) (Hm:Ji N) (zq:Jk N) (Ho:Jm N) (yo:CB N) {k0:Option Addr} {y0:Nat} (xd:Dc) (xn:Int) {C0:Option Addr} {D0:Nat} {F0:Option Addr} {G0:Nat} (xp:PH) (u0:bG g qh [.slice k0 xd.1.length y0] xd.1) (K0:bG g (.slice (.slice yS)) [.slice C0 xp.1.length D0] xp.1) (J0:bG g (.slice yb) [.slice F0 xp.2.length G0] xp.2) (hG0:bP g 0) (K:Bool→Prop)
  (hF:ZZ N xd xn xp K):az prog 10 #[.agg (aD xd k0 y0),iv xn,.agg #[.slice C0 xp.1.length D0,.slice F0 xp.2.length G0]] g [] (fun g' H' v=>∃ (r0:Bool),v=.bool r0∧H'=[]∧K r0):=by
 refine aP 110 func10 rfl fun w0=>?_
 refine ae (ai (di fun dK=>?_))
 refine ai (di fun iD=>?_)
 refine av 1 [(1,iv xn),(3,pv dK 0),(5,pv iD 0)] kr (aa (aH (aH (gu kr kr (dX.op rfl (fM.s (v:=.agg (aD xd k0 y0)) (a_ 1 2 (aD xd k0 y0) rfl rfl underlying24 rfl kr kr kr) rfl rfl (fe 2 [1,3,5] [(15,.agg (aD xd k0 y0)),(16,iv xn),(17,pv iD 0)] ?_)))))))
 refine dX.op rfl (fM.s (v:=.slice C0 xp.1.length D0) (aR 0 rfl rfl underlying25 rfl kr) rfl rfl (fe 1 [1,3,5,15,16] [(18,.slice C0 xp.1.length D0),(19,pv iD 0)] ?_))
 refine dX.op rfl (fM.s (v:=.slice C0 xp.1.length D0) (aR 0 rfl rfl underlying25 rfl kr) rfl rfl (fe 2 [1,3,5,15,16,18] [(22,iv (w6 ((xp.1.length:Int) - 1)))] ?_))
 obtain ⟨qA,ru,hF⟩:=hF
 have pR:=aV (l:=xp.1) default ru
 generalize hg4:(xp.1.getD (Int.toNat (w6 ((xp.1.length:Int) - 1))) default)=e4 at pR hF ⊢
 refine dX.op rfl (fM.bf (e:=.slice yS) rfl rfl underlying25 kr K0 qA pR rfl fun q3 o3 XQ _ Z1 hr3=>?_)
 obtain ⟨X1,S1,rfl,R1⟩:=oS hr3
 refine dX.op rfl (fM.s (v:=.slice X1 e4.length S1) (eX 0 Z1 kr underlying54 rfl kr) rfl rfl ?_)
 obtain ⟨Kj,hF⟩:=hF
 refine dX.op rfl (fM.f gT (fun W hW=>zq _ xd xn e4 (u0.mono hW.sees) (R1.mono hW.sees) (hG0.mono hW.sees) Kj) rfl ?_)
 refine fe 1 [1,3,5] [(26,.bool (!(kL xd xn e4)))] ?_
 refine kU (Ok.t (aM hF (fun hc6 hF=>?_) (fun hc6 hF=>?_)))
 ·refine ae (av 1 [(6,.bool false)] kr (aa (Ok.ret (aC ?_))))
  exact dD false hF
 refine Ok.k (Ok.t (ae (ag 1 [1,3,5] [(7,.slice none 0 0)] ?_)))
 have hL7:aW g (.int .i64) [] []:=rfl
 refine fO 3 1 (aa (aH (ae (ag 1 [1,3,5] [(7,.slice none ([]:List Int).length 0),(8,iv 0)] ?_))))
 refine aa (Ok.block ?_)
 obtain ⟨k,hF⟩:=hF
 refine gF (fun k a W=>∃ k1:ak,aY w0 g k1∧∃ (f0:Int) (V0:Option Addr) (Q0:Nat) (q0:List Int) (U0:List Value),aW k1 (.int .i64) U0 q0∧fJ 110 [(1,iv xn),(3,pv dK 0),(5,pv iD 0),(7,.slice V0 q0.length Q0),(8,iv f0)] a∧dh w0 [.own (.slice V0 q0.length Q0) 3 1 q0.length U0,.blk iD (.cells #[.slice C0 xp.1.length D0,.slice F0 xp.2.length G0] 28),.blk dK (.cells (aD xd k0 y0) 24)] k1 W∧y8 N xd xn xp K k f0 q0) k ?_ ?_
 ·
  exact fun _ _ u v=>⟨g,bq w0 g,0,none,0,([]:List Int),[],hL7,fA u v hF⟩
 clear hF
 rintro (_ | k17) _ _ ⟨k1,g1,f0,V0,Q0,q0,U0,z1,q⟩
 exact (q.2.2:False).elim
 refine jn (fun hF=>?_) _ _ q
 replace K0:=K0.mono g1.1
 replace J0:=J0.mono g1.1
 replace u0:=u0.mono g1.1
 replace hG0:=hG0.mono g1.1
 refine aH (ae (aj 5 [.e 2] [1,3,5,7,8] [(31,.bool (decide (f0<(xd.1.length:Int))))] ?_))
 refine aa (aM hF (fun hc8 hF=>?_) (fun hc8 hF=>?_))
 ·refine Ok.k (Ok.t (Ok.cut (fun a W=>∃ T1:ak,aY w0 k1 T1∧∃ (A0:Option Addr) (I0:Nat) (M0:List Value),aW T1 (.int .i64) M0 (qM xd xp f0 q0)∧fJ 110 [(1,iv xn),(3,pv dK 0),(5,pv iD 0),(7,.slice A0 (qM xd xp f0 q0).length I0),(8,iv f0)] a∧dh w0 [.own (.slice A0 (qM xd xp f0 q0).length I0) 3 1 (qM xd xp f0 q0).length M0,.blk iD (.cells #[.slice C0 xp.1.length D0,.slice F0 xp.2.length G0] 28),.blk dK (.cells (aD xd k0 y0) 24)] T1 W∧Cs xd xp f0 q0 (y8 N xd xn xp K k17)) ?_ ?_))
  ·
   refine Ok.block (aH (gu kr kr (dX.op rfl (fM.s (v:=.agg (aD xd k0 y0)) (a_ 2 2 (aD xd k0 y0) rfl rfl underlying24 rfl kr kr kr) rfl rfl (fe 2 [1,3,5,7,8] [(34,.agg (aD xd k0 y0)),(35,iv f0),(36,pv iD 0)] ?_)))))
   refine dX.op rfl (fM.s (v:=.slice C0 xp.1.length D0) (aR 1 rfl rfl underlying25 rfl kr) rfl rfl ?_)
   obtain ⟨Ub,MF,hF⟩:=hF
   have E2:=aV (l:=xp.1) default MF
   generalize F2:(xp.1.getD (Int.toNat 0) default)=e10 at E2 hF ⊢
   refine dX.op rfl (fM.bf (e:=.slice yS) rfl rfl underlying25 kr K0 Ub E2 rfl fun q9 o9 cs9 _ anU WR=>?_)
   obtain ⟨aqp,aqf,rfl,YR⟩:=oS WR
   refine dX.op rfl (fM.s (v:=.slice aqp e10.length aqf) (eX 0 anU kr underlying54 rfl kr) rfl rfl ?_)
   obtain ⟨Mh,hF⟩:=hF
   refine dX.op rfl (fM.f gT (fun W hW=>zq _ xd f0 e10 (u0.mono hW.sees) (YR.mono hW.sees) (hG0.mono hW.sees) Mh) rfl ?_)
   refine kU (Ok.t (ed hF rfl (fun Q1=>?_) (fun Q1=>?_)))
   ·replace hF:=hF.1 Q1
    refine aS (ag 2 [1,3,5,8] [(41,.slice V0 q0.length Q0),(42,iv f0)] ?_)
    have G2:aW k1 (.int .i64) ([iv f0]:List Value) ([f0]:List Int):=(dB (c:=[iv f0]) rfl rfl)
    refine ai (gG G2 fun b13=>?_)
    obtain ⟨anT,hF⟩:=hF
    refine ai (eZ (e:=.int .i64) 8 17592186044416 1 0 rfl rfl rfl rfl z1 G2 underlying46 kr kr kr anT rfl fun a14 c14 j2 TT=>?_)
    refine ag 1 [1,3,5,8] [(7,.slice a14 (q0++([f0]:List Int)).length c14)] ?_
    refine bY (bJ (Ok.t ?_))
    subst F2
    refine gW 7 rfl (show (.slice a14 (q0++([f0]:List Int)).length c14:Value)=.slice a14 (qM xd xp f0 q0).length c14 from ay (fun l:List Int=>Value.slice a14 l.length c14) ((aT Q1).symm)) ?_
    refine jZ (E':=.own (.slice a14 (qM xd xp f0 q0).length c14) 3 1 (qM xd xp f0 q0).length j2) 1 (ay (fun l:List Int=>b_.own (.slice a14 l.length c14) 3 1 l.length j2) ((aT Q1).symm)) ?_
    exact fun _ _ u v=>⟨k1,bq w0 k1,a14,c14,j2,(Eq.mp (ay (fun l:List Int=>aW k1 (.int .i64) j2 l) ((aT Q1).symm)) TT),fA u v hF⟩
   replace hF:=hF.2 Q1
   refine Ok.k (bJ (Ok.t ?_))
   subst F2
   refine gW 7 rfl (show (.slice V0 q0.length Q0:Value)=.slice V0 (qM xd xp f0 q0).length Q0 from ay (fun l:List Int=>Value.slice V0 l.length Q0) ((aF Q1).symm)) ?_
   refine jZ (E':=.own (.slice V0 (qM xd xp f0 q0).length Q0) 3 1 (qM xd xp f0 q0).length U0) 0 (ay (fun l:List Int=>b_.own (.slice V0 l.length Q0) 3 1 l.length U0) ((aF Q1).symm)) ?_
   exact fun _ _ u v=>⟨k1,bq w0 k1,V0,Q0,U0,(Eq.mp (ay (fun l:List Int=>aW k1 (.int .i64) U0 l) ((aF Q1).symm)) z1),fA u v hF⟩
  clear hF
  rintro _ _ ⟨T1,J1,A0,I0,M0,H6,q⟩
  refine jn (fun hF=>?_) _ _ q
  replace K0:=K0.mono J1.1
  replace J0:=J0.mono J1.1
  replace u0:=u0.mono J1.1
  replace hG0:=hG0.mono J1.1
  refine aS (ag 3 [1,3,5,7] [(8,iv (w6 (f0+1)))] ?_)
  refine bY (Ok.t ?_)
  exact fun _ _ u v=>⟨k17,nl,T1,g1.trans J1,w6 (f0+1),A0,I0,qM xd xp f0 q0,M0,H6,fA u v hF⟩
 refine fU (aA (aA (aO (Ok.t (aH (ae (ag 1 [1,3,5,7] [(9,iv 1)] ?_)))))))
 refine aa (Ok.block ?_)
 obtain ⟨k,hF⟩:=hF
 refine gF (fun k a W=>∃ m1:ak,aY w0 k1 m1∧∃ (s0:Int) (b0:Option Addr) (c0:Nat) (z0:List Int) (Z0:List Value),aW m1 (.int .i64) Z0 z0∧fJ 110 [(1,iv xn),(3,pv dK 0),(5,pv iD 0),(7,.slice b0 z0.length c0),(9,iv s0)] a∧dh w0 [.own (.slice b0 z0.length c0) 3 1 z0.length Z0,.blk iD (.cells #[.slice C0 xp.1.length D0,.slice F0 xp.2.length G0] 28),.blk dK (.cells (aD xd k0 y0) 24)] m1 W∧mr N xd xn xp K k s0 z0) k ?_ ?_
 ·
  exact fun _ _ u v=>⟨k1,bq w0 k1,1,V0,Q0,q0,U0,z1,fA u v hF⟩
 clear hF
 rintro (_ | k36) _ _ ⟨m1,o1,s0,b0,c0,z0,Z0,g0,q⟩
 exact (q.2.2:False).elim
 refine jn (fun hF=>?_) _ _ q
 replace K0:=K0.mono o1.1
 replace J0:=J0.mono o1.1
 replace u0:=u0.mono o1.1
 replace hG0:=hG0.mono o1.1
 refine aH (ae (aj 5 [.e 1] [1,3,5,7,9] [(49,.bool (decide (s0<(xp.1.length:Int))))] ?_))
 refine aa (aM hF (fun C1 hF=>?_) (fun C1 hF=>?_))
 ·refine Ok.k (Ok.t (aH (Ok.block (ae (ag 1 [1,3,5,7,9] [(10,.slice none 0 0)] ?_)))))
  have acK:aW m1 (.int .i64) [] []:=rfl
  refine fO 3 1 (aa (aH (ae (ag 1 [1,3,5,7,9] [(10,.slice none ([]:List Int).length 0),(11,iv 0)] ?_))))
  refine aa (Ok.block ?_)
  obtain ⟨k,hF⟩:=hF
  refine gF (fun k a W=>∃ K1:ak,aY w0 m1 K1∧∃ (j0:Int) (m0:Option Addr) (o0:Nat) (v0:List Int) (W0:List Value),aW K1 (.int .i64) W0 v0∧fJ 110 [(1,iv xn),(3,pv dK 0),(5,pv iD 0),(7,.slice b0 z0.length c0),(9,iv s0),(10,.slice m0 v0.length o0),(11,iv j0)] a∧dh w0 [.own (.slice m0 v0.length o0) 3 1 v0.length W0,.own (.slice b0 z0.length c0) 3 1 z0.length Z0,.blk iD (.cells #[.slice C0 xp.1.length D0,.slice F0 xp.2.length G0] 28),.blk dK (.cells (aD xd k0 y0) 24)] K1 W∧nT N xd xp s0 z0 (mr N xd xn xp K k36) k j0 v0) k ?_ ?_
  ·
   exact fun _ _ u v=>⟨m1,bq w0 m1,0,none,0,([]:List Int),[],acK,fA u v hF⟩
  clear hF
  rintro (_ | k51) _ _ ⟨K1,r1,j0,m0,o0,v0,W0,X0,q⟩
  exact (q.2.2:False).elim
  refine jn (fun hF=>?_) _ _ q
  replace g0:=g0.mono r1.1
  replace K0:=K0.mono r1.1
  replace J0:=J0.mono r1.1
  replace u0:=u0.mono r1.1
  replace hG0:=hG0.mono r1.1
  refine aH (ae (aj 5 [.e 3] [1,3,5,7,9,10,11] [(56,.bool (decide (j0<(xd.1.length:Int))))] ?_))
  refine aa (aM hF (fun hc17 hF=>?_) (fun hc17 hF=>?_))
  ·refine Ok.k (Ok.t (Ok.cut (fun a W=>∃ L1:ak,aY w0 K1 L1∧∃ (N0:Option Addr) (O0:Nat) (Y0:List Int) (H0:List Value),aW L1 (.int .i64) H0 Y0∧fJ 110 [(1,iv xn),(3,pv dK 0),(5,pv iD 0),(7,.slice b0 z0.length c0),(9,iv s0),(10,.slice N0 Y0.length O0),(11,iv j0)] a∧dh w0 [.own (.slice N0 Y0.length O0) 3 1 Y0.length H0,.own (.slice b0 z0.length c0) 3 1 z0.length Z0,.blk iD (.cells #[.slice C0 xp.1.length D0,.slice F0 xp.2.length G0] 28),.blk dK (.cells (aD xd k0 y0) 24)] L1 W∧Cr j0 Y0 (nT N xd xp s0 z0 (mr N xd xn xp K k36) k51)) ?_ ?_))
   ·
    refine Ok.block (ae (ag 1 [1,3,5,7,9,10,11] [(12,.bool false)] ?_))
    refine aa (aH (ae (ag 1 [1,3,5,7,9,10,11,12] [(13,iv 0)] ?_)))
    refine aa (Ok.block ?_)
    obtain ⟨k,hF⟩:=hF
    refine gF (fun k a W=>∃ t1:ak,aY w0 K1 t1∧∃ (t0:Bool) (a0:Int),fJ 110 [(1,iv xn),(3,pv dK 0),(5,pv iD 0),(7,.slice b0 z0.length c0),(9,iv s0),(10,.slice m0 v0.length o0),(11,iv j0),(12,.bool t0),(13,iv a0)] a∧dh w0 [.own (.slice m0 v0.length o0) 3 1 v0.length W0,.own (.slice b0 z0.length c0) 3 1 z0.length Z0,.blk iD (.cells #[.slice C0 xp.1.length D0,.slice F0 xp.2.length G0] 28),.blk dK (.cells (aD xd k0 y0) 24)] t1 W∧F6 N xd xp j0 s0 z0 v0 (nT N xd xp s0 z0 (mr N xd xn xp K k36) k51) k t0 a0) k ?_ ?_
    ·
     exact fun _ _ u v=>⟨K1,bq w0 K1,false,0,fA u v hF⟩
    clear hF
    rintro (_ | k66) _ _ ⟨t1,u1,t0,a0,q⟩
    exact (q.2.2:False).elim
    refine jn (fun hF=>?_) _ _ q
    replace g0:=g0.mono u1.1
    replace X0:=X0.mono u1.1
    replace K0:=K0.mono u1.1
    replace J0:=J0.mono u1.1
    replace u0:=u0.mono u1.1
    replace hG0:=hG0.mono u1.1
    refine aH (ae (ag 5 [1,3,5,7,9,10,11,12,13] [(63,.bool (decide (a0<(z0.length:Int))))] ?_))
    refine Ok.w 3 [(1,iv xn),(3,pv dK 0),(5,pv iD 0),(7,.slice b0 z0.length c0),(9,iv s0),(10,.slice m0 v0.length o0),(11,iv j0),(12,.bool t0),(13,iv a0),(66,.bool ((decide (a0<(z0.length:Int)))&&(!t0)))] (fun H2=>?_) ?_
    ·refine Ok.a 63 (decide (a0<(z0.length:Int))) rfl (fun K2=>?_) (fun K2=>?_)
     ·skip
      refine ag 3 [1,3,5,7,9,10,11,12,13] [(66,.bool (!t0))] ?_
      refine aB 66 ((decide (a0<(z0.length:Int)))&&(!t0)) (aZ K2) (ag 0 [1,3,5,7,9,10,11,12,13] [(66,.bool ((decide (a0<(z0.length:Int)))&&(!t0)))] ?_)
      exact H2
     skip
     refine ag 3 [1,3,5,7,9,10,11,12,13] [(66,.bool false)] ?_
     refine aB 66 ((decide (a0<(z0.length:Int)))&&(!t0)) (bW K2) (ag 0 [1,3,5,7,9,10,11,12,13] [(66,.bool ((decide (a0<(z0.length:Int)))&&(!t0)))] ?_)
     exact H2
    refine aa (aM hF (fun Mq hF=>?_) (fun Mq hF=>?_))
    ·refine Ok.k (Ok.t (aH (Ok.block (gu kr kr (dX.op rfl (fM.s (v:=.agg (aD xd k0 y0)) (a_ 3 2 (aD xd k0 y0) rfl rfl underlying24 rfl kr kr kr) rfl rfl (fe 2 [1,3,5,7,9,10,11,13] [(69,.agg (aD xd k0 y0)),(70,.slice b0 z0.length c0),(71,iv a0)] ?_)))))))
     obtain ⟨T_,h122,hF⟩:=hF
     have M2:=aV (l:=z0) default h122
     generalize am9:(z0.getD a0.toNat default)=e22 at M2 hF ⊢
     refine dX.op rfl (fM.fQ (e:=.int .i64) 1 rfl g0 rfl rfl underlying46 kr kr T_ M2 rfl fun ap6 _ abk E1=>?_)
     obtain rfl:=abk
     replace E1:∀ j v,([iv e22]:List Value)[j]? = some v→Z0[a0.toNat * 1+j]? = some v:=E1
     refine dX.op rfl (fM.s (v:=iv e22) (dN 1 0 rfl E1 rfl underlying3 rfl kr) rfl rfl (fe 2 [1,3,5,7,9,10,11,13,69] [(73,iv e22),(74,iv j0),(75,pv iD 1)] ?_))
     refine dX.op rfl (fM.s (v:=.slice F0 xp.2.length G0) (aR 2 rfl rfl underlying26 rfl kr) rfl rfl (fe 2 [1,3,5,7,9,10,11,13,69,73,74] [(76,.slice F0 xp.2.length G0),(78,iv (w6 (s0 - 1)))] ?_))
     obtain ⟨adh,ac4,hF⟩:=hF
     have N2:=aV (l:=xp.2) default ac4
     generalize am8:(xp.2.getD (Int.toNat (w6 (s0 - 1))) default)=e24 at N2 hF ⊢
     refine dX.op rfl (fM.bf (e:=.int .u8) rfl rfl underlying26 kr J0 adh N2 rfl fun q23 o23 ap5 _ A1 abj=>?_)
     obtain rfl:=abj
     replace A1:At t1 q23 o23 [.int .u8 e24]:=A1
     refine dX.op rfl (fM.s (v:=.int .u8 e24) (eX 0 A1 kr underlying5 rfl kr) rfl rfl ?_)
     obtain ⟨Mf,hF⟩:=hF
     refine dX.op rfl (fM.f gT (fun W hW=>afV xd e22 j0 e24 (u0.mono hW.sees) Mf) rfl ?_)
     refine fe 1 [1,3,5,7,9,10,11,13] [(12,.bool (nH xd e22 j0 e24))] ?_
     refine kU (bJ (Ok.t (aS (ag 3 [1,3,5,7,9,10,11,12] [(13,iv (w6 (a0+1)))] ?_))))
     refine bY (Ok.t ?_)
     subst am8
     subst am9
     exact fun _ _ u v=>⟨k66,nl,t1,u1,(nH xd (z0.getD a0.toNat default) j0 (xp.2.getD (Int.toNat (w6 (s0 - 1))) default)),w6 (a0+1),fA u v hF⟩
    refine fU (aA (aA (aO (Ok.t (iO t1 [(1,iv xn),(3,pv dK 0),(5,pv iD 0),(7,.slice b0 z0.length c0),(9,iv s0),(10,.slice m0 v0.length o0),(11,iv j0),(92,.bool (t0&&(kL xd j0 (xp.1.getD s0.toNat default))))] [.own (.slice m0 v0.length o0) 3 1 v0.length W0,.own (.slice b0 z0.length c0) 3 1 z0.length Z0,.blk iD (.cells #[.slice C0 xp.1.length D0,.slice F0 xp.2.length G0] 28),.blk dK (.cells (aD xd k0 y0) 24)] (wI xd xp t0 j0 s0 v0 (nT N xd xp s0 z0 (mr N xd xn xp K k36) k51)) ?_ (fun Y2 b1 hF=>?_))))))
    ·
     refine gu kr kr (fe 2 [1,3,5,7,9,10,11] [(83,.bool t0)] ?_)
     refine sK 83 (t0) rfl (fun I1=>?_) (fun I1=>?_)
     ·replace hF:=hF.1 I1
      refine lM (j:=1) (d:=83) (want:=true) (b:=true) rfl kr kr rfl (fM.s (v:=.agg (aD xd k0 y0)) (a_ 3 2 (aD xd k0 y0) rfl rfl underlying24 rfl kr kr kr) rfl rfl (fe 2 [1,3,5,7,9,10,11] [(83,.bool true),(84,.agg (aD xd k0 y0)),(85,iv j0),(86,pv iD 0)] ?_))
      refine lM (j:=1) (d:=83) (want:=true) (b:=true) rfl kr kr rfl (fM.s (v:=.slice C0 xp.1.length D0) (aR 2 rfl rfl underlying25 rfl kr) rfl rfl (fe 1 [1,3,5,7,9,10,11,83,84,85] [(87,.slice C0 xp.1.length D0),(88,iv s0)] ?_))
      obtain ⟨adf,ac3,hF⟩:=hF
      have O2:=aV (l:=xp.1) default ac3
      generalize am5:(xp.1.getD s0.toNat default)=e31 at O2 hF ⊢
      refine lM (j:=1) (d:=83) (want:=true) (b:=true) rfl kr kr rfl (fM.bf (e:=.slice yS) rfl rfl underlying25 kr K0 adf O2 rfl fun q30 o30 ap2 _ aiC abf=>?_)
      obtain ⟨akC,ajY,rfl,acs⟩:=oS abf
      refine lM (j:=1) (d:=83) (want:=true) (b:=true) rfl kr kr rfl (fM.s (v:=.slice akC e31.length ajY) (eX 0 aiC kr underlying54 rfl kr) rfl rfl ?_)
      obtain ⟨abx,hF⟩:=hF
      refine lM (j:=1) (d:=83) (want:=true) (b:=true) rfl kr kr rfl (fM.f gT (fun W hW=>zq _ xd j0 e31 (u0.mono hW.sees) (acs.mono hW.sees) (hG0.mono hW.sees) abx) rfl ?_)
      refine fe 1 [1,3,5,7,9,10,11] [(92,.bool (kL xd j0 e31))] ?_
      refine kU (Ok.t ?_)
      subst am5
      refine aB 92 (t0&&(kL xd j0 (xp.1.getD s0.toNat default))) (aZ I1) ?_
      exact fg hF
     replace hF:=hF.2 I1
     refine fe 9 [1,3,5,7,9,10,11] [(92,.bool false)] ?_
     refine kU (Ok.t (aB 92 (t0&&(kL xd j0 (xp.1.getD s0.toNat default))) (bW I1) ?_))
     exact fg hF
    replace g0:=g0.mono b1.1
    replace X0:=X0.mono b1.1
    refine aM hF (fun Mo hF=>?_) (fun Mo hF=>?_)
    ·refine aS (ag 2 [1,3,5,7,9,11] [(93,.slice m0 v0.length o0),(94,iv j0)] ?_)
     have P2:aW Y2 (.int .i64) ([iv j0]:List Value) ([j0]:List Int):=(dB (c:=[iv j0]) rfl rfl)
     refine ai (gG P2 fun b27=>?_)
     obtain ⟨anN,hF⟩:=hF
     refine ai (eZ (e:=.int .i64) 8 17592186044416 1 0 rfl rfl rfl rfl X0 P2 underlying46 kr kr kr anN rfl fun a28 c28 alv aoY=>?_)
     refine ag 1 [1,3,5,7,9,11] [(10,.slice a28 (v0++([j0]:List Int)).length c28)] ?_
     refine bY (bJ (Ok.t ?_))
     exact fun _ _ u v=>⟨Y2,u1.trans b1,a28,c28,(v0++([j0]:List Int)),alv,aoY,fA u v hF⟩
    refine Ok.k (bJ (Ok.t ?_))
    exact fun _ _ u v=>⟨Y2,u1.trans b1,m0,o0,v0,W0,X0,fA u v hF⟩
   clear hF
   rintro _ _ ⟨L1,a1,N0,O0,Y0,H0,Es,q⟩
   refine jn (fun hF=>?_) _ _ q
   replace g0:=g0.mono a1.1
   refine aS (ag 3 [1,3,5,7,9,10] [(11,iv (w6 (j0+1)))] ?_)
   refine bY (Ok.t ?_)
   exact fun _ _ u v=>⟨k51,nl,L1,r1.trans a1,w6 (j0+1),N0,O0,Y0,H0,Es,fA u v hF⟩
  refine fU (aA (aA (aO (Ok.t (aS (ag 2 [1,3,5,9] [(7,.slice m0 v0.length o0)] ?_))))))
  refine bY (bJ (Ok.t (aS (ag 3 [1,3,5,7] [(9,iv (w6 (s0+1)))] ?_))))
  refine bY (Ok.t ?_)
  exact fun _ _ u v=>⟨k36,nl,K1,o1.trans r1,w6 (s0+1),m0,o0,v0,W0,X0,fA u v hF⟩
 refine fU (aA (aA (aO (Ok.t (aH (ae (ag 1 [1,7] [(14,iv 0)] ?_)))))))
 refine aa (Ok.block ?_)
 obtain ⟨k,hF⟩:=hF
 refine gF (fun k a W=>∃ x2:ak,aY w0 m1 x2∧∃ (B0:Int),fJ 110 [(1,iv xn),(7,.slice b0 z0.length c0),(14,iv B0)] a∧dh w0 [.own (.slice b0 z0.length c0) 3 1 z0.length Z0] x2 W∧F5 xn K z0 k B0) k ?_ ?_
 ·
  exact fun _ _ u v=>⟨m1,bq w0 m1,0,fA u v hF⟩
 clear hF
 rintro (_ | k89) _ _ ⟨x2,W1,B0,q⟩
 exact (q.2.2:False).elim
 refine jn (fun hF=>?_) _ _ q
 replace g0:=g0.mono W1.1
 refine aH (ae (ag 4 [1,7,14] [(101,.bool (decide (B0<(z0.length:Int))))] ?_))
 refine aa (aM hF (fun G1 hF=>?_) (fun G1 hF=>?_))
 ·refine Ok.k (Ok.t (aH (Ok.block (ae (ag 2 [1,7,14] [(104,.slice b0 z0.length c0),(105,iv B0)] ?_)))))
  obtain ⟨TZ,TW,hF⟩:=hF
  have R2:=aV (l:=z0) default TW
  generalize WZ:(z0.getD (Int.toNat B0) default)=e35 at R2 hF ⊢
  refine ai (af.fQ (e:=.int .i64) 0 rfl g0 rfl rfl underlying46 kr kr TZ R2 rfl fun ajw _ Tc H1=>?_)
  obtain rfl:=Tc
  replace H1:∀ j v,([iv e35]:List Value)[j]? = some v→Z0[Int.toNat B0 * 1+j]? = some v:=H1
  refine ai (af.s (v:=iv e35) (dN 0 0 rfl H1 rfl underlying3 rfl kr) rfl rfl (ag 2 [1,7,14] [(109,.bool (e35==xn))] ?_))
  refine aa (ed hF rfl (fun U2=>?_) (fun U2=>?_))
  ·replace hF:=hF.1 U2
   refine ae (av 1 [(6,.bool true)] kr (aa (Ok.ret (aU (aC (aC (aU (aC ?_))))))))
   exact jd (.bool true) ((g1.trans o1).trans W1) ⟨_,rfl,rfl,hF⟩
  replace hF:=hF.2 U2
  refine Ok.k (bJ (Ok.t (aS (ag 3 [1,7] [(14,iv (w6 (B0+1)))] ?_))))
  refine bY (Ok.t ?_)
  subst WZ
  exact fun _ _ u v=>⟨k89,nl,x2,W1,w6 (B0+1),fA u v hF⟩
 refine fU (aA (aA (aO (Ok.t (ae (av 1 [(6,.bool false)] kr (aa (Ok.ret ?_))))))))
 exact jd (.bool false) ((g1.trans o1).trans W1) ⟨_,rfl,rfl,hF⟩
def VW (N:Nat) (xd:Dc) (xn:Int) (xl:List PH) (K:Bool→Prop) (S0:Int) (C7:Int→Prop):Prop :=
 ((decide (S0<(xl.length:Int)))=true→(0:Int)≤S0∧Int.toNat S0<xl.length∧Ro N xd xn (xl.getD (Int.toNat S0) default)∧((Li xd xn (xl.getD (Int.toNat S0) default))=true→K true)∧((Li xd xn (xl.getD (Int.toNat S0) default))=false→C7 (w6 (S0+1))))∧((decide (S0<(xl.length:Int)))=false→K false)
def Gd (N:Nat) (xd:Dc) (xn:Int) (xl:List PH) (K:Bool→Prop):Nat→Int→Prop
 | 0,_=>False
 | k+1,S0=>VW N xd xn xl K S0 (Gd N xd xn xl K k)
def YC (N:Nat) (xd:Dc) (xn:Int) (xl:List PH) (K:Bool→Prop):Prop :=
 ∃ k,Gd N xd xn xl K k 0
theorem VX {g:ak} (N:Nat) (Hm:Ji N) (zq:Jk N) (Ho:Jm N) (yo:CB N) {k0:Option Addr} {y0:Nat} (xd:Dc) (xn:Int) {T0:Option Addr} {L0:Nat} (xl:List PH) (u0:bG g qh [.slice k0 xd.1.length y0] xd.1) (q1:bG g (.slice yP) [.slice T0 xl.length L0] xl) (hG0:bP g 0) (K:Bool→Prop)
  (hF:YC N xd xn xl K):az prog 13 #[.agg (aD xd k0 y0),iv xn,.slice T0 xl.length L0] g [] (fun g' H' v=>∃ (r0:Bool),v=.bool r0∧H'=[]∧K r0):=by
 refine aP 21 func13 rfl fun w0=>?_
 refine ae (ai (di fun dK=>?_))
 refine av 1 [(1,iv xn),(2,.slice T0 xl.length L0),(3,pv dK 0)] kr (aa (aH (ae (ag 1 [1,2,3] [(7,iv 0)] ?_))))
 refine aa (Ok.block ?_)
 obtain ⟨k,hF⟩:=hF
 refine gF (fun k a W=>∃ (S0:Int),fJ 21 [(1,iv xn),(2,.slice T0 xl.length L0),(3,pv dK 0),(7,iv S0)] a∧dh w0 [.blk dK (.cells (aD xd k0 y0) 24)] g W∧Gd N xd xn xl K k S0) k ?_ ?_
 ·
  exact fun _ _ u v=>⟨0,fA u v hF⟩
 clear hF
 rintro (_ | k7) _ _ ⟨S0,q⟩
 exact (q.2.2:False).elim
 refine jn (fun hF=>?_) _ _ q
 refine aH (ae (ag 4 [1,2,3,7] [(11,.bool (decide (S0<(xl.length:Int))))] ?_))
 refine aa (aM hF (fun hc2 hF=>?_) (fun hc2 hF=>?_))
 ·refine Ok.k (Ok.t (aH (Ok.block (aH (gu kr kr (dX.op rfl (fM.s (v:=.agg (aD xd k0 y0)) (a_ 0 2 (aD xd k0 y0) rfl rfl underlying24 rfl kr kr kr) rfl rfl (fe 3 [1,2,3,7] [(14,.agg (aD xd k0 y0)),(15,iv xn),(16,.slice T0 xl.length L0),(17,iv S0)] ?_))))))))
  obtain ⟨qA,ru,hF⟩:=hF
  have pR:=aV (l:=xl) default ru
  generalize hg4:(xl.getD (Int.toNat S0) default)=e4 at pR hF ⊢
  refine dX.op rfl (fM.bf (e:=yP) rfl rfl underlying33 kr q1 qA pR rfl fun q3 o3 XQ _ Z1 hr3=>?_)
  obtain ⟨_,_,rfl,⟨X1,S1,rfl,TB,Ta⟩,⟨z2,v2,rfl,TA,S_⟩⟩:=hr3
  have R1:bG g (.slice (.slice yS)) [.slice X1 e4.1.length S1] e4.1:=⟨X1,S1,rfl,TB,Ta⟩
  have ai5:bG g (.slice yb) [.slice z2 e4.2.length v2] e4.2:=⟨z2,v2,rfl,TA,S_⟩
  replace Z1:At g q3 o3 [.slice X1 e4.1.length S1,.slice z2 e4.2.length v2]:=Z1
  let A:=(#[.slice X1 e4.1.length S1,.slice z2 e4.2.length v2]:Array Value)
  refine dX.op rfl (fM.s (v:=.agg A) (bU 0 2 A Z1 kr underlying28 rfl kr kr kr) rfl rfl ?_)
  obtain ⟨Kj,hF⟩:=hF
  refine dX.op rfl (fM.f gT (fun W hW=>Ho _ xd xn e4 (u0.mono hW.sees) (R1.mono hW.sees) (ai5.mono hW.sees) (hG0.mono hW.sees) Kj) rfl ?_)
  refine kU (Ok.t (ed hF rfl (fun hc6=>?_) (fun hc6=>?_)))
  ·replace hF:=hF.1 hc6
   refine ae (av 1 [(6,.bool true)] kr (aa (Ok.ret (aU (aC (aC (aU (aC ?_))))))))
   exact dD true hF
  replace hF:=hF.2 hc6
  refine Ok.k (bJ (Ok.t (aS (ag 3 [1,2,3] [(7,iv (w6 (S0+1)))] ?_))))
  refine bY (Ok.t ?_)
  subst hg4
  exact fun _ _ u v=>⟨k7,nl,w6 (S0+1),fA u v hF⟩
 refine fU (aA (aA (aO (Ok.t (ae (av 1 [(6,.bool false)] kr (aa (Ok.ret ?_))))))))
 exact dD false hF
theorem afT (d:DC) (n:Int) (t:Ts):¬ Rn 0 d n t:=fun h=>absurd h.1 (jQ _)
theorem afZ (d:DC) (n:Int) (t:List Ts):¬ Jl 0 d n t:=fun h=>absurd h.1 (jQ _)
theorem af3 (d:DC) (n:Int) (t:Ph):¬ Ro 0 d n t:=fun h=>absurd h.1 (jQ _)
theorem aag (d:DC) (n:Int) (t:List Ph):¬ CE 0 d n t:=fun h=>absurd h.1 (jQ _)
theorem ZT (d:DC) (t:Ts) (n:Int):Yv d t n=Ka d t.lab n (N9 d t.kids n):=by obtain ⟨x,l⟩:=t; rw [Yv]; rfl
theorem Ru (d:DC) (q:Ph) (l:List Ph) (n:Int):N9 d (q::l) n=(VR d (Jo d q.1) q.2 n||N9 d l n):=by obtain ⟨p,js⟩:=q; rw [N9]
theorem aeG {l:List (Bs×Bs)} {w:Bs} (h:(jI l w).2=false):(jI l w).1=[]:=by
 induction l with
 | nil=>rfl
 | cons a l ih =>
  rw [jI] at h ⊢
  split at h
  ·cases h
  rename_i hc
  rw [aQ hc]; exact ih h
theorem aa9 (w:Bs):Dv [] w=false:=by
 unfold Dv
 rw [MO]
 rfl
theorem SH (d:DC) (n:Int):(cu d n).2=jW (fun x=>n==x) (dY d n) 0:=by
 show (if decide (par d.1 n.toNat<0)=true then (0:Int) else jW (fun x=>n==x) (dY d n) 0)=_
 split
 ·rename_i hc
  unfold dY
  rw [bn hc,jW,bn (uG n)]; rfl
 rfl
theorem afS (N:Nat) (d:DC) (n:Int) (t:Ts) (h:Rn (N+1) d n t):afU N d n t (fun r=>r=Lh d n t):=by
 obtain ⟨h1,h2,hG,hn,hk⟩:=h
 have hA:=Ig hG hn
 have hR:∀ w,PG d n w:=fun w=>⟨hG,hn⟩
 have hM:VY (jV d n t.lab.2.1).1 t:=⟨BD hA.2 _,by have:=ahF (t:=t); omega⟩
 have hW:WQ (jV d n oO).1 t.lab.2.1:=by
  show (jI (lF d n).2.2.1 oO).1.length≤1000
  have:=BD hA.2 oO; omega
 have hS:CE N d n t.kids:=⟨by have:=lQ t; omega,by have:=lQ t; omega,hG,hn,OD hk⟩
 have hr:Lh d n t=Ka d t.lab n (N9 d t.kids n):=ZT d t n
 generalize Lh d n t=r at hr
 unfold Ka at hr
 have j81:(t.lab.1==2)=false→(t.lab.1==3)=false→(t.lab.1==4)=false→(t.lab.1==5)=false→(t.lab.1==6)=false→(t.lab.1==7)=false→FX N d n t (fun a=>a=r):=by
  intro q2 q3 q4 q5 q6 q7
  rw [aF q2,aF q3,aF q4,aF q5,aF q6,aF q7] at hr
  refine ⟨fun h89=>⟨⟨hG,hn⟩,?_⟩,fun h=>?_⟩
  ·have hkl:=yl hG hn
   rw [SH,show (cu d n).1=dY d n from rfl] at hr
   generalize hL:dY d n=l at hr hkl
   have e8:∀ m:Nat,jW (fun x=>n==x) l 0=(m:Int)→(t.lab.1==8)=true→r=kz t.lab.2.2.2.2.1 t.lab.2.2.2.2.2 ((m:Int)+1):=fun m hm h8=>by
    rw [aT h8,hm,f_ om,fu] at hr; exact hr
   have e9:∀ m:Nat,jW (fun x=>n==x) l 0=(m:Int)→(t.lab.1==8)=false→r=kz t.lab.2.2.2.2.1 t.lab.2.2.2.2.2 ((l.length:Int) - (m:Int)):=fun m hm h8=>by
    rw [h8,lq] at h89
    rw [aF h8,aT h89,hm,f_ om,fu] at hr; exact hr
   have e0:jW (fun x=>n==x) l 0 = -1→r=false:=fun hm=>by
    cases h8:(t.lab.1==8) with
    | true=>rw [aT h8,hm,lZ om,gZ] at hr; exact hr
    | false =>
     rw [h8,lq] at h89
     rw [aF h8,aT h89,hm,lZ om,gZ] at hr; exact hr
   have loop:∀ (k m:Nat),m+k=l.length→jW (fun x=>n==x) l 0=jW (fun x=>n==x) (l.drop m) m→tO d n t (fun a=>a=r) (k+1) (m:Int):=by
    intro k
    induction k with
    | zero =>
     intro m h3 h4
     rw [fF om,jW] at h4
     rw [tO]
     unfold FV
     rw [hL]
     exact ⟨fun hc=>od hc,fun _=>(e0 h4).symm⟩
    | succ k ih =>
     intro m h3 h4
     rw [dm (l:=l) default om,jW] at h4
     have T2:xO d n t (fun a=>a=r) (m:Int) (tO d n t (fun a=>a=r) (k+1)):=by
      unfold xO EO
      rw [hL,eB,gp om,gp om]
      cases hx:(l.getD m default==n) with
      | true =>
       have hx':(n==l.getD m default)=true:=by rw [eq_of_beq hx]; exact uG n
       rw [aT hx'] at h4
       rw [fu]
       exact ⟨fun h8=>(e8 m h4 h8).symm,fun h8=>⟨om,om,fun _=>(e9 m h4 h8).symm,(fun h=>by cases h)⟩⟩
      | false =>
       have hx':(n==l.getD m default)=false:=by
        rw [dR] at hx ⊢
        exact fun e=>hx e.symm
       rw [aF hx'] at h4
       rw [gZ]
       exact ⟨(fun h=>by cases h),fun _=>⟨om,om,(fun h=>by cases h),fun _=>ih (m+1) om h4⟩⟩
     rw [tO]
     unfold FV
     rw [hL]
     exact ⟨fun _=>⟨om,by rw [eB]; omega,fun _=>T2,fun _=>T2⟩,fun hc=>oe hc⟩
   exact ⟨_,loop l.length 0 om rfl⟩
  rw [dC] at h
  rw [aF h.1,aF h.2] at hr
  refine ⟨fun q=>⟨hS,?_⟩,fun q=>⟨fun q'=>⟨hS,?_⟩,fun q'=>?_⟩⟩
  ·rw [aT q] at hr; exact hr.symm
  ·rw [aF q,aT q'] at hr; exact hr.symm
  rw [aF q,aF q'] at hr; exact hr.symm
 have n0:=hn.1
 have n1:=oW hn
 have V1:ER d n t=Dv (jI (lF d n).2.2.1 oO).1 t.lab.2.1:=by
  show ((jI (lF d n).2.2.1 oO).2&&Dv (jI (lF d n).2.2.1 oO).1 t.lab.2.1)=_
  cases hh:(jI (lF d n).2.2.1 oO).2 with
  | true=>rw [fu]
  | false=>rw [gZ,aeG hh,aa9]
 refine ⟨fun q2=>⟨n0,n1,?_⟩,fun q2=>⟨fun q3=>⟨hR _,fun _=>?_,fun _=>?_⟩,fun q3=>⟨fun q4=>⟨hR _,fun _=>⟨hW,?_⟩,fun _=>?_⟩,fun q4=>⟨fun q5=>⟨hR _,fun _=>⟨fun _=>?_,fun _=>⟨hM,?_⟩⟩,fun _=>?_⟩,fun q5=>⟨fun q6=>⟨n0,n1,?_⟩,fun q6=>⟨fun q7=>?_,fun q7=>⟨fun _=>j81 q2 q3 q4 q5 q6 q7,fun _=>j81 q2 q3 q4 q5 q6 q7⟩⟩⟩⟩⟩⟩⟩
 ·rw [aT q2] at hr; exact hr.symm
 ·rw [aF q2,aT q3] at hr; exact hr.symm
 ·rw [aF q2,aT q3] at hr; exact hr.symm
 ·rw [aF q2,aF q3,aT q4] at hr; exact V1.trans hr.symm
 ·rw [aF q2,aF q3,aT q4] at hr; exact V1.trans hr.symm
 ·rw [aF q2,aF q3,aF q4,aT q5] at hr; exact hr.symm
 ·rw [aF q2,aF q3,aF q4,aT q5] at hr; exact hr.symm
 ·rw [aF q2,aF q3,aF q4,aT q5] at hr; exact hr.symm
 ·rw [aF q2,aF q3,aF q4,aF q5,aT q6] at hr; exact hr.symm
 rw [aF q2,aF q3,aF q4,aF q5,aF q6,aT q7] at hr
 have hkl:=um hG (oW hn)
 have hin:=fun x hx=>hG.kids.kid n.toNat (oW hn) x hx
 have he:(d.1.getD n.toNat default).2.2.2.2.2=eY d.1 n.toNat:=rfl
 have hr:r = !((eY d.1 n.toNat).any (AJ d)):=hr
 generalize eY d.1 n.toNat=l at hkl hin hr he
 have loop:∀ (k m:Nat),m+k=l.length→r = !((l.drop m).any (AJ d))→tQ d n (fun a=>a=r) (k+1) (m:Int):=by
  intro k
  induction k with
  | zero =>
   intro m h3 h4
   rw [fF om] at h4
   rw [tQ]
   unfold FW
   rw [he]
   exact ⟨n0,n1,fun hc=>od hc,fun _=>h4.symm⟩
  | succ k ih =>
   intro m h3 h4
   have hx:=hin (l.getD m default) (h_ default om)
   rw [dm (l:=l) default om,jK] at h4
   have j68:y5 (fun a=>a=r) (d.1.getD (Int.toNat (l.getD m default)) default) (m:Int) (tQ d n (fun a=>a=r) (k+1)):=by
    have hV:Co (d.1.getD (Int.toNat (l.getD m default)) default)=AJ d (l.getD m default):=rfl
    unfold y5
    rw [hV]
    refine ⟨fun hc=>?_,fun hc=>?_⟩
    ·rw [hc,pI] at h4; exact h4.symm
    rw [hc,lq] at h4
    rw [gp om]
    exact ih (m+1) om h4
   rw [tQ]
   unfold FW
   rw [he,eB]
   exact ⟨n0,n1,fun _=>⟨om,om,hx.1,om,fun _=>j68,fun _=>⟨fun _=>j68,fun _=>j68⟩⟩,fun hc=>oe hc⟩
 exact ⟨_,loop l.length 0 om hr⟩
theorem afY (N:Nat) (d:DC) (n:Int) (s:List Ts) (h:Jl (N+1) d n s):af0 N d n s (fun r=>r=kL d n s):=by
 obtain ⟨h1,h2,hG,hn,i0,hk⟩:=h
 have hl:s.length≤1048600:=by have:=wC s; omega
 have hP:∀ t ∈ s,Rn N d n t:=fun t ht=>by
  have:=IY ht
  exact ⟨om,om,hG,hn,Gn hk ht⟩
 have hr:kL d n s=(QA d s n&&eP d n):=rfl
 generalize kL d n s=r at hr
 have loop:∀ (k i:Nat),i+k=s.length→r=(QA d (s.drop i) n&&eP d n)→NW N d n s (fun a=>a=r) (k+1) (i:Int):=by
  intro k
  induction k with
  | zero =>
   intro i h3 h4
   rw [fF om,QA,fu] at h4
   exact ⟨fun hc=>od hc,fun _=>⟨hn.1,oW hn,h4.symm⟩⟩
  | succ k ih =>
   intro i h3 h4
   rw [dm (l:=s) default om,QA] at h4
   refine ⟨fun _=>?_,fun hc=>oe hc⟩
   rw [eB]
   refine ⟨om,om,hP _ (h_ default om),fun hc=>?_,fun hc=>?_⟩
   ·have hc:Yv d (s.getD i default) n=false:=by rw [dA] at hc; exact hc
    rw [hc,gZ,gZ] at h4
    exact h4.symm
   have hc:Yv d (s.getD i default) n=true:=by rw [eT] at hc; exact hc
   rw [hc,fu] at h4
   rw [gp om]
   exact ih (i+1) om h4
 exact ⟨_,loop s.length 0 om hr⟩
theorem xQ (d:DC):(AZ d).length=d.1.length:=by unfold AZ; rw [iW,List.length_range]
theorem N8 (d:DC) {i:Nat} (h:i<d.1.length):(AZ d).getD i default=(i:Int):=by
 unfold AZ
 rw [gN,iX,List.getElem?_range h]; rfl
theorem A7 (d:DC) (p:List (List Ts)):(Jo d p).length=p.length:=by rw [wO,iW]
theorem Ob (d:DC) (p:List (List Ts)) {k:Nat} (h:k<p.length):(Jo d p).getD k default=fun x=>kL d x (p.getD k default):=by
 rw [wO,gN,iX,gN,gB h]; rfl
theorem Rv (d:DC) (p:List (List Ts)) (h:0<p.length):(Jo d p).getLastD (fun _=>false)=fun x=>kL d x (p.getD (p.length - 1) default):=by
 rw [← Ob d p (show p.length - 1<p.length by omega),List.getLastD_eq_getLast?,List.getLast?_eq_getElem?,A7,gN,gB (by rw [A7]; omega)]; rfl
theorem Rw (d:DC) (p:List (List Ts)) (h:0<p.length):(Jo d p).headD (fun _=>false)=fun x=>kL d x (p.getD 0 default):=by
 cases p with
 | nil=>simp at h
 | cons s p=>rfl
theorem Fq (l:List Int) (f:Int→Bool) {i:Nat} (h:i<l.length):(if f (l.getD i default)=true then (l.take i).filter f++[l.getD i default] else (l.take i).filter f)=(l.take (i+1)).filter f:=by
 rw [iA default h,zQ]
 cases hm:f (l.getD i default) with
 | true=>rw [bn rfl,List.filter_cons_of_pos hm,uP]
 | false=>rw [aQ dc,List.filter_cons_of_neg (by rw [hm]; decide),uP,gK]
theorem af2 (N:Nat) (d:DC) (n:Int) (p:Ph) (h:Ro (N+1) d n p):ZZ N d n p (fun r=>r=Li d n p):=by
 obtain ⟨hw1,hw2,hG,hn,hp1,hp2,hp3,Tp⟩:=h
 have hlen:p.1.length≤1048600:=by have:=wB p.1; omega
 have hpos:0<p.1.length:=List.length_pos_iff.2 hp1
 have atx:=hG.few
 have hT:∀ (a:Nat),a<p.1.length→∀ x,nC d x→Jl N d x (p.1.getD a default):=fun a ha x hx=>by
  have hs:p.1.getD a default ∈ p.1:=h_ default ha
  have h2:=xC hs
  obtain ⟨i,hi⟩:=rQ hp3 hs
  exact ⟨om,om,hG,hx,i,hi⟩
 have hr:Li d n p=(kL d n (p.1.getD (p.1.length - 1) default)&&(zh d (Jo d p.1).tail p.2 ((AZ d).filter fun x=>kL d x (p.1.getD 0 default))).any fun m=>m==n):=by
  unfold Li VR
  rw [Rv d p.1 hpos,Rw d p.1 hpos]
 generalize Li d n p=r at hr
 have elast:w6 ((p.1.length:Int) - 1)=((p.1.length - 1:Nat):Int):=by rw [gp om]; omega
 unfold ZZ
 rw [elast,eB]
 refine ⟨om,om,hT _ om n hn,fun hc=>?_,fun hc=>?_⟩
 ·have hc:kL d n (p.1.getD (p.1.length - 1) default)=false:=by rw [dA] at hc; exact hc
  rw [hc,gZ] at hr
  exact hr.symm
 have hc:kL d n (p.1.getD (p.1.length - 1) default)=true:=by rw [eT] at hc; exact hc
 rw [hc,fu] at hr
 have hin:∀ i:Nat,i<d.1.length→nC d (i:Int):=fun i hi=>⟨om,om⟩
 have hfl:∀ (f:Int→Bool) (i:Nat),(((AZ d).take i).filter f).length≤200:=fun f i=>gV (zM ..) (by rw [gz,xQ]; omega)
 -- is it there?
 have l89:∀ (now:List Int),now.length≤200→∀ (k i:Nat),i+k=now.length→(r=(now.drop i).any fun m=>m==n)→F5 n (fun a=>a=r) now (k+1) (i:Int):=by
  intro now hl k
  induction k with
  | zero =>
   intro i h3 h4
   rw [fF om] at h4
   exact ⟨fun hc=>od hc,fun _=>h4.symm⟩
  | succ k ih =>
   intro i h3 h4
   rw [dm (l:=now) default om,jK] at h4
   refine ⟨fun _=>?_,fun hc=>oe hc⟩
   rw [eB]
   refine ⟨om,om,fun hc=>?_,fun hc=>?_⟩
   ·rw [hc,pI] at h4; exact h4.symm
   rw [hc,lq] at h4
   rw [gp om]
   exact ih (i+1) om h4
 have l36:∀ (k q:Nat) (now:List Int),1≤q→q+k=p.1.length→now.length≤200→(r=(zh d ((Jo d p.1).drop q) (p.2.drop (q - 1)) now).any fun m=>m==n)→mr N d n p (fun a=>a=r) (k+1) (q:Int) now:=by
  intro k
  induction k with
  | zero =>
   intro q now hq h3 hl h4
   rw [fF (by rw [A7]; omega),zh] at h4
   exact ⟨fun hc=>od hc,fun _=>⟨_,l89 now hl now.length 0 om h4⟩⟩
  | succ k ih =>
   intro q now hq h3 hl h4
   have hjq:q - 1<p.2.length:=om
   rw [dm (l:=Jo d p.1) default (by rw [A7]; omega),Ob d p.1 om,dm (l:=p.2) default hjq,zh,show q - 1+1=q by omega] at h4
   have h4:r=(zh d ((Jo d p.1).drop (q+1)) (p.2.drop q) ((AZ d).filter fun i=>(now.any fun m=>nH d m i (p.2.getD (q - 1) default))&&kL d i (p.1.getD q default))).any fun m=>m==n:=h4
   have eq1:w6 ((q:Int) - 1)=((q - 1:Nat):Int):=by rw [gp om]; omega
   refine ⟨fun _=>?_,fun hc=>oe hc⟩
   have l51:∀ (k2 i:Nat),i+k2=d.1.length→nT N d p (q:Int) now (mr N d n p (fun a=>a=r) (k+1)) (k2+1) (i:Int) (((AZ d).take i).filter fun i=>(now.any fun m=>nH d m i (p.2.getD (q - 1) default))&&kL d i (p.1.getD q default)):=by
    intro k2
    induction k2 with
    | zero =>
     intro i h5
     refine ⟨fun hc=>od hc,fun _=>?_⟩
     rw [jR (by rw [xQ]; omega),gp om]
     refine ih (q+1) _ om om ?_ h4
     have:=hfl (fun i=>(now.any fun m=>nH d m i (p.2.getD (q - 1) default))&&kL d i (p.1.getD q default)) (AZ d).length
     rw [iV] at this
     exact this
    | succ k2 ih2 =>
     intro i h5
     have hacc:=hfl (fun i=>(now.any fun m=>nH d m i (p.2.getD (q - 1) default))&&kL d i (p.1.getD q default)) i
     have hnext:=Fq (AZ d) (fun i=>(now.any fun m=>nH d m i (p.2.getD (q - 1) default))&&kL d i (p.1.getD q default)) (i:=i) (by rw [xQ]; omega)
     rw [N8 d om] at hnext
     generalize ((AZ d).take i).filter (fun i=>(now.any fun m=>nH d m i (p.2.getD (q - 1) default))&&kL d i (p.1.getD q default))=acc at hacc hnext
     have j58:∀ acc',acc'=((AZ d).take (i+1)).filter (fun i=>(now.any fun m=>nH d m i (p.2.getD (q - 1) default))&&kL d i (p.1.getD q default))→Cr (i:Int) acc' (nT N d p (q:Int) now (mr N d n p (fun a=>a=r) (k+1)) (k2+1)):=fun acc' ha=>by
      unfold Cr
      rw [gp om,ha]
      exact ih2 (i+1) om
     have j77:∀ b,b=(now.any fun m=>nH d m (i:Int) (p.2.getD (q - 1) default))→wI d p b (i:Int) (q:Int) acc (nT N d p (q:Int) now (mr N d n p (fun a=>a=r) (k+1)) (k2+1)):=fun b hb=>by
      unfold wI
      rw [eB,hb]
      refine ⟨fun hc=>⟨by rw [bC,mM]; omega,j58 _ ?_⟩,fun hc=>j58 _ ?_⟩
      ·rw [← hnext,aT hc]
      rw [← hnext,aF hc]
     have l66:∀ (k3 m:Nat) (b:Bool),m+k3=now.length→(now.any fun m=>nH d m (i:Int) (p.2.getD (q - 1) default))=(b||(now.drop m).any fun m=>nH d m (i:Int) (p.2.getD (q - 1) default))→F6 N d p (i:Int) (q:Int) now acc (nT N d p (q:Int) now (mr N d n p (fun a=>a=r) (k+1)) (k2+1)) (k3+1) b (m:Int):=by
      have fin:∀ b,b=(now.any fun m=>nH d m (i:Int) (p.2.getD (q - 1) default))→((b=true→(0:Int)≤(q:Int)∧Int.toNat (q:Int)<p.1.length∧Jl N d (i:Int) (p.1.getD (Int.toNat (q:Int)) default)∧wI d p b (i:Int) (q:Int) acc (nT N d p (q:Int) now (mr N d n p (fun a=>a=r) (k+1)) (k2+1)))∧(b=false→wI d p b (i:Int) (q:Int) acc (nT N d p (q:Int) now (mr N d n p (fun a=>a=r) (k+1)) (k2+1)))):=fun b hb=>by
       rw [eB]
       exact ⟨fun _=>⟨om,om,hT q om _ (hin i om),j77 b hb⟩,fun _=>j77 b hb⟩
      intro k3
      induction k3 with
      | zero =>
       intro m b h6 h7
       rw [fF om,xk,oo] at h7
       refine ⟨fun hc=>?_,fun _=>fin b h7.symm⟩
       rw [aG] at hc
       have:=dn hc.1
       omega
      | succ k3 ih3 =>
       intro m b h6 h7
       cases b with
       | true=>exact ⟨(fun hc=>by rw [Bool.not_true,uS] at hc; cases hc),fun _=>fin true (by rw [h7,pI])⟩
       | false =>
        rw [dm (l:=now) default om,jK,lq] at h7
        refine ⟨fun _=>?_,fun hc=>?_⟩
        ·rw [eq1,eB,eB,gp om]
         exact ⟨om,om,om,hjq,⟨hG,hin i om⟩,ih3 (m+1) _ om h7⟩
        rw [f_ om] at hc; cases hc
     exact ⟨fun _=>⟨_,l66 now.length 0 false om rfl⟩,fun hc=>oe hc⟩
   exact ⟨_,l51 d.1.length 0 om⟩
 have l17:∀ (k i:Nat),i+k=d.1.length→y8 N d n p (fun a=>a=r) (k+1) (i:Int) (((AZ d).take i).filter fun x=>kL d x (p.1.getD 0 default)):=by
  intro k
  induction k with
  | zero =>
   intro i h3
   refine ⟨fun hc=>od hc,fun _=>⟨_,l36 (p.1.length - 1) 1 _ (fK _) om (hfl _ _) ?_⟩⟩
   rw [jR (by rw [xQ]; omega)]
   rw [hr,← List.drop_one]; rfl
  | succ k ih =>
   intro i h3
   have hacc:=hfl (fun x=>kL d x (p.1.getD 0 default)) i
   have hnext:=Fq (AZ d) (fun x=>kL d x (p.1.getD 0 default)) (i:=i) (by rw [xQ]; omega)
   rw [N8 d om] at hnext
   generalize ((AZ d).take i).filter (fun x=>kL d x (p.1.getD 0 default))=acc at hacc hnext
   have j24:Cs d p (i:Int) acc (y8 N d n p (fun a=>a=r) (k+1)):=by
    unfold Cs qM
    rw [show Int.toNat 0=0 from rfl,hnext,gp om]
    exact ih (i+1) om
   exact ⟨fun _=>⟨ll _,hpos,hT 0 hpos _ (hin i om),fun _=>⟨by rw [bC,mM]; omega,j24⟩,fun _=>j24⟩,fun hc=>oe hc⟩
 exact ⟨_,l17 d.1.length 0 om⟩
theorem aaf (N:Nat) (d:DC) (n:Int) (l:List Ph) (h:CE (N+1) d n l):YC N d n l (fun r=>r=pW d n l):=by
 obtain ⟨h1,h2,hG,hn,hk⟩:=h
 rw [uE] at h1 h2
 have hl:l.length≤1048600:=by have:=yU l; omega
 have hP:∀ q ∈ l,Ro N d n q:=fun q hq=>by
  have:=zU hq
  have ho:=kV hk hq
  exact ⟨om,om,hG,hn,ho.1.1,ho.1.2.1,ho.2,ho.1.2.2⟩
 have loop:∀ (k i:Nat),i+k=l.length→pW d n l=N9 d (l.drop i) n→Gd N d n l (fun r=>r=pW d n l) (k+1) (i:Int):=by
  intro k
  induction k with
  | zero =>
   intro i h3 h4
   rw [fF om,N9] at h4
   exact ⟨fun hc=>od hc,fun _=>h4.symm⟩
  | succ k ih =>
   intro i h3 h4
   rw [dm (l:=l) default om,Ru] at h4
   refine ⟨fun _=>⟨om,by rw [eB]; omega,hP _ (h_ default (by rw [eB]; omega)),fun hc=>?_,fun hc=>?_⟩,fun hc=>oe hc⟩
   ·rw [eB] at hc
    have hc:VR d (Jo d (l.getD i default).1) (l.getD i default).2 n=true:=hc
    rw [hc,pI] at h4
    exact h4.symm
   rw [eB] at hc
   have hc:VR d (Jo d (l.getD i default).1) (l.getD i default).2 n=false:=hc
   rw [hc,lq] at h4
   rw [gp om]
   exact ih (i+1) om h4
 exact ⟨_,loop l.length 0 om rfl⟩
theorem NV:∀ N,Ji N∧Jk N∧Jm N∧CB N
 | 0=>⟨(by intro g k0 y0 xd xn P0 R0 xt u0 E0 hG0 hp; exact (afT xd xn xt hp).elim),(by intro g k0 y0 xd xn axs_0 cxs_0 xs u0 v1 hG0 hp; exact (afZ xd xn xs hp).elim),(by intro g k0 y0 xd xn C0 D0 F0 G0 xp u0 K0 J0 hG0 hp; exact (af3 xd xn xp hp).elim),(by intro g k0 y0 xd xn T0 L0 xl u0 q1 hG0 hp; exact (aag xd xn xl hp).elim)⟩
 | N+1 =>
  have ih:=NV N
  ⟨(by intro g k0 y0 xd xn P0 R0 xt u0 E0 hG0 hp; exact (ZR N ih.1 ih.2.1 ih.2.2.1 ih.2.2.2 xd xn xt u0 E0 hG0 _ (afS N xd xn xt hp)).gv),(by intro g k0 y0 xd xn axs_0 cxs_0 xs u0 v1 hG0 hp; exact (ZX N ih.1 ih.2.1 ih.2.2.1 ih.2.2.2 xd xn xs u0 v1 hG0 _ (afY N xd xn xs hp)).gv),(by intro g k0 y0 xd xn C0 D0 F0 G0 xp u0 K0 J0 hG0 hp; exact (ZY N ih.1 ih.2.1 ih.2.2.1 ih.2.2.2 xd xn xp u0 K0 J0 hG0 _ (af2 N xd xn xp hp)).gv),(by intro g k0 y0 xd xn T0 L0 xl u0 q1 hG0 hp; exact (VX N ih.1 ih.2.1 ih.2.2.1 ih.2.2.2 xd xn xl u0 q1 hG0 _ (aaf N xd xn xl hp)).gv)⟩
def RA (xd:Dc) (xn:Int) (xl:List PH):Prop:=∃ N,CE N xd xn xl
theorem aae {g:ak} {k0:Option Addr} {y0:Nat} (xd:Dc) (xn:Int) {T0:Option Addr} {L0:Nat} (xl:List PH) (u0:bG g qh [.slice k0 xd.1.length y0] xd.1) (q1:bG g (.slice yP) [.slice T0 xl.length L0] xl) (hG0:bP g 0)  (hp:RA xd xn xl):bE prog 13 #[.agg (aD xd k0 y0),iv xn,.slice T0 xl.length L0] g (.bool (pW xd xn xl)):=by
 obtain ⟨N,hp⟩:=hp
 exact (NV N).2.2.2 _ xd xn xl u0 q1 hG0 hp
end
end Go.Proofs.YtdapgmigogpdcaaGreatDoor.Ma
