/- selector: its reader, where what it reads is right. -/
import Derived.Test.YtdapgmigogpdcaaGreatDoorSeh
import Derived.Test.YtdapgmigogpdcaaGreatDoorDfr
import Derived.Test.YtdapgmigogpdcaaGreatDoorSta
namespace Go.Proofs.YtdapgmigogpdcaaGreatDoor.Se
open _root_.Go.Proofs.Tryz Go Go.iQ Go.RowKit Go.Shelf Go.Proofs jL BF tF Tk Rp Qu Me
set_option linter.unusedVariables false
set_option linter.unusedSimpArgs false
set_option maxHeartbeats 4000000
set_option maxRecDepth 100000
def agK (xr:List KT) (K:KT→List KT→Prop):Prop :=
 (((xr.length:Int)==0)=true→K (0,([]:Bs),([]:Bs),0) xr)∧(((xr.length:Int)==0)=false→(0:Int)≤0∧Int.toNat 0<xr.length∧K (xr.getD (Int.toNat 0) default) xr)
theorem aas {g:ak} {bF:Nat} {y0:Option Addr} {u0:Nat} (xr:List KT) (b0:bG g (.slice yK) [.slice y0 xr.length u0] xr) (K:KT→List KT→Prop)
  (hF:agK xr K):az prog 98 #[pv bF 0] g [.blk bF (.cells #[.slice y0 xr.length u0] 70)] (fun g' H' v=>∃ (r0:Int×Bs×Bs×Int),∃ (kN:List KT),∃ (q0:Option Addr) (k0:Nat),v=.agg (aK r0)∧bG g' (.slice yK) [.slice q0 kN.length k0] kN∧H'=[.blk bF (.cells #[.slice q0 kN.length k0] 70)]∧K r0 kN):=by
 refine aP 16 func98 rfl fun w0=>?_
 refine ae (ai (bK zK fun eO=>?_))
 refine aa (aH (ae (aj 6 [.e 1] [] [(0,pv bF 0),(2,pv eO 0),(8,.bool ((xr.length:Int)==0))] ?_)))
 refine aa (aM hF (fun hc2 hF=>?_) (fun hc2 hF=>?_))
 ·refine ae (ag 1 [2] [(9,.agg zK)] ?_)
  refine ai (af.w 0 ?_)
  refine aa (Ok.ret (aC ?_))
  exact jc 0 [1] (bq w0 g) ⟨(0,([]:Bs),([]:Bs),0),xr,y0,u0,rfl,b0,rfl,hF⟩
 refine Ok.k (Ok.t (ae (ag 3 [2] [(12,pv bF 0)] ?_)))
 refine ai (af.s (v:=.slice y0 xr.length u0) (aR 1 rfl rfl underlying67 rfl kr) rfl rfl ?_)
 obtain ⟨qA,ru,hF⟩:=hF
 have pR:=aV (l:=xr) default ru
 generalize hg4:(xr.getD (Int.toNat 0) default)=e4 at pR hF ⊢
 refine ai (af.bf (e:=yK) rfl rfl underlying67 kr b0 qA pR rfl fun q3 o3 XQ _ D0 hr3=>?_)
 obtain ⟨_,_,rfl,rfl,⟨_,_,rfl,rfl,⟨_,_,rfl,rfl,rfl⟩⟩⟩:=hr3
 replace D0:At g q3 o3 (vK e4):=D0
 refine ai (af.s (v:=.agg (aK e4)) (bU 0 4 (aK e4) D0 kr underlying98 rfl kr kr kr) rfl rfl (ai (af.w 0 ?_)))
 refine aa (Ok.ret ?_)
 exact jc 0 [1] (bq w0 g) ⟨e4,xr,y0,u0,rfl,b0,rfl,hF⟩
abbrev Rd:=List Tok
def ah (r:Rd):Tok×Rd:=(match r with | []=>(0,[],[],0) | t::_=>t,r)
abbrev pp (r:Rd):=ah (ah r).2
abbrev pd (r:Rd):=((pp r).2).drop (Int.toNat 1)
theorem agJ (r:Rd):agK r (fun a b=>(a,b)=ah r):=by
 cases r with
 | nil=>exact ⟨fun _=>rfl,fun h=>(by cases h)⟩
 | cons t r=>exact ⟨fun h=>absurd (eq_of_beq h) (by rw [cK]; omega),fun _=>⟨by decide,by rw [cK]; show 0<_; omega,rfl⟩⟩
theorem mY {g:ak} {bF:Nat} {y0:Option Addr} {u0:Nat} (xr:List KT) (b0:bG g (.slice yK) [.slice y0 xr.length u0] xr)  : az prog 98 #[pv bF 0] g [.blk bF (.cells #[.slice y0 xr.length u0] 70)] (fun g' H' v=>∃ (q0:Option Addr) (k0:Nat),v=.agg (aK (ah xr).1)∧bG g' (.slice yK) [.slice q0 (ah xr).2.length k0] (ah xr).2∧H'=[.blk bF (.cells #[.slice q0 (ah xr).2.length k0] 70)]) :=
 (aas xr b0 _ (agJ xr)).mono (by rintro g' H' v _ ⟨r0,kN,q0,k0,rfl,e0,rfl,hK⟩; obtain ⟨rfl,rfl⟩:r0=(ah xr).1∧kN=(ah xr).2:=⟨ay (fun z=>z.1) hK,ay (fun z=>z.2) hK⟩; exact ⟨q0,k0,rfl,e0,rfl⟩)
def DJ (xr:List KT) (K:Bool→List KT→Prop) (v0:Int) (z0:List KT) (C9:Int→Bs→Bs→Int→List KT→Prop):Prop :=
 (((v0==8)||(v0==9))=true→(0:Int)≤1∧(1:Int)≤(z0.length:Int)∧(z0.length:Int)≤(z0.length:Int)∧C9 (ah (z0.drop (Int.toNat 1))).1.1 (ah (z0.drop (Int.toNat 1))).1.2.1 (ah (z0.drop (Int.toNat 1))).1.2.2.1 (ah (z0.drop (Int.toNat 1))).1.2.2.2 (ah (z0.drop (Int.toNat 1))).2)∧(((v0==8)||(v0==9))=false→K (decide ((z0.length:Int)<(xr.length:Int))) z0)
def adm (xr:List KT) (K:Bool→List KT→Prop) (v0:Int) (j0:Bs) (x0:Bs) (s0:Int) (z0:List KT) (C9:Int→Bs→Bs→Int→List KT→Prop):Prop :=
 ((v0==8)=true→DJ xr K v0 z0 C9)∧((v0==8)=false→DJ xr K v0 z0 C9)
def DI (xr:List KT) (K:Bool→List KT→Prop):Nat→Int→Bs→Bs→Int→List KT→Prop
 | 0,_,_,_,_,_=>False
 | k+1,v0,j0,x0,s0,z0=>adm xr K v0 j0 x0 s0 z0 (DI xr K k)
def aje (xr:List KT) (K:Bool→List KT→Prop):Prop :=
 ∃ k,DI xr K k (ah xr).1.1 (ah xr).1.2.1 (ah xr).1.2.2.1 (ah xr).1.2.2.2 (ah xr).2
theorem adn {g:ak} {bF:Nat} {y0:Option Addr} {u0:Nat} (xr:List KT) (b0:bG g (.slice yK) [.slice y0 xr.length u0] xr) (K:Bool→List KT→Prop)
  (hF:aje xr K):az prog 54 #[pv bF 0] g [.blk bF (.cells #[.slice y0 xr.length u0] 70)] (fun g' H' v=>∃ (r0:Bool),∃ (kN:List KT),∃ (q0:Option Addr) (k0:Nat),v=.bool r0∧bG g' (.slice yK) [.slice q0 kN.length k0] kN∧H'=[.blk bF (.cells #[.slice q0 kN.length k0] 70)]∧K r0 kN):=by
 refine aP 38 func54 rfl fun w0=>?_
 let B:=(xr.length:Int)
 refine ae (av 1 [(0,pv bF 0)] kr (aa (ae (aj 6 [.e 0] [0] [(3,iv B)] ?_))))
 refine aa (aH (ae (ag 1 [0,3] [(10,pv bF 0)] ?_)))
 refine ai (bQ (mY xr b0) fun g1 _ _ hx1 hV1=>?_)
 obtain ⟨X0,S0,rfl,Z0,rfl⟩:=hV1
 refine ai (bK zK fun kZ=>?_)
 refine ai (af.w 0 ?_)
 refine aa (Ok.block ?_)
 obtain ⟨k,hF⟩:=hF
 refine gF (fun k a W=>∃ kC:ak,aY w0 g1 kC∧∃ (a0:Nat) (v0:Int) (j0:Bs) (x0:Bs) (s0:Int) (c0:Option Addr) (d0:Nat) (z0:List KT),bG kC (.slice yK) [.slice c0 z0.length d0] z0∧fJ 38 [(0,pv bF 0),(3,iv B),(4,pv a0 0)] a∧dh w0 [.blk a0 (.cells #[iv v0,sv j0,sv x0,iv s0] 98),.blk bF (.cells #[.slice c0 z0.length d0] 70)] kC W∧DI xr K k v0 j0 x0 s0 z0) k ?_ ?_
 ·
  exact fun _ _ u v=>⟨g1,bq w0 g1,kZ,(ah xr).1.1,(ah xr).1.2.1,(ah xr).1.2.2.1,(ah xr).1.2.2.2,X0,S0,(ah xr).2,Z0,fA u v hF⟩
 clear hF
 rintro (_ | k9) _ _ ⟨kC,H0,a0,v0,j0,x0,s0,c0,d0,z0,f0,q⟩
 exact (q.2.2:False).elim
 refine jn (fun hF=>?_) _ _ q
 let C:=(#[iv v0,sv j0,sv x0,iv s0]:Array Value)
 let D:=(v0==8)||(v0==9)
 refine aH (iO kC [(0,pv bF 0),(3,iv B),(4,pv a0 0),(19,.bool D)] [.blk a0 (.cells C 98),.blk bF (.cells #[.slice c0 z0.length d0] 70)] (DJ xr K v0 z0 (DI xr K k9)) ?_ (fun atX K0 hF=>?_))
 ·
  refine aS (aj 4 [.e 0] [0,3,4] [(15,.bool (v0==8))] ?_)
  refine bN 15 hF (fun iC hF=>?_) (fun iC hF=>?_)
  ·refine ag 4 [0,3,4] [(19,.bool true)] ?_
   refine aa (aB 19 D (df iC) ?_)
   exact fg hF
  refine aj 4 [.e 0] [0,3,4] [(19,.bool (v0==9))] ?_
  refine aa (aB 19 D (bR iC) ?_)
  exact fg hF
 replace f0:=f0.mono K0.1
 refine aM hF (fun hc3 hF=>?_) (fun hc3 hF=>?_)
 ·refine Ok.k (Ok.t (aH (Ok.block (aS (ag 4 [0,3,4] [(22,pv bF 0),(25,pv bF 0)] ?_)))))
  refine ai (af.s (v:=.slice c0 z0.length d0) (aR 1 rfl rfl underlying67 rfl kr) rfl rfl ?_)
  obtain ⟨qA,ru,TU,hF⟩:=hF
  let A:=z0.drop (Int.toNat 1)
  refine ai (af.ji (e:=yK) (l:=1) (h:=(z0.length:Int)) rfl underlying67 kr (.inl ⟨_,_,rfl,rfl⟩) (.inr ⟨rfl,rfl⟩) f0 qA ru TU rfl A (by rw [show (z0.length:Int).toNat=z0.length from eB _,iV]) fun a4 c4 hR4=>?_)
  refine ag 2 [0,3,4] [(27,.slice a4 A.length c4),(29,pv bF 0)] ?_
  refine ai (dz 1 ?_)
  refine bY (bJ (Ok.t (aH (ae (ai (af.s (v:=.agg C) (a_ 0 4 C rfl rfl underlying98 rfl kr kr kr) rfl rfl (aa (aS (ai (bK zK fun kZ=>?_))))))))))
  refine ai (af.w 0 ?_)
  refine aa (aS (ag 1 [0,3] [(4,pv kZ 0),(20,pv bF 0)] ?_))
  refine jB [2,0,1] ?_
  refine ai (bQ (mY A hR4) fun g6 _ _ hx6 hV6=>?_)
  obtain ⟨UT,UC,rfl,Ag,rfl⟩:=hV6
  refine ai (af.w 1 ?_)
  refine bY (Ok.t ?_)
  exact fun a W hA hW=>⟨k9,nl,g6,((H0.trans K0).trans hx6),kZ,(ah A).1.1,(ah A).1.2.1,(ah A).1.2.2.1,(ah A).1.2.2.2,UT,UC,(ah A).2,Ag,hA.sub kr,hW.pick [1,0] _ dc rfl,hF⟩
 let E:=decide ((z0.length:Int)<B)
 refine fU (aA (aA (aO (Ok.t (ae (aj 8 [.e 1] [] [(2,.bool E)] ?_))))))
 refine aa (Ok.ret ?_)
 exact Pj [1] ((hx1.trans H0).trans K0) ⟨E,z0,c0,d0,rfl,f0,rfl,hF⟩
def wE (t:Tok):Bool:=t.1==8||t.1==9
def bD (r:Rd):Bool×Rd:=(decide (((r.dropWhile wE).length:Int)<(r.length:Int)),r.dropWhile wE)
theorem JB (t:Tok) (r:Rd):ah (t::r)=(t,t::r):=rfl
theorem Ug (r:Rd):∀ (l:List Tok),r.dropWhile wE=l.dropWhile wE→DI r (fun a b=>(a,b)=bD r) (l.length+1) (ah l).1.1 (ah l).1.2.1 (ah l).1.2.2.1 (ah l).1.2.2.2 l:=by
 intro l
 induction l with
 | nil =>
  intro h
  have key:DJ r (fun a b=>(a,b)=bD r) 0 [] (DI r (fun a b=>(a,b)=bD r) 0):=by
   refine ⟨fun h=>(by cases h),fun _=>?_⟩
   unfold bD; rw [h]; rfl
  exact ⟨fun h=>(by cases h),fun _=>key⟩
 | cons x l ih =>
  intro h
  have key:DJ r (fun a b=>(a,b)=bD r) x.1 (x::l) (DI r (fun a b=>(a,b)=bD r) (l.length+1)):=by
   refine ⟨fun hs=>⟨om,by rw [cK]; omega,om,?_⟩,fun hs=>?_⟩
   ·rw [List.dropWhile_cons_of_pos (p:=wE) (show wE x=true from hs)] at h
    exact ih h
   rw [Eb (by show ¬ (x.1==8||x.1==9)=true; rw [hs]; simp)] at h
   unfold bD; rw [h]
  exact ⟨fun _=>key,fun _=>key⟩
theorem ajd (r:Rd):aje r (fun a b=>(a,b)=bD r):=⟨_,Ug r r rfl⟩
theorem OL {g:ak} {bF:Nat} {y0:Option Addr} {u0:Nat} (xr:List KT) (b0:bG g (.slice yK) [.slice y0 xr.length u0] xr)  : az prog 54 #[pv bF 0] g [.blk bF (.cells #[.slice y0 xr.length u0] 70)] (fun g' H' v=>∃ (q0:Option Addr) (k0:Nat),v=.bool (bD xr).1∧bG g' (.slice yK) [.slice q0 (bD xr).2.length k0] (bD xr).2∧H'=[.blk bF (.cells #[.slice q0 (bD xr).2.length k0] 70)]) :=
 (adn xr b0 _ (ajd xr)).mono (by rintro g' H' v _ ⟨r0,kN,q0,k0,rfl,e0,rfl,hK⟩; obtain ⟨rfl,rfl⟩:r0=(bD xr).1∧kN=(bD xr).2:=⟨ay (fun z=>z.1) hK,ay (fun z=>z.2) hK⟩; exact ⟨q0,k0,rfl,e0,rfl⟩)
def agl (xr:List KT) (xs:Bs) (K:Bool→List KT→Prop):Prop :=
 ((!((ah xr).1.2.1==xs))=true→K false (ah xr).2)∧((!((ah xr).1.2.1==xs))=false→(0:Int)≤1∧(1:Int)≤((ah xr).2.length:Int)∧((ah xr).2.length:Int)≤((ah xr).2.length:Int)∧K true ((ah xr).2.drop (Int.toNat 1)))
theorem aaa {g:ak} {bF:Nat} {y0:Option Addr} {u0:Nat} (xr:List KT) (xs:Bs) (b0:bG g (.slice yK) [.slice y0 xr.length u0] xr) (K:Bool→List KT→Prop)
  (hF:agl xr xs K):az prog 56 #[pv bF 0,sv xs] g [.blk bF (.cells #[.slice y0 xr.length u0] 70)] (fun g' H' v=>∃ (r0:Bool),∃ (kN:List KT),∃ (q0:Option Addr) (k0:Nat),v=.bool r0∧bG g' (.slice yK) [.slice q0 kN.length k0] kN∧H'=[.blk bF (.cells #[.slice q0 kN.length k0] 70)]∧K r0 kN):=by
 refine aP 18 func56 rfl fun w0=>?_
 refine ae (av 1 [(0,pv bF 0),(1,sv xs)] kr (aa (aH (ae (ag 1 [0,1] [(5,pv bF 0)] ?_)))))
 refine ai (bQ (mY xr b0) fun g1 _ _ hx1 hV1=>?_)
 obtain ⟨X0,S0,rfl,Z0,rfl⟩:=hV1
 refine ag 2 [0] [(7,sv ((ah xr).1.2.1)),(8,sv xs)] ?_
 refine ai (af.s (v:=.bool (!((ah xr).1.2.1==xs))) (iE (f:=.neq) (a:=(ah xr).1.2.1) (b:=xs) kr kr rfl) rfl rfl (aa (aM hF (fun hc2 hF=>?_) (fun hc2 hF=>?_))))
 ·refine ae (av 1 [(4,.bool false)] kr (aa (Ok.ret (aC ?_))))
  exact qd (.bool false) hx1 ⟨false,(ah xr).2,X0,S0,rfl,Z0,rfl,hF⟩
 refine Ok.k (Ok.t (ae (av 4 [(10,pv bF 0),(13,pv bF 0)] kr (ai (af.s (v:=.slice X0 (ah xr).2.length S0) (aR 0 rfl rfl underlying67 rfl kr) rfl rfl ?_)))))
 obtain ⟨Eu,Et,h23,hF⟩:=hF
 let A:=(ah xr).2.drop (Int.toNat 1)
 let B:=((ah xr).2.length:Int)
 refine ai (af.ji (e:=yK) (l:=1) (h:=B) rfl underlying67 kr (.inl ⟨_,_,rfl,rfl⟩) (.inr ⟨rfl,rfl⟩) Z0 Eu Et h23 rfl A (by rw [show B.toNat=(ah xr).2.length from eB _,iV]) fun a3 c3 HY=>?_)
 refine av 2 [(15,.slice a3 A.length c3),(17,pv bF 0)] kr (ai (dz 0 ?_))
 refine aa (ae (av 1 [(4,.bool true)] kr (aa (Ok.ret ?_))))
 exact qd (.bool true) hx1 ⟨true,A,a3,c3,rfl,HY,rfl,hF⟩
def vJ (r:Rd) (s:Bs):Prop:=s≠[]
def fo (r:Rd) (s:Bs):Bool×Rd:=if (!((ah r).1.2.1==s))=true then (false,r) else (true,r.drop 1)
theorem agk (r:Rd) (s:Bs) (hp:vJ r s):agl r s (fun a b=>(a,b)=fo r s):=by
 refine ⟨fun h=>?_,fun h=>⟨om,?_,om,?_⟩⟩
 ·unfold fo; rw [aT h]; rfl
 ·cases r with
  | nil=>exact absurd (by simpa [ah] using h:[]=s).symm hp
  | cons x l=>show (1:Int)≤((x::l).length:Int); rw [cK]; omega
 unfold fo; rw [aF h]; rfl
theorem EW {g:ak} {bF:Nat} {y0:Option Addr} {u0:Nat} (xr:List KT) (xs:Bs) (b0:bG g (.slice yK) [.slice y0 xr.length u0] xr)  (hp:vJ xr xs):az prog 56 #[pv bF 0,sv xs] g [.blk bF (.cells #[.slice y0 xr.length u0] 70)] (fun g' H' v=>∃ (q0:Option Addr) (k0:Nat),v=.bool (fo xr xs).1∧bG g' (.slice yK) [.slice q0 (fo xr xs).2.length k0] (fo xr xs).2∧H'=[.blk bF (.cells #[.slice q0 (fo xr xs).2.length k0] 70)]) :=
 (aaa xr xs b0 _ (agk xr xs hp)).mono (by rintro g' H' v _ ⟨r0,kN,q0,k0,rfl,e0,rfl,hK⟩; obtain ⟨rfl,rfl⟩:r0=(fo xr xs).1∧kN=(fo xr xs).2:=⟨ay (fun z=>z.1) hK,ay (fun z=>z.2) hK⟩; exact ⟨q0,k0,rfl,e0,rfl⟩)
def dF (xr:List KT):List KT :=
 (if ((((ah (fo ((ah xr).2.drop (Int.toNat 1)) ([93]:Bs)).2).1.2.1.getD (Int.toNat 0) 0).toNat:Int) != 61)=true then (fo ((ah (fo ((ah xr).2.drop (Int.toNat 1)) ([93]:Bs)).2).2.drop (Int.toNat 1)) ([61]:Bs)).2 else ((ah (fo ((ah xr).2.drop (Int.toNat 1)) ([93]:Bs)).2).2.drop (Int.toNat 1)))
def D8 (xr:List KT):Int :=
 (((ah (fo ((ah xr).2.drop (Int.toNat 1)) ([93]:Bs)).2).1.2.1.getD (Int.toNat 0) 0).toNat:Int)
def IG (xr:List KT) (K:(TS)→List KT→Prop):Prop :=
 vJ ((ah (dF xr)).2.drop (Int.toNat 1)) ([93]:Bs)∧((!(fo ((ah (dF xr)).2.drop (Int.toNat 1)) ([93]:Bs)).1)=true→False)∧((!(fo ((ah (dF xr)).2.drop (Int.toNat 1)) ([93]:Bs)).1)=false→K (gL.mk (5,aJ (ah xr).1.2.2.1,D8 xr,(ah (dF xr)).1.2.2.1,0,0) ([])) (fo ((ah (dF xr)).2.drop (Int.toNat 1)) ([93]:Bs)).2)
def II (xr:List KT) (K:(TS)→List KT→Prop):Prop :=
 (((ah (dF xr)).1.1==0)=true→False)∧(((ah (dF xr)).1.1==0)=false→(0:Int)≤1∧(1:Int)≤((ah (dF xr)).2.length:Int)∧((ah (dF xr)).2.length:Int)≤((ah (dF xr)).2.length:Int)∧(((ah (dF xr)).1.1 != 5)=true→(((ah (dF xr)).1.1==1)=true→([]:Bs).length+(ah (dF xr)).1.2.2.1.length≤maxLen∧(((ah (dF xr)).1.2.1==(([]:Bs)++(ah (dF xr)).1.2.2.1))=true→r_ (ah (dF xr)).1.2.2.1∧((!(eu (ah (dF xr)).1.2.2.1))=true→False)∧((!(eu (ah (dF xr)).1.2.2.1))=false→IG xr K))∧(((ah (dF xr)).1.2.1==(([]:Bs)++(ah (dF xr)).1.2.2.1))=false→False))∧(((ah (dF xr)).1.1==1)=false→False))∧(((ah (dF xr)).1.1 != 5)=false→IG xr K))
def X8 (xr:List KT) (K:(TS)→List KT→Prop):Prop :=
 (((ah xr).1.1==0)=true→False)∧(((ah xr).1.1==0)=false→(0:Int)≤1∧(1:Int)≤((ah xr).2.length:Int)∧((ah xr).2.length:Int)≤((ah xr).2.length:Int)∧(((ah xr).1.1==1)=true→([]:Bs).length+(ah xr).1.2.2.1.length≤maxLen∧(((ah xr).1.2.1==(([]:Bs)++(ah xr).1.2.2.1))=true→r_ (ah xr).1.2.2.1∧((!(eu (ah xr).1.2.2.1))=true→False)∧((!(eu (ah xr).1.2.2.1))=false→ig (ah xr).1.2.2.1∧vJ ((ah xr).2.drop (Int.toNat 1)) ([93]:Bs)∧((fo ((ah xr).2.drop (Int.toNat 1)) ([93]:Bs)).1=true→K (gL.mk (5,aJ (ah xr).1.2.2.1,0,([]:Bs),0,0) ([])) (fo ((ah xr).2.drop (Int.toNat 1)) ([93]:Bs)).2)∧((fo ((ah xr).2.drop (Int.toNat 1)) ([93]:Bs)).1=false→(((ah (fo ((ah xr).2.drop (Int.toNat 1)) ([93]:Bs)).2).1.1==0)=true→False)∧(((ah (fo ((ah xr).2.drop (Int.toNat 1)) ([93]:Bs)).2).1.1==0)=false→(0:Int)≤1∧(1:Int)≤((ah (fo ((ah xr).2.drop (Int.toNat 1)) ([93]:Bs)).2).2.length:Int)∧((ah (fo ((ah xr).2.drop (Int.toNat 1)) ([93]:Bs)).2).2.length:Int)≤((ah (fo ((ah xr).2.drop (Int.toNat 1)) ([93]:Bs)).2).2.length:Int)∧((!((ah (fo ((ah xr).2.drop (Int.toNat 1)) ([93]:Bs)).2).1.1==12))=true→False)∧((!((ah (fo ((ah xr).2.drop (Int.toNat 1)) ([93]:Bs)).2).1.1==12))=false→(0:Int)≤0∧Int.toNat 0<(ah (fo ((ah xr).2.drop (Int.toNat 1)) ([93]:Bs)).2).1.2.1.length∧(((((ah (fo ((ah xr).2.drop (Int.toNat 1)) ([93]:Bs)).2).1.2.1.getD (Int.toNat 0) 0).toNat:Int) != 61)=true→vJ ((ah (fo ((ah xr).2.drop (Int.toNat 1)) ([93]:Bs)).2).2.drop (Int.toNat 1)) ([61]:Bs)∧((!(fo ((ah (fo ((ah xr).2.drop (Int.toNat 1)) ([93]:Bs)).2).2.drop (Int.toNat 1)) ([61]:Bs)).1)=true→False)∧((!(fo ((ah (fo ((ah xr).2.drop (Int.toNat 1)) ([93]:Bs)).2).2.drop (Int.toNat 1)) ([61]:Bs)).1)=false→II xr K))∧(((((ah (fo ((ah xr).2.drop (Int.toNat 1)) ([93]:Bs)).2).1.2.1.getD (Int.toNat 0) 0).toNat:Int) != 61)=false→II xr K))))))∧(((ah xr).1.2.1==(([]:Bs)++(ah xr).1.2.2.1))=false→False))∧(((ah xr).1.1==1)=false→False))
theorem aeH {g:ak} {bF:Nat} {y0:Option Addr} {u0:Nat} (xr:List KT) (b0:bG g (.slice yK) [.slice y0 xr.length u0] xr) (hG0:bP g 0) (K:(TS)→List KT→Prop)
  (hF:X8 xr K):az prog 183 #[pv bF 0] g [.blk bF (.cells #[.slice y0 xr.length u0] 70)] (fun g' H' v=>∃ (r0:TS),∃ (kN:List KT),∃ (o0:Option Addr) (t0:Nat),∃ (q0:Option Addr) (k0:Nat),v=.agg (aL r0.lab o0 r0.kids.length t0)∧bG g' (.slice yP) [.slice o0 r0.kids.length t0] r0.kids∧bG g' (.slice yK) [.slice q0 kN.length k0] kN∧H'=[.blk bF (.cells #[.slice q0 kN.length k0] 70)]∧K r0 kN):=by
 refine aP 52 func183 rfl fun w0=>?_
 refine ae (ai (bK #[iv 0,sv ([]:Bs),.int .u8 0,sv ([]:Bs),iv 0,iv 0,.slice none 0 0] fun eO=>?_))
 refine aa (ae (av 1 [(0,pv bF 0),(2,pv eO 0),(7,pv bF 0)] kr (ai (bM (args:=#[pv bF 0]) 20 [(0,pv bF 0)] gT func100 rfl rfl rfl rfl (ae (ai (bK zK fun akf=>?_)))))))
 refine aa (ae (ag 1 [0] [(2,pv akf 0),(4,pv bF 0)] ?_))
 refine jB [2,0,1] ?_
 refine ai (bQ (mY xr b0) fun g3 _ _ hx3 OI=>?_)
 obtain ⟨UU,UD,rfl,TP,rfl⟩:=OI
 replace hG0:=hG0.mono hx3.1
 refine ai (bK zK fun akd=>?_)
 refine ai (af.w 0 ?_)
 refine aa (aH (ae (aj 3 [.e 0] [0,2] [(3,pv akd 0),(8,.bool ((ah xr).1.1==0))] ?_)))
 refine aa (aM hF (fun j4 hF=>?_) (fun j4 hF=>?_))
 ·exact False.elim hF
 refine Ok.k (Ok.t (ae (ag 4 [2,3] [(11,pv bF 0),(14,pv bF 0)] ?_)))
 refine ai (af.s (v:=.slice UU (ah xr).2.length UD) (aR 1 rfl rfl underlying67 rfl kr) rfl rfl ?_)
 obtain ⟨vY,h16,Xd,hF⟩:=hF
 refine ai (af.ji (e:=yK) (l:=1) (h:=((ah xr).2.length:Int)) rfl underlying67 kr (.inl ⟨_,_,rfl,rfl⟩) (.inr ⟨rfl,rfl⟩) TP vY h16 Xd rfl ((ah xr).2.drop (Int.toNat 1)) (by rw [show ((ah xr).2.length:Int).toNat=(ah xr).2.length from eB _,iV]) fun a6 c6 OJ=>?_)
 refine ag 2 [2,3] [(16,.slice a6 ((ah xr).2.drop (Int.toNat 1)).length c6),(18,pv bF 0)] ?_
 refine ai (dz 1 ?_)
 refine aa (ae (ai (af.s (v:=.agg (aK (ah xr).1)) (a_ 0 4 (aK (ah xr).1) rfl rfl underlying98 rfl kr kr kr) rfl rfl (ai (af.w 2 ?_)))))
 refine aa (Ok.ret (bu (vs:=[.agg (aK (ah xr).1)]) (.inl rfl) rfl (.cons (.iK 2 4 (aK (ah xr).1) rfl rfl underlying98 rfl kr kr kr) .nil) rfl (ai (bK zK fun dK=>?_))))
 refine ai (af.w 0 ?_)
 refine aa (ae (av 1 [(0,pv bF 0),(2,pv eO 0),(3,pv dK 0),(9,pv bF 0)] kr (ai (af.s (v:=.agg (aK (ah xr).1)) (a_ 0 4 (aK (ah xr).1) rfl rfl underlying98 rfl kr kr kr) rfl rfl (ai (bM (args:=#[pv bF 0,.agg (aK (ah xr).1),iv 1,sv ([]:Bs)]) 31 [(0,pv bF 0),(1,.agg (aK (ah xr).1)),(2,iv 1),(3,sv ([]:Bs))] gT func182 rfl rfl rfl rfl (ae (ai (di fun Y0=>?_)))))))))
 refine ag 1 [0] [(2,iv 1),(3,sv ([]:Bs)),(5,pv Y0 0)] ?_
 refine aa (ae (aj 6 [.e 0] [3,5] [(9,pv bF 0),(14,.bool ((ah xr).1.1==1))] ?_))
 refine bN 14 hF (fun mW hF=>?_) (fun mW hF=>?_)
 ·refine aj 4 [.e 0] [5,9] [(14,.bool true),(16,sv ((ah xr).1.2.1)),(17,sv ([]:Bs)),(18,pv Y0 2)] ?_
  refine dW (af.s (v:=sv ((ah xr).1.2.2.1)) (aR 0 rfl rfl underlying9 rfl kr) rfl rfl ?_)
  obtain ⟨hv,hF⟩:=hF
  refine dW (af.s (v:=sv (([]:Bs)++(ah xr).1.2.2.1)) (dx rfl rfl hv) rfl rfl (aj 3 [] [5,9] [(23,.bool ((ah xr).1.2.1==(([]:Bs)++(ah xr).1.2.2.1)))] ?_))
  refine bN 23 hF (fun abS hF=>?_) (fun abS hF=>?_)
  ·obtain ⟨Mh,hF⟩:=hF
   refine aj 4 [.e 0,.k (EK (ah xr).1.2.2.1 hG0 Mh)] [5,9] [(27,.bool (eu (ah xr).1.2.2.1))] ?_
   refine ai (bM (args:=#[pv bF 0,.bool (eu (ah xr).1.2.2.1)]) 8 [(0,pv bF 0),(1,.bool (eu (ah xr).1.2.2.1))] gT func57 rfl rfl rfl rfl (ae (av 2 [(5,.bool (!(eu (ah xr).1.2.2.1)))] kr (aa (aM hF (fun abQ hF=>?_) (fun abQ hF=>?_))))))
   ·exact False.elim hF
   refine Ok.k (bu (vs:=[]) (.inr rfl) rfl .nil rfl (aa (ae (aj 3 [.e 0] [] [(8,sv ((ah xr).1.2.2.1))] ?_))))
   refine aa (Ok.ret (bu (vs:=[sv ((ah xr).1.2.2.1)]) (.inl rfl) rfl (.cons (.tmp rfl) .nil) rfl ?_))
   obtain ⟨zx,hF⟩:=hF
   refine aj 2 [.k (EM (ah xr).1.2.2.1 zx)] [] [(0,pv bF 0),(2,pv eO 0),(13,.agg #[iv 5,sv (aJ (ah xr).1.2.2.1),.int .u8 0,sv ([]:Bs),iv 0,iv 0,.slice none 0 0])] ?_
   refine ai (bK #[iv 0,sv ([]:Bs),.int .u8 0,sv ([]:Bs),iv 0,iv 0,.slice none 0 0] fun kZ=>?_)
   refine ai (af.w 0 ?_)
   refine aa (aH (ae (ag 1 [0,2] [(4,pv kZ 0),(14,pv bF 0)] ?_)))
   obtain ⟨abC,hF⟩:=hF
   refine jB [4,0,1,2,3,5,6] ?_
   refine ai (bQ (EW ((ah xr).2.drop (Int.toNat 1)) ([93]:Bs) OJ abC) fun g16 _ _ E0 ab7=>?_)
   obtain ⟨akN,aj9,rfl,U0,rfl⟩:=ab7
   replace hG0:=hG0.mono E0.1
   refine aa (aM hF (fun hc17 hF=>?_) (fun hc17 hF=>?_))
   ·refine ae (ai (af.s (v:=.agg #[iv 5,sv (aJ (ah xr).1.2.2.1),.int .u8 0,sv ([]:Bs),iv 0,iv 0,.slice none 0 0]) (a_ 1 7 #[iv 5,sv (aJ (ah xr).1.2.2.1),.int .u8 0,sv ([]:Bs),iv 0,iv 0,.slice none 0 0] rfl rfl underlying60 rfl kr kr kr) rfl rfl (ai (af.w 6 ?_))))
    refine aa (Ok.ret (aC ?_))
    exact jc 6 [0] (hx3.trans E0) ⟨(gL.mk (5,aJ (ah xr).1.2.2.1,0,([]:Bs),0,0) ([])),(fo ((ah xr).2.drop (Int.toNat 1)) ([93]:Bs)).2,none,0,akN,aj9,rfl,bG.nil,U0,rfl,hF⟩
   refine Ok.k (Ok.t (ae (ag 1 [0,2,4] [(17,pv bF 0)] ?_)))
   refine ai (bM (args:=#[pv bF 0]) 20 [(0,pv bF 0)] gT func100 rfl rfl rfl rfl (ae (ai (bK zK fun aex=>?_))))
   refine aa (ae (ag 1 [0] [(2,pv aex 0),(4,pv bF 0)] ?_))
   refine jB [1,0,2,3,4,5,6,7] ?_
   refine ai (bQ (mY (fo ((ah xr).2.drop (Int.toNat 1)) ([93]:Bs)).2 U0) fun g19 _ _ M0 aof=>?_)
   obtain ⟨akJ,aj5,rfl,acz,rfl⟩:=aof
   replace hG0:=hG0.mono M0.1
   refine ai (bK zK fun aem=>?_)
   refine ai (af.w 0 ?_)
   refine aa (aH (ae (aj 3 [.e 0] [0,2] [(3,pv aem 0),(8,.bool ((ah (fo ((ah xr).2.drop (Int.toNat 1)) ([93]:Bs)).2).1.1==0))] ?_)))
   refine aa (aM hF (fun hc21 hF=>?_) (fun hc21 hF=>?_))
   ·exact False.elim hF
   refine Ok.k (Ok.t (ae (ag 4 [2,3] [(11,pv bF 0),(14,pv bF 0)] ?_)))
   refine ai (af.s (v:=.slice akJ (ah (fo ((ah xr).2.drop (Int.toNat 1)) ([93]:Bs)).2).2.length aj5) (aR 1 rfl rfl underlying67 rfl kr) rfl rfl ?_)
   obtain ⟨T_,h122,api,hF⟩:=hF
   refine ai (af.ji (e:=yK) (l:=1) (h:=((ah (fo ((ah xr).2.drop (Int.toNat 1)) ([93]:Bs)).2).2.length:Int)) rfl underlying67 kr (.inl ⟨_,_,rfl,rfl⟩) (.inr ⟨rfl,rfl⟩) acz T_ h122 api rfl ((ah (fo ((ah xr).2.drop (Int.toNat 1)) ([93]:Bs)).2).2.drop (Int.toNat 1)) (by rw [show ((ah (fo ((ah xr).2.drop (Int.toNat 1)) ([93]:Bs)).2).2.length:Int).toNat=(ah (fo ((ah xr).2.drop (Int.toNat 1)) ([93]:Bs)).2).2.length from eB _,iV]) fun a22 Qm N0=>?_)
   refine ag 2 [2,3] [(16,.slice a22 ((ah (fo ((ah xr).2.drop (Int.toNat 1)) ([93]:Bs)).2).2.drop (Int.toNat 1)).length Qm),(18,pv bF 0)] ?_
   refine ai (dz 1 ?_)
   refine aa (ae (ai (af.s (v:=.agg #[iv (ah (fo ((ah xr).2.drop (Int.toNat 1)) ([93]:Bs)).2).1.1,sv ((ah (fo ((ah xr).2.drop (Int.toNat 1)) ([93]:Bs)).2).1.2.1),sv ((ah (fo ((ah xr).2.drop (Int.toNat 1)) ([93]:Bs)).2).1.2.2.1),iv (ah (fo ((ah xr).2.drop (Int.toNat 1)) ([93]:Bs)).2).1.2.2.2]) (a_ 0 4 #[iv (ah (fo ((ah xr).2.drop (Int.toNat 1)) ([93]:Bs)).2).1.1,sv ((ah (fo ((ah xr).2.drop (Int.toNat 1)) ([93]:Bs)).2).1.2.1),sv ((ah (fo ((ah xr).2.drop (Int.toNat 1)) ([93]:Bs)).2).1.2.2.1),iv (ah (fo ((ah xr).2.drop (Int.toNat 1)) ([93]:Bs)).2).1.2.2.2] rfl rfl underlying98 rfl kr kr kr) rfl rfl (ai (af.w 2 ?_)))))
   refine aa (Ok.ret (bu (vs:=[.agg #[iv (ah (fo ((ah xr).2.drop (Int.toNat 1)) ([93]:Bs)).2).1.1,sv ((ah (fo ((ah xr).2.drop (Int.toNat 1)) ([93]:Bs)).2).1.2.1),sv ((ah (fo ((ah xr).2.drop (Int.toNat 1)) ([93]:Bs)).2).1.2.2.1),iv (ah (fo ((ah xr).2.drop (Int.toNat 1)) ([93]:Bs)).2).1.2.2.2]]) (.inl rfl) rfl (.cons (.iK 2 4 #[iv (ah (fo ((ah xr).2.drop (Int.toNat 1)) ([93]:Bs)).2).1.1,sv ((ah (fo ((ah xr).2.drop (Int.toNat 1)) ([93]:Bs)).2).1.2.1),sv ((ah (fo ((ah xr).2.drop (Int.toNat 1)) ([93]:Bs)).2).1.2.2.1),iv (ah (fo ((ah xr).2.drop (Int.toNat 1)) ([93]:Bs)).2).1.2.2.2] rfl rfl underlying98 rfl kr kr kr) .nil) rfl (ai (bK zK fun iD=>?_))))
   refine ai (af.w 0 ?_)
   refine aa (ae (aj 4 [.e 0] [] [(0,pv bF 0),(2,pv eO 0),(4,pv kZ 0),(5,pv iD 0),(19,pv bF 0),(22,.bool ((ah (fo ((ah xr).2.drop (Int.toNat 1)) ([93]:Bs)).2).1.1==12))] ?_))
   refine ai (bM (args:=#[pv bF 0,.bool ((ah (fo ((ah xr).2.drop (Int.toNat 1)) ([93]:Bs)).2).1.1==12)]) 8 [(0,pv bF 0),(1,.bool ((ah (fo ((ah xr).2.drop (Int.toNat 1)) ([93]:Bs)).2).1.1==12))] gT func57 rfl rfl rfl rfl (ae (av 2 [(5,.bool (!((ah (fo ((ah xr).2.drop (Int.toNat 1)) ([93]:Bs)).2).1.1==12)))] kr (aa (aM hF (fun hc24 hF=>?_) (fun hc24 hF=>?_))))))
   ·exact False.elim hF
   refine Ok.k (bu (vs:=[]) (.inr rfl) rfl .nil rfl (aa (Ok.cut (fun a W=>∃ B0:ak,aY w0 g19 B0∧∃ (g0:Option Addr) (m0:Nat),bG B0 (.slice yK) [.slice g0 (dF xr).length m0] (dF xr)∧fJ 52 [(0,pv bF 0),(2,pv eO 0),(4,pv kZ 0)] a∧dh w0 [.blk bF (.cells #[.slice g0 (dF xr).length m0] 70),.blk kZ (.cells #[iv 5,sv (aJ (ah xr).1.2.2.1),.int .u8 (D8 xr),sv ([]:Bs),iv 0,iv 0,.slice none 0 0] 60),.blk eO (.cells #[iv 0,sv ([]:Bs),.int .u8 0,sv ([]:Bs),iv 0,iv 0,.slice none 0 0] 60)] B0 W∧II xr K) ?_ ?_)))
   ·
    refine ae (av 1 [(0,pv bF 0),(2,pv eO 0),(4,pv kZ 0),(24,pv iD 1)] kr (ai (af.s (v:=sv ((ah (fo ((ah xr).2.drop (Int.toNat 1)) ([93]:Bs)).2).1.2.1)) (aR 0 rfl rfl underlying9 rfl kr) rfl rfl ?_)))
    obtain ⟨ac8,acY,hF⟩:=hF
    have O0:=aV (l:=(ah (fo ((ah xr).2.drop (Int.toNat 1)) ([93]:Bs)).2).1.2.1) (0:UInt8) acY
    generalize P0:((ah (fo ((ah xr).2.drop (Int.toNat 1)) ([93]:Bs)).2).1.2.1.getD (Int.toNat 0) 0)=e40 at O0 hF ⊢
    let C:=(e40.toNat:Int)
    refine ai (af.s (v:=.int .u8 C) (dO (k:=.i64) (i:=0) (s:=(ah (fo ((ah xr).2.drop (Int.toNat 1)) ([93]:Bs)).2).1.2.1) (b:=e40) kr kr underlying9 ac8 O0) rfl rfl (ag 1 [0,2,4] [(26,.int .u8 C),(27,pv kZ 2)] ?_))
    refine ai (dz 4 ?_)
    refine aa (ae (aj 3 [.e 4] [0,2,4] [(30,.bool (C != 61))] ?_))
    refine aa (ed hF rfl (fun i0=>?_) (fun i0=>?_))
    ·replace hF:=hF.1 i0
     refine aS (ag 2 [0,2,4] [(31,pv bF 0),(32,pv bF 0)] ?_)
     obtain ⟨amM,hF⟩:=hF
     refine jB [2,0,1,3,4,5,6,7,8,9] ?_
     let A:=(ah (fo ((ah xr).2.drop (Int.toNat 1)) ([93]:Bs)).2).2.drop (Int.toNat 1)
     refine ai (bQ (EW A ([61]:Bs) N0 amM) fun g43 _ _ R0 an5=>?_)
     obtain ⟨V0,Q0,rfl,ack,rfl⟩:=an5
     replace hG0:=hG0.mono R0.1
     let B:=fo A ([61]:Bs)
     refine ai (bM (args:=#[pv bF 0,.bool B.1]) 8 [(0,pv bF 0),(1,.bool B.1)] gT func57 rfl rfl rfl rfl (ae (av 2 [(5,.bool (! B.1))] kr (aa (ed hF rfl (fun F0=>?_) (fun F0=>?_))))))
     ·replace hF:=hF.1 F0
      exact False.elim hF
     replace hF:=hF.2 F0
     refine Ok.k (bu (vs:=[]) (.inr rfl) rfl .nil rfl (bY (Ok.t ?_)))
     subst P0
     refine jZ (E':=.blk bF (.cells #[.slice V0 (dF xr).length Q0] 70)) 0 (ay (fun l:List Value=>b_.blk bF (.cells ⟨l⟩ 70)) (iw (ay (fun l:List KT=>Value.slice V0 l.length Q0) ((aT i0).symm)) rfl)) ?_
     exact fun _ _ u v=>⟨g43,R0,V0,Q0,(Eq.mp (ay (fun l:List KT=>bG g43 (.slice yK) [.slice V0 l.length Q0] l) ((aT i0).symm)) ack),fA u v hF⟩
    replace hF:=hF.2 i0
    refine Ok.k (Ok.t ?_)
    subst P0
    refine jZ (E':=.blk bF (.cells #[.slice a22 (dF xr).length Qm] 70)) 2 (ay (fun l:List Value=>b_.blk bF (.cells ⟨l⟩ 70)) (iw (ay (fun l:List KT=>Value.slice a22 l.length Qm) ((aF i0).symm)) rfl)) ?_
    exact fun _ _ u v=>⟨g19,bq w0 g19,a22,Qm,(Eq.mp (ay (fun l:List KT=>bG g19 (.slice yK) [.slice a22 l.length Qm] l) ((aF i0).symm)) N0),fA u v hF⟩
   clear hF
   rintro _ _ ⟨B0,C0,g0,m0,Kk,q⟩
   refine jn (fun hF=>?_) _ _ q
   replace hG0:=hG0.mono C0.1
   refine ae (ag 1 [0,2,4] [(35,pv bF 0)] ?_)
   refine ai (bM (args:=#[pv bF 0]) 20 [(0,pv bF 0)] gT func100 rfl rfl rfl rfl (ae (ai (bK zK fun aeu=>?_))))
   refine aa (ae (ag 1 [0] [(2,pv aeu 0),(4,pv bF 0)] ?_))
   refine jB [1,0,2,3] ?_
   refine ai (bQ (mY (dF xr) Kk) fun g26 _ _ T0 ab5=>?_)
   obtain ⟨akF,aj1,rfl,Mt,rfl⟩:=ab5
   replace hG0:=hG0.mono T0.1
   refine ai (bK zK fun aek=>?_)
   refine ai (af.w 0 ?_)
   refine aa (aH (ae (aj 3 [.e 0] [0,2] [(3,pv aek 0),(8,.bool ((ah (dF xr)).1.1==0))] ?_)))
   refine aa (aM hF (fun hc28 hF=>?_) (fun hc28 hF=>?_))
   ·exact False.elim hF
   refine Ok.k (Ok.t (ae (ag 4 [2,3] [(11,pv bF 0),(14,pv bF 0)] ?_)))
   refine ai (af.s (v:=.slice akF (ah (dF xr)).2.length aj1) (aR 1 rfl rfl underlying67 rfl kr) rfl rfl ?_)
   obtain ⟨MH,MB,aph,hF⟩:=hF
   refine ai (af.ji (e:=yK) (l:=1) (h:=((ah (dF xr)).2.length:Int)) rfl underlying67 kr (.inl ⟨_,_,rfl,rfl⟩) (.inr ⟨rfl,rfl⟩) Mt MH MB aph rfl ((ah (dF xr)).2.drop (Int.toNat 1)) (by rw [show ((ah (dF xr)).2.length:Int).toNat=(ah (dF xr)).2.length from eB _,iV]) fun a29 Y5 G0=>?_)
   refine ag 2 [2,3] [(16,.slice a29 ((ah (dF xr)).2.drop (Int.toNat 1)).length Y5),(18,pv bF 0)] ?_
   refine ai (dz 1 ?_)
   refine aa (ae (ai (af.s (v:=.agg (aK (ah (dF xr)).1)) (a_ 0 4 (aK (ah (dF xr)).1) rfl rfl underlying98 rfl kr kr kr) rfl rfl (ai (af.w 2 ?_)))))
   refine aa (Ok.ret (bu (vs:=[.agg (aK (ah (dF xr)).1)]) (.inl rfl) rfl (.cons (.iK 2 4 (aK (ah (dF xr)).1) rfl rfl underlying98 rfl kr kr kr) .nil) rfl (ai (bK zK fun bs6=>?_))))
   refine ai (af.w 0 ?_)
   refine aa (iO g26 [(0,pv bF 0),(2,pv eO 0),(4,pv kZ 0)] [.blk bF (.cells #[.slice a29 ((ah (dF xr)).2.drop (Int.toNat 1)).length Y5] 70),.blk kZ (.cells #[iv 5,sv (aJ (ah xr).1.2.2.1),.int .u8 (D8 xr),sv ((ah (dF xr)).1.2.2.1),iv 0,iv 0,.slice none 0 0] 60),.blk eO (.cells #[iv 0,sv ([]:Bs),.int .u8 0,sv ([]:Bs),iv 0,iv 0,.slice none 0 0] 60)] (IG xr K) ?_ (fun atQ J0 hF=>?_))
   ·
    refine ae (aj 3 [.e 0] [] [(0,pv bF 0),(2,pv eO 0),(4,pv kZ 0),(6,pv bs6 0),(38,sv ((ah (dF xr)).1.2.2.1)),(39,pv kZ 3)] ?_)
    refine ai (dz 4 ?_)
    refine aa (ae (aj 3 [.e 0] [0,2,4,6] [(42,.bool ((ah (dF xr)).1.1 != 5))] ?_))
    refine aa (aM hF (fun hc34 hF=>?_) (fun hc34 hF=>?_))
    ·refine aS (ag 1 [0,2,4,6] [(43,pv bF 0)] ?_)
     refine ai (af.s (v:=.agg (aK (ah (dF xr)).1)) (a_ 0 4 (aK (ah (dF xr)).1) rfl rfl underlying98 rfl kr kr kr) rfl rfl (ai (bM (args:=#[pv bF 0,.agg (aK (ah (dF xr)).1),iv 1,sv ([]:Bs)]) 31 [(0,pv bF 0),(1,.agg (aK (ah (dF xr)).1)),(2,iv 1),(3,sv ([]:Bs))] gT func182 rfl rfl rfl rfl (ae (ai (di fun W0=>?_))))))
     refine ag 1 [0] [(2,iv 1),(3,sv ([]:Bs)),(5,pv W0 0)] ?_
     refine aa (ae (aj 6 [.e 0] [3,5] [(9,pv bF 0),(14,.bool ((ah (dF xr)).1.1==1))] ?_))
     refine bN 14 hF (fun TF hF=>?_) (fun TF hF=>?_)
     ·refine aj 4 [.e 0] [5,9] [(14,.bool true),(16,sv ((ah (dF xr)).1.2.1)),(17,sv ([]:Bs)),(18,pv W0 2)] ?_
      refine dW (af.s (v:=sv ((ah (dF xr)).1.2.2.1)) (aR 0 rfl rfl underlying9 rfl kr) rfl rfl ?_)
      obtain ⟨hv,hF⟩:=hF
      refine dW (af.s (v:=sv (([]:Bs)++(ah (dF xr)).1.2.2.1)) (dx rfl rfl hv) rfl rfl (aj 3 [] [5,9] [(23,.bool ((ah (dF xr)).1.2.1==(([]:Bs)++(ah (dF xr)).1.2.2.1)))] ?_))
      refine bN 23 hF (fun abP hF=>?_) (fun abP hF=>?_)
      ·obtain ⟨amO,hF⟩:=hF
       refine aj 4 [.e 0,.k (EK (ah (dF xr)).1.2.2.1 hG0 amO)] [5,9] [(27,.bool (eu (ah (dF xr)).1.2.2.1))] ?_
       refine ai (bM (args:=#[pv bF 0,.bool (eu (ah (dF xr)).1.2.2.1)]) 8 [(0,pv bF 0),(1,.bool (eu (ah (dF xr)).1.2.2.1))] gT func57 rfl rfl rfl rfl (ae (av 2 [(5,.bool (!(eu (ah (dF xr)).1.2.2.1)))] kr (aa (aM hF (fun hc39 hF=>?_) (fun hc39 hF=>?_))))))
       ·exact False.elim hF
       refine Ok.k (bu (vs:=[]) (.inr rfl) rfl .nil rfl (aa (ae (aj 3 [.e 0] [] [(8,sv ((ah (dF xr)).1.2.2.1))] ?_))))
       refine aa (Ok.ret (bu (vs:=[sv ((ah (dF xr)).1.2.2.1)]) (.inl rfl) rfl (.cons (.tmp rfl) .nil) rfl (av 1 [(0,pv bF 0),(2,pv eO 0),(4,pv kZ 0),(45,sv ((ah (dF xr)).1.2.2.1)),(46,pv kZ 3)] kr (ai (dz 5 ?_)))))
       refine bY (Ok.t ?_)
       exact fg hF
      refine ag 4 [5,9] [(27,.bool false)] ?_
      refine ai (bM (args:=#[pv bF 0,.bool false]) 8 [(0,pv bF 0),(1,.bool false)] gT func57 rfl rfl rfl rfl (ae (av 2 [(5,.bool true)] kr (aa (Ok.c (b:=true) rfl (fun _=>?_) (fun h=>by cases h))))))
      exact False.elim hF
     refine ag 13 [5,9] [(27,.bool false)] ?_
     refine ai (bM (args:=#[pv bF 0,.bool false]) 8 [(0,pv bF 0),(1,.bool false)] gT func57 rfl rfl rfl rfl (ae (av 2 [(5,.bool true)] kr (aa (Ok.c (b:=true) rfl (fun _=>?_) (fun h=>by cases h))))))
     exact False.elim hF
    refine Ok.k (Ok.t ?_)
    exact fg hF
   replace G0:=G0.mono J0.1
   refine ae (ag 2 [2,4] [(47,pv bF 0),(48,pv bF 0)] ?_)
   obtain ⟨Tq,hF⟩:=hF
   refine ai (bQ (EW ((ah (dF xr)).2.drop (Int.toNat 1)) ([93]:Bs) G0 Tq) fun g32 _ _ L0 an9=>?_)
   obtain ⟨akB,ajX,rfl,acr,rfl⟩:=an9
   refine ai (bM (args:=#[pv bF 0,.bool (fo ((ah (dF xr)).2.drop (Int.toNat 1)) ([93]:Bs)).1]) 8 [(0,pv bF 0),(1,.bool (fo ((ah (dF xr)).2.drop (Int.toNat 1)) ([93]:Bs)).1)] gT func57 rfl rfl rfl rfl (ae (av 2 [(5,.bool (!(fo ((ah (dF xr)).2.drop (Int.toNat 1)) ([93]:Bs)).1))] kr (aa (aM hF (fun anF hF=>?_) (fun anF hF=>?_))))))
   ·exact False.elim hF
   refine Ok.k (bu (vs:=[]) (.inr rfl) rfl .nil rfl (aa (ae (ai (af.s (v:=.agg #[iv 5,sv (aJ (ah xr).1.2.2.1),.int .u8 (D8 xr),sv ((ah (dF xr)).1.2.2.1),iv 0,iv 0,.slice none 0 0]) (a_ 1 7 #[iv 5,sv (aJ (ah xr).1.2.2.1),.int .u8 (D8 xr),sv ((ah (dF xr)).1.2.2.1),iv 0,iv 0,.slice none 0 0] rfl rfl underlying60 rfl kr kr kr) rfl rfl (ai (af.w 2 ?_)))))))
   refine aa (Ok.ret ?_)
   exact jc 2 [0] ((((((hx3.trans E0).trans M0).trans C0).trans T0).trans J0).trans L0) ⟨(gL.mk (5,aJ (ah xr).1.2.2.1,D8 xr,(ah (dF xr)).1.2.2.1,0,0) ([])),(fo ((ah (dF xr)).2.drop (Int.toNat 1)) ([93]:Bs)).2,none,0,akB,ajX,rfl,bG.nil,acr,rfl,hF⟩
  refine ag 4 [5,9] [(27,.bool false)] ?_
  refine ai (bM (args:=#[pv bF 0,.bool false]) 8 [(0,pv bF 0),(1,.bool false)] gT func57 rfl rfl rfl rfl (ae (av 2 [(5,.bool true)] kr (aa (Ok.c (b:=true) rfl (fun _=>?_) (fun h=>by cases h))))))
  exact False.elim hF
 refine ag 13 [5,9] [(27,.bool false)] ?_
 refine ai (bM (args:=#[pv bF 0,.bool false]) 8 [(0,pv bF 0),(1,.bool false)] gT func57 rfl rfl rfl rfl (ae (av 2 [(5,.bool true)] kr (aa (Ok.c (b:=true) rfl (fun _=>?_) (fun h=>by cases h))))))
 exact False.elim hF
def nY (n:Bs):Prop:=eu n=true∧n.length≤1000
theorem nY.cut {n:Bs} (h:nY n):r_ n:=by have:=h.2; show n.length<4294967281; omega
theorem nY.lo {n:Bs} (h:nY n):ig n:=by have:=h.2; show n.length≤140737488351232; omega
theorem nY.ml {n:Bs} (h:nY n):n.length≤maxLen:=by have:=h.2; show n.length≤9223372036854775807; omega
def mX:Rd→Ts×Rd
 | (_,n,_,_)::(11,_,_,_)::rest=>(.mk (5,n,0,[],0,0) [],rest)
 | (_,n,_,_)::(_,[c],_,_)::(5,_,v,_)::_::rest=>(.mk (5,n,(c.toNat:Int),v,0,0) [],rest)
 | (_,n,_,_)::(_,[c],_,_)::_::(_,_,v,_)::_::rest=>(.mk (5,n,(c.toNat:Int),v,0,0) [],rest)
 | r=>(.mk (0,[],0,[],0,0) [],r)
def alX (z:Int):Prop:=z=61∨z=126∨z=124∨z=94∨z=36∨z=42
def UO (r:Rd):Prop:=∃ n rest,nY n∧aJ n=n∧(r=wd n::(11,[93],[],0)::rest∨∃ z v,alX z∧r=wd n::(RJ z++(5,Ej v,v,0)::(11,[93],[],0)::rest))
theorem akm (r:Rd) (hp:UO r):X8 r (fun a b=>(a,b)=mX r):=by
 obtain ⟨n,rest,hn,hlo,h⟩:=hp
 have h1:=hn.1
 have hc:=hn.cut
 have hl:=hn.lo
 have hm:=hn.ml
 have n0:¬ (n=[]):=fun e=>by rw [e] at h1; exact absurd h1 dc
 rcases h with rfl | ⟨z,v,hz,rfl⟩
 ·simp [X8,ah,fo,vJ,h1,hlo,hc,hl,hm,mX]
  omega
 rcases hz with rfl | rfl | rfl | rfl | rfl | rfl
 all_goals simp [X8,II,IG,dF,D8,RJ,oq,ah,fo,vJ,h1,hlo,hc,hl,hm,mX]
 all_goals omega
theorem akl {g:ak} {bF:Nat} {y0:Option Addr} {u0:Nat} (xr:List KT) (b0:bG g (.slice yK) [.slice y0 xr.length u0] xr) (hG0:bP g 0)  (hp:UO xr):az prog 183 #[pv bF 0] g [.blk bF (.cells #[.slice y0 xr.length u0] 70)] (fun g' H' v=>∃ (o0:Option Addr) (t0:Nat),∃ (q0:Option Addr) (k0:Nat),v=.agg #[iv (mX xr).1.lab.1,sv ((mX xr).1.lab.2.1),.int .u8 (mX xr).1.lab.2.2.1,sv ((mX xr).1.lab.2.2.2.1),iv (mX xr).1.lab.2.2.2.2.1,iv (mX xr).1.lab.2.2.2.2.2,.slice o0 (mX xr).1.kids.length t0]∧bG g' (.slice yP) [.slice o0 (mX xr).1.kids.length t0] (mX xr).1.kids∧bG g' (.slice yK) [.slice q0 (mX xr).2.length k0] (mX xr).2∧H'=[.blk bF (.cells #[.slice q0 (mX xr).2.length k0] 70)]) :=
 (aeH xr b0 hG0 _ (akm xr hp)).mono (by rintro g' H' v _ ⟨r0,kN,o0,t0,q0,k0,rfl,rX,e0,rfl,hK⟩; obtain ⟨rfl,rfl⟩:r0=(mX xr).1∧kN=(mX xr).2:=⟨ay (fun z=>z.1) hK,ay (fun z=>z.2) hK⟩; exact ⟨o0,t0,q0,k0,rfl,rX,e0,rfl⟩)
end Go.Proofs.YtdapgmigogpdcaaGreatDoor.Se
