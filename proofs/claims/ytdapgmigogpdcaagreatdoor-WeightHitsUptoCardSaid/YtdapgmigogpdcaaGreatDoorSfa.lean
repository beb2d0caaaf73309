/- selector: names, small letters, signs. -/
import Derived.Test.YtdapgmigogpdcaaGreatDoorTrd
import Derived.Test.YtdapgmigogpdcaaGreatDoorDob
set_option linter.unusedSimpArgs false
set_option linter.unusedVariables false
namespace Go.Proofs.YtdapgmigogpdcaaGreatDoor.Se
open _root_.Go.Proofs.Tryz Go Go.iT Go.RowKit jN BI tO Tk Ti
set_option maxHeartbeats 4000000
set_option maxRecDepth 100000
def eB (s:Bs):Bool:=match jd s with
 | [t]=>t.1==1&&t.2.1==s&&t.2.2.1==s
 | _=>false
def xV (xs:Bs):Bool :=
 ((((jd xs).length:Int)==1)&&((((jd xs).getD (Int.toNat 0) default).1==1)&&((((jd xs).getD (Int.toNat 0) default).2.1==xs)&&(((jd xs).getD (Int.toNat 0) default).2.2.1==xs))))
def EU (xs:Bs) (K:Bool→Prop):Prop :=
 K (xV xs)
def ag6 (xs:Bs) (K:Bool→Prop):Prop :=
 sD xs∧((((jd xs).length:Int)==1)=true→(0:Int)≤0∧Int.toNat 0<(jd xs).length∧((((jd xs).getD (Int.toNat 0) default).1==1)=true→((((jd xs).getD (Int.toNat 0) default).2.1==xs)=true→EU xs K)∧((((jd xs).getD (Int.toNat 0) default).2.1==xs)=false→EU xs K))∧((((jd xs).getD (Int.toNat 0) default).1==1)=false→EU xs K))∧((((jd xs).length:Int)==1)=false→EU xs K)
theorem aaF {g:ak} (xs:Bs) (hG0:bR g 0) (K:Bool→Prop)
  (hF:ag6 xs K):az prog 105 #[sv xs] g [] (fun g' H' v=>∃ (r0:Bool),v=.bool r0∧H'=[]∧K r0):=by
 refine aP 32 func105 rfl fun w0=>?_;refine ae (av 1 [(0,sv xs)] kr (aa (ae (ag 1 [0] [(4,sv xs)] ?_))));obtain ⟨hp1,hF⟩:=hF;refine ai (bS (ZV xs hG0 hp1) fun g2 _ _ hx2 hV2=>?_);obtain ⟨d0,e0,rfl,c0,rfl⟩:=hV2;refine ag 1 [0] [(3,.slice d0 (jd xs).length e0)] ?_;refine aa (iK g2 [(2,.bool (xV xs))] [] (EU xs K) ?_ (fun Ya o0 hF=>?_))
 ·
  refine aR (ag 4 [0,3] [(9,.bool (((jd xs).length:Int)==1))] ?_);refine bP 9 hF (fun hc3 hF=>?_) (fun hc3 hF=>?_)
  ·refine ag 1 [0,3] [(9,.bool true),(10,.slice d0 (jd xs).length e0)] ?_;obtain ⟨Ep,IE,hF⟩:=hF;have DD:=aT (l:=jd xs) default IE;generalize hg5:((jd xs).getD (Int.toNat 0) default)=e5 at DD hF ⊢;refine dZ (af.aX (e:=yK) rfl rfl underlying67 kr c0 Ep DD rfl fun q4 o4 cs4 _ f0 hr4=>?_);obtain ⟨_,_,rfl,rfl,⟨_,_,rfl,rfl,⟨_,_,rfl,rfl,rfl⟩⟩⟩:=hr4;replace f0:At g2 q4 o4 (vK e5):=f0;refine aj 5 [.a 0 f0] [0,3] [(16,.bool (e5.1==1))] ?_;refine Ok.a 16 (e5.1==1) rfl (fun hc6=>?_) (fun hc6=>?_)
   ·replace hF:=hF.1 hc6;refine ag 1 [0,3] [(16,.bool true),(17,.slice d0 (jd xs).length e0)] ?_;refine dZ (af.aX (e:=yK) rfl rfl underlying67 kr c0 Ep DD rfl fun q7 o7 cs7 _ g0 MX=>?_);obtain ⟨_,_,rfl,rfl,⟨_,_,rfl,rfl,⟨_,_,rfl,rfl,rfl⟩⟩⟩:=MX;replace g0:At g2 q7 o7 (vK e5):=g0;refine aj 6 [.a 1 g0] [0,3] [(24,.bool (e5.2.1==xs))] ?_;refine Ok.a 24 (e5.2.1==xs) rfl (fun hc8=>?_) (fun hc8=>?_)
    ·replace hF:=hF.1 hc8;refine ag 1 [0] [(24,.bool true),(25,.slice d0 (jd xs).length e0)] ?_;refine dZ (af.aX (e:=yK) rfl rfl underlying67 kr c0 Ep DD rfl fun q9 o9 cs9 _ m0 Um=>?_);obtain ⟨_,_,rfl,rfl,⟨_,_,rfl,rfl,⟨_,_,rfl,rfl,rfl⟩⟩⟩:=Um;replace m0:At g2 q9 o9 (vK e5):=m0;refine aj 6 [.a 2 m0] [] [(2,.bool (e5.2.2.1==xs))] ?_;refine bV (Ok.t ?_);subst hg5;refine aB 2 (xV xs) (au (au (bn hc8) (bn hc6)) (bn hc3)) ?_;exact fg hF
    replace hF:=hF.2 hc8;refine av 8 [(2,.bool false)] kr (bV (Ok.t ?_));subst hg5;refine aB 2 (xV xs) (au (au (bZ hc8) (bn hc6)) (bn hc3)) ?_;exact fg hF
   replace hF:=hF.2 hc6;refine av 16 [(2,.bool false)] kr (bV (Ok.t ?_));subst hg5;refine aB 2 (xV xs) (au (bZ hc6) (bn hc3)) ?_;exact fg hF
  refine av 23 [(2,.bool false)] kr (aa (aB 2 (xV xs) (bZ hc3) ?_));exact fg hF
 refine Ok.ret ?_;exact qg (.bool (xV xs)) (hx2.trans o0) ⟨_,rfl,rfl,hF⟩
theorem WB (xs:Bs):xV xs=eB xs:=by
 unfold xV eB;generalize jd xs=l
 match l with
 | []=>rfl
 | [t]=>simp [uZ]
 | a::b::l =>
  have h:((((a::b::l).length:Nat):Int)==1)=false:=by simp; omega
  rw [h]; rfl
theorem ag5 (s:Bs) (hp:sD s):ag6 s (fun r=>r=eB s):=by
 have j:EU s (fun r=>r=eB s):=WB s;refine ⟨hp,fun h=>⟨by decide,?_,fun _=>⟨fun _=>j,fun _=>j⟩,fun _=>j⟩,fun _=>j⟩;have:=eq_of_beq h;show 0<_; omega
theorem EW {g:ak} (xs:Bs) (hG0:bR g 0)  (hp:sD xs):bC prog 105 #[sv xs] g (.bool (eB xs)) :=
 (aaF xs hG0 _ (ag5 xs hp)).gv
def nK (k0:Int) (z0:List Int):List Int :=
 (if ((decide (z0.getD k0.toNat default≥65))&&(decide (z0.getD k0.toNat default≤90)))=true then (z0.set k0.toNat (IntKind.wrap .u8 ((z0.getD k0.toNat default)+32))) else z0)
def Cn (k0:Int) (z0:List Int) (C9:Int→List Int→Prop):Prop :=
 C9 (w6 (k0+1)) (nK k0 z0)
def aaG (xs:Bs) (K:Bs→Prop) (k0:Int) (z0:List Int) (C9:Int→List Int→Prop):Prop :=
 ((decide (k0<((intsOf xs).length:Int)))=true→0≤k0∧k0.toNat<z0.length∧(((decide (z0.getD k0.toNat default≥65))&&(decide (z0.getD k0.toNat default≤90)))=true→Cn k0 z0 C9)∧(((decide (z0.getD k0.toNat default≥65))&&(decide (z0.getD k0.toNat default≤90)))=false→Cn k0 z0 C9))∧((decide (k0<((intsOf xs).length:Int)))=false→K (bytesOf z0))
def EX (xs:Bs) (K:Bs→Prop):Nat→Int→List Int→Prop
 | 0,_,_=>False
 | k+1,k0,z0=>aaG xs K k0 z0 (EX xs K k)
def ag8 (xs:Bs) (K:Bs→Prop):Prop :=
 ∃ k,EX xs K k 0 (intsOf xs)
theorem aaH {g:ak} (xs:Bs) (K:Bs→Prop)
  (hF:ag8 xs K):az prog 106 #[sv xs] g [] (fun g' H' v=>∃ (r0:Bs),v=sv r0∧H'=[]∧K r0):=by
 refine aP 29 func106 rfl fun w0=>?_;refine ae (av 1 [(0,sv xs)] kr (aa (ae (av 1 [(6,sv xs)] kr (ai (Ay (s:=xs) kr underlying9 underlying26 underlying5 rfl fun a1 c1 xs1 hL1=>?_))))));refine av 1 [(3,.slice a1 (intsOf xs).length c1)] kr (aa (aF (ae (ag 3 [3] [(8,.slice a1 (intsOf xs).length c1),(9,iv ((intsOf xs).length:Int)),(10,iv 0)] ?_))));refine aa (Ok.block ?_);obtain ⟨k,hF⟩:=hF;refine fQ (fun k a W=>∃ jP:ak,bf w0 g jP∧∃ (k0:Int) (v0:Option Addr) (q0:Nat) (z0:List Int) (y0:List Value),aW jP yb y0 z0∧fC 29 [(3,.slice v0 z0.length q0),(8,.slice v0 z0.length q0),(9,iv ((intsOf xs).length:Int)),(10,iv k0)] a∧dm w0 [.lV (.slice v0 z0.length q0) 5 z0.length y0] jP W∧EX xs K k k0 z0) k ?_ ?_
 ·
  exact fun _ _ u v=>⟨g,bu w0 g,0,a1,c1,intsOf xs,xs1,hL1,fA u v hF⟩
 clear hF;rintro (_ | k9) _ _ ⟨jP,t0,k0,v0,q0,z0,y0,u0,q⟩;exact (q.2.2:False).elim;refine jn (fun hF=>?_) _ _ q;refine ae (ag 1 [3,8,9,10] [(11,.bool (decide (k0<((intsOf xs).length:Int))))] ?_);refine aa (aF (aJ hF (fun hc2 hF=>?_) (fun hc2 hF=>?_)))
 ·refine Ok.k (Ok.t (Ok.cut (fun a W=>∃ n0:ak,bf w0 jP n0∧∃ (j0:Option Addr) (x0:Nat) (s0:List Value),aW n0 yb s0 (nK k0 z0)∧fC 29 [(3,.slice j0 (nK k0 z0).length x0),(8,.slice j0 (nK k0 z0).length x0),(9,iv ((intsOf xs).length:Int)),(10,iv k0)] a∧dm w0 [.lV (.slice j0 (nK k0 z0).length x0) 5 (nK k0 z0).length s0] n0 W∧Cn k0 z0 (EX xs K k9)) ?_ ?_))
  ·
   refine Ok.block (ae (ag 1 [3,8,9,10] [(12,iv k0)] ?_));obtain ⟨oo,pg,hF⟩:=hF;have ny:=aT (l:=z0) default pg;generalize hg4:(z0.getD k0.toNat default)=e4 at ny hF ⊢;refine ai (qd (q:=k0) (el:=e4) 0 rfl u0 rfl rfl underlying26 kr oo ny rfl fun hc3=>?_);refine ai (af.s (v:=.int .u8 e4) (yV 0 0 rfl hc3 rfl underlying5 rfl kr) rfl rfl (ag 2 [3,8,9,10] [(4,iv k0),(5,.int .u8 e4)] ?_));refine aa (ae (ag 3 [3,4,5,8,9,10] [(17,.bool (decide (e4≥65)))] ?_));refine Ok.w 3 [(3,.slice v0 z0.length q0),(4,iv k0),(5,.int .u8 e4),(8,.slice v0 z0.length q0),(9,iv ((intsOf xs).length:Int)),(10,iv k0),(20,.bool (decide (e4≥65)&&decide (e4≤90)))] (fun Bp=>?_) ?_
   ·refine Ok.a 17 (decide (e4≥65)) rfl (fun hc6=>?_) (fun hc6=>?_)
    ·skip;refine ag 3 [3,4,5,8,9,10] [(20,.bool (decide (e4≤90)))] ?_;refine aB 20 (decide (e4≥65)&&decide (e4≤90)) (bn hc6) (ag 0 [3,4,5,8,9,10] [(20,.bool (decide (e4≥65)&&decide (e4≤90)))] ?_);exact Bp
    skip;refine ag 3 [3,4,5,8,9,10] [(20,.bool false)] ?_;refine aB 20 (decide (e4≥65)&&decide (e4≤90)) (bZ hc6) (ag 0 [3,4,5,8,9,10] [(20,.bool (decide (e4≥65)&&decide (e4≤90)))] ?_);exact Bp
   refine aa (dW hF rfl (fun iB=>?_) (fun iB=>?_))
   ·replace hF:=hF.1 iB;refine aR (ag 4 [3,8,9,10] [(21,.slice v0 z0.length q0),(22,iv k0),(24,.int .u8 (IntKind.wrap .u8 (e4+32)))] ?_);refine ai (qd (q:=k0) (el:=e4) 0 rfl u0 rfl rfl underlying26 kr oo ny rfl fun hc8=>?_);refine ai (Aw (q:=k0.toNat) (xG:=IntKind.wrap .u8 (e4+32)) 0 rfl u0 hc8 rfl rfl kr fun Ro hL9=>?_);rw [show z0.length=(z0.set k0.toNat (IntKind.wrap .u8 (e4+32))).length from (kP ..).symm];refine bV (bG (Ok.t ?_));subst hg4;refine gX 3 rfl (show (.slice v0 (z0.set k0.toNat (IntKind.wrap .u8 ((z0.getD k0.toNat default)+32))).length q0:Value)=.slice v0 (nK k0 z0).length q0 from aA (fun l:List Int=>Value.slice v0 l.length q0) ((aU iB).symm)) ?_;refine gX 8 rfl (show (.slice v0 (z0.set k0.toNat (IntKind.wrap .u8 ((z0.getD k0.toNat default)+32))).length q0:Value)=.slice v0 (nK k0 z0).length q0 from aA (fun l:List Int=>Value.slice v0 l.length q0) ((aU iB).symm)) ?_;refine kg (E':=.lV (.slice v0 (nK k0 z0).length q0) 5 (nK k0 z0).length Ro) 0 (aA (fun l:List Int=>cu.lV (.slice v0 l.length q0) 5  l.length Ro) ((aU iB).symm)) ?_;exact fun _ _ u v=>⟨jP,bu w0 jP,v0,q0,Ro,(Eq.mp (aA (fun l:List Int=>aW jP yb Ro l) ((aU iB).symm)) hL9),fA u v hF⟩
   replace hF:=hF.2 iB;refine Ok.k (bG (Ok.t ?_));subst hg4;refine gX 3 rfl (show (.slice v0 z0.length q0:Value)=.slice v0 (nK k0 z0).length q0 from aA (fun l:List Int=>Value.slice v0 l.length q0) ((aG iB).symm)) ?_;refine gX 8 rfl (show (.slice v0 z0.length q0:Value)=.slice v0 (nK k0 z0).length q0 from aA (fun l:List Int=>Value.slice v0 l.length q0) ((aG iB).symm)) ?_;refine kg (E':=.lV (.slice v0 (nK k0 z0).length q0) 5 (nK k0 z0).length y0) 0 (aA (fun l:List Int=>cu.lV (.slice v0 l.length q0) 5  l.length y0) ((aG iB).symm)) ?_;exact fun _ _ u v=>⟨jP,bu w0 jP,v0,q0,y0,(Eq.mp (aA (fun l:List Int=>aW jP yb y0 l) ((aG iB).symm)) u0),fA u v hF⟩
  clear hF;rintro _ _ ⟨n0,KR,j0,x0,s0,qC,q⟩;refine jn (fun hF=>?_) _ _ q;refine aR (ag 2 [3,8,9] [(10,iv (w6 (k0+1)))] ?_);refine bV (Ok.t ?_);exact fun _ _ u v=>⟨k9,nl,n0,t0.trans KR,w6 (k0+1),j0,x0,nK k0 z0,s0,qC,fA u v hF⟩
 refine fw (ay (ay (aM (Ok.t (ae (av 1 [(27,.slice v0 z0.length q0)] kr (ai (af.s (v:=sv (bytesOf z0)) (wB 0 kr rfl rfl u0 underlying26 underlying9 underlying5) rfl rfl (av 1 [(2,sv (bytesOf z0))] kr (aa (Ok.ret ?_)))))))))));exact jg (sv (bytesOf z0)) t0 ⟨bytesOf z0,rfl,rfl,hF⟩
theorem Sg {xs:Bs} {i:Nat} (h:i<xs.length):nK (i:Int) (intsOf (iQ xs i))=intsOf (iQ xs (i+1)):=by
 have hl:(iQ xs i).length=xs.length:=by simp [iQ]; omega
 have hg:(iQ xs i).getD i 0=xs.getD i 0:=by
  unfold iQ;rw [gT,List.getElem?_append_right (by simp; omega),gT,Ef];congr 2;simp; omega
 have hs:(iQ xs i).set i (AB (xs.getD i 0))=iQ xs (i+1):=by
  unfold iQ;rw [List.set_append_right _ _ (by simp; omega),iD (0:UInt8) h,bX (l:=xs) (0:UInt8) h,uT,dM];congr 1
  have e:i - ((xs.take i).map AB).length=0:=by simp; omega
  rw [e]; rfl
 have hn:(iQ xs i).set i (xs.getD i 0)=iQ xs i:=by
  rw [← hg,gT,gH om,uO,List.set_getElem_self]
 unfold nK;rw [dR,FE _ _ om,hg,← hs];have:=TJ (xs.getD i 0)
 split
 ·rename_i hc
  rw [aU hc] at this;rw [this,ints_set]
 rename_i hc
 rw [aQ hc] at this;have:AB (xs.getD i 0)=xs.getD i 0:=UInt8.toNat_inj.1 om;rw [this,hn]
theorem Si (xs:Bs) (hP:xs.length≤140737488351232) (K:Bs→Prop) (hK:K (aO xs)):∀ (k i:Nat),xs.length=i+k→EX xs K (k+1) (i:Int) (intsOf (iQ xs i)):=by
 intro k
 induction k with
 | zero =>
  intro i h;refine ⟨fun hc=>?_,fun _=>?_⟩
  ·have:=df hc; rw [iA] at this; omega
  rw [kN,iQ,jU om,eD om,gK];exact hK
 | succ k ih =>
  intro i h;refine ⟨fun _=>?_,fun hc=>?_⟩
  ·have hl:(iQ xs i).length=xs.length:=by simp [iQ]; omega
   have key:Cn (i:Int) (intsOf (iQ xs i)) (EX xs K (k+1)):=by
    unfold Cn;rw [fU om,Sg om];exact ih (i+1) om
   exact ⟨om,by rw [iA,hl]; omega,fun _=>key,fun _=>key⟩
  have:=fq hc; rw [iA] at this; omega
theorem ag7 (s:Bs) (hp:ig s):ag8 s (fun r=>r=aO s) :=
 ⟨s.length+1,Si s hp (fun r=>r=aO s) rfl s.length 0 om⟩
theorem EY {g:ak} (xs:Bs)  (hp:ig xs):bC prog 106 #[sv xs] g (sv (aO xs)) :=
 (aaH xs _ (ag7 xs hp)).gv
def DF (s:Bs) (c:Int):Bool:=s.any fun x=>((x.toNat:Int)==c)
theorem ab7 {c:Int} (h:0≤c∧c≤255):decide (Dw [61,126,124,94,36,42] c<0) = !(DF [61,126,124,94,36,42] c):=by
 have:∀ n:Fin 256,decide (Dw [61,126,124,94,36,42] (n.val:Int)<0) = !(DF [61,126,124,94,36,42] (n.val:Int)):=by decide +kernel
 have h2:=this ⟨c.toNat,om⟩;rw [show ((⟨c.toNat,om⟩:Fin 256).val:Int)=c by show (c.toNat:Int)=c; omega] at h2;exact h2
theorem Ui {c:Int} (h:0≤c∧c≤255):decide (Dw [32,62,43,126] c<0) = !(DF [32,62,43,126] c):=by
 have:∀ n:Fin 256,decide (Dw [32,62,43,126] (n.val:Int)<0) = !(DF [32,62,43,126] (n.val:Int)):=by decide +kernel
 have h2:=this ⟨c.toNat,om⟩;rw [show ((⟨c.toNat,om⟩:Fin 256).val:Int)=c by show (c.toNat:Int)=c; omega] at h2;exact h2
end Go.Proofs.YtdapgmigogpdcaaGreatDoor.Se
