/- selector: names, small letters, signs. -/
import Derived.Test.YtdapgmigogpdcaaGreatDoorTrd
import Derived.Test.YtdapgmigogpdcaaGreatDoorDob
namespace Go.Proofs.YtdapgmigogpdcaaGreatDoor.Se
open _root_.Go.Proofs.Tryz Go Go.iQ Go.RowKit jL BF tF Tk Ti
set_option linter.unusedVariables false
set_option linter.unusedSimpArgs false
set_option maxHeartbeats 4000000
set_option maxRecDepth 100000
def eu (s:Bs):Bool:=match iZ s with
 | [t]=>t.1==1&&t.2.1==s&&t.2.2.1==s
 | _=>false
def xN (xs:Bs):Bool :=
 ((((iZ xs).length:Int)==1)&&((((iZ xs).getD (Int.toNat 0) default).1==1)&&((((iZ xs).getD (Int.toNat 0) default).2.1==xs)&&(((iZ xs).getD (Int.toNat 0) default).2.2.1==xs))))
def EJ (xs:Bs) (K:Bool→Prop):Prop :=
 K (xN xs)
def afG (xs:Bs) (K:Bool→Prop):Prop :=
 r_ xs∧((((iZ xs).length:Int)==1)=true→(0:Int)≤0∧Int.toNat 0<(iZ xs).length∧((((iZ xs).getD (Int.toNat 0) default).1==1)=true→((((iZ xs).getD (Int.toNat 0) default).2.1==xs)=true→EJ xs K)∧((((iZ xs).getD (Int.toNat 0) default).2.1==xs)=false→EJ xs K))∧((((iZ xs).getD (Int.toNat 0) default).1==1)=false→EJ xs K))∧((((iZ xs).length:Int)==1)=false→EJ xs K)
theorem ZC {g:ak} (xs:Bs) (hG0:bP g 0) (K:Bool→Prop)
  (hF:afG xs K):az prog 105 #[sv xs] g [] (fun g' H' v=>∃ (r0:Bool),v=.bool r0∧H'=[]∧K r0):=by
 refine aP 32 func105 rfl fun w0=>?_
 refine ae (av 1 [(0,sv xs)] kr (aa (ae (ag 1 [0] [(4,sv xs)] ?_))))
 obtain ⟨hp1,hF⟩:=hF
 refine ai (bQ (YZ xs hG0 hp1) fun g2 _ _ hx2 hV2=>?_)
 obtain ⟨d0,e0,rfl,c0,rfl⟩:=hV2
 refine ag 1 [0] [(3,.slice d0 (iZ xs).length e0)] ?_
 refine aa (iO g2 [(2,.bool (xN xs))] [] (EJ xs K) ?_ (fun Xf o0 hF=>?_))
 ·
  refine aS (ag 4 [0,3] [(9,.bool (((iZ xs).length:Int)==1))] ?_)
  refine bN 9 hF (fun hc3 hF=>?_) (fun hc3 hF=>?_)
  ·refine ag 1 [0,3] [(9,.bool true),(10,.slice d0 (iZ xs).length e0)] ?_
   obtain ⟨Ei,H_,hF⟩:=hF
   have Dx:=aV (l:=iZ xs) default H_
   generalize hg5:((iZ xs).getD (Int.toNat 0) default)=e5 at Dx hF ⊢
   refine dW (af.bf (e:=yK) rfl rfl underlying67 kr c0 Ei Dx rfl fun q4 o4 cs4 _ f0 hr4=>?_)
   obtain ⟨_,_,rfl,rfl,⟨_,_,rfl,rfl,⟨_,_,rfl,rfl,rfl⟩⟩⟩:=hr4
   replace f0:At g2 q4 o4 (vK e5):=f0
   refine aj 5 [.a 0 f0] [0,3] [(16,.bool (e5.1==1))] ?_
   refine Ok.a 16 (e5.1==1) rfl (fun hc6=>?_) (fun hc6=>?_)
   ·replace hF:=hF.1 hc6
    refine ag 1 [0,3] [(16,.bool true),(17,.slice d0 (iZ xs).length e0)] ?_
    refine dW (af.bf (e:=yK) rfl rfl underlying67 kr c0 Ei Dx rfl fun q7 o7 cs7 _ g0 S9=>?_)
    obtain ⟨_,_,rfl,rfl,⟨_,_,rfl,rfl,⟨_,_,rfl,rfl,rfl⟩⟩⟩:=S9
    replace g0:At g2 q7 o7 (vK e5):=g0
    refine aj 6 [.a 1 g0] [0,3] [(24,.bool (e5.2.1==xs))] ?_
    refine Ok.a 24 (e5.2.1==xs) rfl (fun hc8=>?_) (fun hc8=>?_)
    ·replace hF:=hF.1 hc8
     refine ag 1 [0] [(24,.bool true),(25,.slice d0 (iZ xs).length e0)] ?_
     refine dW (af.bf (e:=yK) rfl rfl underlying67 kr c0 Ei Dx rfl fun q9 o9 cs9 _ m0 WR=>?_)
     obtain ⟨_,_,rfl,rfl,⟨_,_,rfl,rfl,⟨_,_,rfl,rfl,rfl⟩⟩⟩:=WR
     replace m0:At g2 q9 o9 (vK e5):=m0
     refine aj 6 [.a 2 m0] [] [(2,.bool (e5.2.2.1==xs))] ?_
     refine bY (Ok.t ?_)
     subst hg5
     refine aB 2 (xN xs) (au (au (aZ hc8) (aZ hc6)) (aZ hc3)) ?_
     exact fg hF
    replace hF:=hF.2 hc8
    refine av 8 [(2,.bool false)] kr (bY (Ok.t ?_))
    subst hg5
    refine aB 2 (xN xs) (au (au (bW hc8) (aZ hc6)) (aZ hc3)) ?_
    exact fg hF
   replace hF:=hF.2 hc6
   refine av 16 [(2,.bool false)] kr (bY (Ok.t ?_))
   subst hg5
   refine aB 2 (xN xs) (au (bW hc6) (aZ hc3)) ?_
   exact fg hF
  refine av 23 [(2,.bool false)] kr (aa (aB 2 (xN xs) (bW hc3) ?_))
  exact fg hF
 refine Ok.ret ?_
 exact qd (.bool (xN xs)) (hx2.trans o0) ⟨_,rfl,rfl,hF⟩
theorem Vz (xs:Bs):xN xs=eu xs:=by
 unfold xN eu
 generalize iZ xs=l
 match l with
 | []=>rfl
 | [t]=>simp [uT]
 | a::b::l =>
  have h:((((a::b::l).length:Nat):Int)==1)=false:=by simp; omega
  rw [h]; rfl
theorem afF (s:Bs) (hp:r_ s):afG s (fun r=>r=eu s):=by
 have j:EJ s (fun r=>r=eu s):=Vz s
 refine ⟨hp,fun h=>⟨by decide,?_,fun _=>⟨fun _=>j,fun _=>j⟩,fun _=>j⟩,fun _=>j⟩
 have:=eq_of_beq h
 show 0<_; omega
theorem EK {g:ak} (xs:Bs) (hG0:bP g 0)  (hp:r_ xs):bE prog 105 #[sv xs] g (.bool (eu xs)) :=
 (ZC xs hG0 _ (afF xs hp)).gv
def nI (k0:Int) (z0:List Int):List Int :=
 (if ((decide (z0.getD k0.toNat default≥65))&&(decide (z0.getD k0.toNat default≤90)))=true then (z0.set k0.toNat (IntKind.wrap .u8 ((z0.getD k0.toNat default)+32))) else z0)
def Ch (k0:Int) (z0:List Int) (C9:Int→List Int→Prop):Prop :=
 C9 (w6 (k0+1)) (nI k0 z0)
def ZE (xs:Bs) (K:Bs→Prop) (k0:Int) (z0:List Int) (C9:Int→List Int→Prop):Prop :=
 ((decide (k0<((intsOf xs).length:Int)))=true→0≤k0∧k0.toNat<z0.length∧(((decide (z0.getD k0.toNat default≥65))&&(decide (z0.getD k0.toNat default≤90)))=true→Ch k0 z0 C9)∧(((decide (z0.getD k0.toNat default≥65))&&(decide (z0.getD k0.toNat default≤90)))=false→Ch k0 z0 C9))∧((decide (k0<((intsOf xs).length:Int)))=false→K (bytesOf z0))
def EL (xs:Bs) (K:Bs→Prop):Nat→Int→List Int→Prop
 | 0,_,_=>False
 | k+1,k0,z0=>ZE xs K k0 z0 (EL xs K k)
def afI (xs:Bs) (K:Bs→Prop):Prop :=
 ∃ k,EL xs K k 0 (intsOf xs)
theorem ZF {g:ak} (xs:Bs) (K:Bs→Prop)
  (hF:afI xs K):az prog 106 #[sv xs] g [] (fun g' H' v=>∃ (r0:Bs),v=sv r0∧H'=[]∧K r0):=by
 refine aP 29 func106 rfl fun w0=>?_
 refine ae (av 1 [(0,sv xs)] kr (aa (ae (av 1 [(6,sv xs)] kr (ai (Ar (s:=xs) kr underlying9 underlying26 underlying5 rfl fun a1 c1 xs1 hL1=>?_))))))
 refine av 1 [(3,.slice a1 (intsOf xs).length c1)] kr (aa (aH (ae (ag 3 [3] [(8,.slice a1 (intsOf xs).length c1),(9,iv ((intsOf xs).length:Int)),(10,iv 0)] ?_))))
 refine aa (Ok.block ?_)
 obtain ⟨k,hF⟩:=hF
 refine gF (fun k a W=>∃ kC:ak,aY w0 g kC∧∃ (k0:Int) (v0:Option Addr) (q0:Nat) (z0:List Int) (y0:List Value),aW kC yb y0 z0∧fJ 29 [(3,.slice v0 z0.length q0),(8,.slice v0 z0.length q0),(9,iv ((intsOf xs).length:Int)),(10,iv k0)] a∧dh w0 [.lT (.slice v0 z0.length q0) 5 z0.length y0] kC W∧EL xs K k k0 z0) k ?_ ?_
 ·
  exact fun _ _ u v=>⟨g,bq w0 g,0,a1,c1,intsOf xs,xs1,hL1,fA u v hF⟩
 clear hF
 rintro (_ | k9) _ _ ⟨kC,t0,k0,v0,q0,z0,y0,u0,q⟩
 exact (q.2.2:False).elim
 refine jn (fun hF=>?_) _ _ q
 refine ae (ag 1 [3,8,9,10] [(11,.bool (decide (k0<((intsOf xs).length:Int))))] ?_)
 refine aa (aH (aM hF (fun hc2 hF=>?_) (fun hc2 hF=>?_)))
 ·refine Ok.k (Ok.t (Ok.cut (fun a W=>∃ n0:ak,aY w0 kC n0∧∃ (j0:Option Addr) (x0:Nat) (s0:List Value),aW n0 yb s0 (nI k0 z0)∧fJ 29 [(3,.slice j0 (nI k0 z0).length x0),(8,.slice j0 (nI k0 z0).length x0),(9,iv ((intsOf xs).length:Int)),(10,iv k0)] a∧dh w0 [.lT (.slice j0 (nI k0 z0).length x0) 5 (nI k0 z0).length s0] n0 W∧Ch k0 z0 (EL xs K k9)) ?_ ?_))
  ·
   refine Ok.block (ae (ag 1 [3,8,9,10] [(12,iv k0)] ?_))
   obtain ⟨qA,ru,hF⟩:=hF
   have pR:=aV (l:=z0) default ru
   generalize hg4:(z0.getD k0.toNat default)=e4 at pR hF ⊢
   refine ai (qb (q:=k0) (el:=e4) 0 rfl u0 rfl rfl underlying26 kr qA pR rfl fun hc3=>?_)
   refine ai (af.s (v:=.int .u8 e4) (yM 0 0 rfl hc3 rfl underlying5 rfl kr) rfl rfl (ag 2 [3,8,9,10] [(4,iv k0),(5,.int .u8 e4)] ?_))
   refine aa (ae (ag 3 [3,4,5,8,9,10] [(17,.bool (decide (e4≥65)))] ?_))
   refine Ok.w 3 [(3,.slice v0 z0.length q0),(4,iv k0),(5,.int .u8 e4),(8,.slice v0 z0.length q0),(9,iv ((intsOf xs).length:Int)),(10,iv k0),(20,.bool (decide (e4≥65)&&decide (e4≤90)))] (fun Bl=>?_) ?_
   ·refine Ok.a 17 (decide (e4≥65)) rfl (fun hc6=>?_) (fun hc6=>?_)
    ·skip
     refine ag 3 [3,4,5,8,9,10] [(20,.bool (decide (e4≤90)))] ?_
     refine aB 20 (decide (e4≥65)&&decide (e4≤90)) (aZ hc6) (ag 0 [3,4,5,8,9,10] [(20,.bool (decide (e4≥65)&&decide (e4≤90)))] ?_)
     exact Bl
    skip
    refine ag 3 [3,4,5,8,9,10] [(20,.bool false)] ?_
    refine aB 20 (decide (e4≥65)&&decide (e4≤90)) (bW hc6) (ag 0 [3,4,5,8,9,10] [(20,.bool (decide (e4≥65)&&decide (e4≤90)))] ?_)
    exact Bl
   refine aa (ed hF rfl (fun iC=>?_) (fun iC=>?_))
   ·replace hF:=hF.1 iC
    refine aS (ag 4 [3,8,9,10] [(21,.slice v0 z0.length q0),(22,iv k0),(24,.int .u8 (IntKind.wrap .u8 (e4+32)))] ?_)
    refine ai (qb (q:=k0) (el:=e4) 0 rfl u0 rfl rfl underlying26 kr qA pR rfl fun hc8=>?_)
    refine ai (Aq (q:=k0.toNat) (xy:=IntKind.wrap .u8 (e4+32)) 0 rfl u0 hc8 rfl rfl kr fun Qy hL9=>?_)
    rw [show z0.length=(z0.set k0.toNat (IntKind.wrap .u8 (e4+32))).length from (kK ..).symm]
    refine bY (bJ (Ok.t ?_))
    subst hg4
    refine gW 3 rfl (show (.slice v0 (z0.set k0.toNat (IntKind.wrap .u8 ((z0.getD k0.toNat default)+32))).length q0:Value)=.slice v0 (nI k0 z0).length q0 from ay (fun l:List Int=>Value.slice v0 l.length q0) ((aT iC).symm)) ?_
    refine gW 8 rfl (show (.slice v0 (z0.set k0.toNat (IntKind.wrap .u8 ((z0.getD k0.toNat default)+32))).length q0:Value)=.slice v0 (nI k0 z0).length q0 from ay (fun l:List Int=>Value.slice v0 l.length q0) ((aT iC).symm)) ?_
    refine jZ (E':=.lT (.slice v0 (nI k0 z0).length q0) 5 (nI k0 z0).length Qy) 0 (ay (fun l:List Int=>b_.lT (.slice v0 l.length q0) 5  l.length Qy) ((aT iC).symm)) ?_
    exact fun _ _ u v=>⟨kC,bq w0 kC,v0,q0,Qy,(Eq.mp (ay (fun l:List Int=>aW kC yb Qy l) ((aT iC).symm)) hL9),fA u v hF⟩
   replace hF:=hF.2 iC
   refine Ok.k (bJ (Ok.t ?_))
   subst hg4
   refine gW 3 rfl (show (.slice v0 z0.length q0:Value)=.slice v0 (nI k0 z0).length q0 from ay (fun l:List Int=>Value.slice v0 l.length q0) ((aF iC).symm)) ?_
   refine gW 8 rfl (show (.slice v0 z0.length q0:Value)=.slice v0 (nI k0 z0).length q0 from ay (fun l:List Int=>Value.slice v0 l.length q0) ((aF iC).symm)) ?_
   refine jZ (E':=.lT (.slice v0 (nI k0 z0).length q0) 5 (nI k0 z0).length y0) 0 (ay (fun l:List Int=>b_.lT (.slice v0 l.length q0) 5  l.length y0) ((aF iC).symm)) ?_
   exact fun _ _ u v=>⟨kC,bq w0 kC,v0,q0,y0,(Eq.mp (ay (fun l:List Int=>aW kC yb y0 l) ((aF iC).symm)) u0),fA u v hF⟩
  clear hF
  rintro _ _ ⟨n0,Ki,j0,x0,s0,qz,q⟩
  refine jn (fun hF=>?_) _ _ q
  refine aS (ag 2 [3,8,9] [(10,iv (w6 (k0+1)))] ?_)
  refine bY (Ok.t ?_)
  exact fun _ _ u v=>⟨k9,nl,n0,t0.trans Ki,w6 (k0+1),j0,x0,nI k0 z0,s0,qz,fA u v hF⟩
 refine fU (aA (aA (aO (Ok.t (ae (av 1 [(27,.slice v0 z0.length q0)] kr (ai (af.s (v:=sv (bytesOf z0)) (v_ 0 kr rfl rfl u0 underlying26 underlying9 underlying5) rfl rfl (av 1 [(2,sv (bytesOf z0))] kr (aa (Ok.ret ?_)))))))))))
 exact jd (sv (bytesOf z0)) t0 ⟨bytesOf z0,rfl,rfl,hF⟩
theorem Rc {xs:Bs} {i:Nat} (h:i<xs.length):nI (i:Int) (intsOf (iN xs i))=intsOf (iN xs (i+1)):=by
 have hl:(iN xs i).length=xs.length:=by simp [iN]; omega
 have hg:(iN xs i).getD i 0=xs.getD i 0:=by
  unfold iN
  rw [gN,List.getElem?_append_right (by simp; omega),gN,D_]
  congr 2
  simp; omega
 have hs:(iN xs i).set i (Ay (xs.getD i 0))=iN xs (i+1):=by
  unfold iN
  rw [List.set_append_right _ _ (by simp; omega),iA (0:UInt8) h,dm (l:=xs) (0:UInt8) h,uN,dL]
  congr 1
  have e:i - ((xs.take i).map Ay).length=0:=by simp; omega
  rw [e]; rfl
 have hn:(iN xs i).set i (xs.getD i 0)=iN xs i:=by
  rw [← hg,gN,gB om,uI,List.set_getElem_self]
 unfold nI
 rw [eB,Fh _ _ om,hg,← hs]
 have:=Sl (xs.getD i 0)
 split
 ·rename_i hc
  rw [aT hc] at this
  rw [this,ints_set]
 rename_i hc
 rw [aQ hc] at this
 have:Ay (xs.getD i 0)=xs.getD i 0:=UInt8.toNat_inj.1 om
 rw [this,hn]
theorem Re (xs:Bs) (hP:xs.length≤140737488351232) (K:Bs→Prop) (hK:K (aJ xs)):∀ (k i:Nat),xs.length=i+k→EL xs K (k+1) (i:Int) (intsOf (iN xs i)):=by
 intro k
 induction k with
 | zero =>
  intro i h
  refine ⟨fun hc=>?_,fun _=>?_⟩
  ·have:=dn hc; rw [iy] at this; omega
  rw [kJ,iN,jR om,fF om,gK]
  exact hK
 | succ k ih =>
  intro i h
  refine ⟨fun _=>?_,fun hc=>?_⟩
  ·have hl:(iN xs i).length=xs.length:=by simp [iN]; omega
   have key:Ch (i:Int) (intsOf (iN xs i)) (EL xs K (k+1)):=by
    unfold Ch
    rw [gp om,Rc om]
    exact ih (i+1) om
   exact ⟨om,by rw [iy,hl]; omega,fun _=>key,fun _=>key⟩
  have:=fZ hc; rw [iy] at this; omega
theorem afH (s:Bs) (hp:ig s):afI s (fun r=>r=aJ s) :=
 ⟨s.length+1,Re s hp (fun r=>r=aJ s) rfl s.length 0 om⟩
theorem EM {g:ak} (xs:Bs)  (hp:ig xs):bE prog 106 #[sv xs] g (sv (aJ xs)) :=
 (ZF xs _ (afH xs hp)).gv
def Dy (s:Bs) (c:Int):Bool:=s.any fun x=>((x.toNat:Int)==c)
theorem aa5 {c:Int} (h:0≤c∧c≤255):decide (Du [61,126,124,94,36,42] c<0) = !(Dy [61,126,124,94,36,42] c):=by
 have:∀ n:Fin 256,decide (Du [61,126,124,94,36,42] (n.val:Int)<0) = !(Dy [61,126,124,94,36,42] (n.val:Int)):=by decide +kernel
 have h2:=this ⟨c.toNat,om⟩
 rw [show ((⟨c.toNat,om⟩:Fin 256).val:Int)=c by show (c.toNat:Int)=c; omega] at h2
 exact h2
theorem SX {c:Int} (h:0≤c∧c≤255):decide (Du [32,62,43,126] c<0) = !(Dy [32,62,43,126] c):=by
 have:∀ n:Fin 256,decide (Du [32,62,43,126] (n.val:Int)<0) = !(Dy [32,62,43,126] (n.val:Int)):=by decide +kernel
 have h2:=this ⟨c.toNat,om⟩
 rw [show ((⟨c.toNat,om⟩:Fin 256).val:Int)=c by show (c.toNat:Int)=c; omega] at h2
 exact h2
end Go.Proofs.YtdapgmigogpdcaaGreatDoor.Se
