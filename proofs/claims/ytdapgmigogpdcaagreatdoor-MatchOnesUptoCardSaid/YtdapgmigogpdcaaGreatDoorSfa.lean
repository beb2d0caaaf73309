/- selector: names, small letters, signs. -/
import Derived.Test.YtdapgmigogpdcaaGreatDoorTrd
import Derived.Test.YtdapgmigogpdcaaGreatDoorTri
namespace Go.Proofs.YtdapgmigogpdcaaGreatDoor.Se
open _root_.Go.Proofs.Tryz Go Go.Eng Go.RowKit Bld Trm Css Tk Ti
set_option linter.unusedVariables false
set_option linter.unusedSimpArgs false
set_option maxHeartbeats 4000000
set_option maxRecDepth 100000
def plainS (s:Bs):Bool:=match cutS s with
 | [t]=>t.1==1&&t.2.1==s&&t.2.2.1==s
 | _=>false
def snmV0 (xs:Bs):Bool :=
 ((((cutS xs).length:Int)==1)&&((((cutS xs).getD (Int.toNat 0) default).1==1)&&((((cutS xs).getD (Int.toNat 0) default).2.1==xs)&&(((cutS xs).getD (Int.toNat 0) default).2.2.1==xs))))
def snmj5 (xs:Bs) (K:Bool→Prop):Prop :=
 K (snmV0 xs)
def snmF (xs:Bs) (K:Bool→Prop):Prop :=
 cutP xs∧((((cutS xs).length:Int)==1)=true→(0:Int)≤0∧Int.toNat 0<(cutS xs).length∧((((cutS xs).getD (Int.toNat 0) default).1==1)=true→((((cutS xs).getD (Int.toNat 0) default).2.1==xs)=true→snmj5 xs K)∧((((cutS xs).getD (Int.toNat 0) default).2.1==xs)=false→snmj5 xs K))∧((((cutS xs).getD (Int.toNat 0) default).1==1)=false→snmj5 xs K))∧((((cutS xs).length:Int)==1)=false→snmj5 xs K)
theorem snm_ok {g:Ghost} (xs:Bs) (hG0:SomeInt g 0) (K:Bool→Prop)
  (hF:snmF xs K):CallsH prog 105 #[sv xs] g [] (fun g' H' v=>∃ (r0:Bool),v=.bool r0∧H'=[]∧K r0):=by
 refine CallsH.en 32 func105 rfl fun w0=>?_
 refine Ok.sr (Ok.B 1 [(0,sv xs)] kr (Ok.nt (Ok.sr (Ok.b 1 [0] [(4,sv xs)] ?_))))
 obtain ⟨hp1,hF⟩:=hF
 refine Ok.o (OpOk.callH [] _ enr rfl (cut_c xs hG0 hp1) rfl fun g2 _ _ hx2 hV2=>?_)
 obtain ⟨d0,e0,rfl,c0,rfl⟩:=hV2
 refine Ok.b 1 [0] [(3,.slice d0 (cutS xs).length e0)] ?_
 refine Ok.nt (Ok.cg g2 [(2,.bool (snmV0 xs))] [] (snmj5 xs K) ?_ (fun gj5 o0 hF=>?_))
 ·
  refine Ok.r (Ok.b 4 [0,3] [(9,.bool (((cutS xs).length:Int)==1))] ?_)
  refine Ok.bw 9 hF (fun hc3 hF=>?_) (fun hc3 hF=>?_)
  ·refine Ok.b 1 [0,3] [(9,.bool true),(10,.slice d0 (cutS xs).length e0)] ?_
   obtain ⟨h05,h15,hF⟩:=hF
   have he5:=get_of (l:=cutS xs) default h15
   generalize hg5:((cutS xs).getD (Int.toNat 0) default)=e5 at he5 hF ⊢
   refine Ok.oy (OpOk.indexRo (e:=yK) rfl rfl underlying67 kr c0 h05 he5 rfl fun q4 o4 cs4 _ f0 hr4=>?_)
   obtain ⟨_,_,rfl,rfl,⟨_,_,rfl,rfl,⟨_,_,rfl,rfl,rfl⟩⟩⟩:=hr4
   replace f0:At g2 q4 o4 (vK e5):=f0
   refine Ok.rn 5 [.a 0 f0] [0,3] [(16,.bool (e5.1==1))] ?_
   refine Ok.a 16 (e5.1==1) rfl (fun hc6=>?_) (fun hc6=>?_)
   ·replace hF:=hF.1 hc6
    refine Ok.b 1 [0,3] [(16,.bool true),(17,.slice d0 (cutS xs).length e0)] ?_
    refine Ok.oy (OpOk.indexRo (e:=yK) rfl rfl underlying67 kr c0 h05 he5 rfl fun q7 o7 cs7 _ g0 hr7=>?_)
    obtain ⟨_,_,rfl,rfl,⟨_,_,rfl,rfl,⟨_,_,rfl,rfl,rfl⟩⟩⟩:=hr7
    replace g0:At g2 q7 o7 (vK e5):=g0
    refine Ok.rn 6 [.a 1 g0] [0,3] [(24,.bool (e5.2.1==xs))] ?_
    refine Ok.a 24 (e5.2.1==xs) rfl (fun hc8=>?_) (fun hc8=>?_)
    ·replace hF:=hF.1 hc8
     refine Ok.b 1 [0] [(24,.bool true),(25,.slice d0 (cutS xs).length e0)] ?_
     refine Ok.oy (OpOk.indexRo (e:=yK) rfl rfl underlying67 kr c0 h05 he5 rfl fun q9 o9 cs9 _ m0 hr9=>?_)
     obtain ⟨_,_,rfl,rfl,⟨_,_,rfl,rfl,⟨_,_,rfl,rfl,rfl⟩⟩⟩:=hr9
     replace m0:At g2 q9 o9 (vK e5):=m0
     refine Ok.rn 6 [.a 2 m0] [] [(2,.bool (e5.2.2.1==xs))] ?_
     refine Ok.j (Ok.t ?_)
     subst hg5
     refine Ok.rb 2 (snmV0 xs) (Eq.trans (Eq.trans (mand_t hc8) (mand_t hc6)) (mand_t hc3)) ?_
     exact fg hF
    replace hF:=hF.2 hc8
    refine Ok.B 8 [(2,.bool false)] kr (Ok.j (Ok.t ?_))
    subst hg5
    refine Ok.rb 2 (snmV0 xs) (Eq.trans (Eq.trans (mand_f hc8) (mand_t hc6)) (mand_t hc3)) ?_
    exact fg hF
   replace hF:=hF.2 hc6
   refine Ok.B 16 [(2,.bool false)] kr (Ok.j (Ok.t ?_))
   subst hg5
   refine Ok.rb 2 (snmV0 xs) (Eq.trans (mand_f hc6) (mand_t hc3)) ?_
   exact fg hF
  refine Ok.B 23 [(2,.bool false)] kr (Ok.nt (Ok.rb 2 (snmV0 xs) (mand_f hc3) ?_))
  exact fg hF
 refine Ok.ret ?_
 exact Ok.h1 (.bool (snmV0 xs)) (hx2.trans o0) ⟨_,rfl,rfl,hF⟩
def rpnV0 (xs:Bs):Bool :=
 ((((cutS xs).length:Int)==1)&&((((cutS xs).getD (Int.toNat 0) default).1==1)&&((((cutS xs).getD (Int.toNat 0) default).2.2.1==xs)&&(((cutS xs).getD (Int.toNat 0) default).2.1==xs))))
def rpnj5 (xs:Bs) (K:Bool→Prop):Prop :=
 K (rpnV0 xs)
def rpnF (xs:Bs) (K:Bool→Prop):Prop :=
 cutP xs∧((((cutS xs).length:Int)==1)=true→(0:Int)≤0∧Int.toNat 0<(cutS xs).length∧((((cutS xs).getD (Int.toNat 0) default).1==1)=true→((((cutS xs).getD (Int.toNat 0) default).2.2.1==xs)=true→rpnj5 xs K)∧((((cutS xs).getD (Int.toNat 0) default).2.2.1==xs)=false→rpnj5 xs K))∧((((cutS xs).getD (Int.toNat 0) default).1==1)=false→rpnj5 xs K))∧((((cutS xs).length:Int)==1)=false→rpnj5 xs K)
theorem rpn_ok {g:Ghost} (xs:Bs) (K:Bool→Prop)
  (hF:rpnF xs K):CallsH prog 62 #[sv xs] g [] (fun g' H' v=>∃ (r0:Bool),v=.bool r0∧H'=[]∧K r0):=by
 refine CallsH.en 32 func62 rfl fun w0=>?_
 refine Ok.sr (Ok.B 1 [(0,sv xs)] kr (Ok.nt (Ok.sr (Ok.b 1 [0] [(4,sv xs)] ?_))))
 obtain ⟨hp1,hF⟩:=hF
 refine Ok.o (OpOk.callH [] _ enr rfl (rtoks_c xs hp1) rfl fun g2 _ _ hx2 hV2=>?_)
 obtain ⟨d0,e0,rfl,c0,rfl⟩:=hV2
 refine Ok.b 1 [0] [(3,.slice d0 (cutS xs).length e0)] ?_
 refine Ok.nt (Ok.cg g2 [(2,.bool (rpnV0 xs))] [] (rpnj5 xs K) ?_ (fun gj5 o0 hF=>?_))
 ·
  refine Ok.r (Ok.b 4 [0,3] [(9,.bool (((cutS xs).length:Int)==1))] ?_)
  refine Ok.bw 9 hF (fun hc3 hF=>?_) (fun hc3 hF=>?_)
  ·refine Ok.b 1 [0,3] [(9,.bool true),(10,.slice d0 (cutS xs).length e0)] ?_
   obtain ⟨h05,h15,hF⟩:=hF
   have he5:=get_of (l:=cutS xs) default h15
   generalize hg5:((cutS xs).getD (Int.toNat 0) default)=e5 at he5 hF ⊢
   refine Ok.oy (OpOk.indexRo (e:=yK) rfl rfl underlying67 kr c0 h05 he5 rfl fun q4 o4 cs4 _ f0 hr4=>?_)
   obtain ⟨_,_,rfl,rfl,⟨_,_,rfl,rfl,⟨_,_,rfl,rfl,rfl⟩⟩⟩:=hr4
   replace f0:At g2 q4 o4 (vK e5):=f0
   refine Ok.rn 5 [.a 0 f0] [0,3] [(16,.bool (e5.1==1))] ?_
   refine Ok.a 16 (e5.1==1) rfl (fun hc6=>?_) (fun hc6=>?_)
   ·replace hF:=hF.1 hc6
    refine Ok.b 1 [0,3] [(16,.bool true),(17,.slice d0 (cutS xs).length e0)] ?_
    refine Ok.oy (OpOk.indexRo (e:=yK) rfl rfl underlying67 kr c0 h05 he5 rfl fun q7 o7 cs7 _ g0 hr7=>?_)
    obtain ⟨_,_,rfl,rfl,⟨_,_,rfl,rfl,⟨_,_,rfl,rfl,rfl⟩⟩⟩:=hr7
    replace g0:At g2 q7 o7 (vK e5):=g0
    refine Ok.rn 6 [.a 2 g0] [0,3] [(24,.bool (e5.2.2.1==xs))] ?_
    refine Ok.a 24 (e5.2.2.1==xs) rfl (fun hc8=>?_) (fun hc8=>?_)
    ·replace hF:=hF.1 hc8
     refine Ok.b 1 [0] [(24,.bool true),(25,.slice d0 (cutS xs).length e0)] ?_
     refine Ok.oy (OpOk.indexRo (e:=yK) rfl rfl underlying67 kr c0 h05 he5 rfl fun q9 o9 cs9 _ m0 hr9=>?_)
     obtain ⟨_,_,rfl,rfl,⟨_,_,rfl,rfl,⟨_,_,rfl,rfl,rfl⟩⟩⟩:=hr9
     replace m0:At g2 q9 o9 (vK e5):=m0
     refine Ok.rn 6 [.a 1 m0] [] [(2,.bool (e5.2.1==xs))] ?_
     refine Ok.j (Ok.t ?_)
     subst hg5
     refine Ok.rb 2 (rpnV0 xs) (Eq.trans (Eq.trans (mand_t hc8) (mand_t hc6)) (mand_t hc3)) ?_
     exact fg hF
    replace hF:=hF.2 hc8
    refine Ok.B 8 [(2,.bool false)] kr (Ok.j (Ok.t ?_))
    subst hg5
    refine Ok.rb 2 (rpnV0 xs) (Eq.trans (Eq.trans (mand_f hc8) (mand_t hc6)) (mand_t hc3)) ?_
    exact fg hF
   replace hF:=hF.2 hc6
   refine Ok.B 16 [(2,.bool false)] kr (Ok.j (Ok.t ?_))
   subst hg5
   refine Ok.rb 2 (rpnV0 xs) (Eq.trans (mand_f hc6) (mand_t hc3)) ?_
   exact fg hF
  refine Ok.B 23 [(2,.bool false)] kr (Ok.nt (Ok.rb 2 (rpnV0 xs) (mand_f hc3) ?_))
  exact fg hF
 refine Ok.ret ?_
 exact Ok.h1 (.bool (rpnV0 xs)) (hx2.trans o0) ⟨_,rfl,rfl,hF⟩
theorem snmV_eq (xs:Bs):snmV0 xs=plainS xs:=by
 unfold snmV0 plainS
 generalize cutS xs=l
 match l with
 | []=>rfl
 | [t]=>simp [Bool.and_assoc]
 | a::b::l =>
  have h:((((a::b::l).length:Nat):Int)==1)=false:=by simp; omega
  rw [h]; rfl
theorem rpnV_eq (xs:Bs):rpnV0 xs=plainS xs:=by
 rw [← snmV_eq]
 unfold rpnV0 snmV0
 rw [Bool.and_comm (((cutS xs).getD (Int.toNat 0) default).2.2.1==xs)]
theorem snm_F (s:Bs) (hp:cutP s):snmF s (fun r=>r=plainS s):=by
 have j:snmj5 s (fun r=>r=plainS s):=snmV_eq s
 refine ⟨hp,fun h=>⟨by decide,?_,fun _=>⟨fun _=>j,fun _=>j⟩,fun _=>j⟩,fun _=>j⟩
 have:=eq_of_beq h
 show 0<_; omega
theorem rpn_F (s:Bs) (hp:cutP s):rpnF s (fun r=>r=plainS s):=by
 have j:rpnj5 s (fun r=>r=plainS s):=rpnV_eq s
 refine ⟨hp,fun h=>⟨by decide,?_,fun _=>⟨fun _=>j,fun _=>j⟩,fun _=>j⟩,fun _=>j⟩
 have:=eq_of_beq h
 show 0<_; omega
theorem snm_c {g:Ghost} (xs:Bs) (hG0:SomeInt g 0)  (hp:cutP xs):CallsG prog 105 #[sv xs] g (.bool (plainS xs)) :=
 (snm_ok xs hG0 _ (snm_F xs hp)).gv
theorem rpn_c {g:Ghost} (xs:Bs)  (hp:cutP xs):CallsG prog 62 #[sv xs] g (.bool (plainS xs)) :=
 (rpn_ok xs _ (rpn_F xs hp)).gv
def slwV2 (k0:Int) (z0:List Int):List Int :=
 (if ((decide (z0.getD k0.toNat default≥65))&&(decide (z0.getD k0.toNat default≤90)))=true then (z0.set k0.toNat (IntKind.wrap .u8 ((z0.getD k0.toNat default)+32))) else z0)
def slwj16 (k0:Int) (z0:List Int) (C9:Int→List Int→Prop):Prop :=
 C9 (w6 (k0+1)) (slwV2 k0 z0)
def slwl9b (xs:Bs) (K:Bs→Prop) (k0:Int) (z0:List Int) (C9:Int→List Int→Prop):Prop :=
 ((decide (k0<((intsOf xs).length:Int)))=true→0≤k0∧k0.toNat<z0.length∧(((decide (z0.getD k0.toNat default≥65))&&(decide (z0.getD k0.toNat default≤90)))=true→slwj16 k0 z0 C9)∧(((decide (z0.getD k0.toNat default≥65))&&(decide (z0.getD k0.toNat default≤90)))=false→slwj16 k0 z0 C9))∧((decide (k0<((intsOf xs).length:Int)))=false→K (bytesOf z0))
def slwl9 (xs:Bs) (K:Bs→Prop):Nat→Int→List Int→Prop
 | 0,_,_=>False
 | k+1,k0,z0=>slwl9b xs K k0 z0 (slwl9 xs K k)
def slwF (xs:Bs) (K:Bs→Prop):Prop :=
 ∃ k,slwl9 xs K k 0 (intsOf xs)
theorem slw_ok {g:Ghost} (xs:Bs) (K:Bs→Prop)
  (hF:slwF xs K):CallsH prog 106 #[sv xs] g [] (fun g' H' v=>∃ (r0:Bs),v=sv r0∧H'=[]∧K r0):=by
 refine CallsH.en 29 func106 rfl fun w0=>?_
 refine Ok.sr (Ok.B 1 [(0,sv xs)] kr (Ok.nt (Ok.sr (Ok.B 1 [(6,sv xs)] kr (Ok.o (OpOk.bytesB (s:=xs) kr underlying9 underlying26 underlying5 rfl fun a1 c1 xs1 hL1=>?_))))))
 refine Ok.B 1 [(3,.slice a1 (intsOf xs).length c1)] kr (Ok.nt (Ok.q (Ok.sr (Ok.b 3 [3] [(8,.slice a1 (intsOf xs).length c1),(9,iv ((intsOf xs).length:Int)),(10,iv 0)] ?_))))
 refine Ok.nt (Ok.block ?_)
 obtain ⟨k,hF⟩:=hF
 refine Ok.L (fun k a W=>∃ gl9:Ghost,Gext w0 g gl9∧∃ (k0:Int) (v0:Option Addr) (q0:Nat) (z0:List Int) (y0:List Value),RepL gl9 yb y0 z0∧StA 29 [(3,.slice v0 z0.length q0),(8,.slice v0 z0.length q0),(9,iv ((intsOf xs).length:Int)),(10,iv k0)] a∧StW w0 [.ownb (.slice v0 z0.length q0) 5 z0.length y0] gl9 W∧slwl9 xs K k k0 z0) k ?_ ?_
 ·
  exact fun _ _ u v=>⟨g,Gext.r w0 g,0,a1,c1,intsOf xs,xs1,hL1,fA u v hF⟩
 clear hF
 rintro (_ | k9) _ _ ⟨gl9,t0,k0,v0,q0,z0,y0,u0,q⟩
 exact (q.2.2:False).elim
 refine jn (fun hF=>?_) _ _ q
 refine Ok.sr (Ok.b 1 [3,8,9,10] [(11,.bool (decide (k0<((intsOf xs).length:Int))))] ?_)
 refine Ok.nt (Ok.q (Ok.cw hF (fun hc2 hF=>?_) (fun hc2 hF=>?_)))
 ·refine Ok.k (Ok.t (Ok.cut (fun a W=>∃ n0:Ghost,Gext w0 gl9 n0∧∃ (j0:Option Addr) (x0:Nat) (s0:List Value),RepL n0 yb s0 (slwV2 k0 z0)∧StA 29 [(3,.slice j0 (slwV2 k0 z0).length x0),(8,.slice j0 (slwV2 k0 z0).length x0),(9,iv ((intsOf xs).length:Int)),(10,iv k0)] a∧StW w0 [.ownb (.slice j0 (slwV2 k0 z0).length x0) 5 (slwV2 k0 z0).length s0] n0 W∧slwj16 k0 z0 (slwl9 xs K k9)) ?_ ?_))
  ·
   refine Ok.block (Ok.sr (Ok.b 1 [3,8,9,10] [(12,iv k0)] ?_))
   obtain ⟨h04,h14,hF⟩:=hF
   have he4:=get_of (l:=z0) default h14
   generalize hg4:(z0.getD k0.toNat default)=e4 at he4 hF ⊢
   refine Ok.o (OpOk.indexB (q:=k0) (el:=e4) 0 rfl u0 rfl rfl underlying26 kr h04 he4 rfl fun hc3=>?_)
   refine Ok.o (OpOk.s (v:=.int .u8 e4) (Yields.loadB 0 0 rfl hc3 rfl underlying5 rfl kr) rfl rfl (Ok.b 2 [3,8,9,10] [(4,iv k0),(5,.int .u8 e4)] ?_))
   refine Ok.nt (Ok.sr (Ok.b 3 [3,4,5,8,9,10] [(17,.bool (decide (e4≥65)))] ?_))
   refine Ok.w 3 [(3,.slice v0 z0.length q0),(4,iv k0),(5,.int .u8 e4),(8,.slice v0 z0.length q0),(9,iv ((intsOf xs).length:Int)),(10,iv k0),(20,.bool (decide (e4≥65)&&decide (e4≤90)))] (fun hR5=>?_) ?_
   ·refine Ok.a 17 (decide (e4≥65)) rfl (fun hc6=>?_) (fun hc6=>?_)
    ·skip
     refine Ok.b 3 [3,4,5,8,9,10] [(20,.bool (decide (e4≤90)))] ?_
     refine Ok.rb 20 (decide (e4≥65)&&decide (e4≤90)) (mand_t hc6) (Ok.b 0 [3,4,5,8,9,10] [(20,.bool (decide (e4≥65)&&decide (e4≤90)))] ?_)
     exact hR5
    skip
    refine Ok.b 3 [3,4,5,8,9,10] [(20,.bool false)] ?_
    refine Ok.rb 20 (decide (e4≥65)&&decide (e4≤90)) (mand_f hc6) (Ok.b 0 [3,4,5,8,9,10] [(20,.bool (decide (e4≥65)&&decide (e4≤90)))] ?_)
    exact hR5
   refine Ok.nt (Ok.cn hF rfl (fun hc7=>?_) (fun hc7=>?_))
   ·replace hF:=hF.1 hc7
    refine Ok.r (Ok.b 4 [3,8,9,10] [(21,.slice v0 z0.length q0),(22,iv k0),(24,.int .u8 (IntKind.wrap .u8 (e4+32)))] ?_)
    refine Ok.o (OpOk.indexB (q:=k0) (el:=e4) 0 rfl u0 rfl rfl underlying26 kr h04 he4 rfl fun hc8=>?_)
    refine Ok.o (OpOk.storeB (q:=k0.toNat) (el':=IntKind.wrap .u8 (e4+32)) 0 rfl u0 hc8 rfl rfl kr fun xs9 hL9=>?_)
    rw [show z0.length=(z0.set k0.toNat (IntKind.wrap .u8 (e4+32))).length from (List.length_set ..).symm]
    refine Ok.j (Ok.kn (Ok.t ?_))
    subst hg4
    refine Ok.v 3 rfl (show (.slice v0 (z0.set k0.toNat (IntKind.wrap .u8 ((z0.getD k0.toNat default)+32))).length q0:Value)=.slice v0 (slwV2 k0 z0).length q0 from congrArg (fun l:List Int=>Value.slice v0 l.length q0) ((if_t hc7).symm)) ?_
    refine Ok.v 8 rfl (show (.slice v0 (z0.set k0.toNat (IntKind.wrap .u8 ((z0.getD k0.toNat default)+32))).length q0:Value)=.slice v0 (slwV2 k0 z0).length q0 from congrArg (fun l:List Int=>Value.slice v0 l.length q0) ((if_t hc7).symm)) ?_
    refine Ok.heapEq (H':=[.ownb (.slice v0 (slwV2 k0 z0).length q0) 5 (slwV2 k0 z0).length xs9]) (econs (congrArg (fun l:List Int=>Ent.ownb (.slice v0 l.length q0) 5  l.length xs9) ((if_t hc7).symm)) rfl) ?_
    exact fun _ _ u v=>⟨gl9,Gext.r w0 gl9,v0,q0,xs9,(Eq.mp (congrArg (fun l:List Int=>RepL gl9 yb xs9 l) ((if_t hc7).symm)) hL9),fA u v hF⟩
   replace hF:=hF.2 hc7
   refine Ok.k (Ok.kn (Ok.t ?_))
   subst hg4
   refine Ok.v 3 rfl (show (.slice v0 z0.length q0:Value)=.slice v0 (slwV2 k0 z0).length q0 from congrArg (fun l:List Int=>Value.slice v0 l.length q0) ((if_f hc7).symm)) ?_
   refine Ok.v 8 rfl (show (.slice v0 z0.length q0:Value)=.slice v0 (slwV2 k0 z0).length q0 from congrArg (fun l:List Int=>Value.slice v0 l.length q0) ((if_f hc7).symm)) ?_
   refine Ok.heapEq (H':=[.ownb (.slice v0 (slwV2 k0 z0).length q0) 5 (slwV2 k0 z0).length y0]) (econs (congrArg (fun l:List Int=>Ent.ownb (.slice v0 l.length q0) 5  l.length y0) ((if_f hc7).symm)) rfl) ?_
   exact fun _ _ u v=>⟨gl9,Gext.r w0 gl9,v0,q0,y0,(Eq.mp (congrArg (fun l:List Int=>RepL gl9 yb y0 l) ((if_f hc7).symm)) u0),fA u v hF⟩
  clear hF
  rintro _ _ ⟨n0,hxj16,j0,x0,s0,hLyownb1_0j16,q⟩
  refine jn (fun hF=>?_) _ _ q
  refine Ok.r (Ok.b 2 [3,8,9] [(10,iv (w6 (k0+1)))] ?_)
  refine Ok.j (Ok.t ?_)
  exact fun _ _ u v=>⟨k9,nl,n0,t0.trans hxj16,w6 (k0+1),j0,x0,slwV2 k0 z0,s0,hLyownb1_0j16,fA u v hF⟩
 refine Ok.x (Ok.thenE (Ok.thenE (Ok.blockHit (Ok.t (Ok.sr (Ok.B 1 [(27,.slice v0 z0.length q0)] kr (Ok.o (OpOk.s (v:=sv (bytesOf z0)) (Yields.strOfB 0 kr rfl rfl u0 underlying26 underlying9 underlying5) rfl rfl (Ok.B 1 [(2,sv (bytesOf z0))] kr (Ok.nt (Ok.ret ?_)))))))))))
 exact Ok.p1 (sv (bytesOf z0)) t0 ⟨bytesOf z0,rfl,rfl,hF⟩
theorem slw_step {xs:Bs} {i:Nat} (h:i<xs.length):slwV2 (i:Int) (intsOf (lowAt xs i))=intsOf (lowAt xs (i+1)):=by
 have hl:(lowAt xs i).length=xs.length:=by simp [lowAt]; omega
 have hg:(lowAt xs i).getD i 0=xs.getD i 0:=by
  unfold lowAt
  rw [List.getD_eq_getElem?_getD,List.getElem?_append_right (by simp; omega),List.getD_eq_getElem?_getD,List.getElem?_drop]
  congr 2
  simp; omega
 have hs:(lowAt xs i).set i (lowB (xs.getD i 0))=lowAt xs (i+1):=by
  unfold lowAt
  rw [List.set_append_right _ _ (by simp; omega),take_get (0:UInt8) h,drop_get (l:=xs) (0:UInt8) h,List.map_append,List.append_assoc]
  congr 1
  have e:i - ((xs.take i).map lowB).length=0:=by simp; omega
  rw [e]; rfl
 have hn:(lowAt xs i).set i (xs.getD i 0)=lowAt xs i:=by
  rw [← hg,List.getD_eq_getElem?_getD,List.getElem?_eq_getElem om,Option.getD_some,List.set_getElem_self]
 unfold slwV2
 rw [tnc,ints_getD _ _ om,hg,← hs]
 have:=low_eq (xs.getD i 0)
 split
 ·rename_i hc
  rw [if_t hc] at this
  rw [this,ints_set]
 rename_i hc
 rw [if_neg hc] at this
 have:lowB (xs.getD i 0)=xs.getD i 0:=UInt8.toNat_inj.1 om
 rw [this,hn]
theorem slw_loop (xs:Bs) (hP:xs.length≤140737488351232) (K:Bs→Prop) (hK:K (lowerS xs)):∀ (k i:Nat),xs.length=i+k→slwl9 xs K (k+1) (i:Int) (intsOf (lowAt xs i)):=by
 intro k
 induction k with
 | zero =>
  intro i h
  refine ⟨fun hc=>?_,fun _=>?_⟩
  ·have:=of_decide_eq_true hc; rw [intsOf_length] at this; omega
  rw [bytesOf_intsOf,lowAt,List.take_of_length_le om,List.drop_of_length_le om,List.append_nil]
  exact hK
 | succ k ih =>
  intro i h
  refine ⟨fun _=>?_,fun hc=>?_⟩
  ·have hl:(lowAt xs i).length=xs.length:=by simp [lowAt]; omega
   have key:slwj16 (i:Int) (intsOf (lowAt xs i)) (slwl9 xs K (k+1)):=by
    unfold slwj16
    rw [w64 om,slw_step om]
    exact ih (i+1) om
   exact ⟨by omega,by rw [intsOf_length,hl]; omega,fun _=>key,fun _=>key⟩
  have:=of_decide_eq_false hc; rw [intsOf_length] at this; omega
theorem slw_F (s:Bs) (hp:lowerP s):slwF s (fun r=>r=lowerS s) :=
 ⟨s.length+1,slw_loop s hp (fun r=>r=lowerS s) rfl s.length 0 om⟩
theorem slw_c {g:Ghost} (xs:Bs)  (hp:lowerP xs):CallsG prog 106 #[sv xs] g (sv (lowerS xs)) :=
 (slw_ok xs _ (slw_F xs hp)).gv
def hbyl7b (xs:Bs) (xc:Int) (K:Bool→Prop) (b0:Int) (C7:Int→Prop):Prop :=
 ((decide (b0<(xs.length:Int)))=true→0≤b0∧b0.toNat<xs.length∧((((xs.getD b0.toNat 0).toNat:Int)==xc)=true→K true)∧((((xs.getD b0.toNat 0).toNat:Int)==xc)=false→C7 (w6 (b0+1))))∧((decide (b0<(xs.length:Int)))=false→K false)
def hbyl7 (xs:Bs) (xc:Int) (K:Bool→Prop):Nat→Int→Prop
 | 0,_=>False
 | k+1,b0=>hbyl7b xs xc K b0 (hbyl7 xs xc K k)
def hbyF (xs:Bs) (xc:Int) (K:Bool→Prop):Prop :=
 ∃ k,hbyl7 xs xc K k 0
theorem hby_ok {g:Ghost} (xs:Bs) (xc:Int) (K:Bool→Prop)
  (hF:hbyF xs xc K):CallsH prog 36 #[sv xs,.int .u8 xc] g [] (fun g' H' v=>∃ (r0:Bool),v=.bool r0∧H'=[]∧K r0):=by
 refine CallsH.en 17 func36 rfl fun w0=>?_
 refine Ok.sr (Ok.B 1 [(0,sv xs),(1,.int .u8 xc)] kr (Ok.nt (Ok.q (Ok.sr (Ok.b 1 [0,1] [(5,iv 0)] ?_)))))
 refine Ok.nt (Ok.block ?_)
 obtain ⟨k,hF⟩:=hF
 refine Ok.L (fun k a W=>∃ (b0:Int),StA 17 [(0,sv xs),(1,.int .u8 xc),(5,iv b0)] a∧StW w0 [] g W∧hbyl7 xs xc K k b0) k ?_ ?_
 ·
  exact fun _ _ u v=>⟨0,fA u v hF⟩
 clear hF
 rintro (_ | k7) _ _ ⟨b0,q⟩
 exact (q.2.2:False).elim
 refine jn (fun hF=>?_) _ _ q
 refine Ok.q (Ok.sr (Ok.b 4 [0,1,5] [(9,.bool (decide (b0<(xs.length:Int))))] ?_))
 refine Ok.nt (Ok.cw hF (fun hc1 hF=>?_) (fun hc1 hF=>?_))
 ·refine Ok.k (Ok.t (Ok.q (Ok.block (Ok.sr (Ok.b 2 [0,1,5] [(12,sv xs),(13,iv b0)] ?_)))))
  obtain ⟨h02,h12,hF⟩:=hF
  have he2:=get_of (l:=xs) (0:UInt8) h12
  generalize hg2:(xs.getD b0.toNat 0)=e2 at he2 hF ⊢
  refine Ok.o (OpOk.s (v:=.int .u8 (e2.toNat:Int)) (Yields.ix (k:=.i64) (i:=b0) (s:=xs) (b:=e2) kr kr underlying9 h02 he2) rfl rfl (Ok.b 2 [0,1,5] [(16,.bool ((e2.toNat:Int)==xc))] ?_))
  refine Ok.nt (Ok.cn hF rfl (fun hc3=>?_) (fun hc3=>?_))
  ·replace hF:=hF.1 hc3
   refine Ok.sr (Ok.B 1 [(4,.bool true)] kr (Ok.nt (Ok.ret (Ok.kr (Ok.tr (Ok.tr (Ok.kr (Ok.tr ?_))))))))
   exact Ok.pb true hF
  replace hF:=hF.2 hc3
  refine Ok.k (Ok.kn (Ok.t (Ok.r (Ok.b 3 [0,1] [(5,iv (w6 (b0+1)))] ?_))))
  refine Ok.j (Ok.t ?_)
  subst hg2
  exact fun _ _ u v=>⟨k7,nl,w6 (b0+1),fA u v hF⟩
 refine Ok.x (Ok.thenE (Ok.thenE (Ok.blockHit (Ok.t (Ok.sr (Ok.B 1 [(4,.bool false)] kr (Ok.nt (Ok.ret ?_))))))))
 exact Ok.pb false hF
def hbyS (s:Bs) (c:Int):Bool:=s.any fun x=>((x.toNat:Int)==c)
def hbyP (s:Bs) (c:Int):Prop:=s.length≤140737488351232
theorem hby_F (s:Bs) (c:Int) (hp:hbyP s c):hbyF s c (fun r=>r=hbyS s c):=by
 unfold hbyP at hp
 have loop:∀ (m i:Nat),i+m=s.length→hbyS s c=hbyS (s.drop i) c→hbyl7 s c (fun r=>r=hbyS s c) (m+1) (i:Int):=by
  intro m
  induction m with
  | zero =>
   intro i hi he
   rw [List.drop_of_length_le om] at he
   exact ⟨fun hc=>absurd (of_decide_eq_true hc) om,fun _=>he.symm⟩
  | succ m ih =>
   intro i hi he
   have hi':i<s.length:=by omega
   rw [drop_get (l:=s) 0 hi'] at he
   have he:hbyS s c=((((s.getD i 0).toNat:Int)==c)||hbyS (s.drop (i+1)) c):=he
   refine ⟨fun _=>⟨by omega,by omega,?_⟩,fun hc=>absurd (of_decide_eq_false hc) om⟩
   rw [tnc]
   refine ⟨fun hc=>?_,fun hc=>?_⟩
   ·rw [he,hc,Bool.true_or]
   rw [hc,Bool.false_or] at he
   rw [w64 om,show (i:Int)+1=((i+1:Nat):Int) by omega]
   exact ih (i+1) om he
 exact ⟨_,loop s.length 0 om rfl⟩
theorem hby_c {g:Ghost} (xs:Bs) (xc:Int)  (hp:hbyP xs xc):CallsG prog 36 #[sv xs,.int .u8 xc] g (.bool (hbyS xs xc)) :=
 (hby_ok xs xc _ (hby_F xs xc hp)).gv
theorem ib_ops {c:Int} (h:0≤c∧c≤255):decide (ibS [61,126,124,94,36,42] c<0) = !(hbyS [61,126,124,94,36,42] c):=by
 have:∀ n:Fin 256,decide (ibS [61,126,124,94,36,42] (n.val:Int)<0) = !(hbyS [61,126,124,94,36,42] (n.val:Int)):=by decide +kernel
 have h2:=this ⟨c.toNat,by omega⟩
 rw [show ((⟨c.toNat,by omega⟩:Fin 256).val:Int)=c by show (c.toNat:Int)=c; omega] at h2
 exact h2
theorem ib_joins {c:Int} (h:0≤c∧c≤255):decide (ibS [32,62,43,126] c<0) = !(hbyS [32,62,43,126] c):=by
 have:∀ n:Fin 256,decide (ibS [32,62,43,126] (n.val:Int)<0) = !(hbyS [32,62,43,126] (n.val:Int)):=by decide +kernel
 have h2:=this ⟨c.toNat,by omega⟩
 rw [show ((⟨c.toNat,by omega⟩:Fin 256).val:Int)=c by show (c.toNat:Int)=c; omega] at h2
 exact h2
end Go.Proofs.YtdapgmigogpdcaaGreatDoor.Se
