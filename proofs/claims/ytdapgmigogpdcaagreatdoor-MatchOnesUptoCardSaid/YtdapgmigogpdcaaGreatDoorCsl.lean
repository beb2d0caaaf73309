/- csstok.lower. -/
import Derived.Test.YtdapgmigogpdcaaGreatDoorCsn
import Derived.Test.YtdapgmigogpdcaaGreatDoorByt
namespace Go.Proofs.YtdapgmigogpdcaaGreatDoor.Css
open _root_.Go.Proofs.Tryz Go Go.Eng Bld Trm
set_option linter.unusedVariables false
set_option linter.unusedSimpArgs false
set_option maxHeartbeats 4000000
set_option maxRecDepth 100000
def lowerV2 (k0:Int) (z0:List Int):List Int :=
 (if ((decide (z0.getD k0.toNat default≥65))&&(decide (z0.getD k0.toNat default≤90)))=true then (z0.set k0.toNat (IntKind.wrap .u8 ((z0.getD k0.toNat default)+32))) else z0)
def lowerj16 (k0:Int) (z0:List Int) (C9:Int→List Int→Prop):Prop :=
 C9 (w6 (k0+1)) (lowerV2 k0 z0)
def lowerl9b (xs:Bs) (K:Bs→Prop) (k0:Int) (z0:List Int) (C9:Int→List Int→Prop):Prop :=
 ((decide (k0<((intsOf xs).length:Int)))=true→0≤k0∧k0.toNat<z0.length∧(((decide (z0.getD k0.toNat default≥65))&&(decide (z0.getD k0.toNat default≤90)))=true→lowerj16 k0 z0 C9)∧(((decide (z0.getD k0.toNat default≥65))&&(decide (z0.getD k0.toNat default≤90)))=false→lowerj16 k0 z0 C9))∧((decide (k0<((intsOf xs).length:Int)))=false→K (bytesOf z0))
def lowerl9 (xs:Bs) (K:Bs→Prop):Nat→Int→List Int→Prop
 | 0,_,_=>False
 | k+1,k0,z0=>lowerl9b xs K k0 z0 (lowerl9 xs K k)
def lowerF (xs:Bs) (K:Bs→Prop):Prop :=
 ∃ k,lowerl9 xs K k 0 (intsOf xs)
theorem lower_ok {g:Ghost} (xs:Bs) (K:Bs→Prop)
  (hF:lowerF xs K):CallsH prog 141 #[sv xs] g [] (fun g' H' v=>∃ (r0:Bs),v=sv r0∧H'=[]∧K r0):=by
 refine CallsH.en 29 func141 rfl fun w0=>?_
 refine Ok.sr (Ok.B 1 [(0,sv xs)] kr (Ok.nt (Ok.sr (Ok.B 1 [(6,sv xs)] kr (Ok.o (OpOk.bytesB (s:=xs) kr underlying9 underlying26 underlying5 rfl fun a1 c1 xs1 hL1=>?_))))))
 refine Ok.B 1 [(3,.slice a1 (intsOf xs).length c1)] kr (Ok.nt (Ok.q (Ok.sr (Ok.b 3 [3] [(8,.slice a1 (intsOf xs).length c1),(9,iv ((intsOf xs).length:Int)),(10,iv 0)] ?_))))
 refine Ok.nt (Ok.block ?_)
 obtain ⟨k,hF⟩:=hF
 refine Ok.L (fun k a W=>∃ gl9:Ghost,Gext w0 g gl9∧∃ (k0:Int) (v0:Option Addr) (q0:Nat) (z0:List Int) (y0:List Value),RepL gl9 yb y0 z0∧StA 29 [(3,.slice v0 z0.length q0),(8,.slice v0 z0.length q0),(9,iv ((intsOf xs).length:Int)),(10,iv k0)] a∧StW w0 [.ownb (.slice v0 z0.length q0) 5 z0.length y0] gl9 W∧lowerl9 xs K k k0 z0) k ?_ ?_
 ·
  exact fun _ _ u v=>⟨g,Gext.r w0 g,0,a1,c1,intsOf xs,xs1,hL1,fA u v hF⟩
 clear hF
 rintro (_ | k9) _ _ ⟨gl9,c0,k0,v0,q0,z0,y0,u0,q⟩
 exact (q.2.2:False).elim
 refine jn (fun hF=>?_) _ _ q
 refine Ok.sr (Ok.b 1 [3,8,9,10] [(11,.bool (decide (k0<((intsOf xs).length:Int))))] ?_)
 refine Ok.nt (Ok.q (Ok.cw hF (fun hc2 hF=>?_) (fun hc2 hF=>?_)))
 ·refine Ok.k (Ok.t (Ok.cut (fun a W=>∃ b0:Ghost,Gext w0 gl9 b0∧∃ (j0:Option Addr) (x0:Nat) (s0:List Value),RepL b0 yb s0 (lowerV2 k0 z0)∧StA 29 [(3,.slice j0 (lowerV2 k0 z0).length x0),(8,.slice j0 (lowerV2 k0 z0).length x0),(9,iv ((intsOf xs).length:Int)),(10,iv k0)] a∧StW w0 [.ownb (.slice j0 (lowerV2 k0 z0).length x0) 5 (lowerV2 k0 z0).length s0] b0 W∧lowerj16 k0 z0 (lowerl9 xs K k9)) ?_ ?_))
  ·
   refine Ok.block (Ok.sr (Ok.b 1 [3,8,9,10] [(12,iv k0)] ?_))
   obtain ⟨h04,h14,hF⟩:=hF
   have he4:=get_of (l:=z0) default h14
   generalize hg4:(z0.getD k0.toNat default)=e4 at he4 hF ⊢
   refine Ok.o (OpOk.indexB (q:=k0) (el:=e4) 0 rfl u0 rfl rfl underlying26 kr h04 he4 rfl fun hc3=>?_)
   refine Ok.o (OpOk.s (v:=.int .u8 e4) (Yields.loadB 0 0 rfl hc3 rfl underlying5 rfl kr) rfl rfl (Ok.b 2 [3,8,9,10] [(4,iv k0),(5,.int .u8 e4)] ?_))
   refine Ok.nt (Ok.sr (Ok.b 3 [3,4,5,8,9,10] [(17,.bool (decide (e4≥65)))] ?_))
   refine Ok.w 3 [(3,.slice v0 z0.length q0),(4,iv k0),(5,.int .u8 e4),(8,.slice v0 z0.length q0),(9,iv ((intsOf xs).length:Int)),(10,iv k0),(20,.bool (decide (e4≥65)&&decide (e4≤90)))] (fun hR5=>?_) ?_
   ·refine Ok.a 17 (decide (e4≥65)) rfl (fun hc6=>?_) (fun hc6=>?_)
    ·skip
     refine Ok.b 3 [3,4,5,8,9,10] [(20,.bool (decide (e4≤90)))] ?_
     refine Ok.rb 20 (decide (e4≥65)&&decide (e4≤90)) (mand_t hc6) (Ok.b 0 [3,4,5,8,9,10] [(20,.bool (decide (e4≥65)&&decide (e4≤90)))] ?_)
     exact hR5
    skip
    refine Ok.b 3 [3,4,5,8,9,10] [(20,.bool false)] ?_
    refine Ok.rb 20 (decide (e4≥65)&&decide (e4≤90)) (mand_f hc6) (Ok.b 0 [3,4,5,8,9,10] [(20,.bool (decide (e4≥65)&&decide (e4≤90)))] ?_)
    exact hR5
   refine Ok.nt (Ok.cn hF rfl (fun hc7=>?_) (fun hc7=>?_))
   ·replace hF:=hF.1 hc7
    refine Ok.r (Ok.b 4 [3,8,9,10] [(21,.slice v0 z0.length q0),(22,iv k0),(24,.int .u8 (IntKind.wrap .u8 (e4+32)))] ?_)
    refine Ok.o (OpOk.indexB (q:=k0) (el:=e4) 0 rfl u0 rfl rfl underlying26 kr h04 he4 rfl fun hc8=>?_)
    refine Ok.o (OpOk.storeB (q:=k0.toNat) (el':=IntKind.wrap .u8 (e4+32)) 0 rfl u0 hc8 rfl rfl kr fun xs9 hL9=>?_)
    rw [show z0.length=(z0.set k0.toNat (IntKind.wrap .u8 (e4+32))).length from (List.length_set ..).symm]
    refine Ok.j (Ok.kn (Ok.t ?_))
    subst hg4
    refine Ok.v 3 rfl (show (.slice v0 (z0.set k0.toNat (IntKind.wrap .u8 ((z0.getD k0.toNat default)+32))).length q0:Value)=.slice v0 (lowerV2 k0 z0).length q0 from congrArg (fun l:List Int=>Value.slice v0 l.length q0) ((if_t hc7).symm)) ?_
    refine Ok.v 8 rfl (show (.slice v0 (z0.set k0.toNat (IntKind.wrap .u8 ((z0.getD k0.toNat default)+32))).length q0:Value)=.slice v0 (lowerV2 k0 z0).length q0 from congrArg (fun l:List Int=>Value.slice v0 l.length q0) ((if_t hc7).symm)) ?_
    refine Ok.heapEq (H':=[.ownb (.slice v0 (lowerV2 k0 z0).length q0) 5 (lowerV2 k0 z0).length xs9]) (econs (congrArg (fun l:List Int=>Ent.ownb (.slice v0 l.length q0) 5  l.length xs9) ((if_t hc7).symm)) rfl) ?_
    exact fun _ _ u v=>⟨gl9,Gext.r w0 gl9,v0,q0,xs9,(Eq.mp (congrArg (fun l:List Int=>RepL gl9 yb xs9 l) ((if_t hc7).symm)) hL9),fA u v hF⟩
   replace hF:=hF.2 hc7
   refine Ok.k (Ok.kn (Ok.t ?_))
   subst hg4
   refine Ok.v 3 rfl (show (.slice v0 z0.length q0:Value)=.slice v0 (lowerV2 k0 z0).length q0 from congrArg (fun l:List Int=>Value.slice v0 l.length q0) ((if_f hc7).symm)) ?_
   refine Ok.v 8 rfl (show (.slice v0 z0.length q0:Value)=.slice v0 (lowerV2 k0 z0).length q0 from congrArg (fun l:List Int=>Value.slice v0 l.length q0) ((if_f hc7).symm)) ?_
   refine Ok.heapEq (H':=[.ownb (.slice v0 (lowerV2 k0 z0).length q0) 5 (lowerV2 k0 z0).length y0]) (econs (congrArg (fun l:List Int=>Ent.ownb (.slice v0 l.length q0) 5  l.length y0) ((if_f hc7).symm)) rfl) ?_
   exact fun _ _ u v=>⟨gl9,Gext.r w0 gl9,v0,q0,y0,(Eq.mp (congrArg (fun l:List Int=>RepL gl9 yb y0 l) ((if_f hc7).symm)) u0),fA u v hF⟩
  clear hF
  rintro _ _ ⟨b0,hxj16,j0,x0,s0,hLyownb1_0j16,q⟩
  refine jn (fun hF=>?_) _ _ q
  refine Ok.r (Ok.b 2 [3,8,9] [(10,iv (w6 (k0+1)))] ?_)
  refine Ok.j (Ok.t ?_)
  exact fun _ _ u v=>⟨k9,nl,b0,c0.trans hxj16,w6 (k0+1),j0,x0,lowerV2 k0 z0,s0,hLyownb1_0j16,fA u v hF⟩
 refine Ok.x (Ok.thenE (Ok.thenE (Ok.blockHit (Ok.t (Ok.sr (Ok.B 1 [(27,.slice v0 z0.length q0)] kr (Ok.o (OpOk.s (v:=sv (bytesOf z0)) (Yields.strOfB 0 kr rfl rfl u0 underlying26 underlying9 underlying5) rfl rfl (Ok.B 1 [(2,sv (bytesOf z0))] kr (Ok.nt (Ok.ret ?_)))))))))))
 exact Ok.p1 (sv (bytesOf z0)) c0 ⟨bytesOf z0,rfl,rfl,hF⟩
end Go.Proofs.YtdapgmigogpdcaaGreatDoor.Css
