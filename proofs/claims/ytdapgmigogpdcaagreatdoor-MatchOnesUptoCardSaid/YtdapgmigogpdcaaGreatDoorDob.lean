/- Documents: kids, parents, the whole. -/
import Derived.Test.YtdapgmigogpdcaaGreatDoorDoa
import Derived.Test.YtdapgmigogpdcaaGreatDoorByt
namespace Go.Proofs.YtdapgmigogpdcaaGreatDoor.Do
open _root_.Go.Proofs.Tryz Go Go.Eng Go.RowKit Ti
set_option linter.unusedVariables false
set_option linter.unusedSimpArgs false
set_option maxHeartbeats 4000000
set_option maxRecDepth 100000
abbrev ND:=Nd
abbrev DC:=List ND×Bool
def par (l:List ND) (k:Nat):Int:=(l.getD k default).2.2.2.2.1
def kidsOf (l:List ND) (k:Nat):List Int:=(l.getD k default).2.2.2.2.2
/-- kids and parents agree -/
structure KGood (l:List ND):Prop where
 kid:∀ i,i<l.length→∀ k ∈ kidsOf l i,0≤k∧k<(l.length:Int)∧par l k.toNat=(i:Int)
 up:∀ k,k<l.length→par l k = -1∨∃ i,i<l.length∧par l k=(i:Int)∧(k:Int) ∈ kidsOf l i
 root:par l 0 = -1
 nodup:∀ i,i<l.length→(kidsOf l i).Nodup
def dkidj42 (xd:Dc) (K:Int→Prop) (e5:Nd) (e9:Int) (k0:Int) (z0:List Bool) (q0:Int) (C23:Int→List Bool→Prop):Prop :=
 (((q0==0)&&((xd.1.getD e9.toNat default).1==3))=true→K 7)∧(((q0==0)&&((xd.1.getD e9.toNat default).1==3))=false→0≤e9∧e9.toNat<z0.length∧C23 (w6 (k0+1)) (z0.set (Int.toNat (e5.2.2.2.2.2.getD k0.toNat default)) true))
def dkidj36 (xd:Dc) (K:Int→Prop) (e5:Nd) (e9:Int) (k0:Int) (z0:List Bool) (q0:Int) (C23:Int→List Bool→Prop):Prop :=
 (((decide (e9<0)||(decide (e9≥(z0.length:Int))))||(((xd.1.getD e9.toNat default).2.2.2.2.1 != q0)||z0.getD e9.toNat default))=true→K 3)∧(((decide (e9<0)||(decide (e9≥(z0.length:Int))))||(((xd.1.getD e9.toNat default).2.2.2.2.1 != q0)||z0.getD e9.toNat default))=false→((q0==0)=true→0≤e9∧e9.toNat<xd.1.length∧dkidj42 xd K e5 e9 k0 z0 q0 C23)∧((q0==0)=false→dkidj42 xd K e5 e9 k0 z0 q0 C23))
def dkidl23b (xd:Dc) (K:Int→Prop) (e5:Nd) (q0:Int) (C9:Int→List Bool→Prop) (k0:Int) (z0:List Bool) (C23:Int→List Bool→Prop):Prop :=
 ((decide (k0<(e5.2.2.2.2.2.length:Int)))=true→0≤k0∧k0.toNat<e5.2.2.2.2.2.length∧(((decide (e5.2.2.2.2.2.getD k0.toNat default<0))||(decide (e5.2.2.2.2.2.getD k0.toNat default≥(z0.length:Int))))=true→dkidj36 xd K e5 (e5.2.2.2.2.2.getD k0.toNat default) k0 z0 q0 C23)∧(((decide (e5.2.2.2.2.2.getD k0.toNat default<0))||(decide (e5.2.2.2.2.2.getD k0.toNat default≥(z0.length:Int))))=false→0≤e5.2.2.2.2.2.getD k0.toNat default∧Int.toNat (e5.2.2.2.2.2.getD k0.toNat default)<xd.1.length∧(((xd.1.getD (Int.toNat (e5.2.2.2.2.2.getD k0.toNat default)) default).2.2.2.2.1 != q0)=true→dkidj36 xd K e5 (e5.2.2.2.2.2.getD k0.toNat default) k0 z0 q0 C23)∧(((xd.1.getD (Int.toNat (e5.2.2.2.2.2.getD k0.toNat default)) default).2.2.2.2.1 != q0)=false→0≤e5.2.2.2.2.2.getD k0.toNat default∧Int.toNat (e5.2.2.2.2.2.getD k0.toNat default)<z0.length∧dkidj36 xd K e5 (e5.2.2.2.2.2.getD k0.toNat default) k0 z0 q0 C23)))∧((decide (k0<(e5.2.2.2.2.2.length:Int)))=false→C9 (w6 (q0+1)) z0)
def dkidl23 (xd:Dc) (K:Int→Prop) (e5:Nd) (q0:Int) (C9:Int→List Bool→Prop):Nat→Int→List Bool→Prop
 | 0,_,_=>False
 | k+1,k0,z0=>dkidl23b xd K e5 q0 C9 k0 z0 (dkidl23 xd K e5 q0 C9 k)
def dkidj67 (K:Int→Prop) (v0:List Bool) (y0:Int) (e28:Nd) (C56:Int→Prop):Prop :=
 (((e28.2.2.2.2.1 != (-1))&&(!(v0.getD y0.toNat default)))=true→K 3)∧(((e28.2.2.2.2.1 != (-1))&&(!(v0.getD y0.toNat default)))=false→C56 (w6 (y0+1)))
def dkidl56b (xd:Dc) (K:Int→Prop) (v0:List Bool) (y0:Int) (C56:Int→Prop):Prop :=
 ((decide (y0<(xd.1.length:Int)))=true→0≤y0∧y0.toNat<xd.1.length∧(((xd.1.getD y0.toNat default).2.2.2.2.1 != (-1))=true→0≤y0∧y0.toNat<v0.length∧dkidj67 K v0 y0 (xd.1.getD y0.toNat default) C56)∧(((xd.1.getD y0.toNat default).2.2.2.2.1 != (-1))=false→dkidj67 K v0 y0 (xd.1.getD y0.toNat default) C56))∧((decide (y0<(xd.1.length:Int)))=false→(0:Int)≤0∧Int.toNat 0<xd.1.length∧(((xd.1.getD (Int.toNat 0) default).2.2.2.2.1 != (-1))=true→K 3)∧(((xd.1.getD (Int.toNat 0) default).2.2.2.2.1 != (-1))=false→K 0))
def dkidl56 (xd:Dc) (K:Int→Prop) (v0:List Bool):Nat→Int→Prop
 | 0,_=>False
 | k+1,y0=>dkidl56b xd K v0 y0 (dkidl56 xd K v0 k)
def dkidl9b (xd:Dc) (K:Int→Prop) (q0:Int) (v0:List Bool) (C9:Int→List Bool→Prop):Prop :=
 ((decide (q0<(xd.1.length:Int)))=true→0≤q0∧q0.toNat<xd.1.length∧∃ k,dkidl23 xd K (xd.1.getD q0.toNat default) q0 C9 k 0 v0)∧((decide (q0<(xd.1.length:Int)))=false→∃ k,dkidl56 xd K v0 k 0)
def dkidl9 (xd:Dc) (K:Int→Prop):Nat→Int→List Bool→Prop
 | 0,_,_=>False
 | k+1,q0,v0=>dkidl9b xd K q0 v0 (dkidl9 xd K k)
def dkidF (xd:Dc) (K:Int→Prop):Prop :=
 0≤(xd.1.length:Int)∧(xd.1.length:Int)≤140737488355328∧∃ k,dkidl9 xd K k 0 (List.replicate (Int.toNat (xd.1.length:Int)) false)
theorem dkid_ok {g:Ghost} {u0:Option Addr} {j0:Nat} (xd:Dc) (b0:Rep g yNs [.slice u0 xd.1.length j0] xd.1) (K:Int→Prop)
  (hF:dkidF xd K):CallsH prog 18 #[.agg (aD xd u0 j0)] g [] (fun g' H' v=>∃ (r0:Int),v=iv r0∧H'=[]∧K r0):=by
 refine CallsH.en 96 func18 rfl fun w0=>?_
 refine Ok.sr (Ok.o (OpOk.bx (aD xd u0 j0) fun bs1=>?_))
 refine Ok.B 1 [(1,pv bs1 0)] kr (Ok.nt (Ok.sr (Ok.rn 3 [.e 0] [1] [(12,iv (xd.1.length:Int))] ?_)))
 obtain ⟨h02,h12,hF⟩:=hF
 refine Ok.o (OpOk.makeZero (e:=.bool) (E:=4) (nn:=(xd.1.length:Int)) (y:=false) (z:=.bool false) 1 140737488355328 rfl rfl underlying75 kr kr kr rfl h02 h12 rfl fun a2 c2 xs2 hL2=>?_)
 refine Ok.b 1 [1] [(3,.slice a2 (List.replicate (Int.toNat (xd.1.length:Int)) false).length c2)] ?_
 refine Ok.nt (Ok.q (Ok.sr (Ok.rn 4 [.e 1] [1,3] [(15,.slice u0 xd.1.length j0),(16,iv (xd.1.length:Int)),(17,iv 0)] ?_)))
 refine Ok.nt (Ok.block ?_)
 obtain ⟨k,hF⟩:=hF
 refine Ok.L (fun k a W=>∃ gl9:Ghost,Gext w0 g gl9∧∃ (q0:Int) (m0:Option Addr) (n0:Nat) (v0:List Bool) (o0:List Value),RepL gl9 (.bool) o0 v0∧StA 96 [(1,pv bs1 0),(3,.slice m0 v0.length n0),(15,.slice u0 xd.1.length j0),(16,iv (xd.1.length:Int)),(17,iv q0)] a∧StW w0 [.own (.slice m0 v0.length n0) 4 1 v0.length o0,.blk bs1 (.cells (aD xd u0 j0) 24)] gl9 W∧dkidl9 xd K k q0 v0) k ?_ ?_
 ·
  exact fun _ _ u v=>⟨g,Gext.r w0 g,0,a2,c2,(List.replicate (Int.toNat (xd.1.length:Int)) false),xs2,hL2,fA u v hF⟩
 clear hF
 rintro (_ | k9) _ _ ⟨gl9,F0,q0,m0,n0,v0,o0,t0,q⟩
 exact (q.2.2:False).elim
 refine jn (fun hF=>?_) _ _ q
 replace b0:=b0.mono F0.1
 refine Ok.sr (Ok.b 1 [1,3,15,16,17] [(18,.bool (decide (q0<(xd.1.length:Int))))] ?_)
 refine Ok.nt (Ok.q (Ok.cw hF (fun hc3 hF=>?_) (fun hc3 hF=>?_)))
 ·refine Ok.k (Ok.t (Ok.q (Ok.block (Ok.sr (Ok.b 1 [1,3,15,16,17] [(19,iv q0)] ?_)))))
  obtain ⟨h05,h15,hF⟩:=hF
  have he5:=get_of (l:=xd.1) default h15
  generalize hg5:(xd.1.getD q0.toNat default)=e5 at he5 hF ⊢
  refine Ok.o (OpOk.indexRo (e:=yN) rfl rfl underlying22 kr b0 h05 he5 rfl fun q4 o4 cs4 _ hat4 hr4=>?_)
  obtain ⟨P0,T0,Q0,K0,rfl,hR4_2,V0⟩:=oN hr4
  refine Ok.o (OpOk.s (v:=.agg (aN e5 P0 T0 Q0 K0)) (Yields.loadAggRo 0 6 (aN e5 P0 T0 Q0 K0) hat4 kr underlying48 rfl kr kr kr) rfl rfl (Ok.o (OpOk.aw #[iv 0,sv ([]:Bs),.slice none 0 0,sv ([]:Bs),iv 0,.slice none 0 0] fun bs5=>?_)))
  refine Ok.b 1 [1,3,15,16,17] [(4,iv q0),(5,pv bs5 0),(21,.agg (aN e5 P0 T0 Q0 K0))] ?_
  refine Ok.o (OpOk.sw 0 (aN e5 P0 T0 Q0 K0) rfl rfl rfl ?_)
  refine Ok.nt (Ok.sr (Ok.rn 4 [.e 0] [1,3,4,15,16,17] [(23,.slice Q0 e5.2.2.2.2.2.length K0),(24,iv (e5.2.2.2.2.2.length:Int)),(25,iv 0)] ?_))
  refine Ok.nt (Ok.block ?_)
  obtain ⟨k,hF⟩:=hF
  refine Ok.L (fun k a W=>∃ Z0:Ghost,Gext w0 gl9 Z0∧∃ (k0:Int) (x0:Option Addr) (s0:Nat) (z0:List Bool) (e0:List Value),RepL Z0 (.bool) e0 z0∧StA 96 [(1,pv bs1 0),(3,.slice x0 z0.length s0),(4,iv q0),(15,.slice u0 xd.1.length j0),(16,iv (xd.1.length:Int)),(17,iv q0),(23,.slice Q0 e5.2.2.2.2.2.length K0),(24,iv (e5.2.2.2.2.2.length:Int)),(25,iv k0)] a∧StW w0 [.own (.slice x0 z0.length s0) 4 1 z0.length e0,.blk bs1 (.cells (aD xd u0 j0) 24)] Z0 W∧dkidl23 xd K e5 q0 (dkidl9 xd K k9) k k0 z0) k ?_ ?_
  ·
   exact fun _ _ u v=>⟨gl9,Gext.r w0 gl9,0,m0,n0,v0,o0,t0,fA u v hF⟩
  clear hF
  rintro (_ | k23) _ _ ⟨Z0,Y0,k0,x0,s0,z0,e0,f0,q⟩
  exact (q.2.2:False).elim
  refine jn (fun hF=>?_) _ _ q
  replace b0:=b0.mono Y0.1
  replace V0:=V0.mono Y0.1
  refine Ok.sr (Ok.b 1 [1,3,4,15,16,17,23,24,25] [(26,.bool (decide (k0<(e5.2.2.2.2.2.length:Int))))] ?_)
  refine Ok.nt (Ok.q (Ok.cn hF rfl (fun hc7=>?_) (fun hc7=>?_)))
  ·replace hF:=hF.1 hc7
   refine Ok.k (Ok.t (Ok.q (Ok.block (Ok.q (Ok.r ?_)))))
   obtain ⟨h09,h19,hF⟩:=hF
   have he9:=get_of (l:=e5.2.2.2.2.2) default h19
   generalize hg9:(e5.2.2.2.2.2.getD k0.toNat default)=e9 at he9 hF ⊢
   refine Ok.o (OpOk.indexRo (e:=.int .i64) rfl rfl underlying46 kr V0 h09 he9 rfl fun q8 o8 cs8 _ j1 hr8=>?_)
   obtain rfl:=hr8
   replace j1:At Z0 q8 o8 [iv e9]:=j1
   refine Ok.rn 2 [.a 0 j1] [1,3,4,15,16,17,23,24,25] [(7,iv e9)] ?_
   refine Ok.nt (Ok.q (Ok.block (Ok.cut (fun a W=>∃ W0:Ghost,Gext w0 Z0 W0∧StA 96 [(1,pv bs1 0),(3,.slice x0 z0.length s0),(4,iv q0),(7,iv e9),(15,.slice u0 xd.1.length j0),(16,iv (xd.1.length:Int)),(17,iv q0),(23,.slice Q0 e5.2.2.2.2.2.length K0),(24,iv (e5.2.2.2.2.2.length:Int)),(25,iv k0),(29,.bool ((decide (e9<0)||(decide (e9≥(z0.length:Int))))||(((xd.1.getD e9.toNat default).2.2.2.2.1 != q0)||z0.getD e9.toNat default)))] a∧StW w0 [.own (.slice x0 z0.length s0) 4 1 z0.length e0,.blk bs1 (.cells (aD xd u0 j0) 24)] W0 W∧dkidj36 xd K e5 e9 k0 z0 q0 (dkidl23 xd K e5 q0 (dkidl9 xd K k9) k23)) ?_ ?_)))
   ·
    refine Ok.r (Ok.b 3 [1,3,4,7,15,16,17,23,24,25] [(32,.bool (decide (e9<0)))] ?_)
    refine Ok.w 5 [(1,pv bs1 0),(3,.slice x0 z0.length s0),(4,iv q0),(7,iv e9),(15,.slice u0 xd.1.length j0),(16,iv (xd.1.length:Int)),(17,iv q0),(23,.slice Q0 e5.2.2.2.2.2.length K0),(24,iv (e5.2.2.2.2.2.length:Int)),(25,iv k0),(37,.bool (decide (e9<0)||(decide (e9≥(z0.length:Int)))))] (fun o1=>?_) ?_
    ·refine Ok.a 32 (decide (e9<0)) rfl (fun x1=>?_) (fun x1=>?_)
     ·skip
      refine Ok.b 5 [1,3,4,7,15,16,17,23,24,25] [(37,.bool true)] ?_
      refine Ok.rb 37 (decide (e9<0)||(decide (e9≥(z0.length:Int)))) (mor_t x1) (Ok.b 0 [1,3,4,7,15,16,17,23,24,25] [(37,.bool (decide (e9<0)||(decide (e9≥(z0.length:Int)))))] ?_)
      exact o1
     skip
     refine Ok.b 5 [1,3,4,7,15,16,17,23,24,25] [(37,.bool (decide (e9≥(z0.length:Int))))] ?_
     refine Ok.rb 37 (decide (e9<0)||(decide (e9≥(z0.length:Int)))) (mor_f x1) (Ok.b 0 [1,3,4,7,15,16,17,23,24,25] [(37,.bool (decide (e9<0)||(decide (e9≥(z0.length:Int)))))] ?_)
     exact o1
    refine Ok.b 1 [1,3,4,7,15,16,17,23,24,25] [(38,.bool (decide (e9<0)||(decide (e9≥(z0.length:Int)))))] ?_
    refine Ok.bw 38 hF (fun v1 hF=>?_) (fun v1 hF=>?_)
    ·refine Ok.b 16 [1,3,4,7,15,16,17,23,24,25] [(29,.bool true)] ?_
     refine Ok.nt (Ok.rb 29 ((decide (e9<0)||(decide (e9≥(z0.length:Int))))||(((xd.1.getD e9.toNat default).2.2.2.2.1 != q0)||z0.getD e9.toNat default)) (mor_t v1) ?_)
     exact fg hF
    refine Ok.rn 3 [.e 1] [1,3,4,7,15,16,17,23,24,25] [(38,.bool false),(40,.slice u0 xd.1.length j0),(41,iv e9)] ?_
    obtain ⟨h022,h122,hF⟩:=hF
    have r1:=get_of (l:=xd.1) default h122
    generalize t1:(xd.1.getD e9.toNat default)=e22 at r1 hF ⊢
    refine Ok.oy (OpOk.indexRo (e:=yN) rfl rfl underlying22 kr b0 h022 r1 rfl fun q21 o21 cs21 _ hat21 hr21=>?_)
    obtain ⟨a21_2,c21_2,a21_5,c21_5,rfl,hR21_2,hR21_5⟩:=oN hr21
    refine Ok.rn 6 [.a 4 hat21] [1,3,4,7,15,16,17,23,24,25] [(48,.bool (e22.2.2.2.2.1 != q0))] ?_
    refine Ok.a 48 (e22.2.2.2.2.1 != q0) rfl (fun L0=>?_) (fun L0=>?_)
    ·replace hF:=hF.1 L0
     refine Ok.b 6 [1,3,4,7,15,16,17,23,24,25] [(29,.bool true)] ?_
     refine Ok.j (Ok.t ?_)
     subst t1
     refine Ok.rb 29 ((decide (e9<0)||(decide (e9≥(z0.length:Int))))||(((xd.1.getD e9.toNat default).2.2.2.2.1 != q0)||z0.getD e9.toNat default)) (Eq.trans (mor_t L0) (mor_f v1)) ?_
     exact fg hF
    replace hF:=hF.2 L0
    refine Ok.b 2 [1,3,4,7,15,16,17,23,24,25] [(48,.bool false),(49,.slice x0 z0.length s0),(50,iv e9)] ?_
    obtain ⟨h025,h125,hF⟩:=hF
    have a1:=get_of (l:=z0) default h125
    generalize hg25:(z0.getD e9.toNat default)=e25 at a1 hF ⊢
    refine Ok.oy (OpOk.indexOwn (e:=.bool) 0 rfl f0 rfl rfl underlying75 kr kr h025 a1 rfl fun cs24 _ hr24 b1=>?_)
    obtain rfl:=hr24
    replace b1:∀ j v,([.bool e25]:List Value)[j]? = some v→e0[e9.toNat * 1+j]? = some v:=b1
    refine Ok.oy (OpOk.s (v:=.bool e25) (Yields.loadOwn 0 0 rfl b1 rfl underlying4 rfl kr) rfl rfl (Ok.b 2 [1,3,4,7,15,16,17,23,24,25] [(29,.bool e25)] ?_))
    refine Ok.j (Ok.t ?_)
    subst hg25
    subst t1
    refine Ok.rb 29 ((decide (e9<0)||(decide (e9≥(z0.length:Int))))||(((xd.1.getD e9.toNat default).2.2.2.2.1 != q0)||z0.getD e9.toNat default)) (Eq.trans (mor_f L0) (mor_f v1)) ?_
    exact fg hF
   clear hF
   rintro _ _ ⟨W0,U0,q⟩
   refine jn (fun hF=>?_) _ _ q
   replace f0:=f0.mono U0.1
   replace b0:=b0.mono U0.1
   refine Ok.cn hF rfl (fun d1=>?_) (fun d1=>?_)
   ·replace hF:=hF.1 d1
    refine Ok.sr (Ok.B 1 [(2,iv 3)] kr (Ok.nt (Ok.ret (Ok.kr (Ok.tr (Ok.kr (Ok.tr (Ok.tr (Ok.kr (Ok.kr (Ok.tr (Ok.tr (Ok.kr (Ok.tr ?_))))))))))))))
    exact Ok.p1 (iv 3) ((F0.trans Y0).trans U0) ⟨_,rfl,rfl,hF⟩
   replace hF:=hF.2 d1
   refine Ok.cut (fun a W=>∃ q1:Ghost,Gext w0 W0 q1∧StA 96 [(1,pv bs1 0),(3,.slice x0 z0.length s0),(4,iv q0),(7,iv e9),(15,.slice u0 xd.1.length j0),(16,iv (xd.1.length:Int)),(17,iv q0),(23,.slice Q0 e5.2.2.2.2.2.length K0),(24,iv (e5.2.2.2.2.2.length:Int)),(25,iv k0),(54,.bool ((q0==0)&&((xd.1.getD e9.toNat default).1==3)))] a∧StW w0 [.own (.slice x0 z0.length s0) 4 1 z0.length e0,.blk bs1 (.cells (aD xd u0 j0) 24)] q1 W∧dkidj42 xd K e5 e9 k0 z0 q0 (dkidl23 xd K e5 q0 (dkidl9 xd K k9) k23)) ?_ ?_
   ·
    refine Ok.r (Ok.b 3 [1,3,4,7,15,16,17,23,24,25] [(57,.bool (q0==0))] ?_)
    refine Ok.bw 57 hF (fun A0 hF=>?_) (fun A0 hF=>?_)
    ·refine Ok.rn 3 [.e 1] [1,3,4,7,15,16,17,23,24,25] [(57,.bool true),(59,.slice u0 xd.1.length j0),(60,iv e9)] ?_
     obtain ⟨h017,h117,hF⟩:=hF
     have i1:=get_of (l:=xd.1) default h117
     generalize hg17:(xd.1.getD e9.toNat default)=e17 at i1 hF ⊢
     refine Ok.oy (OpOk.indexRo (e:=yN) rfl rfl underlying22 kr b0 h017 i1 rfl fun q16 o16 cs16 _ hat16 hr16=>?_)
     obtain ⟨a16_2,c16_2,a16_5,c16_5,rfl,hR16_2,hR16_5⟩:=oN hr16
     refine Ok.rn 5 [.a 0 hat16] [1,3,4,7,15,16,17,23,24,25] [(54,.bool (e17.1==3))] ?_
     refine Ok.j (Ok.t ?_)
     subst hg17
     refine Ok.rb 54 ((q0==0)&&((xd.1.getD e9.toNat default).1==3)) (mand_t A0) ?_
     exact fg hF
    refine Ok.b 9 [1,3,4,7,15,16,17,23,24,25] [(54,.bool false)] ?_
    refine Ok.nt (Ok.rb 54 ((q0==0)&&((xd.1.getD e9.toNat default).1==3)) (mand_f A0) ?_)
    exact fg hF
   clear hF
   rintro _ _ ⟨q1,X0,q⟩
   refine jn (fun hF=>?_) _ _ q
   replace f0:=f0.mono X0.1
   replace b0:=b0.mono X0.1
   refine Ok.cn hF rfl (fun I0=>?_) (fun I0=>?_)
   ·replace hF:=hF.1 I0
    refine Ok.sr (Ok.B 1 [(2,iv 7)] kr (Ok.nt (Ok.ret (Ok.kr (Ok.tr (Ok.kr (Ok.tr (Ok.tr (Ok.kr (Ok.kr (Ok.tr (Ok.tr (Ok.kr (Ok.tr ?_))))))))))))))
    exact Ok.p1 (iv 7) (((F0.trans Y0).trans U0).trans X0) ⟨_,rfl,rfl,hF⟩
   replace hF:=hF.2 I0
   refine Ok.k (Ok.kn (Ok.t (Ok.r (Ok.b 2 [1,3,4,15,16,17,23,24,25] [(66,.slice x0 z0.length s0),(67,iv e9)] ?_))))
   obtain ⟨h013,h113,hF⟩:=hF
   have Z1:=get_of (l:=z0) default h113
   generalize hg13:(z0.getD e9.toNat default)=e13 at Z1 hF ⊢
   refine Ok.o (OpOk.indexOwn (e:=.bool) 0 rfl f0 rfl rfl underlying75 kr kr h013 Z1 rfl fun cs12 _ hr12 z1=>?_)
   obtain rfl:=hr12
   replace z1:∀ j v,([.bool e13]:List Value)[j]? = some v→e0[e9.toNat * 1+j]? = some v:=z1
   refine Ok.o (OpOk.storeOwn (e:=.bool) (q:=e9.toNat) (cells:=[.bool e13]) (vs:=[.bool true]) (el':=true) 0 0 1 rfl f0 z1 kr rfl rfl rfl kr kr kr kr kr (show Rep _ _ [.bool true] _ from rfl) fun xs14 hL14=>?_)
   rw [show z0.length=(z0.set e9.toNat true).length from (List.length_set ..).symm]
   refine Ok.j (Ok.kn (Ok.t (Ok.r (Ok.b 2 [1,4,15,16,17,23,24] [(3,.slice x0 (z0.set e9.toNat true).length s0),(25,iv (w6 (k0+1)))] ?_))))
   refine Ok.j (Ok.t ?_)
   subst hg13
   subst hg9
   exact fun _ _ u v=>⟨k23,nl,q1,((Y0.trans U0).trans X0),w6 (k0+1),x0,s0,(z0.set (Int.toNat (e5.2.2.2.2.2.getD k0.toNat default)) true),xs14,hL14,fA u v hF⟩
  replace hF:=hF.2 hc7
  refine Ok.x (Ok.thenE (Ok.thenE (Ok.blockHit (Ok.kn (Ok.t (Ok.r (Ok.b 2 [1,3,15,16] [(17,iv (w6 (q0+1)))] ?_)))))))
  refine Ok.j (Ok.t ?_)
  subst hg5
  exact fun _ _ u v=>⟨k9,nl,Z0,F0.trans Y0,w6 (q0+1),x0,s0,z0,e0,f0,fA u v hF⟩
 refine Ok.x (Ok.thenE (Ok.thenE (Ok.blockHit (Ok.t (Ok.q (Ok.sr (Ok.rn 4 [.e 1] [1,3] [(72,.slice u0 xd.1.length j0),(73,iv (xd.1.length:Int)),(74,iv 0)] ?_)))))))
 refine Ok.nt (Ok.block ?_)
 obtain ⟨k,hF⟩:=hF
 refine Ok.L (fun k a W=>∃ S0:Ghost,Gext w0 gl9 S0∧∃ (y0:Int),StA 96 [(1,pv bs1 0),(3,.slice m0 v0.length n0),(72,.slice u0 xd.1.length j0),(73,iv (xd.1.length:Int)),(74,iv y0)] a∧StW w0 [.own (.slice m0 v0.length n0) 4 1 v0.length o0,.blk bs1 (.cells (aD xd u0 j0) 24)] S0 W∧dkidl56 xd K v0 k y0) k ?_ ?_
 ·
  exact fun _ _ u v=>⟨gl9,Gext.r w0 gl9,0,fA u v hF⟩
 clear hF
 rintro (_ | k56) _ _ ⟨S0,J0,y0,q⟩
 exact (q.2.2:False).elim
 refine jn (fun hF=>?_) _ _ q
 replace t0:=t0.mono J0.1
 replace b0:=b0.mono J0.1
 refine Ok.sr (Ok.b 1 [1,3,72,73,74] [(75,.bool (decide (y0<(xd.1.length:Int))))] ?_)
 refine Ok.nt (Ok.q (Ok.cw hF (fun hc26 hF=>?_) (fun hc26 hF=>?_)))
 ·refine Ok.k (Ok.t (Ok.q (Ok.block (Ok.sr (Ok.b 1 [1,3,72,73,74] [(76,iv y0)] ?_)))))
  obtain ⟨h028,h128,hF⟩:=hF
  have V1:=get_of (l:=xd.1) default h128
  generalize hg28:(xd.1.getD y0.toNat default)=e28 at V1 hF ⊢
  refine Ok.o (OpOk.indexRo (e:=yN) rfl rfl underlying22 kr b0 h028 V1 rfl fun q27 o27 cs27 _ hat27 hr27=>?_)
  obtain ⟨B0,C0,D0,E0,rfl,hR27_2,hR27_5⟩:=oN hr27
  refine Ok.o (OpOk.s (v:=.agg (aN e28 B0 C0 D0 E0)) (Yields.loadAggRo 0 6 (aN e28 B0 C0 D0 E0) hat27 kr underlying48 rfl kr kr kr) rfl rfl (Ok.o (OpOk.aw #[iv 0,sv ([]:Bs),.slice none 0 0,sv ([]:Bs),iv 0,.slice none 0 0] fun bs9=>?_)))
  refine Ok.b 1 [1,3,72,73,74] [(8,iv y0),(9,pv bs9 0),(78,.agg (aN e28 B0 C0 D0 E0))] ?_
  refine Ok.o (OpOk.sw 0 (aN e28 B0 C0 D0 E0) rfl rfl rfl ?_)
  refine Ok.nt (Ok.cut (fun a W=>∃ k1:Ghost,Gext w0 S0 k1∧StA 96 [(1,pv bs1 0),(3,.slice m0 v0.length n0),(72,.slice u0 xd.1.length j0),(73,iv (xd.1.length:Int)),(74,iv y0),(88,.bool ((e28.2.2.2.2.1 != (-1))&&(!(v0.getD y0.toNat default))))] a∧StW w0 [.own (.slice m0 v0.length n0) 4 1 v0.length o0,.blk bs1 (.cells (aD xd u0 j0) 24)] k1 W∧dkidj67 K v0 y0 e28 (dkidl56 xd K v0 k56)) ?_ ?_)
  ·
   refine Ok.r (Ok.rn 4 [.e 0] [1,3,8,72,73,74] [(82,.bool (e28.2.2.2.2.1 != (-1)))] ?_)
   refine Ok.bw 82 hF (fun e1 hF=>?_) (fun e1 hF=>?_)
   ·refine Ok.b 2 [1,3,72,73,74] [(82,.bool true),(83,.slice m0 v0.length n0),(84,iv y0)] ?_
    obtain ⟨h033,h133,hF⟩:=hF
    have Q1:=get_of (l:=v0) default h133
    generalize hg33:(v0.getD y0.toNat default)=e33 at Q1 hF ⊢
    refine Ok.oy (OpOk.indexOwn (e:=.bool) 1 rfl t0 rfl rfl underlying75 kr kr h033 Q1 rfl fun cs32 _ hr32 f1=>?_)
    obtain rfl:=hr32
    replace f1:∀ j v,([.bool e33]:List Value)[j]? = some v→o0[y0.toNat * 1+j]? = some v:=f1
    refine Ok.oy (OpOk.s (v:=.bool e33) (Yields.loadOwn 1 0 rfl f1 rfl underlying4 rfl kr) rfl rfl (Ok.b 2 [1,3,72,73,74] [(88,.bool (!e33))] ?_))
    refine Ok.j (Ok.t ?_)
    subst hg33
    refine Ok.rb 88 ((e28.2.2.2.2.1 != (-1))&&(!(v0.getD y0.toNat default))) (mand_t e1) ?_
    exact fg hF
   refine Ok.b 6 [1,3,72,73,74] [(88,.bool false)] ?_
   refine Ok.nt (Ok.rb 88 ((e28.2.2.2.2.1 != (-1))&&(!(v0.getD y0.toNat default))) (mand_f e1) ?_)
   exact fg hF
  clear hF
  rintro _ _ ⟨k1,G0,q⟩
  refine jn (fun hF=>?_) _ _ q
  replace b0:=b0.mono G0.1
  refine Ok.cn hF rfl (fun m1=>?_) (fun m1=>?_)
  ·replace hF:=hF.1 m1
   refine Ok.sr (Ok.B 1 [(2,iv 3)] kr (Ok.nt (Ok.ret (Ok.kr (Ok.tr (Ok.tr (Ok.kr (Ok.tr ?_))))))))
   exact Ok.p1 (iv 3) ((F0.trans J0).trans G0) ⟨_,rfl,rfl,hF⟩
  replace hF:=hF.2 m1
  refine Ok.k (Ok.kn (Ok.t (Ok.r (Ok.b 2 [1,3,72,73] [(74,iv (w6 (y0+1)))] ?_))))
  refine Ok.j (Ok.t ?_)
  subst hg28
  exact fun _ _ u v=>⟨k56,nl,k1,J0.trans G0,w6 (y0+1),fA u v hF⟩
 refine Ok.x (Ok.thenE (Ok.thenE (Ok.blockHit (Ok.t (Ok.q (Ok.sr (Ok.B 1 [(90,pv bs1 0)] kr (Ok.o (OpOk.s (v:=.slice u0 xd.1.length j0) (Yields.l 1 rfl rfl underlying22 rfl kr) rfl rfl ?_)))))))))
 obtain ⟨h035,h135,hF⟩:=hF
 have K1:=get_of (l:=xd.1) default h135
 generalize hg35:(xd.1.getD (Int.toNat 0) default)=e35 at K1 hF ⊢
 refine Ok.o (OpOk.indexRo (e:=yN) rfl rfl underlying22 kr b0 h035 K1 rfl fun q34 o34 cs34 _ hat34 hr34=>?_)
 obtain ⟨a34_2,c34_2,a34_5,c34_5,rfl,hR34_2,hR34_5⟩:=oN hr34
 refine Ok.rn 3 [.a 4 hat34] [] [(95,.bool (e35.2.2.2.2.1 != (-1)))] ?_
 refine Ok.nt (Ok.cw hF (fun hc36 hF=>?_) (fun hc36 hF=>?_))
 ·refine Ok.sr (Ok.B 1 [(2,iv 3)] kr (Ok.nt (Ok.ret (Ok.tr ?_))))
  exact Ok.p1 (iv 3) (F0.trans J0) ⟨_,rfl,rfl,hF⟩
 refine Ok.k (Ok.t (Ok.sr (Ok.B 1 [(2,iv 0)] kr (Ok.nt (Ok.ret ?_)))))
 exact Ok.p1 (iv 0) (F0.trans J0) ⟨_,rfl,rfl,hF⟩
def dkidP (d:DC):Prop:=1≤d.1.length∧d.1.length≤200∧∀ x ∈ d.1,x.2.2.2.2.2.length≤maxLen
theorem mem_getD {α:Type} {l:List α} {i:Nat} (d:α) (h:i<l.length):l.getD i d ∈ l:=by
 rw [List.getD_eq_getElem?_getD,List.getElem?_eq_getElem h,Option.getD_some]; exact List.getElem_mem h
theorem getD_set {l:List Bool} {i j:Nat}:(l.set i true).getD j default=true→j=i∨l.getD j default=true:=by
 rw [List.getD_eq_getElem?_getD,List.getD_eq_getElem?_getD,List.getElem?_set]
 split
 ·rename_i h; intro _; exact .inl h.symm
 intro h; exact .inr h
theorem getD_keep {l:List Bool} {i j:Nat} (h:l.getD j default=true):(l.set i true).getD j default=true:=by
 rw [List.getD_eq_getElem?_getD] at h ⊢
 rw [List.getElem?_set]
 split
 ·rename_i hij
  subst hij
  split
  ·rfl
  rename_i hl
  rw [List.getElem?_eq_none om] at h
  exact h
 exact h
theorem getD_put {l:List Bool} {i:Nat} (h:i<l.length):(l.set i true).getD i default=true:=by
 rw [List.getD_eq_getElem?_getD,List.getElem?_set,if_pos rfl,if_pos h]; rfl
theorem nodup_snoc {α:Type} {l:List α} {x:α} (h:l.Nodup) (hx:x ∉ l):(l++[x]).Nodup:=by
 rw [List.nodup_append]
 refine ⟨h,by simp,fun a ha b hb=>?_⟩
 rw [List.mem_singleton] at hb
 subst hb
 intro e
 subst e
 exact hx ha
theorem getD_rep (n j:Nat):(List.replicate n false).getD j default=false:=by
 rw [List.getD_eq_getElem?_getD,List.getElem?_replicate]
 split <;> rfl
theorem dkid_ex (d:DC) (hp:dkidP d):∃ e,dkidF d (fun r=>r=e)∧(e=0→KGood d.1):=by
 obtain ⟨h1,h2,h3⟩:=hp
 have no:∀ {e:Int},e≠0→(e=0→KGood d.1):=fun h h0=>absurd h0 h
 -- what is known of the flags
 have Flags:∀ (seen:List Bool),(∀ k,seen.getD k default=true→∃ i,i<d.1.length∧par d.1 k=(i:Int)∧(k:Int) ∈ kidsOf d.1 i) →
   (∀ i,i<d.1.length→∀ k ∈ kidsOf d.1 i,0≤k∧k<(d.1.length:Int)∧par d.1 k.toNat=(i:Int))→(∀ i,i<d.1.length→(kidsOf d.1 i).Nodup)→seen.length=d.1.length →
   ∀ (k i:Nat),i+k=d.1.length→(∀ j,j<i→par d.1 j = -1∨seen.getD j default=true)→∃ e,dkidl56 d (fun r=>r=e) seen (k+1) (i:Int)∧(e=0→KGood d.1):=by
  intro seen hs hk hnd hl k
  induction k with
  | zero =>
   intro i h hj
   refine ex_if (fun h=>od h) (fun _=>ex_need om (ex_need (by show 0<d.1.length; omega) (ex_if (fun _=>ex_k (no dc)) fun hr=>ex_k fun _=>⟨hk,fun j hj2=>?_,?_,hnd⟩)))
   ·rcases hj j om with h | h
    ·exact .inl h
    exact .inr (hs j h)
   have hr':(par d.1 0 != -1)=false:=hr
   simpa using hr'
  | succ k ih =>
   intro i h hj
   refine ex_if (fun _=>ex_need om (ex_need (by rw [tnc]; omega) ?_)) (fun h=>oe h)
   have j67:∃ e,dkidj67 (fun r=>r=e) seen (i:Int) (d.1.getD (Int.toNat (i:Int)) default) (dkidl56 d (fun r=>r=e) seen (k+1))∧(e=0→KGood d.1):=by
    refine ex_if (fun _=>ex_k (no dc)) fun hc=>?_
    rw [w64 om]
    refine ih (i+1) om fun j hj2=>?_
    by_cases hji:j<i
    ·exact hj j hji
    have:j=i:=by omega
    subst this
    rw [tnc] at hc
    have hc':((par d.1 j != -1)&&(!(seen.getD j default)))=false:=hc
    rw [Bool.and_eq_false_iff] at hc'
    rcases hc' with h | h
    ·exact .inl (by simpa using h)
    exact .inr (by simpa using h)
   exact ex_if (fun _=>ex_need om (ex_need (by rw [tnc]; omega) j67)) fun _=>j67
 have loop:∀ (k i:Nat) (seen:List Bool),i+k=d.1.length→seen.length=d.1.length→(∀ k,seen.getD k default=true→∃ i,i<d.1.length∧par d.1 k=(i:Int)∧(k:Int) ∈ kidsOf d.1 i) →
   (∀ i',i'<i→∀ k ∈ kidsOf d.1 i',0≤k∧k<(d.1.length:Int)∧par d.1 k.toNat=(i':Int))→(∀ i',i'<i→(kidsOf d.1 i').Nodup)→∃ e,dkidl9 d (fun r=>r=e) (k+1) (i:Int) seen∧(e=0→KGood d.1):=by
  intro k
  induction k with
  | zero =>
   intro i seen h hl hs hk hnd
   refine ex_if (fun h=>od h) (fun _=>ex_loop _ (Flags seen hs (fun i' hi'=>hk i' om) (fun i' hi'=>hnd i' om) hl d.1.length 0 om fun j hj=>absurd hj om))
  | succ k ih =>
   intro i seen h hl hs hk hnd
   refine ex_if (fun _=>ex_need om (ex_need (by rw [tnc]; omega) ?_)) (fun h=>oe h)
   rw [tnc]
   have hlen:(kidsOf d.1 i).length≤maxLen:=h3 _ (mem_getD default om)
   have inner:∀ (q j:Nat) (seen:List Bool),j+q=(kidsOf d.1 i).length→seen.length=d.1.length→(∀ k,seen.getD k default=true→∃ i,i<d.1.length∧par d.1 k=(i:Int)∧(k:Int) ∈ kidsOf d.1 i) →
     (∀ x ∈ (kidsOf d.1 i).take j,0≤x∧x<(d.1.length:Int)∧par d.1 x.toNat=(i:Int))→((kidsOf d.1 i).take j).Nodup→(∀ x ∈ (kidsOf d.1 i).take j,seen.getD x.toNat default=true)→∃ e,dkidl23 d (fun r=>r=e) (d.1.getD i default) (i:Int) (dkidl9 d (fun r=>r=e) (k+1)) (q+1) (j:Int) seen∧(e=0→KGood d.1):=by
    intro q
    induction q with
    | zero =>
     intro j seen hj hl hs ht hn hse
     refine ex_if (fun h=>by have h':=of_decide_eq_true h; have h'':(j:Int)<((kidsOf d.1 i).length:Int):=h'; omega) (fun _=>?_)
     rw [w64 om]
     rw [List.take_of_length_le om] at ht hn
     refine ih (i+1) seen om hl hs (fun i' hi'=>?_) (fun i' hi'=>?_)
     ·by_cases hii:i'<i
      ·exact hk i' hii
      have:i'=i:=by omega
      subst this
      exact ht
     by_cases hii:i'<i
     ·exact hnd i' hii
     have:i'=i:=by omega
     subst this
     exact hn
    | succ q ihq =>
     intro j seen hj hl hs ht hn hse
     rw [maxLen_eq] at hlen
     refine ex_if (fun _=>ex_need om (ex_need (by rw [tnc]; show j<(kidsOf d.1 i).length; omega) ?_)) (fun h=>by have h':=of_decide_eq_false h; have h'':¬ (j:Int)<((kidsOf d.1 i).length:Int):=h'; omega)
     rw [tnc]
     have hx:∃ x,(d.1.getD i default).2.2.2.2.2.getD j default=x∧x ∈ kidsOf d.1 i∧(kidsOf d.1 i).take (j+1)=(kidsOf d.1 i).take j++[x]:=⟨_,rfl,mem_getD default om,take_get default om⟩
     obtain ⟨x,hx,hxm,hxt⟩:=hx
     have j36:∃ e,dkidj36 d (fun r=>r=e) (d.1.getD i default) x (j:Int) seen (i:Int) (dkidl23 d (fun r=>r=e) (d.1.getD i default) (i:Int) (dkidl9 d (fun r=>r=e) (k+1)) (q+1))∧(e=0→KGood d.1):=by
      refine ex_if (fun _=>ex_k (no dc)) fun hc=>?_
      simp only [Bool.or_eq_false_iff,decide_eq_false_iff_not] at hc
      obtain ⟨⟨c1,c2⟩,c3,c4⟩:=hc
      have c3':par d.1 x.toNat=(i:Int):=by
       have:(par d.1 x.toNat != (i:Int))=false:=c3
       simpa using this
      have hx0:0≤x:=by omega
      have hxl:x<(d.1.length:Int):=by omega
      have j42:∃ e,dkidj42 d (fun r=>r=e) (d.1.getD i default) x (j:Int) seen (i:Int) (dkidl23 d (fun r=>r=e) (d.1.getD i default) (i:Int) (dkidl9 d (fun r=>r=e) (k+1)) (q+1))∧(e=0→KGood d.1):=by
       refine ex_if (fun _=>ex_k (no dc)) fun _=>ex_need hx0 (ex_need om ?_)
       rw [w64 om]
       have c4':seen.getD x.toNat default=false:=c4
       have hxn:x ∉ (kidsOf d.1 i).take j:=fun hm=>by rw [hse x hm] at c4'; cases c4'
       refine ihq (j+1) _ om (by rw [List.length_set]; exact hl) (fun k hk2=>?_) (fun y hy=>?_) (by rw [hxt]; exact nodup_snoc hn hxn) (fun y hy=>?_)
       ·rw [tnc,hx] at hk2
        rcases getD_set hk2 with h | h
        ·subst h
         exact ⟨i,by omega,c3',by rw [Int.toNat_of_nonneg hx0]; exact hxm⟩
        exact hs k h
       ·rw [hxt] at hy
        rcases List.mem_append.1 hy with hy | hy
        ·exact ht y hy
        rw [List.mem_singleton] at hy; subst hy; exact ⟨hx0,hxl,c3'⟩
       rw [tnc,hx]
       rw [hxt] at hy
       rcases List.mem_append.1 hy with hy | hy
       ·exact getD_keep (hse y hy)
       rw [List.mem_singleton] at hy; subst hy; exact getD_put om
      exact ex_if (fun _=>ex_need hx0 (ex_need om j42)) fun _=>j42
     rw [hx]
     refine ex_if (fun _=>j36) fun hb=>?_
     simp only [Bool.or_eq_false_iff,decide_eq_false_iff_not] at hb
     exact ex_need om (ex_need om (ex_if (fun _=>j36) fun _=>ex_need om (ex_need om j36)))
   exact ex_loop _ (inner (kidsOf d.1 i).length 0 seen om hl hs (fun x hx=>absurd hx (by simp)) (by rw [List.take_zero]; exact List.nodup_nil) (fun x hx=>absurd hx (by simp)))
 refine ex_need om (ex_need om (ex_loop _ (loop d.1.length 0 _ om ?_ (fun k hk=>?_) (fun i' hi'=>absurd hi' om) (fun i' hi'=>absurd hi' om))))
 ·rw [List.length_replicate,tnc]
 rw [getD_rep] at hk; cases hk
noncomputable def dkidS (d:DC):Int:=pickE fun e=>dkidF d (fun r=>r=e)∧(e=0→KGood d.1)
theorem dkid_sp (d:DC) (hp:dkidP d):dkidF d (fun r=>r=dkidS d)∧(dkidS d=0→KGood d.1):=pickE_ok (A:=fun e=>dkidF d (fun r=>r=e)∧(e=0→KGood d.1)) (dkid_ex d hp)
theorem dkid_F (d:DC) (hp:dkidP d):dkidF d (fun r=>r=dkidS d):=(dkid_sp d hp).1
theorem dkid_c {g:Ghost} {u0:Option Addr} {j0:Nat} (xd:Dc) (b0:Rep g yNs [.slice u0 xd.1.length j0] xd.1)  (hp:dkidP xd):CallsG prog 18 #[.agg (aD xd u0 j0)] g (iv (dkidS xd)) :=
 (dkid_ok xd b0 _ (dkid_F xd hp)).gv
def dupj7 (xd:Dc) (K:Int→Prop) (a0:Int) (i0:Int) (C5:Int→Int→Prop):Prop :=
 (((decide ((xd.1.getD a0.toNat default).2.2.2.2.1≥0))&&(decide (i0≤(xd.1.length:Int))))=true→0≤a0∧a0.toNat<xd.1.length∧C5 (xd.1.getD a0.toNat default).2.2.2.2.1 (w6 (i0+1)))∧(((decide ((xd.1.getD a0.toNat default).2.2.2.2.1≥0))&&(decide (i0≤(xd.1.length:Int))))=false→K i0)
def dupl5b (xd:Dc) (K:Int→Prop) (a0:Int) (i0:Int) (C5:Int→Int→Prop):Prop :=
 0≤a0∧a0.toNat<xd.1.length∧((decide ((xd.1.getD a0.toNat default).2.2.2.2.1≥0))=true→dupj7 xd K a0 i0 C5)∧((decide ((xd.1.getD a0.toNat default).2.2.2.2.1≥0))=false→dupj7 xd K a0 i0 C5)
def dupl5 (xd:Dc) (K:Int→Prop):Nat→Int→Int→Prop
 | 0,_,_=>False
 | k+1,a0,i0=>dupl5b xd K a0 i0 (dupl5 xd K k)
def dupF (xd:Dc) (xn:Int) (K:Int→Prop):Prop :=
 ∃ k,dupl5 xd K k xn 0
theorem dup_ok {g:Ghost} {u0:Option Addr} {j0:Nat} (xd:Dc) (xn:Int) (b0:Rep g yNs [.slice u0 xd.1.length j0] xd.1) (K:Int→Prop)
  (hF:dupF xd xn K):CallsH prog 19 #[.agg (aD xd u0 j0),iv xn] g [] (fun g' H' v=>∃ (r0:Int),v=iv r0∧H'=[]∧K r0):=by
 refine CallsH.en 28 func19 rfl fun w0=>?_
 refine Ok.sr (Ok.o (OpOk.bx (aD xd u0 j0) fun bs2=>?_))
 refine Ok.B 1 [(1,iv xn),(2,pv bs2 0),(4,iv 0)] kr (Ok.nt (Ok.q (Ok.block ?_)))
 obtain ⟨k,hF⟩:=hF
 refine Ok.L (fun k a W=>∃ (a0:Int) (i0:Int),StA 28 [(1,iv a0),(2,pv bs2 0),(4,iv i0)] a∧StW w0 [.blk bs2 (.cells (aD xd u0 j0) 24)] g W∧dupl5 xd K k a0 i0) k ?_ ?_
 ·
  exact fun _ _ u v=>⟨xn,0,fA u v hF⟩
 clear hF
 rintro (_ | k5) _ _ ⟨a0,i0,q⟩
 exact (q.2.2:False).elim
 refine jn (fun hF=>?_) _ _ q
 refine Ok.q (Ok.ct [(1,iv a0),(2,pv bs2 0),(4,iv i0),(18,.bool ((decide ((xd.1.getD a0.toNat default).2.2.2.2.1≥0))&&(decide (i0≤(xd.1.length:Int)))))] [.blk bs2 (.cells (aD xd u0 j0) 24)] (dupj7 xd K a0 i0 (dupl5 xd K k5)) ?_ (fun hF=>?_))
 ·
  refine Ok.r (Ok.rn 3 [.e 0] [1,2,4] [(6,.slice u0 xd.1.length j0),(7,iv a0)] ?_)
  obtain ⟨h06,h16,hF⟩:=hF
  have he6:=get_of (l:=xd.1) default h16
  generalize hg6:(xd.1.getD a0.toNat default)=e6 at he6 hF ⊢
  refine Ok.o (OpOk.indexRo (e:=yN) rfl rfl underlying22 kr b0 h06 he6 rfl fun q5 o5 cs5 _ n1 hr5=>?_)
  obtain ⟨H0,M0,N0,O0,rfl,y1,u1⟩:=oN hr5
  refine Ok.rn 4 [.a 4 n1] [1,2,4] [(12,.bool (decide (e6.2.2.2.2.1≥0)))] ?_
  refine Ok.a 12 (decide (e6.2.2.2.2.1≥0)) rfl (fun hc7=>?_) (fun hc7=>?_)
  ·replace hF:=hF.1 hc7
   refine Ok.rn 6 [.e 0] [1,2,4] [(18,.bool (decide (i0≤(xd.1.length:Int))))] ?_
   refine Ok.j (Ok.t ?_)
   subst hg6
   refine Ok.rb 18 ((decide ((xd.1.getD a0.toNat default).2.2.2.2.1≥0))&&(decide (i0≤(xd.1.length:Int)))) (mand_t hc7) ?_
   exact fz hF
  replace hF:=hF.2 hc7
  refine Ok.b 6 [1,2,4] [(18,.bool false)] ?_
  refine Ok.j (Ok.t ?_)
  subst hg6
  refine Ok.rb 18 ((decide ((xd.1.getD a0.toNat default).2.2.2.2.1≥0))&&(decide (i0≤(xd.1.length:Int)))) (mand_f hc7) ?_
  exact fz hF
 refine Ok.cw hF (fun hc2 hF=>?_) (fun hc2 hF=>?_)
 ·refine Ok.k (Ok.t (Ok.q (Ok.block (Ok.r (Ok.b 3 [1,2] [(4,iv (w6 (i0+1)))] ?_)))))
  refine Ok.j (Ok.kn (Ok.t (Ok.r (Ok.rn 3 [.e 0] [2,4] [(20,.slice u0 xd.1.length j0),(21,iv a0)] ?_))))
  obtain ⟨h04,h14,hF⟩:=hF
  have he4:=get_of (l:=xd.1) default h14
  generalize hg4:(xd.1.getD a0.toNat default)=e4 at he4 hF ⊢
  refine Ok.o (OpOk.indexRo (e:=yN) rfl rfl underlying22 kr b0 h04 he4 rfl fun q3 o3 cs3 _ hat3 hr3=>?_)
  obtain ⟨a3_2,c3_2,a3_5,c3_5,rfl,hR3_2,hR3_5⟩:=oN hr3
  refine Ok.rn 3 [.a 4 hat3] [2,4] [(1,iv e4.2.2.2.2.1)] ?_
  refine Ok.j (Ok.t ?_)
  subst hg4
  exact fun _ _ u v=>⟨k5,nl,(xd.1.getD a0.toNat default).2.2.2.2.1,w6 (i0+1),fA u v hF⟩
 refine Ok.x (Ok.thenE (Ok.thenE (Ok.blockHit (Ok.t (Ok.sr (Ok.b 2 [4] [] ?_))))))
 refine Ok.nt (Ok.ret ?_)
 exact Ok.p0 (iv i0) ⟨_,rfl,rfl,hF⟩
def dupN (l:List ND):Nat→Int→Int→Int
 | 0,_,m=>m
 | k+1,n,m=>if (decide (par l n.toNat≥0)&&decide (m≤(l.length:Int)))=true then dupN l k (par l n.toNat) (m+1) else m
def dupS (d:DC) (n:Int):Int:=dupN d.1 (d.1.length+2) n 0
def dupP (d:DC) (n:Int):Prop:=d.1.length≤200∧KGood d.1∧0≤n∧n<(d.1.length:Int)
theorem up_in {l:List ND} (h:KGood l) {n:Int} (h0:0≤n) (h1:n<(l.length:Int)) (hu:par l n.toNat≥0):par l n.toNat<(l.length:Int):=by
 rcases h.up n.toNat om with h | ⟨i,hi,he,_⟩
 ·omega
 omega
theorem dup_F (d:DC) (n:Int) (hp:dupP d n):dupF d n (fun r=>r=dupS d n):=by
 obtain ⟨hl,hk,h0,h1⟩:=hp
 have loop:∀ (k:Nat) (n' m:Int),0≤n'→n'<(d.1.length:Int)→0≤m→m≤(d.1.length:Int)+1→(d.1.length:Int)+1≤m+k→dupS d n=dupN d.1 (k+1) n' m→dupl5 d (fun r=>r=dupS d n) (k+1) n' m:=by
  intro k
  induction k with
  | zero =>
   intro n' m g0 g1 g2 g3 g4 he
   have hc:(decide (par d.1 n'.toNat≥0)&&decide (m≤(d.1.length:Int)))=false:=by
    rw [decide_eq_false (show ¬ m≤(d.1.length:Int) by omega),Bool.and_false]
   rw [dupN,if_f hc] at he
   have j7:dupj7 d (fun r=>r=dupS d n) n' m (dupl5 d (fun r=>r=dupS d n) 0):=⟨fun h=>(Bool.false_ne_true (hc.symm.trans h)).elim,fun _=>he.symm⟩
   exact ⟨g0,by omega,fun _=>j7,fun _=>j7⟩
  | succ k ih =>
   intro n' m g0 g1 g2 g3 g4 he
   rw [dupN] at he
   have j7:dupj7 d (fun r=>r=dupS d n) n' m (dupl5 d (fun r=>r=dupS d n) (k+1)):=by
    refine ⟨fun h=>?_,fun h=>?_⟩
    ·have h':(decide (par d.1 n'.toNat≥0)&&decide (m≤(d.1.length:Int)))=true:=h
     rw [if_t h'] at he
     rw [Bool.and_eq_true,decide_eq_true_eq,decide_eq_true_eq] at h'
     rw [w64 om]
     exact ⟨g0,by omega,ih _ _ h'.1 (up_in hk g0 g1 h'.1) om om om he⟩
    rw [if_f (show (decide (par d.1 n'.toNat≥0)&&decide (m≤(d.1.length:Int)))=false from h)] at he
    exact he.symm
   exact ⟨g0,by omega,fun _=>j7,fun _=>j7⟩
 exact ⟨_,loop (d.1.length+1) n 0 h0 h1 om om om rfl⟩
theorem dup_c {g:Ghost} {u0:Option Addr} {j0:Nat} (xd:Dc) (xn:Int) (b0:Rep g yNs [.slice u0 xd.1.length j0] xd.1)  (hp:dupP xd xn):CallsG prog 19 #[.agg (aD xd u0 j0),iv xn] g (iv (dupS xd xn)) :=
 (dup_ok xd xn b0 _ (dup_F xd xn hp)).gv
def dchkl65b (xd:Dc) (K:Int→Prop) (d0:Int) (C65:Int→Prop):Prop :=
 ((decide (d0<(xd.1.length:Int)))=true→dupP xd d0∧((decide ((dupS xd d0)>(xd.1.length:Int)))=true→K 8)∧((decide ((dupS xd d0)>(xd.1.length:Int)))=false→((decide ((dupS xd d0)>40))=true→K 2)∧((decide ((dupS xd d0)>40))=false→C65 (w6 (d0+1)))))∧((decide (d0<(xd.1.length:Int)))=false→K 0)
def dchkl65 (xd:Dc) (K:Int→Prop):Nat→Int→Prop
 | 0,_=>False
 | k+1,d0=>dchkl65b xd K d0 (dchkl65 xd K k)
def dchkl22b (xd:Dc) (K:Int→Prop) (c0:Int) (C22:Int→Prop):Prop :=
 ((decide (c0<(xd.1.length:Int)))=true→0≤c0∧c0.toNat<xd.1.length∧((!(((xd.1.getD c0.toNat default).1==1)==(c0==0)))=true→K 3)∧((!(((xd.1.getD c0.toNat default).1==1)==(c0==0)))=false→(((doneS (xd.1.getD c0.toNat default)) != 0)=true→K (doneS (xd.1.getD c0.toNat default)))∧(((doneS (xd.1.getD c0.toNat default)) != 0)=false→C22 (w6 (c0+1)))))∧((decide (c0<(xd.1.length:Int)))=false→dkidP xd∧(((dkidS xd) != 0)=true→K (dkidS xd))∧(((dkidS xd) != 0)=false→∃ k,dchkl65 xd K k 0))
def dchkl22 (xd:Dc) (K:Int→Prop):Nat→Int→Prop
 | 0,_=>False
 | k+1,c0=>dchkl22b xd K c0 (dchkl22 xd K k)
def dchkF (xd:Dc) (K:Int→Prop):Prop :=
 ((decide ((xd.1.length:Int)>200))=true→K 2)∧((decide ((xd.1.length:Int)>200))=false→(((xd.1.length:Int)==0)=true→K 3)∧(((xd.1.length:Int)==0)=false→∃ k,dchkl22 xd K k 0))
theorem dchk_ok {g:Ghost} {u0:Option Addr} {j0:Nat} (xd:Dc) (b0:Rep g yNs [.slice u0 xd.1.length j0] xd.1) (K:Int→Prop)
  (hF:dchkF xd K):CallsH prog 7 #[.agg (aD xd u0 j0)] g [] (fun g' H' v=>∃ (r0:Int),v=iv r0∧H'=[]∧K r0):=by
 refine CallsH.en 63 func7 rfl fun w0=>?_
 refine Ok.sr (Ok.o (OpOk.bx (aD xd u0 j0) fun bs1=>?_))
 refine Ok.B 1 [(1,pv bs1 0)] kr (Ok.nt (Ok.q (Ok.block (Ok.sr (Ok.rn 5 [.e 0] [1] [(9,.bool (decide ((xd.1.length:Int)>200)))] ?_)))))
 refine Ok.nt (Ok.cw hF (fun hc2 hF=>?_) (fun hc2 hF=>?_))
 ·refine Ok.sr (Ok.B 1 [(2,iv 2)] kr (Ok.nt (Ok.ret (Ok.kr (Ok.tr ?_)))))
  exact Ok.p0 (iv 2) ⟨_,rfl,rfl,hF⟩
 refine Ok.sr (Ok.rn 5 [.e 0] [1] [(14,.bool ((xd.1.length:Int)==0))] ?_)
 refine Ok.nt (Ok.cw hF (fun hc3 hF=>?_) (fun hc3 hF=>?_))
 ·refine Ok.sr (Ok.B 1 [(2,iv 3)] kr (Ok.nt (Ok.ret (Ok.kr (Ok.tr ?_)))))
  exact Ok.p0 (iv 3) ⟨_,rfl,rfl,hF⟩
 refine Ok.k (Ok.kn (Ok.t (Ok.q (Ok.sr (Ok.rn 4 [.e 0] [1] [(20,.slice u0 xd.1.length j0),(21,iv (xd.1.length:Int)),(22,iv 0)] ?_)))))
 refine Ok.nt (Ok.block ?_)
 obtain ⟨k,hF⟩:=hF
 refine Ok.L (fun k a W=>∃ (c0:Int),StA 63 [(1,pv bs1 0),(20,.slice u0 xd.1.length j0),(21,iv (xd.1.length:Int)),(22,iv c0)] a∧StW w0 [.blk bs1 (.cells (aD xd u0 j0) 24)] g W∧dchkl22 xd K k c0) k ?_ ?_
 ·
  exact fun _ _ u v=>⟨0,fA u v hF⟩
 clear hF
 rintro (_ | k22) _ _ ⟨c0,q⟩
 exact (q.2.2:False).elim
 refine jn (fun hF=>?_) _ _ q
 refine Ok.sr (Ok.b 1 [1,20,21,22] [(23,.bool (decide (c0<(xd.1.length:Int))))] ?_)
 refine Ok.nt (Ok.q (Ok.cw hF (fun hc4 hF=>?_) (fun hc4 hF=>?_)))
 ·refine Ok.k (Ok.t (Ok.q (Ok.block (Ok.sr (Ok.b 1 [1,20,21,22] [(24,iv c0)] ?_)))))
  obtain ⟨h06,h16,hF⟩:=hF
  have he6:=get_of (l:=xd.1) default h16
  generalize hg6:(xd.1.getD c0.toNat default)=e6 at he6 hF ⊢
  refine Ok.o (OpOk.indexRo (e:=yN) rfl rfl underlying22 kr b0 h06 he6 rfl fun q5 o5 cs5 _ n1 hr5=>?_)
  obtain ⟨H0,M0,N0,O0,rfl,y1,u1⟩:=oN hr5
  refine Ok.o (OpOk.s (v:=.agg (aN e6 H0 M0 N0 O0)) (Yields.loadAggRo 0 6 (aN e6 H0 M0 N0 O0) n1 kr underlying48 rfl kr kr kr) rfl rfl (Ok.o (OpOk.aw #[iv 0,sv ([]:Bs),.slice none 0 0,sv ([]:Bs),iv 0,.slice none 0 0] fun bs4=>?_)))
  refine Ok.b 1 [1,20,21,22] [(3,iv c0),(4,pv bs4 0),(26,.agg (aN e6 H0 M0 N0 O0))] ?_
  refine Ok.o (OpOk.sw 0 (aN e6 H0 M0 N0 O0) rfl rfl rfl ?_)
  refine Ok.nt (Ok.q (Ok.sr (Ok.rn 6 [.e 0] [1,4,20,21,22] [(32,.bool (!((e6.1==1)==(c0==0))))] ?_)))
  refine Ok.nt (Ok.cn hF rfl (fun hc8=>?_) (fun hc8=>?_))
  ·replace hF:=hF.1 hc8
   refine Ok.sr (Ok.B 1 [(2,iv 3)] kr (Ok.nt (Ok.ret (Ok.tr (Ok.kr (Ok.tr (Ok.tr (Ok.kr (Ok.tr ?_)))))))))
   exact Ok.p0 (iv 3) ⟨_,rfl,rfl,hF⟩
  replace hF:=hF.2 hc8
  refine Ok.k (Ok.t (Ok.sr (Ok.rn 3 [.e 0,.k (done_c e6 y1 u1)] [1,20,21,22] [(5,iv (doneS e6))] ?_)))
  refine Ok.nt (Ok.sr (Ok.b 2 [1,5,20,21,22] [(36,.bool ((doneS e6) != 0))] ?_))
  refine Ok.nt (Ok.cn hF rfl (fun hc9=>?_) (fun hc9=>?_))
  ·replace hF:=hF.1 hc9
   refine Ok.sr (Ok.B 2 [(2,iv (doneS e6))] kr (Ok.nt (Ok.ret (Ok.kr (Ok.tr (Ok.tr (Ok.kr (Ok.tr ?_))))))))
   exact Ok.p0 (iv (doneS e6)) ⟨_,rfl,rfl,hF⟩
  replace hF:=hF.2 hc9
  refine Ok.k (Ok.kn (Ok.t (Ok.r (Ok.b 2 [1,20,21] [(22,iv (w6 (c0+1)))] ?_))))
  refine Ok.j (Ok.t ?_)
  subst hg6
  exact fun _ _ u v=>⟨k22,nl,w6 (c0+1),fA u v hF⟩
 refine Ok.x (Ok.thenE (Ok.thenE (Ok.blockHit (Ok.t (Ok.q (Ok.q (Ok.r ?_)))))))
 obtain ⟨hp10,hF⟩:=hF
 refine Ok.rn 3 [.e 0,.k (dkid_c xd b0 hp10)] [1] [(6,iv (dkidS xd))] ?_
 refine Ok.nt (Ok.sr (Ok.b 2 [1,6] [(42,.bool ((dkidS xd) != 0))] ?_))
 refine Ok.nt (Ok.cw hF (fun I0 hF=>?_) (fun I0 hF=>?_))
 ·refine Ok.sr (Ok.B 2 [(2,iv (dkidS xd))] kr (Ok.nt (Ok.ret (Ok.tr ?_))))
  exact Ok.p0 (iv (dkidS xd)) ⟨_,rfl,rfl,hF⟩
 refine Ok.k (Ok.t (Ok.q (Ok.sr (Ok.rn 4 [.e 0] [1] [(46,iv (xd.1.length:Int)),(47,iv 0)] ?_))))
 refine Ok.nt (Ok.block ?_)
 obtain ⟨k,hF⟩:=hF
 refine Ok.L (fun k a W=>∃ (d0:Int),StA 63 [(1,pv bs1 0),(46,iv (xd.1.length:Int)),(47,iv d0)] a∧StW w0 [.blk bs1 (.cells (aD xd u0 j0) 24)] g W∧dchkl65 xd K k d0) k ?_ ?_
 ·
  exact fun _ _ u v=>⟨0,fA u v hF⟩
 clear hF
 rintro (_ | k65) _ _ ⟨d0,q⟩
 exact (q.2.2:False).elim
 refine jn (fun hF=>?_) _ _ q
 refine Ok.sr (Ok.b 1 [1,46,47] [(48,.bool (decide (d0<(xd.1.length:Int))))] ?_)
 refine Ok.nt (Ok.q (Ok.cw hF (fun z1 hF=>?_) (fun z1 hF=>?_)))
 ·refine Ok.k (Ok.t (Ok.q (Ok.block (Ok.sr (Ok.b 2 [1,46,47] [(7,iv d0)] ?_)))))
  refine Ok.nt (Ok.q (Ok.r ?_))
  obtain ⟨hp13,hF⟩:=hF
  refine Ok.rn 4 [.e 0,.k (dup_c xd d0 b0 hp13)] [1,46,47] [(8,iv (dupS xd d0))] ?_
  refine Ok.nt (Ok.block (Ok.sr (Ok.rn 6 [.e 0] [1,8,46,47] [(53,.bool (decide ((dupS xd d0)>(xd.1.length:Int))))] ?_)))
  refine Ok.nt (Ok.cw hF (fun hc14 hF=>?_) (fun hc14 hF=>?_))
  ·refine Ok.sr (Ok.B 1 [(2,iv 8)] kr (Ok.nt (Ok.ret (Ok.kr (Ok.kr (Ok.tr (Ok.tr (Ok.kr (Ok.tr ?_)))))))))
   exact Ok.p0 (iv 8) ⟨_,rfl,rfl,hF⟩
  refine Ok.sr (Ok.b 3 [1,46,47] [(59,.bool (decide ((dupS xd d0)>40)))] ?_)
  refine Ok.nt (Ok.cw hF (fun A0 hF=>?_) (fun A0 hF=>?_))
  ·refine Ok.sr (Ok.B 1 [(2,iv 2)] kr (Ok.nt (Ok.ret (Ok.kr (Ok.kr (Ok.tr (Ok.tr (Ok.kr (Ok.tr ?_)))))))))
   exact Ok.p0 (iv 2) ⟨_,rfl,rfl,hF⟩
  refine Ok.k (Ok.kn (Ok.kn (Ok.t (Ok.r (Ok.b 2 [1,46] [(47,iv (w6 (d0+1)))] ?_)))))
  refine Ok.j (Ok.t ?_)
  exact fun _ _ u v=>⟨k65,nl,w6 (d0+1),fA u v hF⟩
 refine Ok.x (Ok.thenE (Ok.thenE (Ok.blockHit (Ok.t (Ok.sr (Ok.B 1 [(2,iv 0)] kr (Ok.nt (Ok.ret ?_))))))))
 exact Ok.p0 (iv 0) ⟨_,rfl,rfl,hF⟩
/-- a document that is right -/
structure DGood (d:DC):Prop where
 pos:1≤d.1.length
 few:d.1.length≤200
 kids:KGood d.1
 deep:∀ n,n<d.1.length→dupS d n≤40
 ends:∀ n,n<d.1.length→dupS d n≤(d.1.length:Int)
 kind:∀ n,n<d.1.length→(((d.1.getD n default).1==1)=decide (n=0))
 vals:∀ n,n<d.1.length→AGood (d.1.getD n default).2.2.1
def dchkP (d:DC):Prop:=∀ x ∈ d.1,x.2.2.2.2.2.length≤maxLen
theorem dchk_ex (d:DC) (hp:dchkP d):∃ e,dchkF d (fun r=>r=e)∧(e=0→DGood d):=by
 have no:∀ {e:Int},e≠0→(e=0→DGood d):=fun h h0=>absurd h0 h
 refine ex_if (fun _=>ex_k (no dc)) fun h1=>ex_if (fun _=>ex_k (no dc)) fun h2=>?_
 have h1:=of_decide_eq_false h1
 have h2:¬ d.1.length=0:=by
  intro h0
  rw [h0] at h2
  exact absurd h2 dc
 have hkp:dkidP d:=⟨by omega,by omega,hp⟩
 have last:dkidS d=0→(∀ n,n<d.1.length→(((d.1.getD n default).1==1)=decide (n=0)))→(∀ n,n<d.1.length→AGood (d.1.getD n default).2.2.1)→∀ (k i:Nat),i+k=d.1.length→(∀ j,j<i→dupS d j≤40∧dupS d j≤(d.1.length:Int))→∃ e,dchkl65 d (fun r=>r=e) (k+1) (i:Int)∧(e=0→DGood d):=by
  intro hz hkind hval k
  have hkg:=(dkid_sp d hkp).2 hz
  induction k with
  | zero =>
   intro i h hj
   exact ex_if (fun h=>od h) (fun _=>ex_k fun _=>⟨by omega,by omega,hkg,fun n hn=>(hj n om).1,fun n hn=>(hj n om).2,hkind,hval⟩)
  | succ k ih =>
   intro i h hj
   refine ex_if (fun _=>ex_need ⟨by omega,hkg,by omega,by omega⟩ (ex_if (fun _=>ex_k (no dc)) fun hm=>ex_if (fun _=>ex_k (no dc)) fun h40=>?_)) (fun h=>oe h)
   rw [w64 om]
   refine ih (i+1) om fun j hj2=>?_
   by_cases hji:j<i
   ·exact hj j hji
   have:j=i:=by omega
   subst this
   have h1:=of_decide_eq_false h40
   have h2:=of_decide_eq_false hm
   exact ⟨by omega,by omega⟩
 have loop:∀ (k i:Nat),i+k=d.1.length→(∀ n,n<i→(((d.1.getD n default).1==1)=decide (n=0)))→(∀ n,n<i→AGood (d.1.getD n default).2.2.1)→∃ e,dchkl22 d (fun r=>r=e) (k+1) (i:Int)∧(e=0→DGood d):=by
  intro k
  induction k with
  | zero =>
   intro i h hj hv
   refine ex_if (fun h=>od h) (fun _=>ex_need hkp (ex_if (fun hne=>ex_k (no (by simpa using hne))) fun hz=>ex_loop _ (last (by simpa using hz) (fun n hn=>hj n om) (fun n hn=>hv n om) d.1.length 0 om fun j hj=>absurd hj om)))
  | succ k ih =>
   intro i h hj hv
   refine ex_if (fun _=>ex_need om (ex_need (by rw [tnc]; omega) (ex_if (fun _=>ex_k (no dc)) fun hk=>ex_if (fun hne=>ex_k (no (by simpa using hne))) fun ho=>?_))) (fun h=>oe h)
   rw [w64 om]
   have ho':doneS (d.1.getD i default)=0:=by rw [tnc] at ho; simpa using ho
   refine ih (i+1) om (fun n hn=>?_) fun n hn=>?_
   rotate_left
   ·by_cases hni:n<i
    ·exact hv n hni
    have:n=i:=by omega
    subst this
    exact (done_sp _).2 ho'
   by_cases hni:n<i
   ·exact hj n hni
   have:n=i:=by omega
   subst this
   rw [tnc] at hk
   have h2:(((d.1.getD n default).1==1)==((n:Int)==0))=true:=by simpa using hk
   rw [beq_iff_eq.1 h2]
   rw [Bool.eq_iff_iff,beq_iff_eq,decide_eq_true_eq]; omega
 exact ex_loop _ (loop d.1.length 0 om (fun n hn=>absurd hn om) fun n hn=>absurd hn om)
noncomputable def dchkS (d:DC):Int:=pickE fun e=>dchkF d (fun r=>r=e)∧(e=0→DGood d)
theorem dchk_sp (d:DC) (hp:dchkP d):dchkF d (fun r=>r=dchkS d)∧(dchkS d=0→DGood d):=pickE_ok (A:=fun e=>dchkF d (fun r=>r=e)∧(e=0→DGood d)) (dchk_ex d hp)
theorem dchk_F (d:DC) (hp:dchkP d):dchkF d (fun r=>r=dchkS d):=(dchk_sp d hp).1
theorem dchk_c {g:Ghost} {u0:Option Addr} {j0:Nat} (xd:Dc) (b0:Rep g yNs [.slice u0 xd.1.length j0] xd.1)  (hp:dchkP xd):CallsG prog 7 #[.agg (aD xd u0 j0)] g (iv (dchkS xd)) :=
 (dchk_ok xd b0 _ (dchk_F xd hp)).gv
end Go.Proofs.YtdapgmigogpdcaaGreatDoor.Do
