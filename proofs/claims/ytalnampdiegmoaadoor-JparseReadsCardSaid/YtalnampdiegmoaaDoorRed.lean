/- The parser of scripts: read. -/
import Derived.Test.YtalnampdiegmoaaDoorPsk
import Derived.Test.YtalnampdiegmoaaDoorPsm
import Derived.Test.YtalnampdiegmoaaDoorCat
namespace Go.Proofs.YtalnampdiegmoaaDoor.Ps
open _root_.Go.Proofs.Tryd Go Go.Eng Go.RowKit
set_option linter.unusedVariables false
set_option linter.unusedSimpArgs false
set_option maxHeartbeats 4000000
set_option maxRecDepth 100000
noncomputable section
theorem red_resc (b2 b3:Nat) (c0 c1 c2 c3 x:Value):Rescues prog 15 #[pv b2 0,pv b3 0] (.iface 44 (.agg #[])) [.blk b3 (.cells #[x] 4),.blk b2 (.cells #[c0,c1,c2,c3] 24)] [.blk b3 (.cells #[.bool false] 4),.blk b2 (.cells #[iv 0,iv 0,sv [],.slice none 0 0] 24)]:=by
 intro w0 g W hW
 refine callsD_of_wpS func15 rfl fun c₀ cs hu=>?_
 apply wpS_seq
 apply wpS_region
 simp [wpOpsS,go_sem,recoverD,hu,thrown,Exit.thenS]
 refine wpS_of_wp ?_
 refine (?_:Ok 17 w0 [(0,pv b2 0),(1,pv b3 0),(2,.iface 44 (.agg #[]))] [.blk b3 (.cells #[x] 4),.blk b2 (.cells #[c0,c1,c2,c3] 24)] g _) _ W ⟨rfl,rfl,fun t v ht=>?_⟩ hW
 ·refine Ok.sr (Ok.B 2 [(0,pv b2 0),(1,pv b3 0),(2,.iface 44 (.agg #[])),(7,.bool true)] kr (Ok.nt (Ok.c (b:=true) rfl (fun _=>?_) (fun h=>(by cases h)))))
  refine Ok.q (Ok.sr (Ok.b 1 [0,1] [(9,.iface 44 (.agg #[]))] ?_))
  refine Ok.o (OpOk.s (v:=.tuple #[.agg #[],.bool true]) pur rfl rfl ?_)
  refine Ok.b 3 [0,1] [(11,.agg #[]),(12,.bool true)] ?_
  refine Ok.o (OpOk.aw #[] fun bs3=>?_)
  refine Ok.o (OpOk.w 0 ?_)
  refine Ok.b 1 [0,1] [(4,.bool true)] ?_
  refine Ok.nt (Ok.sr (Ok.b 2 [0,1] [(14,.bool false)] ?_))
  refine Ok.nt (Ok.c (b:=false) rfl (fun h=>(by cases h)) (fun _=>?_))
  refine Ok.k (Ok.t (Ok.r (Ok.b 1 [0,1] [(16,.agg #[iv 0,iv 0,sv [],.slice none 0 0])] ?_)))
  refine Ok.o (OpOk.w 2 ?_)
  refine Ok.o (OpOk.w1 1 ?_)
  refine Ok.j ?_
  exact fun a W hA hW=>⟨hA.defers,_,rfl,.tuple #[],by simp [results,Tryd.results15],⟨_,rfl⟩,rfl,hW.sub (.cons _ (List.Sublist.refl _))⟩
 rcases t with _ | _ | _ | t
 ·cases ht; rfl
 ·cases ht; rfl
 ·cases ht; rfl
 cases ht
theorem idle15 (p q:Value):Idle prog 15 #[p,q]:=by
 intro W
 refine callsD_of_wpS func15 rfl fun c₀ cs hu=>?_
 apply wpS_seq
 apply wpS_region
 simp [wpOpsS,go_sem,recoverD,hu,Exit.thenS]
 apply wpS_seq
 apply wpS_region
 simp [wpOpsS,go_sem,Exit.thenS]
 refine wpS_cond (t:=false) (by simp [Act.eval,Array.replicate]) ?_
 simp only [Bool.false_eq_true,if_false]
 refine wpS_of_wp (wp_skip ?_)
 exact ⟨rfl,.returning,by cases c₀; simp_all,.tuple #[],by simp [results,Tryd.results15],⟨_,rfl⟩,rfl,Below.refl _ _⟩
theorem red_catch {g gl:Ghost} {w0:Base} {b2 b3:Nat} {c0 c1 c2 c3 x:Value} {K:JN→Bool→Prop} (hx:Gext w0 g gl) (z:K (Tree.mk (0,0,[]) []) false) (a:Act) (W:World)
  (hA:StA ⟨27,[⟨.fn (.func 15) #[pv b2 0,pv b3 0],#[]⟩]⟩ [(2,pv b2 0),(3,pv b3 0)] a)
  (hW:StW w0 [.blk b3 (.cells #[x] 4),.blk b2 (.cells #[c0,c1,c2,c3] 24)] gl W) :
  bodyPostD prog Tryd.f8 (fun e W'=>∃ v g' H',e=.returned v∧(∃ (r0:JN),∃ (r1:Bool),∃ (g0:Option Addr) (m0:Nat),v=.tuple #[.agg (aJ r0 g0 m0),.bool r1]∧Rep g' yJs [.slice g0 r0.kids.length m0] r0.kids∧H'=[]∧K r0 r1)∧Gext w0 g g'∧StW w0 H' g' W') (.panic (thrown (.iface 44 (.agg #[])))) a W :=
 Ok.catchD (rs:=[.cell 2 24,.cell 3 4]) (vs:=[.agg #[iv 0,iv 0,sv [],.slice none 0 0],.bool false]) (V:=fun g' H' v=>∃ (r0:JN),∃ (r1:Bool),∃ (g0:Option Addr) (m0:Nat),v=.tuple #[.agg (aJ r0 g0 m0),.bool r1]∧Rep g' yJs [.slice g0 r0.kids.length m0] r0.kids∧H'=[]∧K r0 r1)
  (args:=#[pv b2 0,pv b3 0]) (red_resc b2 b3 c0 c1 c2 c3 x) rfl (fun _=>by kernel_rfl) rfl
  (.cons (.cellAgg 1 4 #[iv 0,iv 0,sv [],.slice none 0 0] rfl rfl underlying24 rfl kr kr kr) (.cons (.cellOne 0 rfl rfl underlying4 rfl kr) .nil)) hx
  ⟨Tree.mk (0,0,[]) [],false,none,0,rfl,Rep.nil,rfl,z⟩ hA hW
def redl11b (xl:List TK) (K:JN→Bool→Prop) (Z:Prop) (y0:List TK) (k0:Int) (u0:Bool) (j0:Bool) (z0:List JN) (C11:(List TK)→Int→Bool→Bool→(List JN)→Prop):Prop :=
 ((decide (k0<(xl.length:Int)))=true→(stP 1000000 (y0,k0,u0,j0)∧(∀ q7:JN×PS,stN 1000000 (y0,k0,u0,j0)=some q7→(z0++[nZ]).length≤2513169434916∧(0≤(z0.length:Int)∧Int.toNat (z0.length:Int)<(z0++[nZ]).length∧(C11 q7.2.1 q7.2.2.1 q7.2.2.2.1 q7.2.2.2.2 ((z0++[nZ]).set (Int.toNat (z0.length:Int)) q7.1))∧(C11 q7.2.1 q7.2.2.1 q7.2.2.2.1 q7.2.2.2.2 ((z0++[nZ]).set (Int.toNat (z0.length:Int)) q7.1)))∧(0≤(z0.length:Int)∧Int.toNat (z0.length:Int)<(z0++[nZ]).length∧C11 q7.2.1 q7.2.2.1 q7.2.2.2.1 q7.2.2.2.2 ((z0++[nZ]).set (Int.toNat (z0.length:Int)) q7.1)))∧(stN 1000000 (y0,k0,u0,j0)=none→Z))∧(stP 1000000 (y0,k0,u0,j0)∧(∀ q20:JN×PS,stN 1000000 (y0,k0,u0,j0)=some q20→(z0++[nZ]).length≤2513169434916∧(0≤(z0.length:Int)∧Int.toNat (z0.length:Int)<(z0++[nZ]).length∧(C11 q20.2.1 q20.2.2.1 q20.2.2.2.1 q20.2.2.2.2 ((z0++[nZ]).set (Int.toNat (z0.length:Int)) q20.1))∧(C11 q20.2.1 q20.2.2.1 q20.2.2.2.1 q20.2.2.2.2 ((z0++[nZ]).set (Int.toNat (z0.length:Int)) q20.1)))∧(0≤(z0.length:Int)∧Int.toNat (z0.length:Int)<(z0++[nZ]).length∧C11 q20.2.1 q20.2.2.1 q20.2.2.2.1 q20.2.2.2.2 ((z0++[nZ]).set (Int.toNat (z0.length:Int)) q20.1)))∧(stN 1000000 (y0,k0,u0,j0)=none→Z)))∧((decide (k0<(xl.length:Int)))=false→K (Tree.mk (30,0,([]:Bs)) z0) true)
def redl11 (xl:List TK) (K:JN→Bool→Prop) (Z:Prop):Nat→List TK→Int→Bool→Bool→(List JN)→Prop
 | 0,_,_,_,_,_=>False
 | k+1,y0,k0,u0,j0,z0=>redl11b xl K Z y0 k0 u0 j0 z0 (redl11 xl K Z k)
def redF (xl:List TK) (K:JN→Bool→Prop) (Z:Prop):Prop :=
 ∃ k,redl11 xl K Z k xl 0 false false jZ
theorem red_ok {g:Ghost} {n0:Option Addr} {o0:Nat} (xl:List TK) (a0:Rep g yTs [.slice n0 xl.length o0] xl) (K:JN→Bool→Prop)
  (hF:redF xl K (K (Tree.mk (0,0,[]) []) false)):CallsH prog 8 #[.slice n0 xl.length o0] g [] (fun g' H' v=>∃ (r0:JN),∃ (r1:Bool),∃ (g0:Option Addr) (m0:Nat),v=.tuple #[.agg (aJ r0 g0 m0),.bool r1]∧Rep g' yJs [.slice g0 r0.kids.length m0] r0.kids∧H'=[]∧K r0 r1):=by
 refine CallsH.enterD 27 [(0,.slice n0 xl.length o0)] func8 rfl kr kr kr fun w0=>?_
 refine Ok.q (Ok.r ?_)
 have hL1:RepL g yJ [] []:=rfl
 refine Ok.ownNil 24 4 (Ok.o (OpOk.aw aZ fun bs2=>?_))
 refine Ok.o (OpOk.a (z:=.bool false) (cs:=#[.bool false]) kr kr rfl fun bs3=>?_)
 refine Ok.nt (Ok.sr (Ok.B 1 [(0,.slice n0 xl.length o0),(2,pv bs2 0),(3,pv bs3 0),(5,.func (.func 15) #[] #[pv bs2 0,pv bs3 0])] kr (Ok.o (OpOk.defer ⟨.fn (.func 15) #[pv bs2 0,pv bs3 0],#[]⟩ kr (fun _=>by kernel_rfl) rfl ?_))))
 refine Ok.nt (Ok.sr (Ok.b 2 [0,2,3] [(7,.agg #[.slice n0 xl.length o0,iv 0,.bool false,.bool false])] ?_))
 refine Ok.o (OpOk.bz fun bs8=>?_)
 refine Ok.b 1 [0,2,3] [(4,pv bs8 0)] ?_
 refine Ok.nt (Ok.sr (Ok.b 1 [0,2,3,4] [(9,pv bs2 0)] ?_))
 refine Ok.o (OpOk.w1 2 ?_)
 refine Ok.nt (Ok.q (Ok.block ?_))
 obtain ⟨k,hF⟩:=hF
 refine Ok.L (fun k a W=>∃ C0:Ghost,Gext w0 g C0∧∃ (b0:Option Addr) (d0:Nat) (y0:List TK) (k0:Int) (u0:Bool) (j0:Bool) (v0:Option Addr) (q0:Nat) (z0:List JN) (s0:List Value),Rep C0 yTs [.slice b0 y0.length d0] y0∧RepL C0 yJ s0 z0∧StA ⟨27,[⟨.fn (.func 15) #[pv bs2 0,pv bs3 0],#[]⟩]⟩ [(0,.slice n0 xl.length o0),(2,pv bs2 0),(3,pv bs3 0),(4,pv bs8 0)] a∧StW w0 [.blk bs8 (.cells #[.slice b0 y0.length d0,iv k0,.bool u0,.bool j0] 48),.blk bs3 (.cells #[.bool false] 4),.blk bs2 (.cells (aM 30 0 Bz v0 z0 q0) 24),.own (.slice v0 z0.length q0) 24 4 z0.length s0] C0 W∧redl11 xl K (K (Tree.mk (0,0,[]) []) false) k y0 k0 u0 j0 z0) k ?_ ?_
 ·
  exact fun _ _ u v=>⟨g,Gext.r w0 g,n0,o0,xl,0,false,false,none,0,jZ,[],a0,hL1,fA u v hF⟩
 clear hF
 rintro (_ | k11) _ _ ⟨C0,Y0,b0,d0,y0,k0,u0,j0,v0,q0,z0,s0,e0,x0,q⟩
 exact (q.2.2:False).elim
 refine jn (fun hF=>?_) _ _ q
 refine Ok.q (Ok.sr (Ok.rn 7 [.e 0] [] [(0,.slice n0 xl.length o0),(2,pv bs2 0),(3,pv bs3 0),(4,pv bs8 0),(16,.bool (decide (k0<(xl.length:Int))))] ?_))
 refine Ok.nt (Ok.cw hF (fun hc5 hF=>?_) (fun hc5 hF=>?_))
 ·refine Ok.k (Ok.t (Ok.block (Ok.plE (E:=ThrC _ [(2,pv bs2 0),(3,pv bs3 0)] [.blk bs3 (.cells #[.bool false] 4),.blk bs2 (.cells (aM 30 0 Bz v0 z0 q0) 24)] w0 C0 (K (Tree.mk (0,0,[]) []) false) (.iface 44 (.agg #[]))) (ThrC.put kr) (ThrC.to (fun z a W hA hW=>by exact red_catch Y0 z a W hA hW)) [0,1,2,4] [3,5] [.blk bs3 (.cells #[.bool false] 4),.blk bs2 (.cells (aM 30 0 Bz v0 z0 q0) 24),.own (.slice v0 z0.length q0) 24 4 z0.length s0] [.blk bs3 (.cells #[.bool false] 4)] [(0,true),(1,true),(2,true),(4,true)] 3 (.fork [(5,false),(6,false),(9,true)] 7 (.fork [] 8 (.leaf [(10,false)]) 10 (.leaf [(8,false)])) 10 (.leaf [(7,false),(8,false)])) 5 (.fork [(3,false),(6,false),(9,true)] 7 (.fork [] 8 (.leaf [(10,false)]) 10 (.leaf [(8,false)])) 10 (.leaf [(7,false),(8,false)])) kr kr (.cons_cons _ (.cons _ (.cons _ .slnil))) (.cons _ (.cons_cons _ (.cons_cons _ (.cons_cons _ .slnil)))) ?_)))
  refine OkME.bat 1 [0,2,3,4] [(17,pv bs2 3)] ?_
  refine OkME.hd (OpQ.s (v:=.slice v0 z0.length q0) (Yields.l 1 rfl rfl underlying22 rfl kr) rfl rfl ?_)
  refine OkME.bat 2 [0,2,3,4] [(18,.slice v0 z0.length q0),(19,pv bs8 0),(21,iv (z0.length:Int))] ?_
  refine OkME.nil (Ok.bothE rfl rfl ?_ ?_)
  ·replace hF:=hF.1
   obtain ⟨hp6,hF,hz7⟩:=hF
   refine OkME.tail rfl rfl (OpOk.callC [.blk bs8 (.cells #[.slice b0 y0.length d0,iv k0,.bool u0,.bool j0] 48)] [.blk bs3 (.cells #[.bool false] 4),.blk bs2 (.cells (aM 30 0 Bz v0 z0 q0) 24),.own (.slice v0 z0.length q0) 24 4 z0.length s0] enr rfl (pst_c 1000000 (y0,k0,u0,j0) e0 hp6) rfl (fun z a W hA hW=>⟨rfl,hA.sub kr,hz7 z,(hW.less (Gle.refl _)).sub (.cons_cons _ (.cons_cons _ (.cons _ .slnil)))⟩) fun g8 _ _ hx8 hV8=>?_)
   obtain ⟨q7,hq7,U0,J0,d1,e1,rfl,T0,L0,rfl⟩:=hV8
   replace hF:=hF _ hq7
   replace x0:=x0.mono hx8.1
   refine OkME.l1 hx8.1 ?_
   have hL9:RepL g8 yJ (lY:List Value) [nZ]:=(RepL.consN (c:=lY) (Rep.tree.2 ⟨[iv 0,iv 0,sv Bz],[.slice none 0 0],rfl,⟨[iv 0],[iv 0,sv Bz],rfl,rfl,⟨[iv 0],[sv Bz],rfl,rfl,rfl⟩⟩,Rep.nil⟩) rfl)
   refine OkME.tail rfl rfl (OpOk.li hL9 fun b9=>?_)
   refine OkME.l1 hx8.1 ?_
   obtain ⟨hb10,hF⟩:=hF
   refine OkME.tail rfl rfl (OpOk.append' (e:=yJ) 56 2513169434916 4 0 rfl rfl rfl rfl x0 hL9 underlying22 kr kr kr hb10 rfl fun a10 c10 n1 A0=>?_)
   refine OkME.l1 hx8.1 (OkME.batch 1 [(0,.slice n0 xl.length o0),(2,pv bs2 0),(3,pv bs3 0),(4,pv bs8 0),(20,.agg (aJ q7.1 U0 J0)),(21,iv (z0.length:Int)),(23,.slice a10 (z0++[nZ]).length c10),(25,pv bs2 3)] kr (OkME.nil (Ok.bothE rfl rfl ?_ ?_)))
   ·replace hF:=hF.1
    obtain ⟨h012,h112,hF⟩:=hF
    have o1:=get_of (l:=(z0++[nZ])) default h112
    generalize t1:((z0++[nZ]).getD (Int.toNat (z0.length:Int)) default)=e12 at o1 hF ⊢
    refine OkME.tail rfl rfl (OpOk.indexOwn (e:=yJ) 4 rfl A0 rfl rfl underlying22 kr kr h012 o1 rfl fun cs11 _ hr11 j1=>?_)
    have D0:=hr11
    replace D0:=Rep.tree.1 D0
    obtain ⟨_,_,rfl,⟨_,_,rfl,rfl,⟨_,_,rfl,rfl,rfl⟩⟩,⟨W0,X0,rfl,hm11_3,hr11_3⟩⟩:=D0
    have hR11_3:Rep g8 yJs [.slice W0 e12.kids.length X0] e12.kids:=⟨W0,X0,rfl,hm11_3,hr11_3⟩
    replace j1:∀ j v,((lJ e12 W0 X0):List Value)[j]? = some v→n1[Int.toNat (z0.length:Int) * 4+j]? = some v:=j1
    refine OkME.l1 hx8.1 (OkME.nil (Ok.bothE rfl rfl ?_ ?_))
    ·replace hF:=hF.1
     refine OkME.tail rfl rfl (OpOk.storeOwn (e:=yJ) (q:=Int.toNat (z0.length:Int)) (cells:=(lJ e12 W0 X0)) (vs:=(lJ q7.1 U0 J0)) (el':=q7.1) 4 0 4 rfl A0 j1 kr rfl rfl rfl kr kr kr kr kr (show Rep _ _ (lJ q7.1 U0 J0) _ from (Rep.tree.2 ⟨[iv q7.1.lab.1,iv q7.1.lab.2.1,sv q7.1.lab.2.2],[.slice U0 q7.1.kids.length J0],rfl,⟨[iv q7.1.lab.1],[iv q7.1.lab.2.1,sv q7.1.lab.2.2],rfl,rfl,⟨[iv q7.1.lab.2.1],[sv q7.1.lab.2.2],rfl,rfl,rfl⟩⟩,T0⟩)) fun xs13 hL13=>?_)
     rw [show (z0++[nZ]).length=((z0++[nZ]).set (Int.toNat (z0.length:Int)) q7.1).length from (List.length_set ..).symm]
     refine OkME.l1 hx8.1 (OkME.tail rfl rfl (OpOk.w1 3 ?_))
     refine OkME.l1 hx8.1 (OkME.nil (Ok.leafE (Ok.kn (Ok.t ?_))))
     subst t1
     exact fun _ _ u v=>⟨k11,nl,g8,Y0.trans hx8,d1,e1,q7.2.1,q7.2.2.1,q7.2.2.2.1,q7.2.2.2.2,a10,c10,((z0++[nZ]).set (Int.toNat (z0.length:Int)) q7.1),xs13,L0,hL13,fA u v hF⟩
    replace hF:=hF.2
    refine OkME.tail rfl rfl (OpOk.w1 3 ?_)
    refine OkME.l1 hx8.1 (OkME.tail rfl rfl (OpOk.storeOwn (e:=yJ) (q:=Int.toNat (z0.length:Int)) (cells:=(lJ e12 W0 X0)) (vs:=(lJ q7.1 U0 J0)) (el':=q7.1) 4 0 4 rfl A0 j1 kr rfl rfl rfl kr kr kr kr kr (show Rep _ _ (lJ q7.1 U0 J0) _ from (Rep.tree.2 ⟨[iv q7.1.lab.1,iv q7.1.lab.2.1,sv q7.1.lab.2.2],[.slice U0 q7.1.kids.length J0],rfl,⟨[iv q7.1.lab.1],[iv q7.1.lab.2.1,sv q7.1.lab.2.2],rfl,rfl,⟨[iv q7.1.lab.2.1],[sv q7.1.lab.2.2],rfl,rfl,rfl⟩⟩,T0⟩)) fun xs14 hL14=>?_))
    rw [show (z0++[nZ]).length=((z0++[nZ]).set (Int.toNat (z0.length:Int)) q7.1).length from (List.length_set ..).symm]
    refine OkME.l1 hx8.1 (OkME.nil (Ok.leafE (Ok.kn (Ok.t ?_))))
    subst t1
    exact fun _ _ u v=>⟨k11,nl,g8,Y0.trans hx8,d1,e1,q7.2.1,q7.2.2.1,q7.2.2.2.1,q7.2.2.2.2,a10,c10,((z0++[nZ]).set (Int.toNat (z0.length:Int)) q7.1),xs14,L0,hL14,fA u v hF⟩
   replace hF:=hF.2
   refine OkME.tail rfl rfl (OpOk.w1 3 ?_)
   refine OkME.l1 hx8.1 ?_
   obtain ⟨h016,h116,hF⟩:=hF
   have a1:=get_of (l:=(z0++[nZ])) default h116
   generalize hg16:((z0++[nZ]).getD (Int.toNat (z0.length:Int)) default)=e16 at a1 hF ⊢
   refine OkME.tail rfl rfl (OpOk.indexOwn (e:=yJ) 4 rfl A0 rfl rfl underlying22 kr kr h016 a1 rfl fun cs15 _ hr15 f1=>?_)
   have E0:=hr15
   replace E0:=Rep.tree.1 E0
   obtain ⟨_,_,rfl,⟨_,_,rfl,rfl,⟨_,_,rfl,rfl,rfl⟩⟩,⟨N0,O0,rfl,hm15_3,hr15_3⟩⟩:=E0
   have hR15_3:Rep g8 yJs [.slice N0 e16.kids.length O0] e16.kids:=⟨N0,O0,rfl,hm15_3,hr15_3⟩
   replace f1:∀ j v,((lJ e16 N0 O0):List Value)[j]? = some v→n1[Int.toNat (z0.length:Int) * 4+j]? = some v:=f1
   refine OkME.l1 hx8.1 (OkME.tail rfl rfl (OpOk.storeOwn (e:=yJ) (q:=Int.toNat (z0.length:Int)) (cells:=(lJ e16 N0 O0)) (vs:=(lJ q7.1 U0 J0)) (el':=q7.1) 4 0 4 rfl A0 f1 kr rfl rfl rfl kr kr kr kr kr (show Rep _ _ (lJ q7.1 U0 J0) _ from (Rep.tree.2 ⟨[iv q7.1.lab.1,iv q7.1.lab.2.1,sv q7.1.lab.2.2],[.slice U0 q7.1.kids.length J0],rfl,⟨[iv q7.1.lab.1],[iv q7.1.lab.2.1,sv q7.1.lab.2.2],rfl,rfl,⟨[iv q7.1.lab.2.1],[sv q7.1.lab.2.2],rfl,rfl,rfl⟩⟩,T0⟩)) fun xs17 hL17=>?_))
   rw [show (z0++[nZ]).length=((z0++[nZ]).set (Int.toNat (z0.length:Int)) q7.1).length from (List.length_set ..).symm]
   refine OkME.l1 hx8.1 (OkME.nil (Ok.leafE (Ok.kn (Ok.t ?_))))
   subst hg16
   exact fun _ _ u v=>⟨k11,nl,g8,Y0.trans hx8,d1,e1,q7.2.1,q7.2.2.1,q7.2.2.2.1,q7.2.2.2.2,a10,c10,((z0++[nZ]).set (Int.toNat (z0.length:Int)) q7.1),xs17,L0,hL17,fA u v hF⟩
  replace hF:=hF.2
  have x1:RepL C0 yJ (lY:List Value) [nZ]:=(RepL.consN (c:=lY) (Rep.tree.2 ⟨[iv 0,iv 0,sv Bz],[.slice none 0 0],rfl,⟨[iv 0],[iv 0,sv Bz],rfl,rfl,⟨[iv 0],[sv Bz],rfl,rfl,rfl⟩⟩,Rep.nil⟩) rfl)
  refine OkME.tail rfl rfl (OpOk.li x1 fun b18=>?_)
  refine OkME.l1 (Gle.refl _) ?_
  obtain ⟨hp19,hF,hz20⟩:=hF
  refine OkME.en [1,0,2,3,4] ?_
  refine OkME.tail rfl rfl (OpOk.callC [.blk bs8 (.cells #[.slice b0 y0.length d0,iv k0,.bool u0,.bool j0] 48)] [.own (.slice (some ⟨b18,0,none⟩) [nZ].length 1) 24 4 [nZ].length (lY:List Value),.blk bs3 (.cells #[.bool false] 4),.blk bs2 (.cells (aM 30 0 Bz v0 z0 q0) 24),.own (.slice v0 z0.length q0) 24 4 z0.length s0] enr rfl (pst_c 1000000 (y0,k0,u0,j0) e0 hp19) rfl (fun z a W hA hW=>⟨rfl,hA.sub kr,hz20 z,(hW.less (Gle.refl _)).sub (.cons _ (.cons_cons _ (.cons_cons _ (.cons _ .slnil))))⟩) fun g21 _ _ i0 hV21=>?_)
  obtain ⟨q20,hq20,Z0,V0,I0,z1,rfl,F0,G0,rfl⟩:=hV21
  replace hF:=hF _ hq20
  replace x0:=x0.mono i0.1
  replace x1:=x1.mono i0.1
  refine OkME.l1 i0.1 ?_
  obtain ⟨hb22,hF⟩:=hF
  refine OkME.tail rfl rfl (OpOk.append' (e:=yJ) 56 2513169434916 4 1 rfl rfl rfl rfl x0 x1 underlying22 kr kr kr hb22 rfl fun a22 c22 i1 v1=>?_)
  refine OkME.l1 i0.1 (OkME.batch 1 [(0,.slice n0 xl.length o0),(2,pv bs2 0),(3,pv bs3 0),(4,pv bs8 0),(20,.agg (aJ q20.1 Z0 V0)),(21,iv (z0.length:Int)),(23,.slice a22 (z0++[nZ]).length c22),(25,pv bs2 3)] kr (OkME.nil (Ok.bothE rfl rfl ?_ ?_)))
  ·replace hF:=hF.1
   obtain ⟨h024,h124,hF⟩:=hF
   have Z1:=get_of (l:=(z0++[nZ])) default h124
   generalize V1:((z0++[nZ]).getD (Int.toNat (z0.length:Int)) default)=e24 at Z1 hF ⊢
   refine OkME.tail rfl rfl (OpOk.indexOwn (e:=yJ) 4 rfl v1 rfl rfl underlying22 kr kr h024 Z1 rfl fun cs23 _ hr23 b1=>?_)
   have H0:=hr23
   replace H0:=Rep.tree.1 H0
   obtain ⟨_,_,rfl,⟨_,_,rfl,rfl,⟨_,_,rfl,rfl,rfl⟩⟩,⟨S0,B0,rfl,hm23_3,hr23_3⟩⟩:=H0
   have hR23_3:Rep g21 yJs [.slice S0 e24.kids.length B0] e24.kids:=⟨S0,B0,rfl,hm23_3,hr23_3⟩
   replace b1:∀ j v,((lJ e24 S0 B0):List Value)[j]? = some v→i1[Int.toNat (z0.length:Int) * 4+j]? = some v:=b1
   refine OkME.l1 i0.1 (OkME.nil (Ok.bothE rfl rfl ?_ ?_))
   ·replace hF:=hF.1
    refine OkME.tail rfl rfl (OpOk.storeOwn (e:=yJ) (q:=Int.toNat (z0.length:Int)) (cells:=(lJ e24 S0 B0)) (vs:=(lJ q20.1 Z0 V0)) (el':=q20.1) 4 0 4 rfl v1 b1 kr rfl rfl rfl kr kr kr kr kr (show Rep _ _ (lJ q20.1 Z0 V0) _ from (Rep.tree.2 ⟨[iv q20.1.lab.1,iv q20.1.lab.2.1,sv q20.1.lab.2.2],[.slice Z0 q20.1.kids.length V0],rfl,⟨[iv q20.1.lab.1],[iv q20.1.lab.2.1,sv q20.1.lab.2.2],rfl,rfl,⟨[iv q20.1.lab.2.1],[sv q20.1.lab.2.2],rfl,rfl,rfl⟩⟩,F0⟩)) fun xs25 hL25=>?_)
    rw [show (z0++[nZ]).length=((z0++[nZ]).set (Int.toNat (z0.length:Int)) q20.1).length from (List.length_set ..).symm]
    refine OkME.l1 i0.1 (OkME.tail rfl rfl (OpOk.w1 3 ?_))
    refine OkME.l1 i0.1 (OkME.nil (Ok.leafE (Ok.kn (Ok.t ?_))))
    subst V1
    exact fun _ _ u v=>⟨k11,nl,g21,Y0.trans i0,I0,z1,q20.2.1,q20.2.2.1,q20.2.2.2.1,q20.2.2.2.2,a22,c22,((z0++[nZ]).set (Int.toNat (z0.length:Int)) q20.1),xs25,G0,hL25,fA u v hF⟩
   replace hF:=hF.2
   refine OkME.tail rfl rfl (OpOk.w1 3 ?_)
   refine OkME.l1 i0.1 (OkME.tail rfl rfl (OpOk.storeOwn (e:=yJ) (q:=Int.toNat (z0.length:Int)) (cells:=(lJ e24 S0 B0)) (vs:=(lJ q20.1 Z0 V0)) (el':=q20.1) 4 0 4 rfl v1 b1 kr rfl rfl rfl kr kr kr kr kr (show Rep _ _ (lJ q20.1 Z0 V0) _ from (Rep.tree.2 ⟨[iv q20.1.lab.1,iv q20.1.lab.2.1,sv q20.1.lab.2.2],[.slice Z0 q20.1.kids.length V0],rfl,⟨[iv q20.1.lab.1],[iv q20.1.lab.2.1,sv q20.1.lab.2.2],rfl,rfl,⟨[iv q20.1.lab.2.1],[sv q20.1.lab.2.2],rfl,rfl,rfl⟩⟩,F0⟩)) fun xs26 hL26=>?_))
   rw [show (z0++[nZ]).length=((z0++[nZ]).set (Int.toNat (z0.length:Int)) q20.1).length from (List.length_set ..).symm]
   refine OkME.l1 i0.1 (OkME.nil (Ok.leafE (Ok.kn (Ok.t ?_))))
   subst V1
   exact fun _ _ u v=>⟨k11,nl,g21,Y0.trans i0,I0,z1,q20.2.1,q20.2.2.1,q20.2.2.2.1,q20.2.2.2.2,a22,c22,((z0++[nZ]).set (Int.toNat (z0.length:Int)) q20.1),xs26,G0,hL26,fA u v hF⟩
  replace hF:=hF.2
  refine OkME.tail rfl rfl (OpOk.w1 3 ?_)
  refine OkME.l1 i0.1 ?_
  obtain ⟨h028,h128,hF⟩:=hF
  have Q1:=get_of (l:=(z0++[nZ])) default h128
  generalize hg28:((z0++[nZ]).getD (Int.toNat (z0.length:Int)) default)=e28 at Q1 hF ⊢
  refine OkME.tail rfl rfl (OpOk.indexOwn (e:=yJ) 4 rfl v1 rfl rfl underlying22 kr kr h028 Q1 rfl fun cs27 _ hr27 g1=>?_)
  have M0:=hr27
  replace M0:=Rep.tree.1 M0
  obtain ⟨_,_,rfl,⟨_,_,rfl,rfl,⟨_,_,rfl,rfl,rfl⟩⟩,⟨P0,R0,rfl,hm27_3,hr27_3⟩⟩:=M0
  have hR27_3:Rep g21 yJs [.slice P0 e28.kids.length R0] e28.kids:=⟨P0,R0,rfl,hm27_3,hr27_3⟩
  replace g1:∀ j v,((lJ e28 P0 R0):List Value)[j]? = some v→i1[Int.toNat (z0.length:Int) * 4+j]? = some v:=g1
  refine OkME.l1 i0.1 (OkME.tail rfl rfl (OpOk.storeOwn (e:=yJ) (q:=Int.toNat (z0.length:Int)) (cells:=(lJ e28 P0 R0)) (vs:=(lJ q20.1 Z0 V0)) (el':=q20.1) 4 0 4 rfl v1 g1 kr rfl rfl rfl kr kr kr kr kr (show Rep _ _ (lJ q20.1 Z0 V0) _ from (Rep.tree.2 ⟨[iv q20.1.lab.1,iv q20.1.lab.2.1,sv q20.1.lab.2.2],[.slice Z0 q20.1.kids.length V0],rfl,⟨[iv q20.1.lab.1],[iv q20.1.lab.2.1,sv q20.1.lab.2.2],rfl,rfl,⟨[iv q20.1.lab.2.1],[sv q20.1.lab.2.2],rfl,rfl,rfl⟩⟩,F0⟩)) fun xs29 hL29=>?_))
  rw [show (z0++[nZ]).length=((z0++[nZ]).set (Int.toNat (z0.length:Int)) q20.1).length from (List.length_set ..).symm]
  refine OkME.l1 i0.1 (OkME.nil (Ok.leafE (Ok.kn (Ok.t ?_))))
  subst hg28
  exact fun _ _ u v=>⟨k11,nl,g21,Y0.trans i0,I0,z1,q20.2.1,q20.2.2.1,q20.2.2.2.1,q20.2.2.2.2,a22,c22,((z0++[nZ]).set (Int.toNat (z0.length:Int)) q20.1),xs29,G0,hL29,fA u v hF⟩
 refine Ok.x (Ok.thenE (Ok.thenE (Ok.blockHit (Ok.t (Ok.sr (Ok.o (OpOk.s (v:=.agg (aM 30 0 Bz v0 z0 q0)) (Yields.loadAgg 2 4 (aM 30 0 Bz v0 z0 q0) rfl rfl underlying24 rfl kr kr kr) rfl rfl (Ok.o (OpOk.w 2 ?_)))))))))
 refine Ok.o (OpOk.w1 1 ?_)
 refine Ok.nt (Ok.ret (Ok.frz 3 rfl x0 fun g30 K1 hRf30=>?_))
 exact Ok.resD (vs:=[.agg (aM 30 0 Bz v0 z0 q0),.bool true]) (args:=#[pv bs2 0,pv bs3 0]) (idle15 _ _) rfl (fun _=>by kernel_rfl) [] [] dc rfl (.inl rfl) rfl (.cons (.cellAgg 2 4 (aM 30 0 Bz v0 z0 q0) rfl rfl underlying24 rfl kr kr kr) (.cons (.cellOne 1 rfl rfl underlying4 rfl kr) .nil)) (Y0.trans K1) ⟨(Tree.mk (30,0,Bz) z0),true,v0,q0,rfl,hRf30,rfl,hF⟩
/-- statements, up to the end -/
def scN:Nat→List JN→PS→Option (List JN)
 | 0,_,_=>none
 | k+1,acc,p=>if decide (p.2.1<(p.1.length:Int))=true then (stN 1000000 p).bind fun r=>scN k (acc++[r.1]) r.2 else some acc
def resS:Option (List JN)→JN×Bool
 | some ks=>(nd 30 0 [] ks,true)
 | none=>(nd 0 0 [] [],false)
def redS0 (l:List TK):JN×Bool:=resS (scN (l.length+2) [] (l,0,false,false))
def redS:List TK→JN×Bool:=Classical.choose (rigid redS0)
theorem redS_eq:redS=redS0:=Classical.choose_spec (rigid redS0)
def redP (l:List TK):Prop:=l.length≤1000
theorem red_loop {xl:List TK} {T:Option (List JN)}:∀ (k:Nat) (acc:List JN) (p:PS),p.1=xl→okP 13 1000000 p→p.1.length - p.2.1.toNat<k→acc.length+(p.1.length - p.2.1.toNat)≤1000000→T=scN k acc p →
  redl11 xl (fun a b=>(a,b)=resS T) ((nd 0 0 [] [],false)=resS T) k p.1 p.2.1 p.2.2.1 p.2.2.2 acc
 | 0,_,_,_,_,h,_,_=>absurd h (Nat.not_lt_zero _)
 | k+1,acc,p,hx,hp,hk,hl,e=>by
  subst hx
  obtain ⟨a,b,c,d⟩:=p
  unfold redl11 redl11b
  unfold scN at e
  refine ⟨fun h=>?_,fun h=>?_⟩
  ·rw [if_pos h] at e
   have hs:stP 1000000 (a,b,c,d):=hp
   have hn:stN 1000000 (a,b,c,d)=none→(nd 0 0 [] [],false)=resS T:=fun h0=>by rw [h0] at e; rw [e]; rfl
   have hy:∀ q:JN×PS,stN 1000000 (a,b,c,d)=some q→redl11 a (fun a b=>(a,b)=resS T) ((nd 0 0 [] [],false)=resS T) k q.2.1 q.2.2.1 q.2.2.2.1 q.2.2.2.2 (acc++[q.1]):=fun q hq=>by
    have ad:=(allA _).st _ _ hp.1 hq
    rw [hq] at e
    have:=ad.rem hp.1
    refine red_loop k (acc++[q.1]) q.2 ad.1 (hp.le ad.lev) (by dsimp only at *; omega) (by simp only [List.length_append,List.length_singleton]; dsimp only at *; omega) e
   exact ⟨⟨hs,fun q hq=>addP (q:=q.1) om (by rw [setEnd]; exact hy q hq) (by rw [setEnd]; exact hy q hq),hn⟩,⟨hs,fun q hq=>addP (q:=q.1) om (by rw [setEnd]; exact hy q hq) (by rw [setEnd]; exact hy q hq),hn⟩⟩
  rw [if_neg (nb h)] at e
  rw [e]; rfl
theorem red_F (l:List TK) (hp:redP l):redF l (fun a b=>(a,b)=redS l) ((nd 0 0 [] [],false)=redS l):=by
 rw [redS_eq]
 have hp:l.length≤1000:=hp
 exact ⟨l.length+2,red_loop _ [] (l,0,false,false) rfl ⟨⟨Int.le_refl _,by show (0:Int)≤l.length; omega,by show l.length≤_; omega⟩,by show 40 * (l.length - 0)+13<_; omega⟩ (by show l.length - 0<_; omega) (by show 0+(l.length - 0)≤_; omega) rfl⟩
theorem red_c {g:Ghost} {n0:Option Addr} {o0:Nat} (xl:List TK) (a0:Rep g yTs [.slice n0 xl.length o0] xl)  (hp:redP xl):CallsH prog 8 #[.slice n0 xl.length o0] g [] (fun g' H' v=>∃ (g0:Option Addr) (m0:Nat),v=.tuple #[.agg (aJ (redS xl).1 g0 m0),.bool (redS xl).2]∧Rep g' yJs [.slice g0 (redS xl).1.kids.length m0] (redS xl).1.kids∧H'=[]) :=
 (red_ok xl a0 _ (red_F xl hp)).mono (by rintro g' H' v _ ⟨r0,r1,g0,m0,rfl,hRr0_0,rfl,hK⟩; obtain ⟨rfl,rfl⟩:r0=(redS xl).1∧r1=(redS xl).2:=⟨congrArg (fun z=>z.1) hK,congrArg (fun z=>z.2) hK⟩; exact ⟨g0,m0,rfl,hRr0_0,rfl⟩)
theorem scN_siz:∀ (k:Nat) (acc:List JN) (p:PS) (ks:List JN),psP p→scN k acc p=some ks→(sizL ks:Int)≤sizL acc+(p.1.length - p.2.1)
 | 0,_,_,_,_,h=>by cases h
 | k+1,acc,p,ks,hp,h=>by
  unfold scN at h
  split at h
  ·obtain ⟨r,h1,h2⟩:=Option.bind_eq_some_iff.1 h
   have a:=(allA _).st _ _ hp h1
   have d:=(allD _).st _ _ hp h1
   have:=scN_siz k _ _ _ (a.ok hp) h2
   rw [sizL_app,sizL_cons,sizL_nil,a.1] at this
   omega
  injection h with h; subst h
  have:=hp.2.1
  omega
theorem red_siz (l:List TK) (hl:l.length≤1000):siz (redS l).1≤1001:=by
 rw [redS_eq]
 unfold redS0
 have hp:psP (l,0,false,false):=⟨Int.le_refl _,by show (0:Int)≤l.length; omega,by show l.length≤_; omega⟩
 cases h:scN (l.length+2) [] (l,0,false,false) with
 | none=>show siz (nd 0 0 [] [])≤_; rw [siz_nd,sizL_nil]; omega
 | some ks =>
  have:=scN_siz _ _ _ _ hp h
  show siz (nd 30 0 [] ks)≤_
  rw [siz_nd]
  rw [sizL_nil] at this
  have e:(((l,0,false,false):PS).1.length:Int)=l.length:=rfl
  have e2:((l,0,false,false):PS).2.1=0:=rfl
  omega
mutual
/-- how deep a tree is -/
def dpt:JN→Nat
 | .mk _ l=>dptL l+1
def dptL:List JN→Nat
 | []=>0
 | x::l=>max (dpt x) (dptL l)
end
theorem dpt_kids (x:JN):dpt x=dptL x.kids+1:=by cases x; rw [dpt]; rfl
theorem dptL_nil:dptL []=0:=by rw [dptL]
theorem dptL_cons (x:JN) (l:List JN):dptL (x::l)=max (dpt x) (dptL l):=by rw [dptL]
theorem dptL_app:∀ (l m:List JN),dptL (l++m)=max (dptL l) (dptL m)
 | [],m=>by rw [List.nil_append,dptL_nil]; omega
 | x::l,m=>by rw [List.cons_append,dptL_cons,dptL_cons,dptL_app l m]; omega
mutual
theorem dpt_siz:∀ n:JN,dpt n≤siz n
 | .mk _ l=>by rw [dpt,siz]; have:=dptL_siz l; omega
theorem dptL_siz:∀ l:List JN,dptL l≤sizL l
 | []=>by rw [dptL_nil]; exact Nat.zero_le _
 | x::l=>by rw [dptL_cons,sizL_cons]; have:=dpt_siz x; have:=dptL_siz l; omega
end
theorem siz_at:∀ (l:List JN) (i:Nat) (h:i<l.length),siz l[i]≤sizL l
 | x::l,0,_=>by rw [sizL_cons]; exact Nat.le_add_right _ _
 | x::l,i+1,h=>by
  rw [sizL_cons]
  have:=siz_at l i (by simpa using h)
  simp only [List.getElem_cons_succ]; omega
theorem dptL_take {l:List JN} {i:Nat} (h:i<l.length):dptL (l.take (i+1))=max (dptL (l.take i)) (dpt l[i]):=by
 rw [List.take_add_one,List.getElem?_eq_getElem h,dptL_app]
 show max _ (dptL [l[i]])=_
 rw [dptL_cons,dptL_nil]; omega
def depI (n:JN):Int:=(dpt n:Int)
def dpeP (N:Nat) (n:JN):Prop:=siz n<N∧siz n≤1000000
theorem dpe_kid {N:Nat} {n:JN} (hp:dpeP (N+1) n) {i:Nat} (h:i<n.kids.length):dpeP N n.kids[i]∧n.kids.length≤1000000:=by
 have h1:=siz_at n.kids i h
 have h2:=siz_len n.kids
 obtain ⟨h3,h4⟩:=hp
 rw [siz_kids] at h3 h4
 exact ⟨⟨by omega,by omega⟩,by omega⟩
def dpe_C (N:Nat):Prop:=∀ (g:Ghost) {t0:Option Addr} {l0:Nat} (xn:JN) (Q0:Rep g yJs [.slice t0 xn.kids.length l0] xn.kids)  (hp:dpeP N xn),CallsG prog 9 #[.agg (aJ xn t0 l0)] g (iv (depI xn))
def dpel9b (N:Nat) (xn:JN) (K:Int→Prop) (K0:Int) (f0:Int) (C9:Int→Int→Prop):Prop :=
 ((decide (f0<(xn.kids.length:Int)))=true→0≤f0∧f0.toNat<xn.kids.length∧dpeP N (xn.kids.getD f0.toNat default)∧C9 (if K0<(depI (xn.kids.getD f0.toNat default)) then (depI (xn.kids.getD f0.toNat default)) else K0) (w6 (f0+1)))∧((decide (f0<(xn.kids.length:Int)))=false→K (w6 (K0+1)))
def dpel9 (N:Nat) (xn:JN) (K:Int→Prop):Nat→Int→Int→Prop
 | 0,_,_=>False
 | k+1,K0,f0=>dpel9b N xn K K0 f0 (dpel9 N xn K k)
def dpeF (N:Nat) (xn:JN) (K:Int→Prop):Prop :=
 ∃ k,dpel9 N xn K k 0 0
theorem dpe_ok {g:Ghost} (N:Nat) (ih_dpe:dpe_C N) {t0:Option Addr} {l0:Nat} (xn:JN) (Q0:Rep g yJs [.slice t0 xn.kids.length l0] xn.kids) (K:Int→Prop)
  (hF:dpeF N xn K):CallsH prog 9 #[.agg (aJ xn t0 l0)] g [] (fun g' H' v=>∃ (r0:Int),v=iv r0∧H'=[]∧K r0):=by
 refine CallsH.en 20 func9 rfl fun w0=>?_
 refine Ok.sr (Ok.o (OpOk.bz fun bs1=>?_))
 refine Ok.B 1 [(1,pv bs1 0)] kr (Ok.nt (Ok.sr (Ok.b 1 [1] [(3,iv 0)] ?_)))
 refine Ok.nt (Ok.q (Ok.sr (Ok.rn 4 [.e 0] [3] [(7,.slice t0 xn.kids.length l0),(8,iv (xn.kids.length:Int)),(9,iv 0)] ?_)))
 refine Ok.nt (Ok.block ?_)
 obtain ⟨k,hF⟩:=hF
 refine Ok.L (fun k a W=>∃ (K0:Int) (f0:Int),StA 20 [(3,iv K0),(7,.slice t0 xn.kids.length l0),(8,iv (xn.kids.length:Int)),(9,iv f0)] a∧StW w0 [] g W∧dpel9 N xn K k K0 f0) k ?_ ?_
 ·
  exact fun _ _ u v=>⟨0,0,fA u v hF⟩
 clear hF
 rintro (_ | k9) _ _ ⟨K0,f0,q⟩
 exact (q.2.2:False).elim
 refine jn (fun hF=>?_) _ _ q
 refine Ok.sr (Ok.b 1 [3,7,8,9] [(10,.bool (decide (f0<(xn.kids.length:Int))))] ?_)
 refine Ok.nt (Ok.q (Ok.cw hF (fun hc2 hF=>?_) (fun hc2 hF=>?_)))
 ·refine Ok.k (Ok.t (Ok.q (Ok.block (Ok.q (Ok.r ?_)))))
  obtain ⟨h04,h14,hF⟩:=hF
  have he4:=get_of (l:=xn.kids) default h14
  generalize hg4:(xn.kids.getD f0.toNat default)=e4 at he4 hF ⊢
  refine Ok.o (OpOk.indexRo (e:=yJ) rfl rfl underlying22 kr Q0 h04 he4 rfl fun q3 o3 cs3 _ m1 hr3=>?_)
  have q1:=hr3
  replace q1:=Rep.tree.1 q1
  obtain ⟨_,_,rfl,⟨_,_,rfl,rfl,⟨_,_,rfl,rfl,rfl⟩⟩,⟨y1,u1,rfl,hm3_3,hr3_3⟩⟩:=q1
  have hR3_3:Rep g yJs [.slice y1 e4.kids.length u1] e4.kids:=⟨y1,u1,rfl,hm3_3,hr3_3⟩
  replace m1:At g q3 o3 (lJ e4 y1 u1):=m1
  refine Ok.o (OpOk.s (v:=.agg (aJ e4 y1 u1)) (Yields.loadAggRo 0 4 (aJ e4 y1 u1) m1 kr underlying24 rfl kr kr kr) rfl rfl (Ok.o (OpOk.aw aY fun bs5=>?_)))
  refine Ok.o (OpOk.w 0 ?_)
  refine Ok.nt (Ok.r ?_)
  obtain ⟨hp6,hF⟩:=hF
  refine Ok.rn 5 [.e 0,.k (ih_dpe _ e4 hR3_3 hp6)] [7,8,9] [(3,iv (if K0<(depI e4) then (depI e4) else K0))] ?_
  refine Ok.j (Ok.kn (Ok.t (Ok.r (Ok.b 2 [3,7,8] [(9,iv (w6 (f0+1)))] ?_))))
  refine Ok.j (Ok.t ?_)
  subst hg4
  exact fun _ _ u v=>⟨k9,nl,(if K0<(depI (xn.kids.getD f0.toNat default)) then (depI (xn.kids.getD f0.toNat default)) else K0),w6 (f0+1),fA u v hF⟩
 refine Ok.x (Ok.thenE (Ok.thenE (Ok.blockHit (Ok.t (Ok.sr (Ok.B 3 [(2,iv (w6 (K0+1)))] kr (Ok.nt (Ok.ret ?_))))))))
 exact Ok.h0 (iv (w6 (K0+1))) ⟨_,rfl,rfl,hF⟩
theorem dpe_loop {N:Nat} {n:JN} (hp:dpeP (N+1) n):∀ (k i:Nat),n.kids.length - i<k→i≤n.kids.length→dpel9 N n (fun r=>r=depI n) k (dptL (n.kids.take i):Int) (i:Int)
 | 0,_,h,_=>absurd h (Nat.not_lt_zero _)
 | k+1,i,h,hi=>by
  unfold dpel9 dpel9b
  have hd:=dpt_siz n
  have hs:=hp.2
  refine ⟨fun h1=>?_,fun h1=>?_⟩
  ·have h1:i<n.kids.length:=od h1
   obtain ⟨k1,k2⟩:=dpe_kid hp h1
   have hg:n.kids.getD (Int.toNat (i:Int)) default=n.kids[i]:=by
    show n.kids.getD i default=_
    rw [List.getD_eq_getElem?_getD,List.getElem?_eq_getElem h1]; rfl
   have hw:w6 ((i:Int)+1)=((i+1:Nat):Int):=by rw [w6e om]; rfl
   have hm:(if (dptL (n.kids.take i):Int)<depI n.kids[i] then depI n.kids[i] else (dptL (n.kids.take i):Int))=(dptL (n.kids.take (i+1)):Int):=by
    rw [dptL_take h1]; unfold depI; split <;> omega
   rw [hg,hw,hm]
   exact ⟨Int.natCast_nonneg _,h1,k1,dpe_loop hp k (i+1) om om⟩
  have h1:n.kids.length≤i:=oe h1
  rw [List.take_of_length_le h1]
  show w6 ((dptL n.kids:Int)+1)=depI n
  unfold depI
  rw [dpt_kids] at hd ⊢
  rw [w6e om]; omega
theorem dpe_F (N:Nat) (n:JN) (hp:dpeP (N+1) n):dpeF N n (fun r=>r=depI n):=by
 have:=dpe_loop hp (n.kids.length+1) 0 om om
 rw [List.take_zero,dptL_nil] at this
 exact ⟨_,this⟩
theorem dpe_0 (n:JN) (hp:dpeP 0 n):False:=absurd hp.1 (Nat.not_lt_zero _)
theorem dpe_rec:∀ N,dpe_C N
 | 0=>(by intro g t0 l0 xn Q0 hp; exact (dpe_0 xn hp).elim)
 | N+1 =>
  have ih:=dpe_rec N
  (by intro g t0 l0 xn Q0 hp; exact (dpe_ok N ih xn Q0 _ (dpe_F N xn hp)).gv)
theorem dpe_c (N:Nat) {g:Ghost} {t0:Option Addr} {l0:Nat} (xn:JN) (Q0:Rep g yJs [.slice t0 xn.kids.length l0] xn.kids)  (hp:dpeP N xn):CallsG prog 9 #[.agg (aJ xn t0 l0)] g (iv (depI xn)):=(dpe_rec N) _ xn Q0 hp
end
end Go.Proofs.YtalnampdiegmoaaDoor.Ps
