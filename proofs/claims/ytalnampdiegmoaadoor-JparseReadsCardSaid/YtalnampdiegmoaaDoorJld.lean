/- The script reader: all tokens; a text in quotes. -/
import Derived.Test.YtalnampdiegmoaaDoorJlc
namespace Go.Proofs.YtalnampdiegmoaaDoor.Jl
open _root_.Go.Proofs.Tryd Go Go.Eng Go.RowKit Bld Fl
set_option linter.unusedVariables false
set_option linter.unusedSimpArgs false
set_option maxHeartbeats 4000000
set_option maxRecDepth 100000
def jtokj30 (K:(List TK)→Int→Prop) (q0:Bs) (z0:Int) (v0:List TK) (C17:Bs→Int→List TK→Prop):Prop :=
 (((if (((jnxtS (q0,z0,v0)).2.1==0)&&(((jnxtS (q0,z0,v0)).2.2.2.2.length:Int)==1000))=true then 2 else (jnxtS (q0,z0,v0)).2.1) != 0)=true→K ([]) (if (((jnxtS (q0,z0,v0)).2.1==0)&&(((jnxtS (q0,z0,v0)).2.2.2.2.length:Int)==1000))=true then 2 else (jnxtS (q0,z0,v0)).2.1))∧(((if (((jnxtS (q0,z0,v0)).2.1==0)&&(((jnxtS (q0,z0,v0)).2.2.2.2.length:Int)==1000))=true then 2 else (jnxtS (q0,z0,v0)).2.1) != 0)=false→((jnxtS (q0,z0,v0)).2.2.2.2++([((jnxtS (q0,z0,v0)).1.1,z0,(jnxtS (q0,z0,v0)).2.2.2.1,(jnxtS (q0,z0,v0)).1.2.2.2.1,(jnxtS (q0,z0,v0)).1.2.2.2.2)]:List TK)).length≤2932031007402∧rdP ((jnxtS (q0,z0,v0)).2.2.1,(jnxtS (q0,z0,v0)).2.2.2.1,((jnxtS (q0,z0,v0)).2.2.2.2++([((jnxtS (q0,z0,v0)).1.1,z0,(jnxtS (q0,z0,v0)).2.2.2.1,(jnxtS (q0,z0,v0)).1.2.2.2.1,(jnxtS (q0,z0,v0)).1.2.2.2.2)]:List TK)))∧C17 (jskipS ((jnxtS (q0,z0,v0)).2.2.1,(jnxtS (q0,z0,v0)).2.2.2.1,((jnxtS (q0,z0,v0)).2.2.2.2++([((jnxtS (q0,z0,v0)).1.1,z0,(jnxtS (q0,z0,v0)).2.2.2.1,(jnxtS (q0,z0,v0)).1.2.2.2.1,(jnxtS (q0,z0,v0)).1.2.2.2.2)]:List TK)))).1 (jskipS ((jnxtS (q0,z0,v0)).2.2.1,(jnxtS (q0,z0,v0)).2.2.2.1,((jnxtS (q0,z0,v0)).2.2.2.2++([((jnxtS (q0,z0,v0)).1.1,z0,(jnxtS (q0,z0,v0)).2.2.2.1,(jnxtS (q0,z0,v0)).1.2.2.2.1,(jnxtS (q0,z0,v0)).1.2.2.2.2)]:List TK)))).2.1 (jskipS ((jnxtS (q0,z0,v0)).2.2.1,(jnxtS (q0,z0,v0)).2.2.2.1,((jnxtS (q0,z0,v0)).2.2.2.2++([((jnxtS (q0,z0,v0)).1.1,z0,(jnxtS (q0,z0,v0)).2.2.2.1,(jnxtS (q0,z0,v0)).1.2.2.2.1,(jnxtS (q0,z0,v0)).1.2.2.2.2)]:List TK)))).2.2)
def jtokj31 (K:(List TK)→Int→Prop) (q0:Bs) (z0:Int) (v0:List TK) (C17:Bs→Int→List TK→Prop):Prop :=
 ((((jnxtS (q0,z0,v0)).2.1==0)&&(((jnxtS (q0,z0,v0)).2.2.2.2.length:Int)==1000))=true→jtokj30 K q0 z0 v0 C17)∧((((jnxtS (q0,z0,v0)).2.1==0)&&(((jnxtS (q0,z0,v0)).2.2.2.2.length:Int)==1000))=false→jtokj30 K q0 z0 v0 C17)
def jtokl17b (xs:Bs) (K:(List TK)→Int→Prop) (q0:Bs) (z0:Int) (v0:List TK) (C17:Bs→Int→List TK→Prop):Prop :=
 ((decide (z0<(xs.length:Int)))=true→jtxtP (q0,z0,v0)∧(((jnxtS (q0,z0,v0)).2.1==0)=true→jtokj31 K q0 z0 v0 C17)∧(((jnxtS (q0,z0,v0)).2.1==0)=false→jtokj31 K q0 z0 v0 C17))∧((decide (z0<(xs.length:Int)))=false→K v0 0)
def jtokl17 (xs:Bs) (K:(List TK)→Int→Prop):Nat→Bs→Int→List TK→Prop
 | 0,_,_,_=>False
 | k+1,q0,z0,v0=>jtokl17b xs K q0 z0 v0 (jtokl17 xs K k)
def jtokF (xs:Bs) (K:(List TK)→Int→Prop):Prop :=
 ((decide ((xs.length:Int)>2000))=true→K ([]) 2)∧((decide ((xs.length:Int)>2000))=false→rdP (xs,0,([]:List TK))∧∃ k,jtokl17 xs K k (jskipS (xs,0,([]:List TK))).1 (jskipS (xs,0,([]:List TK))).2.1 (jskipS (xs,0,([]:List TK))).2.2)
theorem jtok_ok {g:Ghost} (xs:Bs) (hG0:GlobL g 0 yb DSpace) (K:(List TK)→Int→Prop)
  (hF:jtokF xs K):CallsH prog 7 #[sv xs] g [] (fun g' H' v=>∃ (r0:List TK),∃ (r1:Int),∃ (b0:Option Addr) (c0:Nat),v=.tuple #[.slice b0 r0.length c0,iv r1]∧Rep g' yTs [.slice b0 r0.length c0] r0∧H'=[]∧K r0 r1):=by
 refine CallsH.en 68 func7 rfl fun w0=>?_
 refine Ok.sr (Ok.B 2 [(0,sv xs)] kr (Ok.nt (Ok.q (Ok.sr (Ok.b 3 [0] [(10,.bool (decide ((xs.length:Int)>2000)))] ?_)))))
 refine Ok.nt (Ok.cw hF (fun hc1 hF=>?_) (fun hc1 hF=>?_))
 ·refine Ok.sr (Ok.B 2 [(2,.slice none 0 0),(3,iv 2)] kr (Ok.nt (Ok.ret (Ok.tr ?_))))
  exact Ok.resH (vs:=[.slice none 0 0,iv 2]) (.inl rfl) rfl (.cons (.tmp rfl) (.cons (.tmp rfl) .nil)) (Gext.r w0 g) ⟨([]),2,none,0,rfl,Rep.nil,rfl,hF⟩
 refine Ok.k (Ok.t (Ok.sr (Ok.b 2 [0] [(12,.agg #[sv xs,iv 0,.slice none 0 0])] ?_)))
 have hL2:RepL g yT [] []:=rfl
 refine Ok.ownNil 40 5 (Ok.o (OpOk.bz fun x0=>?_))
 refine Ok.b 1 [0] [(4,pv x0 0)] ?_
 refine Ok.nt (Ok.q (Ok.sr (Ok.b 1 [0,4] [(14,pv x0 0)] ?_)))
 obtain ⟨hp4,hF⟩:=hF
 refine Ok.o (OpOk.ch (jskip_c (xs,0,([]:List TK)) hL2 hp4) fun g5 _ _ hx5 hV5=>?_)
 obtain ⟨a5_0,c5_0,xs5_0,rfl,hL5_0,rfl⟩:=hV5
 replace hG0:=hG0.mono hx5.1
 refine Ok.nt (Ok.block ?_)
 obtain ⟨k,hF⟩:=hF
 refine Ok.L (fun k a W=>∃ t0:Ghost,Gext w0 g5 t0∧∃ (q0:Bs) (z0:Int) (k0:Option Addr) (u0:Nat) (v0:List TK) (j0:List Value),RepL t0 yT j0 v0∧StA 68 [(0,sv xs),(4,pv x0 0)] a∧StW w0 [.blk x0 (.cells #[sv q0,iv z0,.slice k0 v0.length u0] 38),.own (.slice k0 v0.length u0) 40 5 v0.length j0] t0 W∧jtokl17 xs K k q0 z0 v0) k ?_ ?_
 ·
  exact fun _ _ u v=>⟨g5,Gext.r w0 g5,(jskipS (xs,0,([]:List TK))).1,(jskipS (xs,0,([]:List TK))).2.1,a5_0,c5_0,(jskipS (xs,0,([]:List TK))).2.2,xs5_0,hL5_0,fA u v hF⟩
 clear hF
 rintro (_ | k17) _ _ ⟨t0,f0,q0,z0,k0,u0,v0,j0,s0,q⟩
 exact (q.2.2:False).elim
 refine jn (fun hF=>?_) _ _ q
 replace hG0:=hG0.mono f0.1
 refine Ok.q (Ok.sr (Ok.rn 7 [.e 0] [0,4] [(22,.bool (decide (z0<(xs.length:Int))))] ?_))
 refine Ok.nt (Ok.cw hF (fun hc6 hF=>?_) (fun hc6 hF=>?_))
 ·refine Ok.k (Ok.t (Ok.q (Ok.block (Ok.sr (Ok.rn 5 [.e 0] [0,4] [(5,iv z0)] ?_)))))
  refine Ok.nt (Ok.sr (Ok.b 1 [0,4,5] [(30,pv x0 0)] ?_))
  obtain ⟨hp7,hF⟩:=hF
  refine Ok.o (OpOk.ch (jnxt_c (q0,z0,v0) s0 hG0 hp7) fun g8 _ _ hx8 hV8=>?_)
  obtain ⟨n0,o0,a0,rfl,d0,rfl⟩:=hV8
  refine Ok.b 3 [0,4,5] [(32,.agg (aG (jnxtS (q0,z0,v0)).1)),(33,iv (jnxtS (q0,z0,v0)).2.1)] ?_
  refine Ok.o (OpOk.aw #[iv 0,iv 0,iv 0,sv Bz,iv 0] fun bs6=>?_)
  refine Ok.o (OpOk.w 0 ?_)
  refine Ok.b 1 [0,4,5] [(6,pv bs6 0),(7,iv (jnxtS (q0,z0,v0)).2.1)] ?_
  refine Ok.nt (Ok.cg g8 [(0,sv xs),(4,pv x0 0),(5,iv z0),(6,pv bs6 0),(7,iv (if (((jnxtS (q0,z0,v0)).2.1==0)&&(((jnxtS (q0,z0,v0)).2.2.2.2.length:Int)==1000))=true then 2 else (jnxtS (q0,z0,v0)).2.1))] [.blk bs6 (.cells (aG (jnxtS (q0,z0,v0)).1) 40),.blk x0 (.cells #[sv ((jnxtS (q0,z0,v0)).2.2.1),iv (jnxtS (q0,z0,v0)).2.2.2.1,.slice n0 (jnxtS (q0,z0,v0)).2.2.2.2.length o0] 38),.own (.slice n0 (jnxtS (q0,z0,v0)).2.2.2.2.length o0) 40 5 (jnxtS (q0,z0,v0)).2.2.2.2.length a0] (jtokj30 K q0 z0 v0 (jtokl17 xs K k17)) ?_ (fun gj30 g0 hF=>?_))
  ·
   refine Ok.cg g8 [(0,sv xs),(4,pv x0 0),(5,iv z0),(6,pv bs6 0),(7,iv (jnxtS (q0,z0,v0)).2.1),(43,.bool (((jnxtS (q0,z0,v0)).2.1==0)&&(((jnxtS (q0,z0,v0)).2.2.2.2.length:Int)==1000)))] [.blk bs6 (.cells (aG (jnxtS (q0,z0,v0)).1) 40),.blk x0 (.cells #[sv ((jnxtS (q0,z0,v0)).2.2.1),iv (jnxtS (q0,z0,v0)).2.2.2.1,.slice n0 (jnxtS (q0,z0,v0)).2.2.2.2.length o0] 38),.own (.slice n0 (jnxtS (q0,z0,v0)).2.2.2.2.length o0) 40 5 (jnxtS (q0,z0,v0)).2.2.2.2.length a0] (jtokj31 K q0 z0 v0 (jtokl17 xs K k17)) ?_ (fun Q0 m0 hF=>?_)
   ·
    refine Ok.r (Ok.b 3 [0,4,5,6,7] [(36,.bool ((jnxtS (q0,z0,v0)).2.1==0))] ?_)
    refine Ok.bw 36 hF (fun i0 hF=>?_) (fun i0 hF=>?_)
    ·refine Ok.rn 7 [.e 1] [0,4,5,6,7] [(43,.bool (((jnxtS (q0,z0,v0)).2.2.2.2.length:Int)==1000))] ?_
     refine Ok.nt (Ok.rb 43 (((jnxtS (q0,z0,v0)).2.1==0)&&(((jnxtS (q0,z0,v0)).2.2.2.2.length:Int)==1000)) (mand_t i0) ?_)
     exact fg hF
    refine Ok.b 7 [0,4,5,6,7] [(43,.bool false)] ?_
    refine Ok.nt (Ok.rb 43 (((jnxtS (q0,z0,v0)).2.1==0)&&(((jnxtS (q0,z0,v0)).2.2.2.2.length:Int)==1000)) (mand_f i0) ?_)
    exact fg hF
   replace d0:=d0.mono m0.1
   refine Ok.cw hF (fun Z0 hF=>?_) (fun Z0 hF=>?_)
   ·refine Ok.r (Ok.b 1 [0,4,5,6] [(7,iv 2)] ?_)
    refine Ok.nt (Ok.v 7 rfl (show (iv 2:Value)=iv (if (((jnxtS (q0,z0,v0)).2.1==0)&&(((jnxtS (q0,z0,v0)).2.2.2.2.length:Int)==1000))=true then 2 else (jnxtS (q0,z0,v0)).2.1) from congrArg (Value.int .i64) ((if_t Z0).symm)) ?_)
    exact fun _ _ u v=>⟨Q0,m0,fA u v hF⟩
   refine Ok.k (Ok.t (Ok.v 7 rfl (show (iv (jnxtS (q0,z0,v0)).2.1:Value)=iv (if (((jnxtS (q0,z0,v0)).2.1==0)&&(((jnxtS (q0,z0,v0)).2.2.2.2.length:Int)==1000))=true then 2 else (jnxtS (q0,z0,v0)).2.1) from congrArg (Value.int .i64) ((if_f Z0).symm)) ?_))
   exact fun _ _ u v=>⟨Q0,m0,fA u v hF⟩
  replace d0:=d0.mono g0.1
  refine Ok.q (Ok.sr (Ok.b 2 [0,4,5,6,7] [(45,.bool ((if (((jnxtS (q0,z0,v0)).2.1==0)&&(((jnxtS (q0,z0,v0)).2.2.2.2.length:Int)==1000))=true then 2 else (jnxtS (q0,z0,v0)).2.1) != 0))] ?_))
  refine Ok.nt (Ok.cw hF (fun hc10 hF=>?_) (fun hc10 hF=>?_))
  ·refine Ok.sr (Ok.B 3 [(2,.slice none 0 0),(3,iv (if (((jnxtS (q0,z0,v0)).2.1==0)&&(((jnxtS (q0,z0,v0)).2.2.2.2.length:Int)==1000))=true then 2 else (jnxtS (q0,z0,v0)).2.1))] kr (Ok.nt (Ok.ret (Ok.tr (Ok.kr (Ok.tr (Ok.tr (Ok.kr (Ok.tr ?_)))))))))
   exact Ok.p (vs:=[.slice none 0 0,iv (if (((jnxtS (q0,z0,v0)).2.1==0)&&(((jnxtS (q0,z0,v0)).2.2.2.2.length:Int)==1000))=true then 2 else (jnxtS (q0,z0,v0)).2.1)]) [] [] dc rfl (.inl rfl) rfl (.cons (.tmp rfl) (.cons (.tmp rfl) .nil)) (((hx5.trans f0).trans hx8).trans g0) ⟨([]),(if (((jnxtS (q0,z0,v0)).2.1==0)&&(((jnxtS (q0,z0,v0)).2.2.2.2.length:Int)==1000))=true then 2 else (jnxtS (q0,z0,v0)).2.1),none,0,rfl,Rep.nil,rfl,hF⟩
  refine Ok.k (Ok.t (Ok.q (Ok.mi [] [] [0,1,1] [(0,true),(1,true),(2,true),(3,true),(4,true),(5,true),(6,false),(7,true),(8,false)] ?_)))
  refine OkM.b 4 [0,4,6] [(47,iv z0),(50,pv x0 1)] ?_
  refine OkM.hd (OpQ.s (v:=iv (jnxtS (q0,z0,v0)).2.2.2.1) (Yields.l 0 rfl rfl underlying3 rfl kr) rfl rfl ?_)
  refine OkM.b 1 [0,4,6,47] [(51,iv (jnxtS (q0,z0,v0)).2.2.2.1),(52,pv bs6 1)] ?_
  refine OkM.t rfl rfl (OpOk.w1 0 ?_)
  refine OkM.l1 (Gle.refl _) (OkM.b 1 [0,4,6,51] [(53,pv bs6 2)] ?_)
  refine OkM.t rfl rfl (OpOk.w1 0 ?_)
  refine OkM.l1 (Gle.refl _) (OkM.nil (Ok.t (Ok.mi [2,3,4,5] [6] [1,0,0] [(0,true),(1,true),(2,true),(3,true),(4,true),(5,true),(6,false),(7,false),(8,true),(9,true),(10,false)] ?_)))
  refine OkM.b 4 [0,4,6] [(54,pv x0 0),(57,pv x0 2)] ?_
  refine OkM.hd (OpQ.s (v:=.slice n0 (jnxtS (q0,z0,v0)).2.2.2.2.length o0) (Yields.l 1 rfl rfl underlying30 rfl kr) rfl rfl ?_)
  refine OkM.hd (OpQ.s (v:=.agg #[iv (jnxtS (q0,z0,v0)).1.1,iv z0,iv (jnxtS (q0,z0,v0)).2.2.2.1,sv ((jnxtS (q0,z0,v0)).1.2.2.2.1),iv (jnxtS (q0,z0,v0)).1.2.2.2.2]) (Yields.loadAgg 0 5 #[iv (jnxtS (q0,z0,v0)).1.1,iv z0,iv (jnxtS (q0,z0,v0)).2.2.2.1,sv ((jnxtS (q0,z0,v0)).1.2.2.2.1),iv (jnxtS (q0,z0,v0)).1.2.2.2.2] rfl rfl underlying40 rfl kr kr kr) rfl rfl ?_)
  have l0:RepL gj30 yT ([iv (jnxtS (q0,z0,v0)).1.1,iv z0,iv (jnxtS (q0,z0,v0)).2.2.2.1,sv ((jnxtS (q0,z0,v0)).1.2.2.2.1),iv (jnxtS (q0,z0,v0)).1.2.2.2.2]:List Value) ([((jnxtS (q0,z0,v0)).1.1,z0,(jnxtS (q0,z0,v0)).2.2.2.1,(jnxtS (q0,z0,v0)).1.2.2.2.1,(jnxtS (q0,z0,v0)).1.2.2.2.2)]:List TK):=(RepL.consN (c:=[iv (jnxtS (q0,z0,v0)).1.1,iv z0,iv (jnxtS (q0,z0,v0)).2.2.2.1,sv ((jnxtS (q0,z0,v0)).1.2.2.2.1),iv (jnxtS (q0,z0,v0)).1.2.2.2.2]) ⟨[iv (jnxtS (q0,z0,v0)).1.1],[iv z0,iv (jnxtS (q0,z0,v0)).2.2.2.1,sv ((jnxtS (q0,z0,v0)).1.2.2.2.1),iv (jnxtS (q0,z0,v0)).1.2.2.2.2],rfl,rfl,⟨[iv z0],[iv (jnxtS (q0,z0,v0)).2.2.2.1,sv ((jnxtS (q0,z0,v0)).1.2.2.2.1),iv (jnxtS (q0,z0,v0)).1.2.2.2.2],rfl,rfl,⟨[iv (jnxtS (q0,z0,v0)).2.2.2.1],[sv ((jnxtS (q0,z0,v0)).1.2.2.2.1),iv (jnxtS (q0,z0,v0)).1.2.2.2.2],rfl,rfl,⟨[sv ((jnxtS (q0,z0,v0)).1.2.2.2.1)],[iv (jnxtS (q0,z0,v0)).1.2.2.2.2],rfl,rfl,rfl⟩⟩⟩⟩ rfl)
  refine OkM.t rfl rfl (OpOk.li l0 fun b11=>?_)
  refine OkM.l1 (Gle.refl _) ?_
  obtain ⟨hb12,hF⟩:=hF
  refine OkM.t rfl rfl (OpOk.append' (e:=yT) 48 2932031007402 3 0 rfl rfl rfl rfl d0 l0 underlying30 kr kr kr hb12 rfl fun a12 c12 xs12 hL12=>?_)
  refine OkM.l1 (Gle.refl _) (OkM.b 2 [0,4] [(61,.slice a12 ((jnxtS (q0,z0,v0)).2.2.2.2++([((jnxtS (q0,z0,v0)).1.1,z0,(jnxtS (q0,z0,v0)).2.2.2.1,(jnxtS (q0,z0,v0)).1.2.2.2.1,(jnxtS (q0,z0,v0)).1.2.2.2.2)]:List TK)).length c12),(63,pv x0 2)] ?_)
  refine OkM.t rfl rfl (OpOk.w1 2 ?_)
  refine OkM.l1 (Gle.refl _) (OkM.nil (Ok.kn (Ok.t (Ok.r (Ok.b 1 [0,4] [(23,pv x0 0)] ?_)))))
  obtain ⟨hp13,hF⟩:=hF
  refine Ok.en [2,3,0,1] ?_
  refine Ok.o (OpOk.ch (jskip_c ((jnxtS (q0,z0,v0)).2.2.1,(jnxtS (q0,z0,v0)).2.2.2.1,((jnxtS (q0,z0,v0)).2.2.2.2++([((jnxtS (q0,z0,v0)).1.1,z0,(jnxtS (q0,z0,v0)).2.2.2.1,(jnxtS (q0,z0,v0)).1.2.2.2.1,(jnxtS (q0,z0,v0)).1.2.2.2.2)]:List TK))) hL12 hp13) fun g14 _ _ V0 hV14=>?_)
  obtain ⟨a14_0,c14_0,xs14_0,rfl,hL14_0,rfl⟩:=hV14
  refine Ok.j (Ok.t ?_)
  exact fun _ _ u v=>⟨k17,nl,g14,(((f0.trans hx8).trans g0).trans V0),(jskipS ((jnxtS (q0,z0,v0)).2.2.1,(jnxtS (q0,z0,v0)).2.2.2.1,((jnxtS (q0,z0,v0)).2.2.2.2++([((jnxtS (q0,z0,v0)).1.1,z0,(jnxtS (q0,z0,v0)).2.2.2.1,(jnxtS (q0,z0,v0)).1.2.2.2.1,(jnxtS (q0,z0,v0)).1.2.2.2.2)]:List TK)))).1,(jskipS ((jnxtS (q0,z0,v0)).2.2.1,(jnxtS (q0,z0,v0)).2.2.2.1,((jnxtS (q0,z0,v0)).2.2.2.2++([((jnxtS (q0,z0,v0)).1.1,z0,(jnxtS (q0,z0,v0)).2.2.2.1,(jnxtS (q0,z0,v0)).1.2.2.2.1,(jnxtS (q0,z0,v0)).1.2.2.2.2)]:List TK)))).2.1,a14_0,c14_0,(jskipS ((jnxtS (q0,z0,v0)).2.2.1,(jnxtS (q0,z0,v0)).2.2.2.1,((jnxtS (q0,z0,v0)).2.2.2.2++([((jnxtS (q0,z0,v0)).1.1,z0,(jnxtS (q0,z0,v0)).2.2.2.1,(jnxtS (q0,z0,v0)).1.2.2.2.1,(jnxtS (q0,z0,v0)).1.2.2.2.2)]:List TK)))).2.2,xs14_0,hL14_0,fA u v hF⟩
 refine Ok.x (Ok.thenE (Ok.thenE (Ok.blockHit (Ok.t (Ok.sr (Ok.rn 6 [.e 0] [] [(2,.slice k0 v0.length u0),(3,iv 0)] ?_))))))
 refine Ok.nt (Ok.ret (Ok.frz 1 rfl s0 fun g17 K0 hRf17=>?_))
 exact Ok.p (vs:=[.slice k0 v0.length u0,iv 0]) [] [] dc rfl (.inl rfl) rfl (.cons (.tmp rfl) (.cons (.tmp rfl) .nil)) ((hx5.trans f0).trans K0) ⟨v0,0,k0,u0,rfl,hRf17,rfl,hF⟩
theorem run_adv {x:RD} (hp:jtxtP x) (is:Int→Bool) (h:is (jpeekS x 0).1=true):x.2.1<runE x is:=by
 obtain ⟨h1,h2,h3⟩:=hp
 have e:(jpeekS x 0).1=((x.1.getD x.2.1.toNat 0).toNat:Int):=by
  unfold jpeekS; rw [Int.add_zero,if_t (decide_eq_true h3)]
 rw [e] at h
 unfold runE
 rw [drop_get (l:=x.1) 0 om,runN,if_t h]
 omega
theorem txN_adv (s:Bs) (o:List TK) (hs:s.length≤1000000):∀ (k:Nat) (i:Int) (acc:List Int),0≤i→i≤(s.length:Int)→i≤(txN s o k i acc).2.2.2.1
 | 0,i,acc,h1,h2=>Int.le_refl _
 | k+1,i,acc,h1,h2=>by
  rw [txN]
  split
  ·rename_i hn
   have hlt:=of_decide_eq_true hn
   have hr:=esc_rd (s,i+1,o) ⟨hs,by show 0≤i+1; omega,by show i+1≤(s.length:Int); omega⟩
   have hr2:i+1+(jescS (s,i+1,o)).2.1≤(s.length:Int):=hr.2
   have h3:i≤i+1:=by omega
   split
   ·exact h3
   split
   ·exact h3
   split
   ·split
    ·exact h3
    have:=txN_adv s o hs k _ (acc++[(jescS (s,i+1,o)).1]) (by have:=hr.1; omega) hr2
    have:=hr.1; omega
   have:=txN_adv s o hs k (i+1) (acc++[((s.getD i.toNat 0).toNat:Int)]) om om
   omega
  exact Int.le_refl _
theorem nxt_rd {x:RD} (hp:jtxtP x):(jnxtS x).2.2.1=x.1∧(jnxtS x).2.2.2.2=x.2.2∧rdP (jnxtS x).2.2∧((jnxtS x).2.1=0→x.2.1<(jnxtS x).2.2.2.1):=by
 have hr:rdP x:=⟨hp.1,hp.2.1,by have:=hp.2.2; omega⟩
 have hp3:=hp.2.2
 have hp2:=hp.2.1
 unfold jnxtS
 split
 ·rename_i h
  refine ⟨rfl,rfl,run_rd hr _,fun _=>run_adv hp (fun y0=>jnbM y0) ?_⟩
  show (jletM _||jdigM _)=true
  rw [h]; rfl
 split
 ·rename_i h
  have ha:=run_adv hp (fun y0=>jdigM y0) h
  unfold jnumS
  split
  ·exact ⟨rfl,rfl,run_rd hr _,fun _=>ha⟩
  split <;> exact ⟨rfl,rfl,run_rd hr _,fun _=>ha⟩
 split
 ·have h:=txN_rd x.1 x.2.2 hp.1 (x.1.length+1) (x.2.1+1) [] om om
  have h':=txN_adv x.1 x.2.2 hp.1 (x.1.length+1) (x.2.1+1) [] om om
  exact ⟨h.2.1,h.2.2,h.1,fun _=>by show x.2.1<(txN x.1 x.2.2 (x.1.length+1) (x.2.1+1) []).2.2.2.1; omega⟩
 unfold jsigS
 split
 ·rename_i h
  have hb:¬ (x.2.1+2>(x.1.length:Int)):=fun hc=>by unfold sgT at h; rw [decide_eq_true hc] at h; exact Bool.false_ne_true h
  exact ⟨rfl,rfl,⟨hp.1,by show 0≤x.2.1+2; omega,by show x.2.1+2≤(x.1.length:Int); omega⟩,fun _=>by show x.2.1<x.2.1+2; omega⟩
 split
 ·exact ⟨rfl,rfl,⟨hp.1,by show 0≤x.2.1+1; omega,by show x.2.1+1≤(x.1.length:Int); omega⟩,fun _=>by show x.2.1<x.2.1+1; omega⟩
 exact ⟨rfl,rfl,hr,fun h=>absurd (show (4:Int)=0 from h) dc⟩
theorem skip_rd {x:RD} (hp:rdP x):rdP (jskipS x)∧x.2.1≤(jskipS x).2.1:=by
 obtain ⟨h1,h2,h3⟩:=hp
 have h:=skN_le (x.1.drop x.2.1.toNat) false
 rw [List.length_drop] at h
 refine ⟨⟨h1,?_,?_⟩,?_⟩
 ·show 0≤x.2.1+(skN (x.1.drop (Int.toNat x.2.1)) false:Nat); omega
 ·show x.2.1+(skN (x.1.drop (Int.toNat x.2.1)) false:Nat)≤(x.1.length:Int); omega
 show x.2.1≤x.2.1+(skN (x.1.drop (Int.toNat x.2.1)) false:Nat); omega
def tkE (x:RD):Int:=if ((jnxtS x).2.1==0&&(x.2.2.length:Int)==1000)=true then 2 else (jnxtS x).2.1
def tkA (x:RD):RD:=jskipS (x.1,(jnxtS x).2.2.2.1,x.2.2++[((jnxtS x).1.1,x.2.1,(jnxtS x).2.2.2.1,(jnxtS x).1.2.2.2.1,(jnxtS x).1.2.2.2.2)])
/-- the rest of the tokens -/
def tkN:Nat→RD→List TK×Int
 | 0,x=>(x.2.2,0)
 | k+1,x=>if decide (x.2.1<(x.1.length:Int))=true then (if (tkE x != 0)=true then ([],tkE x) else tkN k (tkA x)) else (x.2.2,0)
def jtokS (s:Bs):List TK×Int:=if decide ((s.length:Int)>2000)=true then ([],2) else tkN (s.length+1) (jskipS (s,0,[]))
theorem jtok_F (s:Bs):jtokF s (fun r e=>(r,e)=jtokS s):=by
 refine ⟨fun h=>by unfold jtokS; rw [if_t h],fun h=>?_⟩
 have hl:=of_decide_eq_false h
 have e0:jtokS s=tkN (s.length+1) (jskipS (s,0,[])):=by unfold jtokS; rw [if_f h]
 have loop:∀ (k:Nat) (x:RD),(s.length:Int)≤x.2.1+k→x.1=s→rdP x→(x.2.2.length:Int)≤x.2.1→jtokS s=tkN (k+1) x→jtokl17 s (fun r e=>(r,e)=jtokS s) (k+1) x.1 x.2.1 x.2.2:=by
  intro k
  induction k with
  | zero =>
   intro x hk hx hr ho he
   have hn:decide (x.2.1<(s.length:Int))=false:=decide_eq_false om
   rw [tkN,hx,if_f hn] at he
   exact ⟨fun h=>(Bool.false_ne_true (hn.symm.trans h)).elim,fun _=>he.symm⟩
  | succ k ih =>
   intro x hk hx hr ho he
   rw [tkN,hx] at he
   refine ⟨fun hn=>?_,fun hn=>by rw [if_f hn] at he; exact he.symm⟩
   rw [if_t hn] at he
   have hlt:=of_decide_eq_true hn
   have hp:jtxtP x:=⟨hr.1,hr.2.1,by rw [hx]; exact hlt⟩
   obtain ⟨n1,n2,n3,n4⟩:=nxt_rd hp
   have key:jtokj30 (fun r e=>(r,e)=jtokS s) x.1 x.2.1 x.2.2 (jtokl17 s (fun r e=>(r,e)=jtokS s) (k+1)):=by
    unfold jtokj30
    rw [show (x:RD)=x from rfl,n1,n2]
    refine ⟨fun hb=>?_,fun hb=>?_⟩
    ·rw [if_t (show (tkE x != 0)=true from hb)] at he
     exact he.symm
    rw [if_f (show (tkE x != 0)=false from hb)] at he
    have hE:tkE x=0:=by
     have hb':(tkE x != 0)=false:=hb
     simpa using hb'
    have hq:(jnxtS x).2.1=0:=by
     unfold tkE at hE
     split at hE
     ·exact absurd hE dc
     exact hE
    have n5:=n4 hq
    have n6:rdP (x.1,(jnxtS x).2.2.2.1,x.2.2++[((jnxtS x).1.1,x.2.1,(jnxtS x).2.2.2.1,(jnxtS x).1.2.2.2.1,(jnxtS x).1.2.2.2.2)]):=⟨hr.1,n3.2.1,by rw [← n1]; exact n3.2.2⟩
    have hsk:=skip_rd n6
    have hsk2:(jnxtS x).2.2.2.1≤(tkA x).2.1:=hsk.2
    have hr1:=hr.1
    have hr3:=hr.2.2
    have hx3:(x.2.2.length:Int)+1≤(tkA x).2.1:=by omega
    refine ⟨by rw [List.length_append]; simp only [List.length_cons,List.length_nil]; omega,n6,?_⟩
    exact ih (tkA x) om hx hsk.1 (by show ((x.2.2++[_]).length:Int)≤_; rw [List.length_append]; simp only [List.length_cons,List.length_nil]; omega) he
   have Y0:jtokj31 (fun r e=>(r,e)=jtokS s) x.1 x.2.1 x.2.2 (jtokl17 s (fun r e=>(r,e)=jtokS s) (k+1)):=⟨fun _=>key,fun _=>key⟩
   exact ⟨hp,fun _=>Y0,fun _=>Y0⟩
 have h0:rdP (s,0,[]):=⟨by show s.length≤1000000; omega,Int.le_refl _,by show (0:Int)≤(s.length:Int); omega⟩
 have hs:=skip_rd h0
 exact ⟨h0,_,loop s.length (jskipS (s,0,[])) (by have:(0:Int)≤(jskipS (s,0,[])).2.1:=hs.1.2.1; omega) rfl hs.1 hs.1.2.1 e0⟩
theorem jtok_c {g:Ghost} (xs:Bs) (hG0:GlobL g 0 yb DSpace)  : CallsH prog 7 #[sv xs] g [] (fun g' H' v=>∃ (b0:Option Addr) (c0:Nat),v=.tuple #[.slice b0 (jtokS xs).1.length c0,iv (jtokS xs).2]∧Rep g' yTs [.slice b0 (jtokS xs).1.length c0] (jtokS xs).1∧H'=[]) :=
 (jtok_ok xs hG0 _ (jtok_F xs)).mono (by rintro g' H' v _ ⟨r0,r1,b0,c0,rfl,hRr0_0,rfl,hK⟩; obtain ⟨rfl,rfl⟩:r0=(jtokS xs).1∧r1=(jtokS xs).2:=⟨congrArg (fun z=>z.1) hK,congrArg (fun z=>z.2) hK⟩; exact ⟨b0,c0,rfl,hRr0_0,rfl⟩)
def HX:Bs:=[48,49,50,51,52,53,54,55,56,57,97,98,99,100,101,102]
theorem intsOf_app (a b:Bs):intsOf (a++b)=intsOf a++intsOf b:=List.map_append
end Go.Proofs.YtalnampdiegmoaaDoor.Jl
