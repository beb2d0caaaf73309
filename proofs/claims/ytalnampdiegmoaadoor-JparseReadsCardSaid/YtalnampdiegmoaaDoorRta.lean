/- The document's reader of scripts: its small functions. -/
import Derived.Test.YtalnampdiegmoaaDoorPsb
namespace Go.Proofs.YtalnampdiegmoaaDoor.Rf
open _root_.Go.Proofs.Tryd Go Go.Eng Go.RowKit Ps
set_option linter.unusedVariables false
set_option linter.unusedSimpArgs false
set_option maxHeartbeats 4000000
set_option maxRecDepth 100000
noncomputable section
def rwdV0 (xt:TT):Bool :=
 ((decide ((xt.1.length:Int)>0))&&(decide ((xt.1.getD (Int.toNat 0) default).1≥4)))
def rwdj4 (xt:TT) (K:Bs→Prop):Prop :=
 (rwdV0 xt=true→(0:Int)≤0∧Int.toNat 0<xt.1.length∧K (xt.1.getD (Int.toNat 0) default).2.2.2.1)∧(rwdV0 xt=false→K ([]:Bs))
def rwdF (xt:TT) (K:Bs→Prop):Prop :=
 ((decide ((xt.1.length:Int)>0))=true→(0:Int)≤0∧Int.toNat 0<xt.1.length∧rwdj4 xt K)∧((decide ((xt.1.length:Int)>0))=false→rwdj4 xt K)
theorem rwd_ok {g:Ghost} {bxt:Nat} {k0:Option Addr} {y0:Nat} (xt:TT) (q0:Rep g yTs [.slice k0 xt.1.length y0] xt.1) (K:Bs→Prop)
  (hF:rwdF xt K):CallsH prog 50 #[pv bxt 0] g [.blk bxt (.cells (aT xt k0 y0) 58)] (fun g' H' v=>∃ (r0:Bs),v=sv r0∧H'=[.blk bxt (.cells (aT xt k0 y0) 58)]∧K r0):=by
 refine CallsH.en 26 func50 rfl fun w0=>?_
 refine Ok.sr (Ok.B 1 [(0,pv bxt 0)] kr (Ok.nt (Ok.q (Ok.cg g [(0,pv bxt 0),(18,.bool (rwdV0 xt))] [.blk bxt (.cells (aT xt k0 y0) 58)] (rwdj4 xt K) ?_ (fun gj4 a0 hF=>?_)))))
 ·
  refine Ok.r (Ok.rn 7 [.e 0] [0] [(9,.bool (decide ((xt.1.length:Int)>0)))] ?_)
  refine Ok.bw 9 hF (fun hc4 hF=>?_) (fun hc4 hF=>?_)
  ·refine Ok.b 3 [0] [(9,.bool true),(12,pv bxt 0)] ?_
   refine Ok.oy (OpOk.s (v:=.slice k0 xt.1.length y0) (Yields.l 0 rfl rfl underlying30 rfl kr) rfl rfl ?_)
   obtain ⟨h06,h16,hF⟩:=hF
   have he6:=get_of (l:=xt.1) default h16
   generalize hg6:(xt.1.getD (Int.toNat 0) default)=e6 at he6 hF ⊢
   refine Ok.oy (OpOk.indexRo (e:=yT) rfl rfl underlying30 kr q0 h06 he6 rfl fun q5 o5 cs5 _ F0 hr5=>?_)
   obtain ⟨_,_,rfl,rfl,⟨_,_,rfl,rfl,⟨_,_,rfl,rfl,⟨_,_,rfl,rfl,rfl⟩⟩⟩⟩:=hr5
   replace F0:At g q5 o5 [iv e6.1,iv e6.2.1,iv e6.2.2.1,sv e6.2.2.2.1,iv e6.2.2.2.2]:=F0
   refine Ok.rn 4 [.a 0 F0] [0] [(18,.bool (decide (e6.1≥4)))] ?_
   refine Ok.j (Ok.t ?_)
   subst hg6
   refine Ok.rb 18 (rwdV0 xt) (mand_t hc4) ?_
   exact fg hF
  refine Ok.b 9 [0] [(18,.bool false)] ?_
  refine Ok.nt (Ok.rb 18 (rwdV0 xt) (mand_f hc4) ?_)
  exact fg hF
 replace q0:=q0.mono a0.1
 refine Ok.cw hF (fun hc1 hF=>?_) (fun hc1 hF=>?_)
 ·refine Ok.sr (Ok.B 3 [(21,pv bxt 0)] kr (Ok.o (OpOk.s (v:=.slice k0 xt.1.length y0) (Yields.l 0 rfl rfl underlying30 rfl kr) rfl rfl ?_)))
  obtain ⟨h03,h13,hF⟩:=hF
  have he3:=get_of (l:=xt.1) default h13
  generalize hg3:(xt.1.getD (Int.toNat 0) default)=e3 at he3 hF ⊢
  refine Ok.o (OpOk.indexRo (e:=yT) rfl rfl underlying30 kr q0 h03 he3 rfl fun q2 o2 cs2 _ l0 hr2=>?_)
  obtain ⟨_,_,rfl,rfl,⟨_,_,rfl,rfl,⟨_,_,rfl,rfl,⟨_,_,rfl,rfl,rfl⟩⟩⟩⟩:=hr2
  replace l0:At gj4 q2 o2 [iv e3.1,iv e3.2.1,iv e3.2.2.1,sv e3.2.2.2.1,iv e3.2.2.2.2]:=l0
  refine Ok.rn 3 [.a 3 l0] [] [(2,sv e3.2.2.2.1)] ?_
  refine Ok.nt (Ok.ret (Ok.tr ?_))
  exact Ok.h1 (sv e3.2.2.2.1) a0 ⟨e3.2.2.2.1,rfl,rfl,hF⟩
 refine Ok.k (Ok.t (Ok.sr (Ok.B 1 [(2,sv Bz)] kr (Ok.nt (Ok.ret ?_)))))
 exact Ok.h1 (sv Bz) a0 ⟨Bz,rfl,rfl,hF⟩
def hdT (t:TT):TK:=t.1.getD 0 (0,0,0,[],0)
def rwdS (t:TT):Bs:=if decide ((hdT t).1≥4)=true then (hdT t).2.2.2.1 else []
theorem rwd_F (t:TT):rwdF t (fun a=>a=rwdS t):=by
 obtain ⟨l,b⟩:=t
 cases l with
 | nil=>exact ⟨fun h=>(by cases h),fun _=>⟨fun h=>(by cases h),fun _=>rfl⟩⟩
 | cons x l =>
  refine ⟨fun _=>⟨Int.le_refl _,Nat.succ_pos _,?_⟩,fun h=>absurd h (by simp)⟩
  have e:rwdV0 (x::l,b)=decide (x.1≥4):=by
   show (decide _&&decide _)=_
   rw [decide_eq_true (by simp),Bool.true_and]; rfl
  refine ⟨fun h=>⟨Int.le_refl _,Nat.succ_pos _,?_⟩,fun h=>?_⟩
  ·rw [e] at h
   show _=if decide (x.1≥4)=true then _ else _
   rw [if_pos h]; rfl
  rw [e] at h
  show _=if decide (x.1≥4)=true then _ else _
  rw [if_neg (by rw [h]; decide)]
theorem rwd_c {g:Ghost} {bxt:Nat} {k0:Option Addr} {y0:Nat} (xt:TT) (q0:Rep g yTs [.slice k0 xt.1.length y0] xt.1)  : CallsH prog 50 #[pv bxt 0] g [.blk bxt (.cells (aT xt k0 y0) 58)] (fun g' H' v=>v=sv (rwdS xt)∧H'=[.blk bxt (.cells (aT xt k0 y0) 58)]) :=
 (rwd_ok xt q0 _ (rwd_F xt)).mono (by rintro g' H' v _ ⟨r0,rfl,rfl,hK⟩; subst hK; exact ⟨rfl,rfl⟩)
def rpaj4 (xt:TT) (K:TK→TT→Prop):Prop :=
 ((((xt.1.length:Int)==0)||xt.2)=true→K (0,0,0,([]:Bs),0) (xt.1,true))∧((((xt.1.length:Int)==0)||xt.2)=false→(0:Int)≤0∧Int.toNat 0<xt.1.length∧(0:Int)≤1∧(1:Int)≤(xt.1.length:Int)∧(xt.1.length:Int)≤(xt.1.length:Int)∧K (xt.1.getD (Int.toNat 0) default) (xt.1.drop (Int.toNat 1),xt.2))
def rpaF (xt:TT) (K:TK→TT→Prop):Prop :=
 (((xt.1.length:Int)==0)=true→rpaj4 xt K)∧(((xt.1.length:Int)==0)=false→rpaj4 xt K)
theorem rpa_ok {g:Ghost} {bxt:Nat} {k0:Option Addr} {y0:Nat} (xt:TT) (q0:Rep g yTs [.slice k0 xt.1.length y0] xt.1) (K:TK→TT→Prop)
  (hF:rpaF xt K):CallsH prog 68 #[pv bxt 0] g [.blk bxt (.cells (aT xt k0 y0) 58)] (fun g' H' v=>∃ (r0:TK),∃ (fxt:TT),∃ (u0:Option Addr) (j0:Nat),v=.agg (aG r0)∧Rep g' yTs [.slice u0 fxt.1.length j0] fxt.1∧H'=[.blk bxt (.cells (aT fxt u0 j0) 58)]∧K r0 fxt):=by
 refine CallsH.en 35 func68 rfl fun w0=>?_
 refine Ok.sr (Ok.o (OpOk.aw #[iv 0,iv 0,iv 0,sv Bz,iv 0] fun bs2=>?_))
 refine Ok.nt (Ok.q (Ok.cg g [(0,pv bxt 0),(2,pv bs2 0),(15,.bool (((xt.1.length:Int)==0)||xt.2))] [.blk bs2 (.cells #[iv 0,iv 0,iv 0,sv Bz,iv 0] 40),.blk bxt (.cells (aT xt k0 y0) 58)] (rpaj4 xt K) ?_ (fun gj4 a0 hF=>?_)))
 ·
  refine Ok.r (Ok.rn 7 [.e 1] [] [(0,pv bxt 0),(2,pv bs2 0),(10,.bool ((xt.1.length:Int)==0))] ?_)
  refine Ok.bw 10 hF (fun hc7 hF=>?_) (fun hc7 hF=>?_)
  ·refine Ok.b 5 [0,2] [(15,.bool true)] ?_
   refine Ok.nt (Ok.rb 15 (((xt.1.length:Int)==0)||xt.2) (mor_t hc7) ?_)
   exact fg hF
  refine Ok.rn 5 [.e 1] [0,2] [(15,.bool xt.2)] ?_
  refine Ok.nt (Ok.rb 15 (((xt.1.length:Int)==0)||xt.2) (mor_f hc7) ?_)
  exact fg hF
 replace q0:=q0.mono a0.1
 refine Ok.cw hF (fun hc2 hF=>?_) (fun hc2 hF=>?_)
 ·refine Ok.sr (Ok.b 3 [2] [(18,pv bxt 1)] ?_)
  refine Ok.o (OpOk.w1 1 ?_)
  refine Ok.nt (Ok.sr (Ok.b 1 [2] [(19,.agg #[iv 0,iv 0,iv 0,sv Bz,iv 0])] ?_))
  refine Ok.o (OpOk.w 0 ?_)
  refine Ok.nt (Ok.ret (Ok.tr ?_))
  exact Ok.p (vs:=[.agg #[iv 0,iv 0,iv 0,sv Bz,iv 0]]) [1] [.blk bxt (.cells #[.slice k0 xt.1.length y0,.bool true] 58)] dc rfl (.inl rfl) rfl (.cons (.cellAgg 0 5 #[iv 0,iv 0,iv 0,sv Bz,iv 0] rfl rfl underlying40 rfl kr kr kr) .nil) a0 ⟨(0,0,0,Bz,0),(xt.1,true),k0,y0,rfl,q0,rfl,hF⟩
 refine Ok.k (Ok.t (Ok.sr (Ok.b 3 [0,2] [(22,pv bxt 0)] ?_)))
 refine Ok.o (OpOk.s (v:=.slice k0 xt.1.length y0) (Yields.l 1 rfl rfl underlying30 rfl kr) rfl rfl ?_)
 obtain ⟨h04,h14,hF⟩:=hF
 have he4:=get_of (l:=xt.1) default h14
 generalize hg4:(xt.1.getD (Int.toNat 0) default)=e4 at he4 hF ⊢
 refine Ok.o (OpOk.indexRo (e:=yT) rfl rfl underlying30 kr q0 h04 he4 rfl fun q3 o3 cs3 _ G0 hr3=>?_)
 obtain ⟨_,_,rfl,rfl,⟨_,_,rfl,rfl,⟨_,_,rfl,rfl,⟨_,_,rfl,rfl,rfl⟩⟩⟩⟩:=hr3
 replace G0:At gj4 q3 o3 [iv e4.1,iv e4.2.1,iv e4.2.2.1,sv e4.2.2.2.1,iv e4.2.2.2.2]:=G0
 refine Ok.o (OpOk.s (v:=.agg (aG e4)) (Yields.loadAggRo 0 5 (aG e4) G0 kr underlying40 rfl kr kr kr) rfl rfl (Ok.o (OpOk.aw #[iv 0,iv 0,iv 0,sv Bz,iv 0] fun bs3=>?_)))
 refine Ok.o (OpOk.w 0 ?_)
 refine Ok.nt (Ok.sr (Ok.b 4 [2] [(3,pv bs3 0),(26,pv bxt 0),(29,pv bxt 0)] ?_))
 refine Ok.o (OpOk.s (v:=.slice k0 xt.1.length y0) (Yields.l 2 rfl rfl underlying30 rfl kr) rfl rfl ?_)
 obtain ⟨h06,h16,h26,hF⟩:=hF
 refine Ok.o (OpOk.sliceRo (e:=yT) (l:=1) (h:=(xt.1.length:Int)) rfl underlying30 kr (.inl ⟨_,_,rfl,rfl⟩) (.inr ⟨rfl,rfl⟩) q0 h06 h16 h26 rfl (xt.1.drop (Int.toNat 1)) (by rw [show (xt.1.length:Int).toNat=xt.1.length from tnc _,List.take_length]) fun a6 c6 hR6=>?_)
 refine Ok.b 2 [2,3] [(31,.slice a6 (xt.1.drop (Int.toNat 1)).length c6),(33,pv bxt 0)] ?_
 refine Ok.o (OpOk.w1 2 ?_)
 refine Ok.nt (Ok.sr (Ok.o (OpOk.s (v:=.agg (aG e4)) (Yields.loadAgg 0 5 (aG e4) rfl rfl underlying40 rfl kr kr kr) rfl rfl (Ok.o (OpOk.w 1 ?_)))))
 refine Ok.nt (Ok.ret ?_)
 exact Ok.p (vs:=[.agg (aG e4)]) [2] [.blk bxt (.cells #[.slice a6 (xt.1.drop (Int.toNat 1)).length c6,.bool xt.2] 58)] dc rfl (.inl rfl) rfl (.cons (.cellAgg 1 5 (aG e4) rfl rfl underlying40 rfl kr kr kr) .nil) a0 ⟨e4,(xt.1.drop (Int.toNat 1),xt.2),a6,c6,rfl,hR6,rfl,hF⟩
def rpaS:TT→TK×TT
 | ([],b)=>((0,0,0,[],0),([],true))
 | (x::l,true)=>((0,0,0,[],0),(x::l,true))
 | (x::l,false)=>(x,(l,false))
theorem rpa_F (t:TT):rpaF t (fun a b=>(a,b)=rpaS t):=by
 obtain ⟨l,b⟩:=t
 have hj:rpaj4 (l,b) (fun a b'=>(a,b')=rpaS (l,b)):=by
  cases l with
  | nil=>exact ⟨fun _=>rfl,fun h=>(by cases h)⟩
  | cons x l =>
   have e:(((x::l).length:Int)==0)=false:=by simp; omega
   cases b with
   | true=>exact ⟨fun _=>rfl,fun h=>(by rw [e] at h; cases h)⟩
   | false=>exact ⟨fun h=>(by rw [e] at h; cases h),fun _=>⟨Int.le_refl _,Nat.succ_pos _,by decide,by simp; omega,Int.le_refl _,rfl⟩⟩
 exact ⟨fun _=>hj,fun _=>hj⟩
theorem rpa_c {g:Ghost} {bxt:Nat} {k0:Option Addr} {y0:Nat} (xt:TT) (q0:Rep g yTs [.slice k0 xt.1.length y0] xt.1)  : CallsH prog 68 #[pv bxt 0] g [.blk bxt (.cells (aT xt k0 y0) 58)] (fun g' H' v=>∃ (u0:Option Addr) (j0:Nat),v=.agg (aG (rpaS xt).1)∧Rep g' yTs [.slice u0 (rpaS xt).2.1.length j0] (rpaS xt).2.1∧H'=[.blk bxt (.cells (aT (rpaS xt).2 u0 j0) 58)]) :=
 (rpa_ok xt q0 _ (rpa_F xt)).mono (by rintro g' H' v _ ⟨r0,fxt,u0,j0,rfl,e0,rfl,hK⟩; obtain ⟨rfl,rfl⟩:r0=(rpaS xt).1∧fxt=(rpaS xt).2:=⟨congrArg (fun z=>z.1) hK,congrArg (fun z=>z.2) hK⟩; exact ⟨u0,j0,rfl,e0,rfl⟩)
def rwaj18 (xt:TT) (K:Int→TT→Prop) (e3:Bs) (b0:Int) (C7:Int→Prop):Prop :=
 (((rwdS xt==e3)&&(!xt.2))=true→(0:Int)≤1∧(1:Int)≤(xt.1.length:Int)∧(xt.1.length:Int)≤(xt.1.length:Int)∧K b0 (xt.1.drop (Int.toNat 1),xt.2))∧(((rwdS xt==e3)&&(!xt.2))=false→C7 (w6 (b0+1)))
def rwal7b (xt:TT) (xl:List Bs) (K:Int→TT→Prop) (b0:Int) (C7:Int→Prop):Prop :=
 ((decide (b0<(xl.length:Int)))=true→0≤b0∧b0.toNat<xl.length∧((rwdS xt==xl.getD b0.toNat default)=true→rwaj18 xt K (xl.getD b0.toNat default) b0 C7)∧((rwdS xt==xl.getD b0.toNat default)=false→rwaj18 xt K (xl.getD b0.toNat default) b0 C7))∧((decide (b0<(xl.length:Int)))=false→K (-1) xt)
def rwal7 (xt:TT) (xl:List Bs) (K:Int→TT→Prop):Nat→Int→Prop
 | 0,_=>False
 | k+1,b0=>rwal7b xt xl K b0 (rwal7 xt xl K k)
def rwaF (xt:TT) (xl:List Bs) (K:Int→TT→Prop):Prop :=
 ∃ k,rwal7 xt xl K k 0
theorem rwa_ok {g:Ghost} {bxt:Nat} {k0:Option Addr} {y0:Nat} (xt:TT) {c0:Option Addr} {d0:Nat} (xl:List Bs) (q0:Rep g yTs [.slice k0 xt.1.length y0] xt.1) (x0:Rep g (.slice (.str)) [.slice c0 xl.length d0] xl) (K:Int→TT→Prop)
  (hF:rwaF xt xl K):CallsH prog 51 #[pv bxt 0,.slice c0 xl.length d0] g [.blk bxt (.cells (aT xt k0 y0) 58)] (fun g' H' v=>∃ (r0:Int),∃ (fxt:TT),∃ (u0:Option Addr) (j0:Nat),v=iv r0∧Rep g' yTs [.slice u0 fxt.1.length j0] fxt.1∧H'=[.blk bxt (.cells (aT fxt u0 j0) 58)]∧K r0 fxt):=by
 refine CallsH.en 35 func51 rfl fun w0=>?_
 refine Ok.sr (Ok.B 1 [(0,pv bxt 0),(1,.slice c0 xl.length d0)] kr (Ok.nt (Ok.q (Ok.sr (Ok.b 3 [0] [(7,.slice c0 xl.length d0),(8,iv (xl.length:Int)),(9,iv 0)] ?_)))))
 refine Ok.nt (Ok.block ?_)
 obtain ⟨k,hF⟩:=hF
 refine Ok.L (fun k a W=>∃ gl7:Ghost,Gext w0 g gl7∧∃ (b0:Int),StA 35 [(0,pv bxt 0),(7,.slice c0 xl.length d0),(8,iv (xl.length:Int)),(9,iv b0)] a∧StW w0 [.blk bxt (.cells (aT xt k0 y0) 58)] gl7 W∧rwal7 xt xl K k b0) k ?_ ?_
 ·
  exact fun _ _ u v=>⟨g,Gext.r w0 g,0,fA u v hF⟩
 clear hF
 rintro (_ | k7) _ _ ⟨gl7,V0,b0,q⟩
 exact (q.2.2:False).elim
 refine jn (fun hF=>?_) _ _ q
 replace x0:=x0.mono V0.1
 replace q0:=q0.mono V0.1
 refine Ok.sr (Ok.b 1 [0,7,8,9] [(10,.bool (decide (b0<(xl.length:Int))))] ?_)
 refine Ok.nt (Ok.q (Ok.cw hF (fun hc1 hF=>?_) (fun hc1 hF=>?_)))
 ·refine Ok.k (Ok.t (Ok.q (Ok.block (Ok.sr (Ok.b 1 [0,7,8,9] [(11,iv b0)] ?_)))))
  obtain ⟨h03,h13,hF⟩:=hF
  have he3:=get_of (l:=xl) default h13
  generalize hg3:(xl.getD b0.toNat default)=e3 at he3 hF ⊢
  refine Ok.o (OpOk.indexRo (e:=.str) rfl rfl underlying71 kr x0 h03 he3 rfl fun q2 o2 cs2 _ l0 hr2=>?_)
  obtain rfl:=hr2
  replace l0:At gl7 q2 o2 [sv e3]:=l0
  refine Ok.rn 3 [.a 0 l0] [0,7,8,9] [(5,iv b0),(6,sv e3)] ?_
  refine Ok.nt (Ok.cut (fun a W=>∃ W0:Ghost,Gext w0 gl7 W0∧StA 35 [(0,pv bxt 0),(5,iv b0),(7,.slice c0 xl.length d0),(8,iv (xl.length:Int)),(9,iv b0),(24,.bool ((rwdS xt==e3)&&(!xt.2)))] a∧StW w0 [.blk bxt (.cells (aT xt k0 y0) 58)] W0 W∧rwaj18 xt K e3 b0 (rwal7 xt xl K k7)) ?_ ?_)
  ·
   refine Ok.r (Ok.b 1 [0,5,6,7,8,9] [(14,pv bxt 0)] ?_)
   refine Ok.o (OpOk.ch (rwd_c xt q0) fun g6 _ _ hx6 hV6=>?_)
   obtain ⟨rfl,rfl⟩:=hV6
   replace q0:=q0.mono hx6.1
   refine Ok.rn 3 [] [0,5,7,8,9] [(18,.bool (rwdS xt==e3))] ?_
   refine Ok.bw 18 hF (fun hc7 hF=>?_) (fun hc7 hF=>?_)
   ·refine Ok.rn 6 [.e 0] [0,5,7,8,9] [(24,.bool (!xt.2))] ?_
    refine Ok.nt (Ok.rb 24 ((rwdS xt==e3)&&(!xt.2)) (mand_t hc7) ?_)
    exact fun _ _ u v=>⟨g6,hx6,fA u v hF⟩
   refine Ok.b 6 [0,5,7,8,9] [(24,.bool false)] ?_
   refine Ok.nt (Ok.rb 24 ((rwdS xt==e3)&&(!xt.2)) (mand_f hc7) ?_)
   exact fun _ _ u v=>⟨g6,hx6,fA u v hF⟩
  clear hF
  rintro _ _ ⟨W0,i0,q⟩
  refine jn (fun hF=>?_) _ _ q
  replace q0:=q0.mono i0.1
  refine Ok.cn hF rfl (fun hc4=>?_) (fun hc4=>?_)
  ·replace hF:=hF.1 hc4
   refine Ok.sr (Ok.b 4 [5] [(25,pv bxt 0),(28,pv bxt 0)] ?_)
   refine Ok.o (OpOk.s (v:=.slice k0 xt.1.length y0) (Yields.l 0 rfl rfl underlying30 rfl kr) rfl rfl ?_)
   obtain ⟨h05,h15,h25,hF⟩:=hF
   refine Ok.o (OpOk.sliceRo (e:=yT) (l:=1) (h:=(xt.1.length:Int)) rfl underlying30 kr (.inl ⟨_,_,rfl,rfl⟩) (.inr ⟨rfl,rfl⟩) q0 h05 h15 h25 rfl (xt.1.drop (Int.toNat 1)) (by rw [show (xt.1.length:Int).toNat=xt.1.length from tnc _,List.take_length]) fun a5 c5 hR5=>?_)
   refine Ok.b 2 [5] [(30,.slice a5 (xt.1.drop (Int.toNat 1)).length c5),(32,pv bxt 0)] ?_
   refine Ok.o (OpOk.w1 0 ?_)
   refine Ok.nt (Ok.sr (Ok.B 2 [(4,iv b0)] kr (Ok.nt (Ok.ret (Ok.kr (Ok.tr (Ok.tr (Ok.kr (Ok.tr ?_)))))))))
   exact Ok.h1 (iv b0) (V0.trans i0) ⟨b0,(xt.1.drop (Int.toNat 1),xt.2),a5,c5,rfl,hR5,rfl,hF⟩
  replace hF:=hF.2 hc4
  refine Ok.k (Ok.kn (Ok.t (Ok.r (Ok.b 2 [0,7,8] [(9,iv (w6 (b0+1)))] ?_))))
  refine Ok.j (Ok.t ?_)
  subst hg3
  exact fun _ _ u v=>⟨k7,nl,W0,V0.trans i0,w6 (b0+1),fA u v hF⟩
 refine Ok.x (Ok.thenE (Ok.thenE (Ok.blockHit (Ok.t (Ok.sr (Ok.B 1 [(4,iv (-1))] kr (Ok.nt (Ok.ret ?_))))))))
 exact Ok.h1 (iv (-1)) V0 ⟨(-1),xt,k0,y0,rfl,q0,rfl,hF⟩
def hitB (t:TT) (w:Bs):Bool:=(rwdS t==w)&&!t.2
def tlT (t:TT):TT:=(t.1.drop 1,t.2)
def waN (t:TT):List Bs→Int→Int×TT
 | [],_=>(-1,t)
 | w::l,i=>if hitB t w=true then (i,tlT t) else waN t l (i+1)
def waS0 (t:TT) (l:List Bs):Int×TT:=waN t l 0
def waS:TT→List Bs→Int×TT:=Classical.choose (rigid waS0)
theorem waS_eq:waS=waS0:=Classical.choose_spec (rigid waS0)
def waP (t:TT) (l:List Bs):Prop:=(∀ w ∈ l,w≠[])∧l.length≤1000
theorem hit_len {t:TT} {w:Bs} (hw:w≠[]) (h:hitB t w=true):∃ x l,t=(x::l,false):=by
 obtain ⟨l,b⟩:=t
 cases l with
 | nil =>
  exfalso
  unfold hitB rwdS hdT at h
  cases w with
  | nil=>exact hw rfl
  | cons a w=>cases b <;> simp at h
 | cons x l =>
  cases b with
  | true=>exfalso; unfold hitB at h; simp at h
  | false=>exact ⟨x,l,rfl⟩
theorem rwa_loop (t:TT) (l:List Bs) (hp:waP t l):∀ (k i:Nat),l.length - i<k→i≤l.length→rwal7 t l (fun a b=>(a,b)=waN t l 0) k (i:Int)∨waN t l 0≠waN t (l.drop i) i
 | 0,_,h,_=>absurd h (Nat.not_lt_zero _)
 | k+1,i,h,hi=>by
  by_cases he:waN t l 0=waN t (l.drop i) i
  ·left
   unfold rwal7 rwal7b
   refine ⟨fun h1=>?_,fun h1=>?_⟩
   ·have h1:i<l.length:=od h1
    have hd:l.drop i=l[i]::l.drop (i+1):=List.drop_eq_getElem_cons h1
    have hg:l.getD (Int.toNat (i:Int)) default=l[i]:=by
     show l.getD i default=_
     rw [List.getD_eq_getElem?_getD,List.getElem?_eq_getElem h1]; rfl
    have hj:rwaj18 t (fun a b=>(a,b)=waN t l 0) (l.getD (Int.toNat (i:Int)) default) i (rwal7 t l (fun a b=>(a,b)=waN t l 0) k):=by
     rw [hg]
     refine ⟨fun h2=>?_,fun h2=>?_⟩
     ·have h2:hitB t l[i]=true:=h2
      obtain ⟨x,m,rfl⟩:=hit_len (hp.1 _ (List.getElem_mem h1)) h2
      refine ⟨by decide,by simp; omega,Int.le_refl _,?_⟩
      rw [he,hd]
      show _=if hitB (x::m,false) l[i]=true then _ else _
      rw [if_pos h2]; rfl
     have h2:hitB t l[i]=false:=h2
     have e:waN t l 0=waN t (l.drop (i+1)) (i+1:Nat):=by
      rw [he,hd]
      show (if hitB t l[i]=true then _ else _)=_
      rw [if_neg (by rw [h2]; decide)]; rfl
     have:=rwa_loop t l hp k (i+1) om om
     have hw:w6 ((i:Int)+1)=((i+1:Nat):Int):=by
      have:=hp.2
      rw [w6e om]; rfl
     rw [hw]
     exact this.resolve_right (fun hn=>hn e)
    exact ⟨Int.natCast_nonneg _,h1,fun _=>hj,fun _=>hj⟩
   have h1:l.length≤i:=oe h1
   show (-1,t)=_
   rw [he,List.drop_eq_nil_of_le h1]; rfl
  exact .inr he
theorem rwa_F (t:TT) (l:List Bs) (hp:waP t l):rwaF t l (fun a b=>(a,b)=waS t l):=by
 rw [waS_eq]
 exact ⟨l.length+1,(rwa_loop t l hp (l.length+1) 0 om om).resolve_right (fun hn=>hn rfl)⟩
theorem rwa_c {g:Ghost} {bxt:Nat} {k0:Option Addr} {y0:Nat} (xt:TT) {c0:Option Addr} {d0:Nat} (xl:List Bs) (q0:Rep g yTs [.slice k0 xt.1.length y0] xt.1) (x0:Rep g (.slice (.str)) [.slice c0 xl.length d0] xl)  (hp:waP xt xl):CallsH prog 51 #[pv bxt 0,.slice c0 xl.length d0] g [.blk bxt (.cells (aT xt k0 y0) 58)] (fun g' H' v=>∃ (u0:Option Addr) (j0:Nat),v=iv (waS xt xl).1∧Rep g' yTs [.slice u0 (waS xt xl).2.1.length j0] (waS xt xl).2.1∧H'=[.blk bxt (.cells (aT (waS xt xl).2 u0 j0) 58)]) :=
 (rwa_ok xt xl q0 x0 _ (rwa_F xt xl hp)).mono (by rintro g' H' v _ ⟨r0,fxt,u0,j0,rfl,e0,rfl,hK⟩; obtain ⟨rfl,rfl⟩:r0=(waS xt xl).1∧fxt=(waS xt xl).2:=⟨congrArg (fun z=>z.1) hK,congrArg (fun z=>z.2) hK⟩; exact ⟨u0,j0,rfl,e0,rfl⟩)
def rneV2 (xl:List Bs) (s0:Int) (z0:List TK) (v0:Bool):List TK :=
 (waS (z0,v0) ([xl.getD s0.toNat default]:List Bs)).2.1
def rneV3 (xl:List Bs) (s0:Int) (z0:List TK) (v0:Bool):Bool :=
 ((decide ((waS (z0,v0) ([xl.getD s0.toNat default]:List Bs)).1<0))||(waS (z0,v0) ([xl.getD s0.toNat default]:List Bs)).2.2)
def rnej11 (xl:List Bs) (s0:Int) (z0:List TK) (v0:Bool) (C4:Int→List TK→Bool→Prop):Prop :=
 C4 (w6 (s0+1)) (rneV2 xl s0 z0 v0) (rneV3 xl s0 z0 v0)
def rnel4b (xl:List Bs) (K:TT→Prop) (s0:Int) (z0:List TK) (v0:Bool) (C4:Int→List TK→Bool→Prop):Prop :=
 ((decide (s0<(xl.length:Int)))=true→0≤s0∧s0.toNat<xl.length∧waP (z0,v0) ([xl.getD s0.toNat default]:List Bs)∧((decide ((waS (z0,v0) ([xl.getD s0.toNat default]:List Bs)).1<0))=true→rnej11 xl s0 z0 v0 C4)∧((decide ((waS (z0,v0) ([xl.getD s0.toNat default]:List Bs)).1<0))=false→rnej11 xl s0 z0 v0 C4))∧((decide (s0<(xl.length:Int)))=false→K (z0,v0))
def rnel4 (xl:List Bs) (K:TT→Prop):Nat→Int→List TK→Bool→Prop
 | 0,_,_,_=>False
 | k+1,s0,z0,v0=>rnel4b xl K s0 z0 v0 (rnel4 xl K k)
def rneF (xt:TT) (xl:List Bs) (K:TT→Prop):Prop :=
 ∃ k,rnel4 xl K k 0 xt.1 xt.2
theorem rne_ok {g:Ghost} {bxt:Nat} {k0:Option Addr} {y0:Nat} (xt:TT) {c0:Option Addr} {d0:Nat} (xl:List Bs) (q0:Rep g yTs [.slice k0 xt.1.length y0] xt.1) (x0:Rep g (.slice (.str)) [.slice c0 xl.length d0] xl) (K:TT→Prop)
  (hF:rneF xt xl K):CallsH prog 53 #[pv bxt 0,.slice c0 xl.length d0] g [.blk bxt (.cells (aT xt k0 y0) 58)] (fun g' H' v=>∃ (fxt:TT),∃ (u0:Option Addr) (j0:Nat),v=.tuple #[]∧Rep g' yTs [.slice u0 fxt.1.length j0] fxt.1∧H'=[.blk bxt (.cells (aT fxt u0 j0) 58)]∧K fxt):=by
 refine CallsH.en 21 func53 rfl fun w0=>?_
 refine Ok.sr (Ok.B 3 [(0,pv bxt 0),(6,.slice c0 xl.length d0),(7,iv (xl.length:Int)),(8,iv 0)] kr (Ok.nt (Ok.block ?_)))
 obtain ⟨k,hF⟩:=hF
 refine Ok.L (fun k a W=>∃ gl4:Ghost,Gext w0 g gl4∧∃ (s0:Int) (n0:Option Addr) (o0:Nat) (z0:List TK) (v0:Bool),Rep gl4 yTs [.slice n0 z0.length o0] z0∧StA 21 [(0,pv bxt 0),(6,.slice c0 xl.length d0),(7,iv (xl.length:Int)),(8,iv s0)] a∧StW w0 [.blk bxt (.cells #[.slice n0 z0.length o0,.bool v0] 58)] gl4 W∧rnel4 xl K k s0 z0 v0) k ?_ ?_
 ·
  exact fun _ _ u v=>⟨g,Gext.r w0 g,0,k0,y0,xt.1,xt.2,q0,fA u v hF⟩
 clear hF
 rintro (_ | k4) _ _ ⟨gl4,H0,s0,n0,o0,z0,v0,f0,q⟩
 exact (q.2.2:False).elim
 refine jn (fun hF=>?_) _ _ q
 replace x0:=x0.mono H0.1
 refine Ok.sr (Ok.b 1 [0,6,7,8] [(9,.bool (decide (s0<(xl.length:Int))))] ?_)
 refine Ok.nt (Ok.q (Ok.cw hF (fun hc1 hF=>?_) (fun hc1 hF=>?_)))
 ·refine Ok.k (Ok.t (Ok.cut (fun a W=>∃ Q0:Ghost,Gext w0 gl4 Q0∧∃ (g0:Option Addr) (m0:Nat),Rep Q0 yTs [.slice g0 (rneV2 xl s0 z0 v0).length m0] (rneV2 xl s0 z0 v0)∧StA 21 [(0,pv bxt 0),(6,.slice c0 xl.length d0),(7,iv (xl.length:Int)),(8,iv s0)] a∧StW w0 [.blk bxt (.cells #[.slice g0 (rneV2 xl s0 z0 v0).length m0,.bool (rneV3 xl s0 z0 v0)] 58)] Q0 W∧rnej11 xl s0 z0 v0 (rnel4 xl K k4)) ?_ ?_))
  ·
   refine Ok.block (Ok.q (Ok.r ?_))
   obtain ⟨h03,h13,hF⟩:=hF
   have he3:=get_of (l:=xl) default h13
   generalize hg3:(xl.getD s0.toNat default)=e3 at he3 hF ⊢
   refine Ok.o (OpOk.indexRo (e:=.str) rfl rfl underlying71 kr x0 h03 he3 rfl fun q2 o2 cs2 _ l0 hr2=>?_)
   obtain rfl:=hr2
   replace l0:At gl4 q2 o2 [sv e3]:=l0
   refine Ok.rn 2 [.a 0 l0] [0,6,7,8] [(5,sv e3)] ?_
   refine Ok.nt (Ok.sr (Ok.b 2 [0,6,7,8] [(12,pv bxt 0),(13,sv e3)] ?_))
   have hL4:RepL gl4 (.str) ([sv e3]:List Value) ([e3]:List Bs):=(RepL.consN (c:=[sv e3]) rfl rfl)
   refine Ok.o (OpOk.li hL4 fun b4=>?_)
   refine Ok.frz 0 rfl hL4 fun g5 hx5 M0=>?_
   replace f0:=f0.mono hx5.1
   obtain ⟨hp6,hF⟩:=hF
   refine Ok.o (OpOk.ch (rwa_c (z0,v0) ([e3]:List Bs) f0 M0 hp6) fun g7 _ _ hx7 hV7=>?_)
   obtain ⟨X0,S0,rfl,D0,rfl⟩:=hV7
   refine Ok.b 1 [0,6,7,8] [(16,.bool (decide ((waS (z0,v0) ([e3]:List Bs)).1<0)))] ?_
   refine Ok.nt (Ok.cn hF rfl (fun hc8=>?_) (fun hc8=>?_))
   ·replace hF:=hF.1 hc8
    refine Ok.r (Ok.b 3 [0,6,7,8] [(19,pv bxt 1)] ?_)
    refine Ok.o (OpOk.w1 0 ?_)
    refine Ok.j (Ok.kn (Ok.t ?_))
    subst hg3
    refine Ok.he (E':=.blk bxt (.cells #[.slice X0 (waS (z0,v0) ([xl.getD s0.toNat default]:List Bs)).2.1.length S0,.bool (rneV3 xl s0 z0 v0)] 58)) 0 (congrArg (fun l:List Value=>Ent.blk bxt (.cells ⟨l⟩ 58)) (lcons (rfl) (lcons (congrArg (Value.bool) (mor_t hc8)) rfl))) ?_
    exact fun _ _ u v=>⟨g7,hx5.trans hx7,X0,S0,D0,fA u v hF⟩
   replace hF:=hF.2 hc8
   refine Ok.k (Ok.kn (Ok.t ?_))
   subst hg3
   refine Ok.he (E':=.blk bxt (.cells #[.slice X0 (waS (z0,v0) ([xl.getD s0.toNat default]:List Bs)).2.1.length S0,.bool (rneV3 xl s0 z0 v0)] 58)) 0 (congrArg (fun l:List Value=>Ent.blk bxt (.cells ⟨l⟩ 58)) (lcons (rfl) (lcons (congrArg (Value.bool) (mor_f hc8)) rfl))) ?_
   exact fun _ _ u v=>⟨g7,hx5.trans hx7,X0,S0,D0,fA u v hF⟩
  clear hF
  rintro _ _ ⟨Q0,E0,g0,m0,hRybxt_0j11,q⟩
  refine jn (fun hF=>?_) _ _ q
  refine Ok.r (Ok.b 2 [0,6,7] [(8,iv (w6 (s0+1)))] ?_)
  refine Ok.j (Ok.t ?_)
  exact fun _ _ u v=>⟨k4,nl,Q0,H0.trans E0,w6 (s0+1),g0,m0,rneV2 xl s0 z0 v0,rneV3 xl s0 z0 v0,hRybxt_0j11,fA u v hF⟩
 refine Ok.x (Ok.thenE (Ok.thenE (Ok.blockHit ?_)))
 exact Ok.resH (vs:=[]) (.inr rfl) rfl .nil H0 ⟨(z0,v0),n0,o0,rfl,f0,rfl,hF⟩
def ne1 (t:TT) (w:Bs):TT:=((waS t [w]).2.1,decide ((waS t [w]).1<0)||(waS t [w]).2.2)
def neS0 (t:TT) (l:List Bs):TT:=l.foldl ne1 t
def neS:TT→List Bs→TT:=Classical.choose (rigid neS0)
theorem neS_eq:neS=neS0:=Classical.choose_spec (rigid neS0)
theorem rne_loop (l:List Bs) (hp:(∀ w ∈ l,w≠[])∧l.length≤1000):∀ (k i:Nat) (t t0:TT),l.length - i<k→i≤l.length→(l.drop i).foldl ne1 t=neS0 t0 l→rnel4 l (fun a=>a=neS0 t0 l) k (i:Int) t.1 t.2
 | 0,_,_,_,h,_,_=>absurd h (Nat.not_lt_zero _)
 | k+1,i,t,t0,h,hi,he=>by
  unfold rnel4 rnel4b
  refine ⟨fun h1=>?_,fun h1=>?_⟩
  ·have h1:i<l.length:=od h1
   have hd:l.drop i=l[i]::l.drop (i+1):=List.drop_eq_getElem_cons h1
   have hg:l.getD (Int.toNat (i:Int)) default=l[i]:=by
    show l.getD i default=_
    rw [List.getD_eq_getElem?_getD,List.getElem?_eq_getElem h1]; rfl
   have hw:w6 ((i:Int)+1)=((i+1:Nat):Int):=by
    have:=hp.2
    rw [w6e om]; rfl
   have hj:rnej11 l (i:Int) t.1 t.2 (rnel4 l (fun a=>a=neS0 t0 l) k):=by
    unfold rnej11 rneV2 rneV3
    rw [hw,hg]
    refine rne_loop l hp k (i+1) (ne1 t l[i]) t0 om om ?_
    rw [← he,hd]; rfl
   refine ⟨Int.natCast_nonneg _,h1,?_,fun _=>hj,fun _=>hj⟩
   rw [hg]
   exact ⟨fun w hw=>by rcases List.mem_singleton.1 hw with rfl; exact hp.1 _ (List.getElem_mem h1),by simp⟩
  have h1:l.length≤i:=oe h1
  show t=_
  rw [← he,List.drop_eq_nil_of_le h1]; rfl
theorem rne_F (t:TT) (l:List Bs) (hp:waP t l):rneF t l (fun a=>a=neS t l):=by
 rw [neS_eq]
 exact ⟨l.length+1,rne_loop l hp (l.length+1) 0 t t om om rfl⟩
theorem rne_c {g:Ghost} {bxt:Nat} {k0:Option Addr} {y0:Nat} (xt:TT) {c0:Option Addr} {d0:Nat} (xl:List Bs) (q0:Rep g yTs [.slice k0 xt.1.length y0] xt.1) (x0:Rep g (.slice (.str)) [.slice c0 xl.length d0] xl)  (hp:waP xt xl):CallsH prog 53 #[pv bxt 0,.slice c0 xl.length d0] g [.blk bxt (.cells (aT xt k0 y0) 58)] (fun g' H' v=>∃ (u0:Option Addr) (j0:Nat),v=.tuple #[]∧Rep g' yTs [.slice u0 (neS xt xl).1.length j0] (neS xt xl).1∧H'=[.blk bxt (.cells (aT (neS xt xl) u0 j0) 58)]) :=
 (rne_ok xt xl q0 x0 _ (rne_F xt xl hp)).mono (by rintro g' H' v _ ⟨fxt,u0,j0,rfl,e0,rfl,hK⟩; subst hK; exact ⟨u0,j0,rfl,e0,rfl⟩)
def rnmj5 (xt:TT) (K:Bs→TT→Prop):Prop :=
 K (rpaS xt).1.2.2.2.1 ((rpaS xt).2.1,(((rpaS xt).1.1 != 1)||(rpaS xt).2.2))
def rnmF (xt:TT) (K:Bs→TT→Prop):Prop :=
 (((rpaS xt).1.1 != 1)=true→rnmj5 xt K)∧(((rpaS xt).1.1 != 1)=false→rnmj5 xt K)
theorem rnm_ok {g:Ghost} {bxt:Nat} {k0:Option Addr} {y0:Nat} (xt:TT) (q0:Rep g yTs [.slice k0 xt.1.length y0] xt.1) (K:Bs→TT→Prop)
  (hF:rnmF xt K):CallsH prog 52 #[pv bxt 0] g [.blk bxt (.cells (aT xt k0 y0) 58)] (fun g' H' v=>∃ (r0:Bs),∃ (fxt:TT),∃ (u0:Option Addr) (j0:Nat),v=sv r0∧Rep g' yTs [.slice u0 fxt.1.length j0] fxt.1∧H'=[.blk bxt (.cells (aT fxt u0 j0) 58)]∧K r0 fxt):=by
 refine CallsH.en 14 func52 rfl fun w0=>?_
 refine Ok.sr (Ok.B 1 [(0,pv bxt 0)] kr (Ok.nt (Ok.sr (Ok.b 1 [0] [(4,pv bxt 0)] ?_))))
 refine Ok.o (OpOk.ch (rpa_c xt q0) fun g1 _ _ hx1 hV1=>?_)
 obtain ⟨K0,Y0,rfl,U0,rfl⟩:=hV1
 refine Ok.o (OpOk.aw #[iv 0,iv 0,iv 0,sv Bz,iv 0] fun bs3=>?_)
 refine Ok.o (OpOk.w 0 ?_)
 refine Ok.nt (Ok.cg g1 [(3,pv bs3 0)] [.blk bs3 (.cells (aG (rpaS xt).1) 40),.blk bxt (.cells #[.slice K0 (rpaS xt).2.1.length Y0,.bool (((rpaS xt).1.1 != 1)||(rpaS xt).2.2)] 58)] (rnmj5 xt K) ?_ (fun gj5 N0 hF=>?_))
 ·
  refine Ok.sr (Ok.rn 3 [.e 0] [0] [(3,pv bs3 0),(8,.bool ((rpaS xt).1.1 != 1))] ?_)
  refine Ok.nt (Ok.cw hF (fun hc3 hF=>?_) (fun hc3 hF=>?_))
  ·refine Ok.r (Ok.b 3 [3] [(11,pv bxt 1)] ?_)
   refine Ok.o (OpOk.w1 1 ?_)
   refine Ok.nt (Ok.he (E':=.blk bxt (.cells #[.slice K0 (rpaS xt).2.1.length Y0,.bool (((rpaS xt).1.1 != 1)||(rpaS xt).2.2)] 58)) 1 (congrArg (fun l:List Value=>Ent.blk bxt (.cells ⟨l⟩ 58)) (lcons (rfl) (lcons (congrArg (Value.bool) (mor_t hc3)) rfl))) ?_)
   exact fg hF
  refine Ok.k (Ok.t (Ok.he (E':=.blk bxt (.cells #[.slice K0 (rpaS xt).2.1.length Y0,.bool (((rpaS xt).1.1 != 1)||(rpaS xt).2.2)] 58)) 1 (congrArg (fun l:List Value=>Ent.blk bxt (.cells ⟨l⟩ 58)) (lcons (rfl) (lcons (congrArg (Value.bool) (mor_f hc3)) rfl))) ?_))
  exact fg hF
 replace U0:=U0.mono N0.1
 refine Ok.sr (Ok.rn 3 [.e 0] [] [(2,sv ((rpaS xt).1.2.2.2.1))] ?_)
 refine Ok.nt (Ok.ret ?_)
 exact Ok.p (vs:=[sv ((rpaS xt).1.2.2.2.1)]) [1] [.blk bxt (.cells #[.slice K0 (rpaS xt).2.1.length Y0,.bool (((rpaS xt).1.1 != 1)||(rpaS xt).2.2)] 58)] dc rfl (.inl rfl) rfl (.cons (.tmp rfl) .nil) (hx1.trans N0) ⟨(rpaS xt).1.2.2.2.1,((rpaS xt).2.1,(((rpaS xt).1.1 != 1)||(rpaS xt).2.2)),K0,Y0,rfl,U0,rfl,hF⟩
def rnmS0 (t:TT):Bs×TT:=((rpaS t).1.2.2.2.1,((rpaS t).2.1,((rpaS t).1.1 != 1)||(rpaS t).2.2))
def rnmS:TT→Bs×TT:=Classical.choose (rigid rnmS0)
theorem rnmS_eq:rnmS=rnmS0:=Classical.choose_spec (rigid rnmS0)
theorem rnm_F (t:TT):rnmF t (fun a b=>(a,b)=rnmS t):=by
 rw [rnmS_eq]
 exact ⟨fun _=>rfl,fun _=>rfl⟩
theorem rnm_c {g:Ghost} {bxt:Nat} {k0:Option Addr} {y0:Nat} (xt:TT) (q0:Rep g yTs [.slice k0 xt.1.length y0] xt.1)  : CallsH prog 52 #[pv bxt 0] g [.blk bxt (.cells (aT xt k0 y0) 58)] (fun g' H' v=>∃ (u0:Option Addr) (j0:Nat),v=sv ((rnmS xt).1)∧Rep g' yTs [.slice u0 (rnmS xt).2.1.length j0] (rnmS xt).2.1∧H'=[.blk bxt (.cells (aT (rnmS xt).2 u0 j0) 58)]) :=
 (rnm_ok xt q0 _ (rnm_F xt)).mono (by rintro g' H' v _ ⟨r0,fxt,u0,j0,rfl,e0,rfl,hK⟩; obtain ⟨rfl,rfl⟩:r0=(rnmS xt).1∧fxt=(rnmS xt).2:=⟨congrArg (fun z=>z.1) hK,congrArg (fun z=>z.2) hK⟩; exact ⟨u0,j0,rfl,e0,rfl⟩)
def rsgV0 (xs:Bs):Bool :=
 ((xs==([61,61]:Bs))||(xs==([33,61]:Bs)))
def rsgV1 (xs:Bs):Bool :=
 ((xs==([60]:Bs))||((xs==([60,61]:Bs))||((xs==([62]:Bs))||(xs==([62,61]:Bs)))))
def rsgV2 (xs:Bs):Bool :=
 ((xs==([43]:Bs))||(xs==([45]:Bs)))
def rsgV3 (xs:Bs):Bool :=
 ((xs==([42]:Bs))||((xs==([47]:Bs))||(xs==([37]:Bs))))
def rsgj57 (xs:Bs) (K:Int→Prop):Prop :=
 (rsgV3 xs=true→K 8)∧(rsgV3 xs=false→K 0)
def rsgj47 (xs:Bs) (K:Int→Prop):Prop :=
 (rsgV2 xs=true→K 7)∧(rsgV2 xs=false→((xs==([42]:Bs))=true→rsgj57 xs K)∧((xs==([42]:Bs))=false→((xs==([47]:Bs))=true→rsgj57 xs K)∧((xs==([47]:Bs))=false→rsgj57 xs K)))
def rsgj29 (xs:Bs) (K:Int→Prop):Prop :=
 (rsgV1 xs=true→K 6)∧(rsgV1 xs=false→((xs==([43]:Bs))=true→rsgj47 xs K)∧((xs==([43]:Bs))=false→rsgj47 xs K))
def rsgj19 (xs:Bs) (K:Int→Prop):Prop :=
 (rsgV0 xs=true→K 5)∧(rsgV0 xs=false→((xs==([60]:Bs))=true→rsgj29 xs K)∧((xs==([60]:Bs))=false→((xs==([60,61]:Bs))=true→rsgj29 xs K)∧((xs==([60,61]:Bs))=false→((xs==([62]:Bs))=true→rsgj29 xs K)∧((xs==([62]:Bs))=false→rsgj29 xs K))))
def rsgF (xs:Bs) (K:Int→Prop):Prop :=
 ((xs==([124,124]:Bs))=true→K 3)∧((xs==([124,124]:Bs))=false→((xs==([38,38]:Bs))=true→K 4)∧((xs==([38,38]:Bs))=false→((xs==([61,61]:Bs))=true→rsgj19 xs K)∧((xs==([61,61]:Bs))=false→rsgj19 xs K)))
theorem rsg_ok {g:Ghost} (xs:Bs) (K:Int→Prop)
  (hF:rsgF xs K):CallsH prog 70 #[sv xs] g [] (fun g' H' v=>∃ (r0:Int),v=iv r0∧H'=[]∧K r0):=by
 refine CallsH.en 23 func70 rfl fun w0=>?_
 refine Ok.sr (Ok.B 1 [(0,sv xs)] kr (Ok.nt (Ok.q (Ok.sr (Ok.B 1 [(3,sv xs)] kr (Ok.nt (Ok.block (Ok.sr (Ok.rn 2 [] [3] [(4,.bool (xs==Bm))] ?_)))))))))
 refine Ok.nt (Ok.cw hF (fun hc1 hF=>?_) (fun hc1 hF=>?_))
 ·refine Ok.sr (Ok.B 1 [(2,iv 3)] kr (Ok.nt (Ok.ret (Ok.kr (Ok.tr ?_)))))
  exact Ok.h0 (iv 3) ⟨_,rfl,rfl,hF⟩
 refine Ok.sr (Ok.rn 2 [] [3] [(6,.bool (xs==Bl))] ?_)
 refine Ok.nt (Ok.cw hF (fun hc2 hF=>?_) (fun hc2 hF=>?_))
 ·refine Ok.sr (Ok.B 1 [(2,iv 4)] kr (Ok.nt (Ok.ret (Ok.kr (Ok.tr ?_)))))
  exact Ok.h0 (iv 4) ⟨_,rfl,rfl,hF⟩
 refine Ok.ct [(3,sv xs),(8,.bool (rsgV0 xs))] [] (rsgj19 xs K) ?_ (fun hF=>?_)
 ·
  refine Ok.sr (Ok.rn 2 [] [3] [(8,.bool (xs==Bj))] ?_)
  refine Ok.nt (Ok.cw hF (fun B0 hF=>?_) (fun B0 hF=>?_))
  ·refine Ok.k (Ok.t (Ok.rb 8 (rsgV0 xs) (Eq.trans (B0) (mor_t B0)) ?_))
   exact fz hF
  refine Ok.r (Ok.rn 2 [] [3] [(8,.bool (xs==Bi))] ?_)
  refine Ok.nt (Ok.rb 8 (rsgV0 xs) (mor_f B0) ?_)
  exact fz hF
 refine Ok.cw hF (fun hc3 hF=>?_) (fun hc3 hF=>?_)
 ·refine Ok.sr (Ok.B 1 [(2,iv 5)] kr (Ok.nt (Ok.ret (Ok.kr (Ok.tr ?_)))))
  exact Ok.h0 (iv 5) ⟨_,rfl,rfl,hF⟩
 refine Ok.ct [(3,sv xs),(11,.bool (rsgV1 xs))] [] (rsgj29 xs K) ?_ (fun hF=>?_)
 ·
  refine Ok.sr (Ok.rn 2 [] [3] [(11,.bool (xs==([60]:Bs)))] ?_)
  refine Ok.nt (Ok.cw hF (fun Z0 hF=>?_) (fun Z0 hF=>?_))
  ·refine Ok.k (Ok.t (Ok.rb 11 (rsgV1 xs) (Eq.trans (Z0) (mor_t Z0)) ?_))
   exact fz hF
  refine Ok.sr (Ok.rn 2 [] [3] [(11,.bool (xs==Bf))] ?_)
  refine Ok.nt (Ok.cw hF (fun J0 hF=>?_) (fun J0 hF=>?_))
  ·refine Ok.k (Ok.t (Ok.rb 11 (rsgV1 xs) (Eq.trans (Eq.trans (J0) (mor_t J0)) (mor_f Z0)) ?_))
   exact fz hF
  refine Ok.sr (Ok.rn 2 [] [3] [(11,.bool (xs==([62]:Bs)))] ?_)
  refine Ok.nt (Ok.cw hF (fun C0 hF=>?_) (fun C0 hF=>?_))
  ·refine Ok.k (Ok.t (Ok.rb 11 (rsgV1 xs) (Eq.trans (Eq.trans (Eq.trans (C0) (mor_t C0)) (mor_f J0)) (mor_f Z0)) ?_))
   exact fz hF
  refine Ok.r (Ok.rn 2 [] [3] [(11,.bool (xs==Be))] ?_)
  refine Ok.nt (Ok.rb 11 (rsgV1 xs) (Eq.trans (Eq.trans (mor_f C0) (mor_f J0)) (mor_f Z0)) ?_)
  exact fz hF
 refine Ok.cw hF (fun hc4 hF=>?_) (fun hc4 hF=>?_)
 ·refine Ok.sr (Ok.B 1 [(2,iv 6)] kr (Ok.nt (Ok.ret (Ok.kr (Ok.tr ?_)))))
  exact Ok.h0 (iv 6) ⟨_,rfl,rfl,hF⟩
 refine Ok.ct [(3,sv xs),(16,.bool (rsgV2 xs))] [] (rsgj47 xs K) ?_ (fun hF=>?_)
 ·
  refine Ok.sr (Ok.rn 2 [] [3] [(16,.bool (xs==([43]:Bs)))] ?_)
  refine Ok.nt (Ok.cw hF (fun hc9 hF=>?_) (fun hc9 hF=>?_))
  ·refine Ok.k (Ok.t (Ok.rb 16 (rsgV2 xs) (Eq.trans (hc9) (mor_t hc9)) ?_))
   exact fz hF
  refine Ok.r (Ok.rn 2 [] [3] [(16,.bool (xs==Bd))] ?_)
  refine Ok.nt (Ok.rb 16 (rsgV2 xs) (mor_f hc9) ?_)
  exact fz hF
 refine Ok.cw hF (fun hc5 hF=>?_) (fun hc5 hF=>?_)
 ·refine Ok.sr (Ok.B 1 [(2,iv 7)] kr (Ok.nt (Ok.ret (Ok.kr (Ok.tr ?_)))))
  exact Ok.h0 (iv 7) ⟨_,rfl,rfl,hF⟩
 refine Ok.ct [(19,.bool (rsgV3 xs))] [] (rsgj57 xs K) ?_ (fun hF=>?_)
 ·
  refine Ok.sr (Ok.rn 2 [] [3] [(19,.bool (xs==([42]:Bs)))] ?_)
  refine Ok.nt (Ok.cw hF (fun hc7 hF=>?_) (fun hc7 hF=>?_))
  ·refine Ok.k (Ok.t (Ok.rb 19 (rsgV3 xs) (Eq.trans (hc7) (mor_t hc7)) ?_))
   exact fz hF
  refine Ok.sr (Ok.rn 2 [] [3] [(19,.bool (xs==([47]:Bs)))] ?_)
  refine Ok.nt (Ok.cw hF (fun hc8 hF=>?_) (fun hc8 hF=>?_))
  ·refine Ok.k (Ok.t (Ok.rb 19 (rsgV3 xs) (Eq.trans (Eq.trans (hc8) (mor_t hc8)) (mor_f hc7)) ?_))
   exact fz hF
  refine Ok.r (Ok.rn 2 [] [] [(19,.bool (xs==([37]:Bs)))] ?_)
  refine Ok.nt (Ok.rb 19 (rsgV3 xs) (Eq.trans (mor_f hc8) (mor_f hc7)) ?_)
  exact fz hF
 refine Ok.cw hF (fun hc6 hF=>?_) (fun hc6 hF=>?_)
 ·refine Ok.sr (Ok.B 1 [(2,iv 8)] kr (Ok.nt (Ok.ret (Ok.kr (Ok.tr ?_)))))
  exact Ok.h0 (iv 8) ⟨_,rfl,rfl,hF⟩
 refine Ok.k (Ok.kn (Ok.t (Ok.sr (Ok.B 1 [(2,iv 0)] kr (Ok.nt (Ok.ret ?_))))))
 exact Ok.h0 (iv 0) ⟨_,rfl,rfl,hF⟩
def sgS (s:Bs):Int:=if (s==[124,124])=true then 3 else if (s==[38,38])=true then 4 else if (s==[61,61]||s==[33,61])=true then 5 else
 if (s==[60]||(s==[60,61]||(s==[62]||s==[62,61])))=true then 6 else if (s==[43]||s==[45])=true then 7 else if (s==[42]||(s==[47]||s==[37]))=true then 8 else 0
theorem rsg_F (s:Bs):rsgF s (fun r=>r=sgS s):=by
 unfold rsgF rsgj19 rsgj29 rsgj47 rsgj57 rsgV0 rsgV1 rsgV2 rsgV3 sgS
 generalize (s==[124,124])=b1
 generalize (s==[38,38])=b2
 generalize (s==[61,61])=b3
 generalize (s==[33,61])=b4
 generalize (s==[60])=b5
 generalize (s==[60,61])=b6
 generalize (s==[62])=b7
 generalize (s==[62,61])=b8
 generalize (s==[43])=b9
 generalize (s==[45])=b10
 generalize (s==[42])=b11
 generalize (s==[47])=b12
 generalize (s==[37])=b13
 cases b1 <;> try simp
 cases b2 <;> try simp
 cases b3 <;> try simp
 cases b4 <;> try simp
 cases b5 <;> try simp
 cases b6 <;> try simp
 cases b7 <;> try simp
 cases b8 <;> try simp
 cases b9 <;> try simp
 cases b10 <;> try simp
 cases b11 <;> try simp
 cases b12 <;> try simp
theorem rsg_c {g:Ghost} (xs:Bs)  : CallsG prog 70 #[sv xs] g (iv (sgS xs)) :=
 (rsg_ok xs _ (rsg_F xs)).gv
end
end Go.Proofs.YtalnampdiegmoaaDoor.Rf
