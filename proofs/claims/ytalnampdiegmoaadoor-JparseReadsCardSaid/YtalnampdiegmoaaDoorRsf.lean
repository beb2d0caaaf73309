/- The document's reader of scripts: whole. -/
import Derived.Test.YtalnampdiegmoaaDoorRtm
import Derived.Test.YtalnampdiegmoaaDoorRed
namespace Go.Proofs.YtalnampdiegmoaaDoor.Rf
open _root_.Go.Proofs.Tryd Go Go.Eng Go.RowKit Ps
set_option linter.unusedVariables false
set_option linter.unusedSimpArgs false
set_option maxHeartbeats 4000000
set_option maxRecDepth 100000
noncomputable section
def dof_C (N:Nat):Prop:=∀ (g:Ghost) {m0:Option Addr} {n0:Nat} (xn:JN) (l0:Rep g yJs [.slice m0 xn.kids.length n0] xn.kids)  (hp:dpeP N xn),CallsG prog 12 #[.agg (aJ xn m0 n0)] g (iv (depI xn))
def dofl9b (N:Nat) (xn:JN) (K:Int→Prop) (a0:Int) (g0:Int) (C9:Int→Int→Prop):Prop :=
 ((decide (g0<(xn.kids.length:Int)))=true→0≤g0∧g0.toNat<xn.kids.length∧dpeP N (xn.kids.getD g0.toNat default)∧C9 (if a0<(w6 (1+(depI (xn.kids.getD g0.toNat default)))) then (w6 (1+(depI (xn.kids.getD g0.toNat default)))) else a0) (w6 (g0+1)))∧((decide (g0<(xn.kids.length:Int)))=false→K a0)
def dofl9 (N:Nat) (xn:JN) (K:Int→Prop):Nat→Int→Int→Prop
 | 0,_,_=>False
 | k+1,a0,g0=>dofl9b N xn K a0 g0 (dofl9 N xn K k)
def dofF (N:Nat) (xn:JN) (K:Int→Prop):Prop :=
 ∃ k,dofl9 N xn K k 1 0
theorem dof_ok {g:Ghost} (N:Nat) (ih_dof:dof_C N) {m0:Option Addr} {n0:Nat} (xn:JN) (l0:Rep g yJs [.slice m0 xn.kids.length n0] xn.kids) (K:Int→Prop)
  (hF:dofF N xn K):CallsH prog 12 #[.agg (aJ xn m0 n0)] g [] (fun g' H' v=>∃ (r0:Int),v=iv r0∧H'=[]∧K r0):=by
 refine CallsH.en 20 func12 rfl fun w0=>?_
 refine Ok.sr (Ok.o (OpOk.bz fun bs1=>?_))
 refine Ok.B 1 [(1,pv bs1 0)] kr (Ok.nt (Ok.sr (Ok.b 1 [1] [(3,iv 1)] ?_)))
 refine Ok.nt (Ok.q (Ok.sr (Ok.rn 4 [.e 0] [3] [(7,.slice m0 xn.kids.length n0),(8,iv (xn.kids.length:Int)),(9,iv 0)] ?_)))
 refine Ok.nt (Ok.block ?_)
 obtain ⟨k,hF⟩:=hF
 refine Ok.L (fun k a W=>∃ (a0:Int) (g0:Int),StA 20 [(3,iv a0),(7,.slice m0 xn.kids.length n0),(8,iv (xn.kids.length:Int)),(9,iv g0)] a∧StW w0 [] g W∧dofl9 N xn K k a0 g0) k ?_ ?_
 ·
  exact fun _ _ u v=>⟨1,0,fA u v hF⟩
 clear hF
 rintro (_ | k9) _ _ ⟨a0,g0,q⟩
 exact (q.2.2:False).elim
 refine jn (fun hF=>?_) _ _ q
 refine Ok.sr (Ok.b 1 [3,7,8,9] [(10,.bool (decide (g0<(xn.kids.length:Int))))] ?_)
 refine Ok.nt (Ok.q (Ok.cw hF (fun hc2 hF=>?_) (fun hc2 hF=>?_)))
 ·refine Ok.k (Ok.t (Ok.q (Ok.block (Ok.q (Ok.r ?_)))))
  obtain ⟨h04,h14,hF⟩:=hF
  have he4:=get_of (l:=xn.kids) default h14
  generalize hg4:(xn.kids.getD g0.toNat default)=e4 at he4 hF ⊢
  refine Ok.o (OpOk.indexRo (e:=yJ) rfl rfl underlying22 kr l0 h04 he4 rfl fun q3 o3 cs3 _ T0 hr3=>?_)
  have B0:=hr3
  replace B0:=Rep.tree.1 B0
  obtain ⟨_,_,rfl,⟨_,_,rfl,rfl,⟨_,_,rfl,rfl,rfl⟩⟩,⟨C0,D0,rfl,hm3_3,hr3_3⟩⟩:=B0
  have hR3_3:Rep g yJs [.slice C0 e4.kids.length D0] e4.kids:=⟨C0,D0,rfl,hm3_3,hr3_3⟩
  replace T0:At g q3 o3 (lJ e4 C0 D0):=T0
  refine Ok.o (OpOk.s (v:=.agg (aJ e4 C0 D0)) (Yields.loadAggRo 0 4 (aJ e4 C0 D0) T0 kr underlying24 rfl kr kr kr) rfl rfl (Ok.o (OpOk.aw aY fun bs5=>?_)))
  refine Ok.o (OpOk.w 0 ?_)
  refine Ok.nt (Ok.r ?_)
  obtain ⟨hp6,hF⟩:=hF
  refine Ok.rn 6 [.e 0,.k (ih_dof _ e4 hR3_3 hp6)] [7,8,9] [(3,iv (if a0<(w6 (1+(depI e4))) then (w6 (1+(depI e4))) else a0))] ?_
  refine Ok.j (Ok.kn (Ok.t (Ok.r (Ok.b 2 [3,7,8] [(9,iv (w6 (g0+1)))] ?_))))
  refine Ok.j (Ok.t ?_)
  subst hg4
  exact fun _ _ u v=>⟨k9,nl,(if a0<(w6 (1+(depI (xn.kids.getD g0.toNat default)))) then (w6 (1+(depI (xn.kids.getD g0.toNat default)))) else a0),w6 (g0+1),fA u v hF⟩
 refine Ok.x (Ok.thenE (Ok.thenE (Ok.blockHit (Ok.t (Ok.sr (Ok.B 2 [(2,iv a0)] kr (Ok.nt (Ok.ret ?_))))))))
 exact Ok.h0 (iv a0) ⟨_,rfl,rfl,hF⟩
theorem dof_loop {N:Nat} {n:JN} (hp:dpeP (N+1) n):∀ (k i:Nat),n.kids.length - i<k→i≤n.kids.length→dofl9 N n (fun r=>r=depI n) k (dptL (n.kids.take i)+1:Int) (i:Int)
 | 0,_,h,_=>absurd h (Nat.not_lt_zero _)
 | k+1,i,h,hi=>by
  unfold dofl9 dofl9b
  have hd:=dpt_siz n
  have hs:=hp.2
  refine ⟨fun h1=>?_,fun h1=>?_⟩
  ·have h1:i<n.kids.length:=od h1
   obtain ⟨k1,k2⟩:=dpe_kid hp h1
   have k3:=dpt_siz n.kids[i]
   have k4:=k1.2
   have hg:n.kids.getD (Int.toNat (i:Int)) default=n.kids[i]:=by
    show n.kids.getD i default=_
    rw [List.getD_eq_getElem?_getD,List.getElem?_eq_getElem h1]; rfl
   have hw:w6 ((i:Int)+1)=((i+1:Nat):Int):=by rw [w6e om]; rfl
   have hw2:w6 (1+depI n.kids[i])=(dpt n.kids[i]:Int)+1:=by unfold depI; rw [w6e om]; omega
   have hm:(if (dptL (n.kids.take i):Int)+1<(dpt n.kids[i]:Int)+1 then (dpt n.kids[i]:Int)+1 else (dptL (n.kids.take i):Int)+1)=(dptL (n.kids.take (i+1)):Int)+1:=by
    rw [dptL_take h1]; split <;> omega
   rw [hg,hw,hw2,hm]
   exact ⟨Int.natCast_nonneg _,h1,k1,dof_loop hp k (i+1) om om⟩
  have h1:n.kids.length≤i:=oe h1
  rw [List.take_of_length_le h1]
  unfold depI
  rw [dpt_kids]; rfl
theorem dof_F (N:Nat) (n:JN) (hp:dpeP (N+1) n):dofF N n (fun r=>r=depI n):=by
 have:=dof_loop hp (n.kids.length+1) 0 om om
 rw [List.take_zero,dptL_nil] at this
 exact ⟨_,this⟩
theorem dof_0 (n:JN) (hp:dpeP 0 n):False:=absurd hp.1 (Nat.not_lt_zero _)
theorem dof_rec:∀ N,dof_C N
 | 0=>(by intro g m0 n0 xn l0 hp; exact (dof_0 xn hp).elim)
 | N+1 =>
  have ih:=dof_rec N
  (by intro g m0 n0 xn l0 hp; exact (dof_ok N ih xn l0 _ (dof_F N xn hp)).gv)
theorem dof_c (N:Nat) {g:Ghost} {m0:Option Addr} {n0:Nat} (xn:JN) (l0:Rep g yJs [.slice m0 xn.kids.length n0] xn.kids)  (hp:dpeP N xn):CallsG prog 12 #[.agg (aJ xn m0 n0)] g (iv (depI xn)):=(dof_rec N) _ xn l0 hp
def snoP (N:Nat) (a b:JN):Prop:=a=b∧dpeP N a
def sno_C (N:Nat):Prop:=∀ (g:Ghost) {s0:Option Addr} {b0:Nat} (xa:JN) {c0:Option Addr} {d0:Nat} (xb:JN) (i0:Rep g yJs [.slice s0 xa.kids.length b0] xa.kids) (Z0:Rep g yJs [.slice c0 xb.kids.length d0] xb.kids)  (hp:snoP N xa xb),CallsG prog 6 #[.agg (aJ xa s0 b0),.agg (aJ xb c0 d0)] g (.bool true)
def snoV0 (xa:JN) (xb:JN):Bool :=
 ((xa.lab.1 != xb.lab.1)||((xa.lab.2.1 != xb.lab.2.1)||((!(xa.lab.2.2==xb.lab.2.2))||((xa.kids.length:Int) != (xb.kids.length:Int)))))
def snol15b (N:Nat) (xa:JN) (xb:JN) (K:Bool→Prop) (j0:Int) (C15:Int→Prop):Prop :=
 ((decide (j0<(xa.kids.length:Int)))=true→0≤j0∧j0.toNat<xa.kids.length∧0≤j0∧j0.toNat<xb.kids.length∧snoP N (xa.kids.getD j0.toNat default) (xb.kids.getD j0.toNat default)∧((!true)=true→K false)∧((!true)=false→C15 (w6 (j0+1))))∧((decide (j0<(xa.kids.length:Int)))=false→K true)
def snol15 (N:Nat) (xa:JN) (xb:JN) (K:Bool→Prop):Nat→Int→Prop
 | 0,_=>False
 | k+1,j0=>snol15b N xa xb K j0 (snol15 N xa xb K k)
def snoj4 (N:Nat) (xa:JN) (xb:JN) (K:Bool→Prop):Prop :=
 (snoV0 xa xb=true→K false)∧(snoV0 xa xb=false→∃ k,snol15 N xa xb K k 0)
def snoF (N:Nat) (xa:JN) (xb:JN) (K:Bool→Prop):Prop :=
 ((xa.lab.1 != xb.lab.1)=true→snoj4 N xa xb K)∧((xa.lab.1 != xb.lab.1)=false→((xa.lab.2.1 != xb.lab.2.1)=true→snoj4 N xa xb K)∧((xa.lab.2.1 != xb.lab.2.1)=false→((!(xa.lab.2.2==xb.lab.2.2))=true→snoj4 N xa xb K)∧((!(xa.lab.2.2==xb.lab.2.2))=false→snoj4 N xa xb K)))
theorem sno_ok {g:Ghost} (N:Nat) (ih_sno:sno_C N) {s0:Option Addr} {b0:Nat} (xa:JN) {c0:Option Addr} {d0:Nat} (xb:JN) (i0:Rep g yJs [.slice s0 xa.kids.length b0] xa.kids) (Z0:Rep g yJs [.slice c0 xb.kids.length d0] xb.kids) (K:Bool→Prop)
  (hF:snoF N xa xb K):CallsH prog 6 #[.agg (aJ xa s0 b0),.agg (aJ xb c0 d0)] g [] (fun g' H' v=>∃ (r0:Bool),v=.bool r0∧H'=[]∧K r0):=by
 refine CallsH.en 53 func6 rfl fun w0=>?_
 refine Ok.sr (Ok.o (OpOk.bz fun bs2=>?_))
 refine Ok.o (OpOk.bz fun bs3=>?_)
 refine Ok.B 1 [(2,pv bs2 0),(3,pv bs3 0)] kr (Ok.nt (Ok.q (Ok.ct [(2,pv bs2 0),(3,pv bs3 0),(33,.bool (snoV0 xa xb))] [.blk bs3 (.cells (aJ xb c0 d0) 24),.blk bs2 (.cells (aJ xa s0 b0) 24)] (snoj4 N xa xb K) ?_ (fun hF=>?_))))
 ·
  refine Ok.r (Ok.rn 6 [.e 1,.e 0] [2,3] [(11,.bool (xa.lab.1 != xb.lab.1))] ?_)
  refine Ok.bw 11 hF (fun E0 hF=>?_) (fun E0 hF=>?_)
  ·refine Ok.b 22 [2,3] [(33,.bool true)] ?_
   refine Ok.nt (Ok.rb 33 (snoV0 xa xb) (mor_t E0) ?_)
   exact fz hF
  refine Ok.rn 7 [.e 1,.e 0] [2,3] [(18,.bool (xa.lab.2.1 != xb.lab.2.1))] ?_
  refine Ok.bw 18 hF (fun R0 hF=>?_) (fun R0 hF=>?_)
  ·refine Ok.b 15 [2,3] [(33,.bool true)] ?_
   refine Ok.nt (Ok.rb 33 (snoV0 xa xb) (Eq.trans (mor_t R0) (mor_f E0)) ?_)
   exact fz hF
  refine Ok.rn 7 [.e 1,.e 0] [2,3] [(25,.bool (!(xa.lab.2.2==xb.lab.2.2)))] ?_
  refine Ok.bw 25 hF (fun L0 hF=>?_) (fun L0 hF=>?_)
  ·refine Ok.b 8 [2,3] [(33,.bool true)] ?_
   refine Ok.nt (Ok.rb 33 (snoV0 xa xb) (Eq.trans (Eq.trans (mor_t L0) (mor_f R0)) (mor_f E0)) ?_)
   exact fz hF
  refine Ok.rn 8 [.e 1,.e 0] [2,3] [(33,.bool ((xa.kids.length:Int) != (xb.kids.length:Int)))] ?_
  refine Ok.nt (Ok.rb 33 (snoV0 xa xb) (Eq.trans (Eq.trans (mor_f L0) (mor_f R0)) (mor_f E0)) ?_)
  exact fz hF
 refine Ok.cw hF (fun hc3 hF=>?_) (fun hc3 hF=>?_)
 ·refine Ok.sr (Ok.B 1 [(4,.bool false)] kr (Ok.nt (Ok.ret (Ok.tr ?_))))
  exact Ok.pb false hF
 refine Ok.k (Ok.t (Ok.q (Ok.sr (Ok.rn 4 [.e 1] [2,3] [(36,iv (xa.kids.length:Int)),(37,iv 0)] ?_))))
 refine Ok.nt (Ok.block ?_)
 obtain ⟨k,hF⟩:=hF
 refine Ok.L (fun k a W=>∃ (j0:Int),StA 53 [(2,pv bs2 0),(3,pv bs3 0),(36,iv (xa.kids.length:Int)),(37,iv j0)] a∧StW w0 [.blk bs3 (.cells (aJ xb c0 d0) 24),.blk bs2 (.cells (aJ xa s0 b0) 24)] g W∧snol15 N xa xb K k j0) k ?_ ?_
 ·
  exact fun _ _ u v=>⟨0,fA u v hF⟩
 clear hF
 rintro (_ | k15) _ _ ⟨j0,q⟩
 exact (q.2.2:False).elim
 refine jn (fun hF=>?_) _ _ q
 refine Ok.sr (Ok.b 1 [2,3,36,37] [(38,.bool (decide (j0<(xa.kids.length:Int))))] ?_)
 refine Ok.nt (Ok.q (Ok.cw hF (fun hc4 hF=>?_) (fun hc4 hF=>?_)))
 ·refine Ok.k (Ok.t (Ok.q (Ok.block (Ok.sr (Ok.b 2 [2,3,36,37] [(5,iv j0)] ?_)))))
  refine Ok.nt (Ok.q (Ok.quiet' kr kr (OkQ.b 1 [2,3,5,36,37] [(40,pv bs2 3)] ?_)))
  refine OkQ.op rfl (OpQ.s (v:=.slice s0 xa.kids.length b0) (Yields.l 1 rfl rfl underlying22 rfl kr) rfl rfl (OkQ.b 1 [2,3,5,36,37] [(41,.slice s0 xa.kids.length b0),(42,iv j0)] ?_))
  obtain ⟨h06,h16,hF⟩:=hF
  have he6:=get_of (l:=xa.kids) default h16
  generalize hg6:(xa.kids.getD j0.toNat default)=e6 at he6 hF ⊢
  refine OkQ.op rfl (OpQ.indexRo (e:=yJ) rfl rfl underlying22 kr i0 h06 he6 rfl fun q5 o5 cs5 _ A0 hr5=>?_)
  have F0:=hr5
  replace F0:=Rep.tree.1 F0
  obtain ⟨_,_,rfl,⟨_,_,rfl,rfl,⟨_,_,rfl,rfl,rfl⟩⟩,⟨X0,S0,rfl,hm5_3,hr5_3⟩⟩:=F0
  have hR5_3:Rep g yJs [.slice X0 e6.kids.length S0] e6.kids:=⟨X0,S0,rfl,hm5_3,hr5_3⟩
  replace A0:At g q5 o5 (lJ e6 X0 S0):=A0
  refine OkQ.op rfl (OpQ.s (v:=.agg (aJ e6 X0 S0)) (Yields.loadAggRo 0 4 (aJ e6 X0 S0) A0 kr underlying24 rfl kr kr kr) rfl rfl (OkQ.b 1 [2,3,5,36,37] [(44,.agg (aJ e6 X0 S0)),(45,pv bs3 3)] ?_))
  refine OkQ.op rfl (OpQ.s (v:=.slice c0 xb.kids.length d0) (Yields.l 0 rfl rfl underlying22 rfl kr) rfl rfl (OkQ.b 1 [2,3,36,37,44] [(46,.slice c0 xb.kids.length d0),(47,iv j0)] ?_))
  obtain ⟨h08,h18,hF⟩:=hF
  have he8:=get_of (l:=xb.kids) default h18
  generalize hg8:(xb.kids.getD j0.toNat default)=e8 at he8 hF ⊢
  refine OkQ.op rfl (OpQ.indexRo (e:=yJ) rfl rfl underlying22 kr Z0 h08 he8 rfl fun q7 o7 cs7 _ I0 hr7=>?_)
  have G0:=hr7
  replace G0:=Rep.tree.1 G0
  obtain ⟨_,_,rfl,⟨_,_,rfl,rfl,⟨_,_,rfl,rfl,rfl⟩⟩,⟨H0,M0,rfl,hm7_3,hr7_3⟩⟩:=G0
  have hR7_3:Rep g yJs [.slice H0 e8.kids.length M0] e8.kids:=⟨H0,M0,rfl,hm7_3,hr7_3⟩
  replace I0:At g q7 o7 (lJ e8 H0 M0):=I0
  refine OkQ.op rfl (OpQ.s (v:=.agg (aJ e8 H0 M0)) (Yields.loadAggRo 0 4 (aJ e8 H0 M0) I0 kr underlying24 rfl kr kr kr) rfl rfl ?_)
  obtain ⟨hp9,hF⟩:=hF
  refine OkQ.op rfl (OpQ.f enr (fun W hW=>ih_sno _ e6 e8 (hR5_3.mono hW.sees) (hR7_3.mono hW.sees) hp9) rfl ?_)
  refine OkQ.b 1 [2,3,36,37] [(51,.bool (!true))] ?_
  refine OkQ.j (Ok.t (Ok.cn hF rfl (fun z1=>?_) (fun z1=>?_)))
  ·replace hF:=hF.1 z1
   refine Ok.sr (Ok.B 1 [(4,.bool false)] kr (Ok.nt (Ok.ret (Ok.kr (Ok.tr (Ok.tr (Ok.kr (Ok.tr ?_))))))))
   exact Ok.pb false hF
  replace hF:=hF.2 z1
  refine Ok.k (Ok.kn (Ok.t (Ok.r (Ok.b 2 [2,3,36] [(37,iv (w6 (j0+1)))] ?_))))
  refine Ok.j (Ok.t ?_)
  subst hg8
  subst hg6
  exact fun _ _ u v=>⟨k15,nl,w6 (j0+1),fA u v hF⟩
 refine Ok.x (Ok.thenE (Ok.thenE (Ok.blockHit (Ok.t (Ok.sr (Ok.B 1 [(4,.bool true)] kr (Ok.nt (Ok.ret ?_))))))))
 exact Ok.pb true hF
theorem sno_loop {N:Nat} {n:JN} (hp:dpeP (N+1) n):∀ (k i:Nat),n.kids.length - i<k→i≤n.kids.length→snol15 N n n (fun r=>r=true) k (i:Int)
 | 0,_,h,_=>absurd h (Nat.not_lt_zero _)
 | k+1,i,h,hi=>by
  unfold snol15 snol15b
  refine ⟨fun h1=>?_,fun _=>rfl⟩
  have h1:i<n.kids.length:=od h1
  obtain ⟨k1,k2⟩:=dpe_kid hp h1
  have hg:n.kids.getD (Int.toNat (i:Int)) default=n.kids[i]:=by
   show n.kids.getD i default=_
   rw [List.getD_eq_getElem?_getD,List.getElem?_eq_getElem h1]; rfl
  have hw:w6 ((i:Int)+1)=((i+1:Nat):Int):=by rw [w6e om]; rfl
  rw [hg,hw]
  exact ⟨Int.natCast_nonneg _,h1,Int.natCast_nonneg _,h1,⟨rfl,k1⟩,fun h=>(by cases h),fun _=>sno_loop hp k (i+1) om om⟩
theorem sno_F (N:Nat) (a b:JN) (hp:snoP (N+1) a b):snoF N a b (fun r=>r=true):=by
 obtain ⟨rfl,hp⟩:=hp
 have hv:snoV0 a a=false:=by
  unfold snoV0
  simp [bne]
 have hj:snoj4 N a a (fun r=>r=true):=⟨fun h=>(by rw [hv] at h; cases h),fun _=>⟨a.kids.length+1,sno_loop hp _ 0 om om⟩⟩
 exact ⟨fun _=>hj,fun _=>⟨fun _=>hj,fun _=>⟨fun _=>hj,fun _=>hj⟩⟩⟩
theorem sno_0 (a b:JN) (hp:snoP 0 a b):False:=absurd hp.2.1 (Nat.not_lt_zero _)
theorem sno_rec:∀ N,sno_C N
 | 0=>(by intro g s0 b0 xa c0 d0 xb i0 Z0 hp; exact (sno_0 xa xb hp).elim)
 | N+1 =>
  have ih:=sno_rec N
  (by intro g s0 b0 xa c0 d0 xb i0 Z0 hp; exact (sno_ok N ih xa xb i0 Z0 _ (sno_F N xa xb hp)).gv)
theorem sno_c (N:Nat) {g:Ghost} {s0:Option Addr} {b0:Nat} (xa:JN) {c0:Option Addr} {d0:Nat} (xb:JN) (i0:Rep g yJs [.slice s0 xa.kids.length b0] xa.kids) (Z0:Rep g yJs [.slice c0 xb.kids.length d0] xb.kids)  (hp:snoP N xa xb):CallsG prog 6 #[.agg (aJ xa s0 b0),.agg (aJ xb c0 d0)] g (.bool true):=(sno_rec N) _ xa xb i0 Z0 hp
def rscj11 (K:JN→Bool→Prop) (z0:List JN) (k0:List TK) (v0:Bool) (C9:(List JN)→List TK→Bool→Prop):Prop :=
 (((decide ((k0.length:Int)>0))&&(!v0))=true→rstP 1000000 (k0,v0) 0∧∀ q9:JN×TT,(rstR (k0,v0) 0) q9→(z0++([q9.1]:List JN)).length≤2513169434916∧C9 (z0++([q9.1]:List JN)) q9.2.1 q9.2.2)∧(((decide ((k0.length:Int)>0))&&(!v0))=false→K (Tree.mk (30,0,([]:Bs)) z0) (!v0))
def rscl9b (K:JN→Bool→Prop) (z0:List JN) (k0:List TK) (v0:Bool) (C9:(List JN)→List TK→Bool→Prop):Prop :=
 ((decide ((k0.length:Int)>0))=true→rscj11 K z0 k0 v0 C9)∧((decide ((k0.length:Int)>0))=false→rscj11 K z0 k0 v0 C9)
def rscl9 (K:JN→Bool→Prop):Nat→(List JN)→List TK→Bool→Prop
 | 0,_,_,_=>False
 | k+1,z0,k0,v0=>rscl9b K z0 k0 v0 (rscl9 K k)
def rscF (xl:List TK) (K:JN→Bool→Prop) (Z:Prop):Prop :=
 ∃ k,rscl9 K k jZ xl false
theorem rsc_ok {g:Ghost} {V0:Option Addr} {Q0:Nat} (xl:List TK) (J0:Rep g yTs [.slice V0 xl.length Q0] xl) (Z:Prop) (K:JN→Bool→Prop)
  (hF:rscF xl K Z):CallsP prog 11 #[.slice V0 xl.length Q0] g [] (fun g' H' v=>∃ (r0:JN),∃ (r1:Bool),∃ (K0:Option Addr) (Y0:Nat),v=.tuple #[.agg (aJ r0 K0 Y0),.bool r1]∧Rep g' yJs [.slice K0 r0.kids.length Y0] r0.kids∧H'=[]∧K r0 r1) Z (.iface 44 (.agg #[])):=by
 refine CallsP.enter 36 [(0,.slice V0 xl.length Q0)] func11 rfl kr kr kr fun w0=>?_
 refine Ok.q (Ok.r ?_)
 have hL1:RepL g yJ [] []:=rfl
 refine Ok.ownNil 24 4 (Ok.o (OpOk.aw aZ fun bs2=>?_))
 refine Ok.B 1 [(0,.slice V0 xl.length Q0),(2,pv bs2 0)] kr (Ok.nt (Ok.sr (Ok.b 2 [2] [(7,.agg #[.slice V0 xl.length Q0,.bool false])] ?_)))
 refine Ok.o (OpOk.bz fun bs8=>?_)
 refine Ok.b 1 [2] [(4,pv bs8 0)] ?_
 refine Ok.nt (Ok.sr (Ok.b 1 [2,4] [(9,.agg #[iv 30,iv 0,sv Bz,.slice none 0 0])] ?_))
 have hL4:RepL g yJ [] []:=rfl
 refine Ok.ownNil 24 4 (Ok.o (OpOk.aw aZ fun bs5=>?_))
 have hL6:RepL g yJ [] []:=rfl
 refine Ok.ownNil 24 4 (Ok.o (OpOk.w 1 ?_))
 refine Ok.nt (Ok.q (Ok.block ?_))
 obtain ⟨k,hF⟩:=hF
 refine Ok.L (fun k a W=>∃ gl9:Ghost,Gext w0 g gl9∧∃ (y0:Option Addr) (u0:Nat) (z0:List JN) (f0:List Value) (o0:Option Addr) (t0:Nat) (k0:List TK) (v0:Bool),RepL gl9 yJ f0 z0∧Rep gl9 yTs [.slice o0 k0.length t0] k0∧StA 36 [(2,pv bs2 0),(4,pv bs8 0),(5,pv bs5 0)] a∧StW w0 [.own (.slice y0 z0.length u0) 24 4 z0.length f0,.blk bs5 (.cells (aM 30 0 Bz y0 z0 u0) 24),.blk bs8 (.cells #[.slice o0 k0.length t0,.bool v0] 58),.blk bs2 (.cells aZ 24),.own (.slice none jZ.length 0) 24 4 jZ.length ([])] gl9 W∧rscl9 K k z0 k0 v0) k ?_ ?_
 ·
  exact fun _ _ u v=>⟨g,Gext.r w0 g,none,0,jZ,[],V0,Q0,xl,false,hL6,J0,fA u v hF⟩
 clear hF
 rintro (_ | k9) _ _ ⟨gl9,N0,y0,u0,z0,f0,o0,t0,k0,v0,x0,e0,q⟩
 exact (q.2.2:False).elim
 refine jn (fun hF=>?_) _ _ q
 refine Ok.q (Ok.cg gl9 [(2,pv bs2 0),(4,pv bs8 0),(5,pv bs5 0),(22,.bool ((decide ((k0.length:Int)>0))&&(!v0)))] [.own (.slice y0 z0.length u0) 24 4 z0.length f0,.blk bs5 (.cells (aM 30 0 Bz y0 z0 u0) 24),.blk bs8 (.cells #[.slice o0 k0.length t0,.bool v0] 58),.blk bs2 (.cells aZ 24),.own (.slice none jZ.length 0) 24 4 jZ.length ([])] (rscj11 K z0 k0 v0 (rscl9 K k9)) ?_ (fun gj11 U0 hF=>?_))
 ·
  refine Ok.r (Ok.rn 7 [.e 2] [2,4,5] [(16,.bool (decide ((k0.length:Int)>0)))] ?_)
  refine Ok.bw 16 hF (fun v1 hF=>?_) (fun v1 hF=>?_)
  ·refine Ok.rn 6 [.e 2] [2,4,5] [(22,.bool (!v0))] ?_
   refine Ok.nt (Ok.rb 22 ((decide ((k0.length:Int)>0))&&(!v0)) (mand_t v1) ?_)
   exact fg hF
  refine Ok.b 6 [2,4,5] [(22,.bool false)] ?_
  refine Ok.nt (Ok.rb 22 ((decide ((k0.length:Int)>0))&&(!v0)) (mand_f v1) ?_)
  exact fg hF
 replace x0:=x0.mono U0.1
 replace e0:=e0.mono U0.1
 refine Ok.cw hF (fun hc7 hF=>?_) (fun hc7 hF=>?_)
 ·refine Ok.k (Ok.t (Ok.block (Ok.en [2,0,1,3,4] ?_)))
  refine Ok.mx (pT (N0.trans U0) id) [0,1,2] [3,4] [0,1,1,1,1] [0,0,1,1] [(0,true),(1,true),(2,true),(3,false),(4,false),(5,false),(6,true),(7,false)] ?_
  refine OkME.bat 1 [2,4,5] [(23,pv bs5 3)] ?_
  refine OkME.hd (OpQ.s (v:=.slice y0 z0.length u0) (Yields.l 1 rfl rfl underlying22 rfl kr) rfl rfl ?_)
  refine OkME.bat 1 [2,4,5] [(24,.slice y0 z0.length u0),(25,pv bs8 0)] ?_
  obtain ⟨hp8,hF⟩:=hF
  refine OkME.tail rfl rfl (OpOk.ch (rst_c 1000000 (k0,v0) 0 e0 hp8) fun g10 _ _ W0 hV10=>?_)
  obtain ⟨q9,hq9,O0,P0,a10_2,c10_2,rfl,hR10_0,hR10_2,rfl⟩:=hV10
  replace hF:=hF _ hq9
  replace x0:=x0.mono W0.1
  refine OkME.l1 W0.1 ?_
  have y1:RepL g10 yJ ((lJ q9.1 O0 P0):List Value) ([q9.1]:List JN):=(RepL.consN (c:=(lJ q9.1 O0 P0)) (Rep.tree.2 ⟨[iv q9.1.lab.1,iv q9.1.lab.2.1,sv q9.1.lab.2.2],[.slice O0 q9.1.kids.length P0],rfl,⟨[iv q9.1.lab.1],[iv q9.1.lab.2.1,sv q9.1.lab.2.2],rfl,rfl,⟨[iv q9.1.lab.2.1],[sv q9.1.lab.2.2],rfl,rfl,rfl⟩⟩,hR10_0⟩) rfl)
  refine OkME.tail rfl rfl (OpOk.li y1 fun b11=>?_)
  refine OkME.l1 W0.1 ?_
  obtain ⟨hb12,hF⟩:=hF
  refine OkME.tail rfl rfl (OpOk.append' (e:=yJ) 56 2513169434916 2 0 rfl rfl rfl rfl x0 y1 underlying22 kr kr kr hb12 rfl fun a12 c12 xs12 hL12=>?_)
  refine OkME.l1 W0.1 (OkME.bat 1 [2,4,5] [(28,.slice a12 (z0++([q9.1]:List JN)).length c12),(29,pv bs5 3)] ?_)
  refine OkME.tail rfl rfl (OpOk.w1 3 ?_)
  refine OkME.l1 W0.1 (OkME.nil (Ok.kn (Ok.t ?_)))
  exact fun a W hA hW=>⟨k9,nl,g10,((N0.trans U0).trans W0),a12,c12,(z0++([q9.1]:List JN)),xs12,a10_2,c10_2,q9.2.1,q9.2.2,hL12,hR10_2,hA.sub kr,hW.pick [2,3,1,4,5] _ dc rfl,hF⟩
 refine Ok.x (Ok.thenE (Ok.thenE (Ok.blockHit (Ok.t (Ok.q (Ok.mx (pT (N0.trans U0) id) [] [] [1,1,1,1,1] [1,1,1,0,1] [(0,true),(1,true),(2,true),(3,true),(4,true),(5,true),(6,false),(7,true)] ?_))))))
 refine OkME.hd (OpQ.s (v:=.agg (aM 30 0 Bz y0 z0 u0)) (Yields.loadAgg 1 4 (aM 30 0 Bz y0 z0 u0) rfl rfl underlying24 rfl kr kr kr) rfl rfl ?_)
 refine OkME.bat 3 [2] [(30,.agg (aM 30 0 Bz y0 z0 u0)),(33,pv bs8 1)] ?_
 refine OkME.hd (OpQ.s (v:=.bool v0) (Yields.l 2 rfl rfl underlying4 rfl kr) rfl rfl ?_)
 refine OkME.bat 1 [2,30] [(35,.bool (!v0))] ?_
 refine OkME.tail rfl rfl (OpOk.w 3 ?_)
 refine OkME.l1 (Gle.refl _) (OkME.bat 1 [2] [(3,.bool (!v0))] ?_)
 refine OkME.nil (Ok.t (Ok.ret (Ok.frz 0 rfl x0 fun g13 q1 hRf13=>?_)))
 exact Ok.fine (.inl rfl) (Ok.p (vs:=[.agg (aM 30 0 Bz y0 z0 u0),.bool (!v0)]) [] [] dc rfl (.inl rfl) rfl (.cons (.cellAgg 2 4 (aM 30 0 Bz y0 z0 u0) rfl rfl underlying24 rfl kr kr kr) (.cons (.tmp rfl) .nil)) ((N0.trans U0).trans q1) ⟨(Tree.mk (30,0,Bz) z0),(!v0),y0,u0,rfl,hRf13,rfl,hF⟩)
/-- whole scripts: what the program's reader answers -/
def rscR (l:List TK) (r:JN×Bool):Prop:=tkP (l,0,false,false)→(redS l).2=r.2∧(r.2=true→r.1=(redS l).1)
theorem rsc_loop {l:List TK} (hp:redP l):∀ (k:Nat) (acc:List JN) (t:TT),(t.2=false→t.1.length+1<k)→0<k→t.1.length≤l.length→acc.length≤1000001→(t.2=false→acc.length+t.1.length≤1000000) →
  (tkP (l,0,false,false)→(t.2=true∧scN (l.length+2) [] (l,0,false,false)=none)∨(t.2=false∧∃ (q:PS) (k':Nat),Lev (l,0,false,false) q∧t.1=dp q∧t.1.length<k'∧scN (l.length+2) [] (l,0,false,false)=scN k' acc q)) →
  rscl9 (fun a b=>rscR l (a,b)) k acc t.1 t.2
 | 0,_,_,_,h,_,_,_,_=>absurd h (Nat.not_lt_zero _)
 | k+1,acc,t,hk,_,hl,ha,ha1,i=>by
  have hp1:l.length≤1000:=hp
  have h0:psP (l,0,false,false):=⟨Int.le_refl _,by show (0:Int)≤l.length; omega,by show l.length≤_; omega⟩
  have hj:rscj11 (fun a b=>rscR l (a,b)) acc t.1 t.2 (rscl9 (fun a b=>rscR l (a,b)) k):=by
   refine ⟨fun h=>?_,fun h=>?_⟩
   ·rw [Bool.and_eq_true] at h
    have hb:t.2=false:=by simpa using h.2
    have hn:0<t.1.length:=by have:=of_decide_eq_true h.1; omega
    refine ⟨⟨⟨by show t.1.length≤_; omega,by show 40 * t.1.length+14<_; omega⟩,by decide,by decide⟩,fun r hr=>⟨by rw [List.length_append]; simp; omega,?_⟩⟩
    have hr:Rl (whF 0) stN 13 t r:=hr
    have h5:=hr.1; have h6:=hr.2.1; have h7:=hk hb; have h8:=ha1 hb
    refine rsc_loop hp k _ r.2 (fun h=>by have:=h6 h; omega) om om (by rw [List.length_append]; simp; omega) (fun h=>by have:=h6 h; rw [List.length_append]; simp; omega) fun ht=>?_
    rcases i ht with ⟨h1,_⟩ | ⟨_,q,k',hq,hd,hk',e⟩
    ·rw [hb] at h1; cases h1
    have hqp:=hq.ok h0
    have hres:=hr.2.2.2 hb 1000000 q ⟨hqp,by rw [← dp_len hqp,← hd]; omega⟩ (by unfold tkP; rw [hq.1]; exact ht) (by rw [hq.2.2.2]; rfl) hd
    obtain ⟨k',rfl⟩:∃ k2,k'=k2+1:=⟨k' - 1,by omega⟩
    have hat:q.2.1<q.1.length:=by
     rw [hd,dp_len hqp] at hn
     have:=hqp.1
     omega
    unfold scN at e
    rw [if_pos (decide_eq_true hat)] at e
    cases hs:stN 1000000 q with
    | none =>
     rw [hs] at hres e
     exact .inl ⟨hres,e⟩
    | some x =>
     rw [hs] at hres e
     have hres:r=(x.1,(dp x.2,false)):=hres
     subst hres
     have a:=(allA _).st _ _ hqp hs
     have:=h6 rfl
     exact .inr ⟨rfl,x.2,k',hq.trans a.lev,rfl,by dsimp only at *; omega,e⟩
   show rscR l (nd 30 0 [] acc,!t.2)
   intro ht
   rw [redS_eq]
   unfold redS0
   rcases i ht with ⟨h1,e⟩ | ⟨h1,q,k',hq,hd,hk',e⟩
   ·rw [e,h1]; exact ⟨rfl,fun h=>(by cases h)⟩
   rw [e,h1]
   have hqp:=hq.ok h0
   obtain ⟨k',rfl⟩:∃ k2,k'=k2+1:=⟨k' - 1,by omega⟩
   have hn:¬ 0<t.1.length:=by
    rw [h1] at h
    have h:decide ((t.1.length:Int)>0)=false:=by simpa using h
    have:=of_decide_eq_false h
    omega
   have hat:¬ q.2.1<q.1.length:=by
    rw [hd,dp_len hqp] at hn
    have:=hqp.1
    omega
   unfold scN
   rw [if_neg (by rw [decide_eq_false hat]; decide)]
   exact ⟨rfl,fun _=>rfl⟩
  exact ⟨fun _=>hj,fun _=>hj⟩
theorem rsc_F (l:List TK) (hp:redP l):rscF l (fun a b=>rscR l (a,b)) False:=by
 have hp1:l.length≤1000:=hp
 refine ⟨l.length+3,rsc_loop hp _ [] (l,false) (fun _=>by show l.length+1<_; omega) om (Nat.le_refl _) (by simp) (fun _=>by show 0+l.length≤_; omega) fun ht=>.inr ⟨rfl,(l,0,false,false),l.length+2,?_,rfl,by show l.length<_; omega,rfl⟩⟩
 exact Lev.refl ⟨Int.le_refl _,by show (0:Int)≤l.length; omega,by show l.length≤_; omega⟩
theorem rsc_c {g:Ghost} {V0:Option Addr} {Q0:Nat} (xl:List TK) (J0:Rep g yTs [.slice V0 xl.length Q0] xl)  (hp:redP xl):CallsH prog 11 #[.slice V0 xl.length Q0] g [] (fun g' H' v=>∃ q0:JN×Bool,(rscR xl) q0∧∃ (K0:Option Addr) (Y0:Nat),v=.tuple #[.agg (aJ q0.1 K0 Y0),.bool q0.2]∧Rep g' yJs [.slice K0 q0.1.kids.length Y0] q0.1.kids∧H'=[]) :=
 (CallsP.noZ <| rsc_ok xl J0 _ _ (rsc_F xl hp)).mono (by rintro g' H' v _ ⟨r0,r1,K0,Y0,rfl,hRr0_0,rfl,hK⟩; exact ⟨(r0,r1),hK,K0,Y0,rfl,hRr0_0,rfl⟩)
end
end Go.Proofs.YtalnampdiegmoaaDoor.Rf
