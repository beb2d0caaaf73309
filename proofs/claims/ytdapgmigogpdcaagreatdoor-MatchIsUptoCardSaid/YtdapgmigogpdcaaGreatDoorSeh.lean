/- selector: how many tests there are, by the program and by the document. -/
import Derived.Test.YtdapgmigogpdcaaGreatDoorSec
import Derived.Test.YtdapgmigogpdcaaGreatDoorSfa
namespace Go.Proofs.YtdapgmigogpdcaaGreatDoor.Se
open _root_.Go.Proofs.Tryz Go Go.iQ Go.RowKit jL BF tF Tk Ti
set_option linter.unusedVariables false
set_option linter.unusedSimpArgs false
set_option maxHeartbeats 4000000
set_option maxRecDepth 100000
def iF (l:List Ph) (d:Int):Int×Bool:=K4 l d 0
def FO (N:Nat) (l:List Ph) (d:Int):Prop:=b3 l<N∧b3 l≤1048600∧0≤d∧d+b3 l≤1000000000
theorem Vk {N:Nat} {l:List Ph} {d:Int} (h:FO (N+1) l d) {q:Ph} (hq:q ∈ l) {s:List Ts} (hs:s ∈ q.1) {t:Ts} (ht:t ∈ s):FO N t.kids (d+1):=by
 have h1:=zU hq
 have h2:=xC hs
 have h3:=IY ht
 have h4:=lQ t
 have h5:=uE l
 obtain ⟨a,b,c,e⟩:=h
 exact ⟨om,om,om,om⟩
def Yq (N:Nat):Prop:=∀ (g:ak) {y0:Option Addr} {u0:Nat} (xl:List PH) (bL:Int) (c0:bG g (.slice yP) [.slice y0 xl.length u0] xl)  (hp:FO N xl bL),bE prog 38 #[.slice y0 xl.length u0,iv bL] g (.tuple #[iv (iF xl bL).1,.bool (iF xl bL).2])
def BR (bL:Int) (e7:List TS) (x0:Int) (z0:Int):Int :=
 (if (((e7.getD z0.toNat default).kids.length:Int)==0)=true then x0 else w6 (x0+(iF (e7.getD z0.toNat default).kids (w6 (bL+1))).1))
def BQ (bL:Int) (e7:List TS) (x0:Int) (z0:Int) (C39:Int→Int→Prop):Prop :=
 C39 (BR bL e7 x0 z0) (w6 (z0+1))
def Vi (N:Nat) (bL:Int) (K:Int→Bool→Prop) (e7:List TS) (j0:Int) (Nj:Int→Int→Prop) (x0:Int) (z0:Int) (C39:Int→Int→Prop):Prop :=
 ((decide (z0<(e7.length:Int)))=true→0≤z0∧z0.toNat<e7.length∧((((e7.getD z0.toNat default).kids.length:Int)==0)=true→BQ bL e7 x0 z0 C39)∧((((e7.getD z0.toNat default).kids.length:Int)==0)=false→FO N (e7.getD z0.toNat default).kids (w6 (bL+1))∧((((!(iF (e7.getD z0.toNat default).kids (w6 (bL+1))).2)||decide (bL≥3))||(decide ((w6 (x0+(iF (e7.getD z0.toNat default).kids (w6 (bL+1))).1))>40)))=true→K (w6 (x0+(iF (e7.getD z0.toNat default).kids (w6 (bL+1))).1)) false)∧((((!(iF (e7.getD z0.toNat default).kids (w6 (bL+1))).2)||decide (bL≥3))||(decide ((w6 (x0+(iF (e7.getD z0.toNat default).kids (w6 (bL+1))).1))>40)))=false→BQ bL e7 x0 z0 C39)))∧((decide (z0<(e7.length:Int)))=false→Nj x0 (w6 (j0+1)))
def yV (N:Nat) (bL:Int) (K:Int→Bool→Prop) (e7:List TS) (j0:Int) (Nj:Int→Int→Prop):Nat→Int→Int→Prop
 | 0,_,_=>False
 | k+1,x0,z0=>Vi N bL K e7 j0 Nj x0 z0 (yV N bL K e7 j0 Nj k)
def Vj (N:Nat) (bL:Int) (K:Int→Bool→Prop) (e3:PH) (b0:Int) (C9:Int→Int→Prop) (d0:Int) (j0:Int) (Nj:Int→Int→Prop):Prop :=
 ((decide (j0<(e3.1.length:Int)))=true→0≤j0∧j0.toNat<e3.1.length∧∃ k,yV N bL K (e3.1.getD j0.toNat default) j0 Nj k (w6 (d0+((e3.1.getD j0.toNat default).length:Int))) 0)∧((decide (j0<(e3.1.length:Int)))=false→C9 d0 (w6 (b0+1)))
def yX (N:Nat) (bL:Int) (K:Int→Bool→Prop) (e3:PH) (b0:Int) (C9:Int→Int→Prop):Nat→Int→Int→Prop
 | 0,_,_=>False
 | k+1,d0,j0=>Vj N bL K e3 b0 C9 d0 j0 (yX N bL K e3 b0 C9 k)
def Zj (N:Nat) (xl:List PH) (bL:Int) (K:Int→Bool→Prop) (s0:Int) (b0:Int) (C9:Int→Int→Prop):Prop :=
 ((decide (b0<(xl.length:Int)))=true→0≤b0∧b0.toNat<xl.length∧∃ k,yX N bL K (xl.getD b0.toNat default) b0 C9 k s0 0)∧((decide (b0<(xl.length:Int)))=false→K s0 (decide (s0≤40)))
def BP (N:Nat) (xl:List PH) (bL:Int) (K:Int→Bool→Prop):Nat→Int→Int→Prop
 | 0,_,_=>False
 | k+1,s0,b0=>Zj N xl bL K s0 b0 (BP N xl bL K k)
def afh (N:Nat) (xl:List PH) (bL:Int) (K:Int→Bool→Prop):Prop :=
 ∃ k,BP N xl bL K k 0 0
theorem Zk {g:ak} (N:Nat) (aa3:Yq N) {y0:Option Addr} {u0:Nat} (xl:List PH) (bL:Int) (c0:bG g (.slice yP) [.slice y0 xl.length u0] xl) (K:Int→Bool→Prop)
  (hF:afh N xl bL K):az prog 38 #[.slice y0 xl.length u0,iv bL] g [] (fun g' H' v=>∃ (r0:Int),∃ (r1:Bool),v=.tuple #[iv r0,.bool r1]∧H'=[]∧K r0 r1):=by
 refine aP 70 func38 rfl fun w0=>?_
 refine ae (av 2 [(0,.slice y0 xl.length u0),(1,iv bL)] kr (aa (ae (ag 1 [0,1] [(6,iv 0)] ?_))))
 let J:=(xl.length:Int)
 refine aa (aH (ae (ag 3 [1,6] [(15,.slice y0 xl.length u0),(16,iv J),(17,iv 0)] ?_)))
 refine aa (Ok.block ?_)
 obtain ⟨k,hF⟩:=hF
 refine gF (fun k a W=>∃ (s0:Int) (b0:Int),fJ 70 [(1,iv bL),(6,iv s0),(15,.slice y0 xl.length u0),(16,iv J),(17,iv b0)] a∧dh w0 [] g W∧BP N xl bL K k s0 b0) k ?_ ?_
 ·
  exact fun _ _ u v=>⟨0,0,fA u v hF⟩
 clear hF
 rintro (_ | k9) _ _ ⟨s0,b0,q⟩
 exact (q.2.2:False).elim
 refine jn (fun hF=>?_) _ _ q
 refine ae (ag 1 [1,6,15,16,17] [(18,.bool (decide (b0<J)))] ?_)
 refine aa (aH (aM hF (fun hc1 hF=>?_) (fun hc1 hF=>?_)))
 ·refine Ok.k (Ok.t (aH (Ok.block (aH (aS ?_)))))
  obtain ⟨Eu,Et,hF⟩:=hF
  have yu:=aV (l:=xl) default Et
  generalize hg3:(xl.getD b0.toNat default)=e3 at yu hF ⊢
  refine ai (af.bf (e:=yP) rfl rfl underlying33 kr c0 Eu yu rfl fun q2 o2 cs2 _ i0 hr2=>?_)
  obtain ⟨_,_,rfl,⟨f0,g0,rfl,W0,X0⟩,⟨n0,o0,rfl,S0,B0⟩⟩:=hr2
  have T0:bG g (.slice (.slice yS)) [.slice f0 e3.1.length g0] e3.1:=⟨f0,g0,rfl,W0,X0⟩
  have YU:bG g (.slice yb) [.slice n0 e3.2.length o0] e3.2:=⟨n0,o0,rfl,S0,B0⟩
  replace i0:At g q2 o2 [.slice f0 e3.1.length g0,.slice n0 e3.2.length o0]:=i0
  let E:=(#[.slice f0 e3.1.length g0,.slice n0 e3.2.length o0]:Array Value)
  refine ai (af.s (v:=.agg E) (bU 0 2 E i0 kr underlying28 rfl kr kr kr) rfl rfl (ai (bK #[.slice none 0 0,.slice none 0 0] fun pQ=>?_)))
  refine ai (af.w 0 ?_)
  let G:=(e3.1.length:Int)
  refine aa (ae (aj 4 [.e 0] [1,6,15,16,17] [(22,.slice f0 e3.1.length g0),(23,iv G),(24,iv 0)] ?_))
  refine aa (Ok.block ?_)
  obtain ⟨k,hF⟩:=hF
  let L:=(xl.length:Int)
  refine gF (fun k a W=>∃ (d0:Int) (j0:Int),fJ 70 [(1,iv bL),(6,iv d0),(15,.slice y0 xl.length u0),(16,iv L),(17,iv b0),(22,.slice f0 e3.1.length g0),(23,iv G),(24,iv j0)] a∧dh w0 [] g W∧yX N bL K e3 b0 (BP N xl bL K k9) k d0 j0) k ?_ ?_
  ·
   exact fun _ _ u v=>⟨s0,0,fA u v hF⟩
  clear hF
  rintro (_ | k23) _ _ ⟨d0,j0,q⟩
  exact (q.2.2:False).elim
  refine jn (fun hF=>?_) _ _ q
  refine ae (ag 1 [1,6,15,16,17,22,23,24] [(25,.bool (decide (j0<G)))] ?_)
  refine aa (aH (ed hF rfl (fun j4=>?_) (fun j4=>?_)))
  ·replace hF:=hF.1 j4
   refine Ok.k (Ok.t (aH (Ok.block (aH (aS ?_)))))
   obtain ⟨QF,TV,hF⟩:=hF
   have Mm:=aV (l:=e3.1) default TV
   generalize YQ:(e3.1.getD j0.toNat default)=e7 at Mm hF ⊢
   refine ai (af.bf (e:=.slice yS) rfl rfl underlying25 kr T0 QF Mm rfl fun q6 o6 cs6 _ A0 WS=>?_)
   obtain ⟨Z0,V0,rfl,L0⟩:=oS WS
   refine aj 2 [.a 0 A0] [1,6,15,16,17,22,23,24] [(10,.slice Z0 e7.length V0)] ?_
   let D:=(e7.length:Int)
   refine aa (ae (ag 5 [1,10,15,16,17,22,23,24] [(6,iv (w6 (d0+D)))] ?_))
   refine aa (ae (ag 3 [1,6,15,16,17,22,23,24] [(32,.slice Z0 e7.length V0),(33,iv D),(34,iv 0)] ?_))
   refine aa (Ok.block ?_)
   obtain ⟨k,hF⟩:=hF
   let F:=yX N bL K e3 b0 (BP N xl bL K k9) k23
   let H:=(e3.1.length:Int)
   refine gF (fun k a W=>∃ (x0:Int) (z0:Int),fJ 70 [(1,iv bL),(6,iv x0),(15,.slice y0 xl.length u0),(16,iv L),(17,iv b0),(22,.slice f0 e3.1.length g0),(23,iv H),(24,iv j0),(32,.slice Z0 e7.length V0),(33,iv D),(34,iv z0)] a∧dh w0 [] g W∧yV N bL K e7 j0 F k x0 z0) k ?_ ?_
   ·
    exact fun _ _ u v=>⟨w6 (d0+D),0,fA u v hF⟩
   clear hF
   rintro (_ | k39) _ _ ⟨x0,z0,q⟩
   exact (q.2.2:False).elim
   refine jn (fun hF=>?_) _ _ q
   refine ae (ag 1 [1,6,15,16,17,22,23,24,32,33,34] [(35,.bool (decide (z0<D)))] ?_)
   refine aa (aH (ed hF rfl (fun hc8=>?_) (fun hc8=>?_)))
   ·replace hF:=hF.1 hc8
    refine Ok.k (Ok.t (gD [(1,iv bL),(6,iv (BR bL e7 x0 z0)),(15,.slice y0 xl.length u0),(16,iv L),(17,iv b0),(22,.slice f0 e3.1.length g0),(23,iv H),(24,iv j0),(32,.slice Z0 e7.length V0),(33,iv D),(34,iv z0)] [] (BQ bL e7 x0 z0 (yV N bL K e7 j0 F k39)) ?_ (fun hF=>?_)))
    ·
     refine Ok.block (aH (aS ?_))
     obtain ⟨Ub,MF,hF⟩:=hF
     have u1:=aV (l:=e7) default MF
     generalize j1:(e7.getD z0.toNat default)=e10 at u1 hF ⊢
     refine ai (af.bf (e:=yS) rfl rfl underlying54 kr L0 Ub u1 rfl fun q9 o9 cs9 _ Q0 WR=>?_)
     have C0:=WR
     replace C0:=bG.tst.1 C0
     obtain ⟨_,_,rfl,⟨_,_,rfl,rfl,⟨_,_,rfl,rfl,⟨_,_,rfl,rfl,⟨_,_,rfl,rfl,⟨_,_,rfl,rfl,rfl⟩⟩⟩⟩⟩,⟨D0,E0,rfl,aih,ah1⟩⟩:=C0
     have aiX:bG g (.slice yP) [.slice D0 e10.kids.length E0] e10.kids:=⟨D0,E0,rfl,aih,ah1⟩
     replace Q0:At g q9 o9 (vL e10.lab D0 e10.kids.length E0):=Q0
     let I:=aL e10.lab D0 e10.kids.length E0
     refine ai (af.s (v:=.agg I) (bU 0 7 I Q0 kr underlying60 rfl kr kr kr) rfl rfl (ai (bK #[iv 0,sv ([]:Bs),.int .u8 0,sv ([]:Bs),iv 0,iv 0,.slice none 0 0] fun aqm=>?_)))
     refine ai (af.w 0 ?_)
     refine aa (aH (ae (aj 4 [.e 0] [1,6,15,16,17,22,23,24,32,33,34] [(12,pv aqm 0),(41,.bool ((e10.kids.length:Int)==0))] ?_)))
     refine aa (ed hF rfl (fun F0=>?_) (fun F0=>?_))
     ·replace hF:=hF.1 F0
      refine fU (aA (aO (Ok.t ?_)))
      subst j1
      refine gW 6 rfl (show (iv x0:Value)=iv (BR bL e7 x0 z0) from ay (Value.int .i64) ((aT F0).symm)) ?_
      exact fz hF
     replace hF:=hF.2 F0
     refine Ok.k (Ok.t (aH (aS ?_)))
     obtain ⟨zx,hF⟩:=hF
     let A:=iF e10.kids (w6 (bL+1))
     refine aj 10 [.e 0,.k (aa3 _ e10.kids (w6 (bL+1)) aiX zx)] [1,6,15,16,17,22,23,24,32,33,34] [(13,iv A.1),(14,.bool A.2)] ?_
     refine aa (ae (ag 4 [1,14,15,16,17,22,23,24,32,33,34] [(6,iv (w6 (x0+A.1)))] ?_))
     refine aa (ae (ag 3 [1,6,15,16,17,22,23,24,32,33,34] [(55,.bool (! A.2))] ?_))
     let B:=(! A.2)||decide (bL≥3)
     refine Ok.w 3 [(1,iv bL),(6,iv (w6 (x0+A.1))),(15,.slice y0 xl.length u0),(16,iv L),(17,iv b0),(22,.slice f0 e3.1.length g0),(23,iv H),(24,iv j0),(32,.slice Z0 e7.length V0),(33,iv (e7.length:Int)),(34,iv z0),(58,.bool B)] (fun x1=>?_) ?_
     ·refine Ok.a 55 (! A.2) rfl (fun K0=>?_) (fun K0=>?_)
      ·skip
       refine ag 3 [1,6,15,16,17,22,23,24,32,33,34] [(58,.bool true)] ?_
       refine aB 58 B (df K0) (ag 0 [1,6,15,16,17,22,23,24,32,33,34] [(58,.bool B)] ?_)
       exact x1
      skip
      refine ag 3 [1,6,15,16,17,22,23,24,32,33,34] [(58,.bool (decide (bL≥3)))] ?_
      refine aB 58 B (bR K0) (ag 0 [1,6,15,16,17,22,23,24,32,33,34] [(58,.bool B)] ?_)
      exact x1
     refine ag 1 [1,6,15,16,17,22,23,24,32,33,34] [(59,.bool B)] ?_
     let C:=decide ((w6 (x0+A.1))>40)
     refine Ok.w 3 [(1,iv bL),(6,iv (w6 (x0+A.1))),(15,.slice y0 xl.length u0),(16,iv L),(17,iv b0),(22,.slice f0 e3.1.length g0),(23,iv H),(24,iv j0),(32,.slice Z0 e7.length V0),(33,iv (e7.length:Int)),(34,iv z0),(62,.bool (B||C))] (fun G0=>?_) ?_
     ·refine Ok.a 59 B rfl (fun Y0=>?_) (fun Y0=>?_)
      ·skip
       refine ag 3 [1,6,15,16,17,22,23,24,32,33,34] [(62,.bool true)] ?_
       refine aB 62 (B||C) (df Y0) (ag 0 [1,6,15,16,17,22,23,24,32,33,34] [(62,.bool (B||C))] ?_)
       exact G0
      skip
      refine ag 3 [1,6,15,16,17,22,23,24,32,33,34] [(62,.bool C)] ?_
      refine aB 62 (B||C) (bR Y0) (ag 0 [1,6,15,16,17,22,23,24,32,33,34] [(62,.bool (B||C))] ?_)
      exact G0
     refine aa (ed hF rfl (fun U0=>?_) (fun U0=>?_))
     ·replace hF:=hF.1 U0
      refine ae (av 3 [(4,iv (w6 (x0+A.1))),(5,.bool false)] kr (aa (Ok.ret (aU (aC (aC (aU (aU (aC (aC (aU (aU (aC (aC (aU (aC ?_))))))))))))))))
      exact Au [] (bq w0 g) ⟨(w6 (x0+A.1)),false,rfl,rfl,hF⟩
     replace hF:=hF.2 U0
     refine Ok.k (bJ (Ok.t ?_))
     subst j1
     refine gW 6 rfl (show (iv (w6 (x0+(iF (e7.getD z0.toNat default).kids (w6 (bL+1))).1)):Value)=iv (BR bL e7 x0 z0) from ay (Value.int .i64) ((aF F0).symm)) ?_
     exact fz hF
    refine aS (ag 2 [1,6,15,16,17,22,23,24,32,33] [(34,iv (w6 (z0+1)))] ?_)
    refine bY (Ok.t ?_)
    exact fun _ _ u v=>⟨k39,nl,BR bL e7 x0 z0,w6 (z0+1),fA u v hF⟩
   replace hF:=hF.2 hc8
   refine fU (aA (aA (aO (bJ (Ok.t (aS (ag 2 [1,6,15,16,17,22,23] [(24,iv (w6 (j0+1)))] ?_)))))))
   refine bY (Ok.t ?_)
   subst YQ
   exact fun _ _ u v=>⟨k23,nl,x0,w6 (j0+1),fA u v hF⟩
  replace hF:=hF.2 j4
  refine fU (aA (aA (aO (bJ (Ok.t (aS (ag 2 [1,6,15,16] [(17,iv (w6 (b0+1)))] ?_)))))))
  refine bY (Ok.t ?_)
  subst hg3
  exact fun _ _ u v=>⟨k9,nl,d0,w6 (b0+1),fA u v hF⟩
 refine fU (aA (aA (aO (Ok.t (ae (av 5 [(4,iv s0),(5,.bool (decide (s0≤40)))] kr (aa (Ok.ret ?_))))))))
 exact gH (vs:=[iv s0,.bool (decide (s0≤40))]) (.inl rfl) rfl (.cons (.tmp rfl) (.cons (.tmp rfl) .nil)) (bq w0 g) ⟨s0,decide (s0≤40),rfl,rfl,hF⟩
theorem afg (l:List Ph) (d:Int):¬ FO 0 l d:=fun h=>absurd h.1 (jQ _)
theorem afi {N:Nat} {d:Int} {r:Int×Bool} (hd:0≤d∧d≤1000000000) (s:List Ts) (hs:∀ t ∈ s,FO N t.kids (d+1)) (hl:s.length≤1048600) (k:Int) (C:Int→Int→Prop) (F:Int→Int×Bool) (U:Int) (hU:U≤4000000)
  (hC:∀ n,0≤n→n≤U→r=F n→C n (w6 (k+1))):∀ (m i:Nat) (n:Int),i+m=s.length→0≤n→n+w1 (s.drop i)≤U+m →
  r=(if (El (s.drop i) d n).2=true then F (El (s.drop i) d n).1 else ((El (s.drop i) d n).1,false))→yV N d (fun a b=>(a,b)=r) s k C (m+1) n (i:Int):=by
 intro m
 induction m with
 | zero =>
  intro i n hi hn hu he
  rw [fF om] at he
  exact ⟨fun hc=>absurd (dn hc) om,fun _=>hC n hn om (by rw [he,El,bn rfl])⟩
 | succ m ih =>
  intro i n hi hn hu he
  have hi':i<s.length:=om
  have ht:=hs _ (nk default hi')
  have hb:=lQ (s.getD i default)
  have hbd:=(bdT (s.getD i default) (d+1)).1
  rw [dm (l:=s) default hi',El,QS] at he
  rw [dm (l:=s) default hi',w1] at hu
  rw [QS] at hbd
  refine ⟨fun _=>⟨om,by rw [eB]; omega,?_⟩,fun hc=>absurd (fZ hc) om⟩
  have key:∀ n',BR d s n (i:Int)=n'→0≤n'→n'+w1 (s.drop (i+1))≤U+m→r=(if (El (s.drop (i+1)) d n').2=true then F (El (s.drop (i+1)) d n').1 else ((El (s.drop (i+1)) d n').1,false))→BQ d s n (i:Int) (yV N d (fun a b=>(a,b)=r) s k C (m+1)):=by
   intro n' hn' h0 h1 h2
   unfold BQ
   rw [hn',gp om,show (i:Int)+1=((i+1:Nat):Int) by omega]
   exact ih (i+1) n' om h0 h1 h2
  unfold BR at key
  rw [eB] at key ⊢
  generalize s.getD i default=t at *
  rw [gp (x:=d+1) om] at key ⊢
  have hcn:(((t.kids.length:Int)==0)=true)=(t.kids.length=0):=by simp
  refine ⟨fun hc=>?_,fun hc=>⟨ht,fun hb2=>?_,fun hb2=>?_⟩⟩
  ·rw [aT hc] at key
   rw [hcn] at hc
   rw [bn hc] at he
   exact key n rfl hn om he
  ·have hc2:¬ t.kids.length=0:=by rw [← hcn,hc]; simp
   rw [aQ hc2] at he
   unfold iF at hb2 ⊢
   rw [gp (x:=n+_) om] at hb2 ⊢
   rw [Bool.or_assoc] at hb2
   rw [hb2] at he
   simp only [zS,↓reduceIte] at he
   exact he.symm
  have hc2:¬ t.kids.length=0:=by rw [← hcn,hc]; simp
  rw [aQ hc2] at he
  rw [aF hc] at key
  unfold iF at hb2 key
  rw [gp (x:=n+_) om] at hb2 key
  rw [Bool.or_assoc] at hb2
  rw [hb2] at he
  simp only [zS,↓reduceIte] at he
  exact key _ rfl om om he
theorem afj {N:Nat} {d:Int} {r:Int×Bool} (hd:0≤d∧d≤1000000000) (q:Ph) (hs:∀ s ∈ q.1,∀ t ∈ s,FO N t.kids (d+1)) (hw:w2 q.1≤1048600) (k:Int) (C:Int→Int→Prop) (F:Int→Int×Bool) (U:Int) (hU:U≤2000000)
  (hC:∀ n,0≤n→n≤U→r=F n→C n (w6 (k+1))):∀ (m i:Nat) (n:Int),i+m=q.1.length→0≤n→n+w2 (q.1.drop i)≤U →
  r=(if (EH (q.1.drop i) d n).2=true then F (EH (q.1.drop i) d n).1 else ((EH (q.1.drop i) d n).1,false))→yX N d (fun a b=>(a,b)=r) q k C (m+1) n (i:Int):=by
 intro m
 induction m with
 | zero =>
  intro i n hi hn hu he
  rw [fF om] at he
  exact ⟨fun hc=>absurd (dn hc) om,fun _=>hC n hn om (by rw [he,EH,bn rfl])⟩
 | succ m ih =>
  intro i n hi hn hu he
  have hi':i<q.1.length:=om
  have ht:=hs _ (nk default hi')
  have hl:=wC (q.1.getD i default)
  have hw2:=xC (nk default hi')
  have hql:=wB q.1
  rw [dm (l:=q.1) default hi',EH] at he
  rw [dm (l:=q.1) default hi',w2] at hu
  refine ⟨fun _=>⟨om,by rw [eB]; omega,?_⟩,fun hc=>absurd (fZ hc) om⟩
  rw [eB]
  generalize q.1.getD i default=s at *
  rw [gp om]
  refine ⟨_,afi hd s ht om (i:Int) _ (fun n=>if (EH (q.1.drop (i+1)) d n).2=true then F (EH (q.1.drop (i+1)) d n).1 else ((EH (q.1.drop (i+1)) d n).1,false)) (n+w1 s) om (fun n' h0 h1 h2=>?_) s.length 0 (n+s.length) om om (by rw [iG]; omega) ?_⟩
  ·rw [gp om,show (i:Int)+1=((i+1:Nat):Int) by omega]
   exact ih (i+1) n' om h0 om h2
  rw [iG,he]
  cases hb:(El s d (n+s.length)).2
  ·rw [aQ (by simp),aQ (by simp),aQ (by simp)]
  rw [bn rfl,bn rfl]
theorem aff (N:Nat) (l:List Ph) (d:Int) (h:FO (N+1) l d):afh N l d (fun a b=>(a,b)=iF l d):=by
 have h5:=uE l
 have hlen:=yU l
 have hin:=fun q hq s hs t ht=>Vk h (q:=q) hq (s:=s) hs (t:=t) ht
 obtain ⟨_,hb,hd0,hd1⟩:=h
 have loop:∀ (m i:Nat) (n:Int),i+m=l.length→0≤n→n+w3 (l.drop i)≤1048600→iF l d=K4 (l.drop i) d n→BP N l d (fun a b=>(a,b)=iF l d) (m+1) n (i:Int):=by
  intro m
  induction m with
  | zero =>
   intro i n hi hn hu he
   rw [fF om,K4] at he
   exact ⟨fun hc=>absurd (dn hc) om,fun _=>he.symm⟩
  | succ m ih =>
   intro i n hi hn hu he
   have hi':i<l.length:=om
   have hq:=nk default hi'
   have hwq:=zU hq
   rw [dm (l:=l) default hi'] at he hu
   rw [w3] at hu
   refine ⟨fun _=>⟨om,by rw [eB]; omega,?_⟩,fun hc=>absurd (fZ hc) om⟩
   rw [eB]
   have I0:=hin _ hq
   generalize l.getD i default=q at *
   obtain ⟨p,js⟩:=q
   rw [K4] at he
   have hu:n+((w2 p+js.length+2+w3 (l.drop (i+1)):Nat):Int)≤1048600:=hu
   have hwq:w2 p+js.length+2≤w3 l:=hwq
   refine ⟨_,afj ⟨hd0,om⟩ (p,js) I0 (by show w2 p≤_; omega) (i:Int) _ (fun n=>K4 (l.drop (i+1)) d n) (n+w2 p) om (fun n' h0 h1 h2=>?_) p.length 0 n (by show 0+p.length=p.length; omega) hn (by show n+w2 (p.drop 0)≤_; rw [iG]; omega) ?_⟩
   ·rw [gp om,show (i:Int)+1=((i+1:Nat):Int) by omega]
    exact ih (i+1) n' om h0 om h2
   show iF l d=(if (EH (p.drop 0) d n).2=true then _ else _)
   rw [iG]
   exact he
 exact ⟨_,loop l.length 0 0 om om (by rw [iG]; omega) (by rw [iG]; rfl)⟩
theorem Nt:∀ N,Yq N
 | 0=>(by intro g y0 u0 xl bL c0 hp; exact (afg xl bL hp).elim)
 | N+1 =>
  have ih:=Nt N
  (by intro g y0 u0 xl bL c0 hp; exact (Zk N ih xl bL c0 _ (aff N xl bL hp)).gives (by rintro g' H' v _ ⟨r0,r1,rfl,rfl,hK⟩; obtain ⟨rfl,rfl⟩:r0=(iF xl bL).1∧r1=(iF xl bL).2:=⟨ay (fun z=>z.1) hK,ay (fun z=>z.2) hK⟩; rfl))
def QR (xl:List PH) (bL:Int):Prop:=∃ N,FO N xl bL
theorem afe {g:ak} {y0:Option Addr} {u0:Nat} (xl:List PH) (bL:Int) (c0:bG g (.slice yP) [.slice y0 xl.length u0] xl)  (hp:QR xl bL):bE prog 38 #[.slice y0 xl.length u0,iv bL] g (.tuple #[iv (iF xl bL).1,.bool (iF xl bL).2]):=by
 obtain ⟨N,hp⟩:=hp
 exact (Nt N) _ xl bL c0 hp
set_option linter.unusedVariables false
set_option linter.unusedSimpArgs false
set_option maxHeartbeats 4000000
set_option maxRecDepth 100000
def l0 (x:Lb) (i:Int):Bool:=(decide (x.1<1)||(decide (x.1>11)||((decide (x.1≤2)&&decide (i>0))||((!((decide (x.1≥2)&&decide (x.1≤5))==!(x.2.1==([]:Bs))))||((decide (x.1≥2)&&decide (x.1≤5))&&(!(eu x.2.1)))))))
def l1 (x:Lb):Bool:=(if (x.1==2)=true then !(x.2.1==aJ x.2.1) else ((x.1==5)&&(!(x.2.1==aJ x.2.1))))
def l2 (x:Lb):Bool:=(if (x.2.2.1 != 0)=true then ((x.1 != 5)||((!(Dy ([61,126,124,94,36,42]:Bs) x.2.2.1))||((x.2.2.1==0)&&(!(x.2.2.2.1==([]:Bs)))))) else ((x.2.2.1==0)&&(!(x.2.2.2.1==([]:Bs)))))
def l3 (x:Lb):Bool:=(if (!((x.1==8)||(x.1==9)))=true then ((x.2.2.2.2.1 != 0)||((x.2.2.2.2.2 != 0)||((decide ((if x.2.2.2.2.2<x.2.2.2.2.1 then x.2.2.2.2.2 else x.2.2.2.2.1)<(-1000)))||(decide ((if x.2.2.2.2.1<x.2.2.2.2.2 then x.2.2.2.2.2 else x.2.2.2.2.1)>1000))))) else ((decide ((if x.2.2.2.2.2<x.2.2.2.2.1 then x.2.2.2.2.2 else x.2.2.2.2.1)<(-1000)))||(decide ((if x.2.2.2.2.1<x.2.2.2.2.2 then x.2.2.2.2.2 else x.2.2.2.2.1)>1000))))
def Az (x:Lb) (i:Int):Bool:=!(l0 x i)&&(!(l1 x)&&(!(l2 x)&&!(l3 x)))
def zn (z:Int):Bool:=Dy ([32,62,43,126]:Bs) z
mutual
def xZ:Ts→Int→Bool
 | .mk x l,i=>Az x i&&(if ((x.1==10)||(x.1==11))=true then tZ l&&decide ((l.length:Int)>0) else ((l.length:Int)==0))
def tZ:List Ph→Bool
 | []=>true
 | (p,js)::l=>!(((p.length:Int)==0)||((js.length:Int) != (p.length:Int) - 1))&&(t_ p&&(js.all zn&&tZ l))
def t_:List (List Ts)→Bool
 | []=>true
 | s::l=>ok1 s 0&&(!((s.length:Int)==0)&&t_ l)
def ok1:List Ts→Int→Bool
 | [],_=>true
 | t::l,i=>xZ t i&&ok1 l (i+1)
end
def xI (t:Ts) (i:Int):Bool:=xZ t i
def nV (l:List Ph):Bool:=tZ l&&decide ((l.length:Int)>0)
theorem lU (t:Ts) (i:Int):xZ t i=(Az t.lab i&&(if ((t.lab.1==10)||(t.lab.1==11))=true then nV t.kids else ((t.kids.length:Int)==0))):=by obtain ⟨x,l⟩:=t; rw [xZ]; rfl
theorem mE (q:Ph) (l:List Ph):tZ (q::l)=(!(((q.1.length:Int)==0)||((q.2.length:Int) != (q.1.length:Int) - 1))&&(t_ q.1&&(q.2.all zn&&tZ l))):=by obtain ⟨p,js⟩:=q; rw [tZ]
def I4 (N:Nat) (t:Ts) (i:Int):Prop:=bT t<N∧bT t≤1048600∧okB t
def Ls (N:Nat) (l:List Ph):Prop:=b3 l<N∧b3 l≤1048600∧PM l
theorem Od {N:Nat} {l:List Ph} (h:Ls (N+1) l) {q:Ph} (hq:q ∈ l) {s:List Ts} (hs:s ∈ q.1) {t:Ts} (ht:t ∈ s) (i:Int):I4 N t i:=by
 have h1:=zU hq
 have h2:=xC hs
 have h3:=IY ht
 have h5:=uE l
 obtain ⟨a,b,c⟩:=h
 exact ⟨om,om,(c q hq).2 s hs t ht⟩
theorem EG {N:Nat} {t:Ts} {i:Int} (h:I4 (N+1) t i):Ls N t.kids:=by
 have:=lQ t
 obtain ⟨a,b,c⟩:=h
 exact ⟨om,om,(x8 c).2⟩
def QQ (N:Nat):Prop:=∀ (g:ak) {k0:Option Addr} {y0:Nat} (xt:TS) (pM:Int) (s0:bG g (.slice yP) [.slice k0 xt.kids.length y0] xt.kids) (hG0:bP g 0)  (hp:I4 N xt pM),bE prog 64 #[.agg (aL xt.lab k0 xt.kids.length y0),iv pM] g (.bool (xI xt pM))
def RB (N:Nat):Prop:=∀ (g:ak) {j0:Option Addr} {x0:Nat} (xl:List PH) (b0:bG g (.slice yP) [.slice j0 xl.length x0] xl) (hG0:bP g 0)  (hp:Ls N xl),bE prog 39 #[.slice j0 xl.length x0] g (.bool (nV xl))
def xH (xt:TS) (pM:Int):Bool :=
 (decide (xt.lab.1<1)||(decide (xt.lab.1>11)||((decide (xt.lab.1≤2)&&decide (pM>0))||((!((decide (xt.lab.1≥2)&&decide (xt.lab.1≤5))==!(xt.lab.2.1==([]:Bs))))||((decide (xt.lab.1≥2)&&decide (xt.lab.1≤5))&&(!(eu xt.lab.2.1)))))))
def EF (xt:TS):Bool :=
 (if (xt.lab.1==2)=true then !(xt.lab.2.1==aJ xt.lab.2.1) else ((xt.lab.1==5)&&(!(xt.lab.2.1==aJ xt.lab.2.1))))
def tK (xt:TS):Bool :=
 (if (xt.lab.2.2.1 != 0)=true then ((xt.lab.1 != 5)||((decide (Du ([61,126,124,94,36,42]:Bs) xt.lab.2.2.1<0))||((xt.lab.2.2.1==0)&&(!(xt.lab.2.2.2.1==([]:Bs)))))) else ((xt.lab.2.2.1==0)&&(!(xt.lab.2.2.2.1==([]:Bs)))))
def xG (xt:TS):Bool :=
 (if (!((xt.lab.1==8)||(xt.lab.1==9)))=true then ((xt.lab.2.2.2.2.1 != 0)||((xt.lab.2.2.2.2.2 != 0)||((decide ((if xt.lab.2.2.2.2.2<xt.lab.2.2.2.2.1 then xt.lab.2.2.2.2.2 else xt.lab.2.2.2.2.1)<(-1000)))||(decide ((if xt.lab.2.2.2.2.1<xt.lab.2.2.2.2.2 then xt.lab.2.2.2.2.2 else xt.lab.2.2.2.2.1)>1000))))) else ((decide ((if xt.lab.2.2.2.2.2<xt.lab.2.2.2.2.1 then xt.lab.2.2.2.2.2 else xt.lab.2.2.2.2.1)<(-1000)))||(decide ((if xt.lab.2.2.2.2.1<xt.lab.2.2.2.2.2 then xt.lab.2.2.2.2.2 else xt.lab.2.2.2.2.1)>1000))))
def uY (N:Nat) (xt:TS) (K:Bool→Prop):Prop :=
 (((xt.lab.1==10)||(xt.lab.1==11))=true→Ls N xt.kids∧K (nV xt.kids))∧(((xt.lab.1==10)||(xt.lab.1==11))=false→K ((xt.kids.length:Int)==0))
def tH (N:Nat) (xt:TS) (K:Bool→Prop):Prop :=
 (xG xt=true→K false)∧(xG xt=false→((xt.lab.1==10)=true→uY N xt K)∧((xt.lab.1==10)=false→uY N xt K))
def xE (N:Nat) (xt:TS) (K:Bool→Prop):Prop :=
 ((!((xt.lab.1==8)||(xt.lab.1==9)))=true→((xt.lab.2.2.2.2.1 != 0)=true→tH N xt K)∧((xt.lab.2.2.2.2.1 != 0)=false→((xt.lab.2.2.2.2.2 != 0)=true→tH N xt K)∧((xt.lab.2.2.2.2.2 != 0)=false→((decide ((if xt.lab.2.2.2.2.2<xt.lab.2.2.2.2.1 then xt.lab.2.2.2.2.2 else xt.lab.2.2.2.2.1)<(-1000)))=true→tH N xt K)∧((decide ((if xt.lab.2.2.2.2.2<xt.lab.2.2.2.2.1 then xt.lab.2.2.2.2.2 else xt.lab.2.2.2.2.1)<(-1000)))=false→tH N xt K))))∧((!((xt.lab.1==8)||(xt.lab.1==9)))=false→((decide ((if xt.lab.2.2.2.2.2<xt.lab.2.2.2.2.1 then xt.lab.2.2.2.2.2 else xt.lab.2.2.2.2.1)<(-1000)))=true→tH N xt K)∧((decide ((if xt.lab.2.2.2.2.2<xt.lab.2.2.2.2.1 then xt.lab.2.2.2.2.2 else xt.lab.2.2.2.2.1)<(-1000)))=false→tH N xt K))
def tJ (N:Nat) (xt:TS) (K:Bool→Prop):Prop :=
 (tK xt=true→K false)∧(tK xt=false→((xt.lab.1==8)=true→xE N xt K)∧((xt.lab.1==8)=false→xE N xt K))
def BO (N:Nat) (xt:TS) (K:Bool→Prop):Prop :=
 (EF xt=true→K false)∧(EF xt=false→((xt.lab.2.2.1 != 0)=true→((xt.lab.1 != 5)=true→tJ N xt K)∧((xt.lab.1 != 5)=false→((decide (Du ([61,126,124,94,36,42]:Bs) xt.lab.2.2.1<0))=true→tJ N xt K)∧((decide (Du ([61,126,124,94,36,42]:Bs) xt.lab.2.2.1<0))=false→((xt.lab.2.2.1==0)=true→tJ N xt K)∧((xt.lab.2.2.1==0)=false→tJ N xt K))))∧((xt.lab.2.2.1 != 0)=false→((xt.lab.2.2.1==0)=true→tJ N xt K)∧((xt.lab.2.2.1==0)=false→tJ N xt K)))
def zV (N:Nat) (xt:TS) (pM:Int) (K:Bool→Prop):Prop :=
 (xH xt pM=true→K false)∧(xH xt pM=false→((xt.lab.1==2)=true→ig xt.lab.2.1∧BO N xt K)∧((xt.lab.1==2)=false→((xt.lab.1==5)=true→ig xt.lab.2.1∧BO N xt K)∧((xt.lab.1==5)=false→BO N xt K)))
def Nr (N:Nat) (xt:TS) (pM:Int) (K:Bool→Prop):Prop :=
 (decide (xt.lab.1<1)=true→zV N xt pM K)∧(decide (xt.lab.1<1)=false→(decide (xt.lab.1>11)=true→zV N xt pM K)∧(decide (xt.lab.1>11)=false→((decide (xt.lab.1≤2)&&decide (pM>0))=true→zV N xt pM K)∧((decide (xt.lab.1≤2)&&decide (pM>0))=false→((!((decide (xt.lab.1≥2)&&decide (xt.lab.1≤5))==!(xt.lab.2.1==([]:Bs))))=true→zV N xt pM K)∧((!((decide (xt.lab.1≥2)&&decide (xt.lab.1≤5))==!(xt.lab.2.1==([]:Bs))))=false→((decide (xt.lab.1≥2)&&decide (xt.lab.1≤5))=true→r_ xt.lab.2.1∧zV N xt pM K)∧((decide (xt.lab.1≥2)&&decide (xt.lab.1≤5))=false→zV N xt pM K)))))
def afd (N:Nat) (xt:TS) (pM:Int) (K:Bool→Prop):Prop :=
 (decide (xt.lab.1≥2)=true→Nr N xt pM K)∧(decide (xt.lab.1≥2)=false→Nr N xt pM K)
theorem Zi {g:ak} (N:Nat) (SL:QQ N) (SQ:RB N) {k0:Option Addr} {y0:Nat} (xt:TS) (pM:Int) (s0:bG g (.slice yP) [.slice k0 xt.kids.length y0] xt.kids) (hG0:bP g 0) (K:Bool→Prop)
  (hF:afd N xt pM K):az prog 64 #[.agg (aL xt.lab k0 xt.kids.length y0),iv pM] g [] (fun g' H' v=>∃ (r0:Bool),v=.bool r0∧H'=[]∧K r0):=by
 refine aP 125 func64 rfl fun w0=>?_
 refine ae (ai (di fun eO=>?_))
 let A:=aL xt.lab k0 xt.kids.length y0
 let B:=decide (xt.lab.1≥2)&&decide (xt.lab.1≤5)
 refine av 1 [(1,iv pM),(2,pv eO 0)] kr (aa (gD [(1,iv pM),(2,pv eO 0),(5,.bool B)] [.blk eO (.cells A 60)] (Nr N xt pM K) ?_ (fun hF=>?_)))
 ·
  refine aS (aj 4 [.e 0] [1,2] [(9,.bool (decide (xt.lab.1≥2)))] ?_)
  refine bN 9 hF (fun H0 hF=>?_) (fun H0 hF=>?_)
  ·refine aj 5 [.e 0] [1,2] [(5,.bool (decide (xt.lab.1≤5)))] ?_
   refine aa (aB 5 B (aZ H0) ?_)
   exact fz hF
  refine ag 5 [1,2] [(5,.bool false)] ?_
  refine aa (aB 5 B (bW H0) ?_)
  exact fz hF
 refine aH (gD [(2,pv eO 0),(46,.bool (xH xt pM))] [.blk eO (.cells A 60)] (zV N xt pM K) ?_ (fun hF=>?_))
 ·
  refine aS (aj 4 [.e 0] [1,2,5] [(17,.bool (decide (xt.lab.1<1)))] ?_)
  refine bN 17 hF (fun o0 hF=>?_) (fun o0 hF=>?_)
  ·refine ag 29 [2] [(46,.bool true)] ?_
   refine aa (aB 46 (xH xt pM) (df o0) ?_)
   exact fz hF
  refine aj 5 [.e 0] [1,2,5] [(22,.bool (decide (xt.lab.1>11)))] ?_
  refine bN 22 hF (fun Y0 hF=>?_) (fun Y0 hF=>?_)
  ·refine ag 24 [2] [(46,.bool true)] ?_
   refine aa (aB 46 (xH xt pM) (au (df Y0) (bR o0)) ?_)
   exact fz hF
  let J:=decide (xt.lab.1≤2)
  refine aj 4 [.e 0] [1,2,5] [(22,.bool false),(26,.bool J)] ?_
  let C:=decide (xt.lab.1≤2)&&decide (pM>0)
  refine Ok.w 3 [(2,pv eO 0),(5,.bool B),(22,.bool false),(29,.bool C)] (fun R0=>?_) ?_
  ·refine Ok.a 26 J rfl (fun M0=>?_) (fun M0=>?_)
   ·skip
    refine ag 3 [2,5,22] [(29,.bool (decide (pM>0)))] ?_
    refine aB 29 C (aZ M0) (ag 0 [2,5,22] [(29,.bool C)] ?_)
    exact R0
   skip
   refine ag 3 [2,5,22] [(29,.bool false)] ?_
   refine aB 29 C (bW M0) (ag 0 [2,5,22] [(29,.bool C)] ?_)
   exact R0
  refine ag 2 [2,5] [(31,.bool C)] ?_
  refine bN 31 hF (fun J0 hF=>?_) (fun J0 hF=>?_)
  ·refine ag 15 [2] [(46,.bool true)] ?_
   refine aa (aB 46 (xH xt pM) (au (au (df J0) (bR Y0)) (bR o0)) ?_)
   exact fz hF
  refine aj 7 [.e 0] [2,5] [(38,.bool (!(B==!(xt.lab.2.1==([]:Bs)))))] ?_
  refine bN 38 hF (fun D0 hF=>?_) (fun D0 hF=>?_)
  ·refine ag 8 [2] [(46,.bool true)] ?_
   refine aa (aB 46 (xH xt pM) (au (au (au (df D0) (bR J0)) (bR Y0)) (bR o0)) ?_)
   exact fz hF
  refine ag 2 [2] [(38,.bool false),(40,.bool B)] ?_
  refine bN 40 hF (fun N0 hF=>?_) (fun N0 hF=>?_)
  ·obtain ⟨abw,hF⟩:=hF
   refine aj 6 [.e 0,.k (EK xt.lab.2.1 hG0 abw)] [2] [(46,.bool (!(eu xt.lab.2.1)))] ?_
   refine aa (aB 46 (xH xt pM) (au (au (au (au (aZ N0) (bR D0)) (bR J0)) (bR Y0)) (bR o0)) ?_)
   exact fz hF
  refine ag 6 [2] [(46,.bool false)] ?_
  refine aa (aB 46 (xH xt pM) (au (au (au (au (bW N0) (bR D0)) (bR J0)) (bR Y0)) (bR o0)) ?_)
  exact fz hF
 refine aM hF (fun hc2 hF=>?_) (fun hc2 hF=>?_)
 ·refine ae (av 1 [(4,.bool false)] kr (aa (Ok.ret (aC ?_))))
  exact dD false hF
 refine Ok.k (Ok.t (aH (gD [(2,pv eO 0),(62,.bool (EF xt))] [.blk eO (.cells A 60)] (BO N xt K) ?_ (fun hF=>?_))))
 ·
  refine gu kr kr (fe 1 [2] [(47,pv eO 0)] ?_)
  refine dX.op rfl (fM.s (v:=iv xt.lab.1) (aR 0 rfl rfl underlying3 rfl kr) rfl rfl (fe 2 [2] [(50,.bool (xt.lab.1==2))] ?_))
  refine sK 50 (xt.lab.1==2) rfl (fun U0=>?_) (fun U0=>?_)
  ·replace hF:=hF.1 U0
   refine fe 6 [2] [(55,.bool true),(56,pv eO 1)] ?_
   refine lM (j:=8) (d:=55) (want:=true) (b:=true) rfl kr kr rfl (fM.s (v:=sv xt.lab.2.1) (aR 0 rfl rfl underlying9 rfl kr) rfl rfl (fe 1 [2,55] [(57,sv xt.lab.2.1),(58,pv eO 1)] ?_))
   refine lM (j:=8) (d:=55) (want:=true) (b:=true) rfl kr kr rfl (fM.s (v:=sv xt.lab.2.1) (aR 0 rfl rfl underlying9 rfl kr) rfl rfl ?_)
   obtain ⟨Tt,hF⟩:=hF
   refine lM (j:=8) (d:=55) (want:=true) (b:=true) rfl kr kr rfl (fM.f gT (fun W hW=>EM xt.lab.2.1 Tt) rfl ?_)
   let F:=!(xt.lab.2.1==aJ xt.lab.2.1)
   refine lM (j:=8) (d:=55) (want:=true) (b:=true) rfl kr kr rfl (fM.s (v:=.bool F) (iE (f:=.neq) (a:=xt.lab.2.1) (b:=aJ xt.lab.2.1) kr kr rfl) rfl rfl (fe 1 [2] [(62,.bool F)] ?_))
   refine kU (Ok.t (aB 62 (EF xt) ((aT U0).symm) ?_))
   exact fz hF
  replace hF:=hF.2 U0
  refine fe 1 [2] [(50,.bool false),(51,pv eO 0)] ?_
  refine lM (j:=3) (d:=50) (want:=false) (b:=false) rfl kr kr rfl (fM.s (v:=iv xt.lab.1) (aR 0 rfl rfl underlying3 rfl kr) rfl rfl (fe 3 [2] [(55,.bool (xt.lab.1==5))] ?_))
  refine sK 55 (xt.lab.1==5) rfl (fun W0=>?_) (fun W0=>?_)
  ·replace hF:=hF.1 W0
   refine fe 1 [2] [(55,.bool true),(56,pv eO 1)] ?_
   refine lM (j:=8) (d:=55) (want:=true) (b:=true) rfl kr kr rfl (fM.s (v:=sv xt.lab.2.1) (aR 0 rfl rfl underlying9 rfl kr) rfl rfl (fe 1 [2,55] [(57,sv xt.lab.2.1),(58,pv eO 1)] ?_))
   refine lM (j:=8) (d:=55) (want:=true) (b:=true) rfl kr kr rfl (fM.s (v:=sv xt.lab.2.1) (aR 0 rfl rfl underlying9 rfl kr) rfl rfl ?_)
   obtain ⟨Mf,hF⟩:=hF
   refine lM (j:=8) (d:=55) (want:=true) (b:=true) rfl kr kr rfl (fM.f gT (fun W hW=>EM xt.lab.2.1 Mf) rfl ?_)
   let G:=!(xt.lab.2.1==aJ xt.lab.2.1)
   refine lM (j:=8) (d:=55) (want:=true) (b:=true) rfl kr kr rfl (fM.s (v:=.bool G) (iE (f:=.neq) (a:=xt.lab.2.1) (b:=aJ xt.lab.2.1) kr kr rfl) rfl rfl (fe 1 [2] [(62,.bool G)] ?_))
   refine kU (Ok.t (aB 62 (EF xt) (au (aZ W0) ((aF U0).symm)) ?_))
   exact fz hF
  replace hF:=hF.2 W0
  refine fe 7 [2] [(62,.bool false)] ?_
  refine kU (Ok.t (aB 62 (EF xt) (au (bW W0) ((aF U0).symm)) ?_))
  exact fz hF
 refine aM hF (fun hc3 hF=>?_) (fun hc3 hF=>?_)
 ·refine ae (av 1 [(4,.bool false)] kr (aa (Ok.ret (aC ?_))))
  exact dD false hF
 refine Ok.k (Ok.t (aH (gD [(2,pv eO 0),(86,.bool (tK xt))] [.blk eO (.cells A 60)] (tJ N xt K) ?_ (fun hF=>?_))))
 ·
  refine aS (aj 4 [.e 0] [2] [(66,.bool (xt.lab.2.2.1 != 0))] ?_)
  refine bN 66 hF (fun t0 hF=>?_) (fun t0 hF=>?_)
  ·refine aj 4 [.e 0] [2] [(66,.bool true),(70,.bool (xt.lab.1 != 5))] ?_
   refine bN 70 hF (fun X0 hF=>?_) (fun X0 hF=>?_)
   ·refine ag 16 [2] [(86,.bool true)] ?_
    refine aa (aB 86 (tK xt) (au (df X0) ((aT t0).symm)) ?_)
    exact fz hF
   let I:=([61,126,124,94,36,42]:Bs)
   refine aj 7 [.e 0,.k (aa6 I xt.lab.2.2.1)] [2] [(77,.bool (decide (Du I xt.lab.2.2.1<0)))] ?_
   refine bN 77 hF (fun n0 hF=>?_) (fun n0 hF=>?_)
   ·refine ag 9 [2] [(86,.bool true)] ?_
    refine aa (aB 86 (tK xt) (au (au (df n0) (bR X0)) ((aT t0).symm)) ?_)
    exact fz hF
   refine aj 4 [.e 0] [2] [(77,.bool false),(81,.bool (xt.lab.2.2.1==0))] ?_
   refine bN 81 hF (fun a0 hF=>?_) (fun a0 hF=>?_)
   ·refine aj 5 [.e 0] [2] [(86,.bool (!(xt.lab.2.2.2.1==([]:Bs))))] ?_
    refine aa (aB 86 (tK xt) (au (au (au (aZ a0) (bR n0)) (bR X0)) ((aT t0).symm)) ?_)
    exact fz hF
   refine ag 5 [2] [(86,.bool false)] ?_
   refine aa (aB 86 (tK xt) (au (au (au (bW a0) (bR n0)) (bR X0)) ((aT t0).symm)) ?_)
   exact fz hF
  refine aj 15 [.e 0] [2] [(77,.bool false),(81,.bool (xt.lab.2.2.1==0))] ?_
  refine bN 81 hF (fun O0 hF=>?_) (fun O0 hF=>?_)
  ·refine aj 5 [.e 0] [2] [(86,.bool (!(xt.lab.2.2.2.1==([]:Bs))))] ?_
   refine aa (aB 86 (tK xt) (au (aZ O0) ((aF t0).symm)) ?_)
   exact fz hF
  refine ag 5 [2] [(86,.bool false)] ?_
  refine aa (aB 86 (tK xt) (au (bW O0) ((aF t0).symm)) ?_)
  exact fz hF
 refine aM hF (fun hc4 hF=>?_) (fun hc4 hF=>?_)
 ·refine ae (av 1 [(4,.bool false)] kr (aa (Ok.ret (aC ?_))))
  exact dD false hF
 refine Ok.k (Ok.t (aH (gD [(2,pv eO 0),(115,.bool (xG xt))] [.blk eO (.cells A 60)] (tH N xt K) ?_ (fun hF=>?_))))
 ·
  refine aS (ai (af.s (v:=.agg A) (a_ 0 7 A rfl rfl underlying60 rfl kr kr kr) rfl rfl (ai (bM (args:=#[.agg A]) 11 [(0,.agg A)] gT func107 rfl rfl rfl rfl (ae (ai (di fun aeA=>?_)))))))
  let D:=(xt.lab.1==8)||(xt.lab.1==9)
  refine av 1 [(1,pv aeA 0)] kr (aa (gD [(2,.bool D)] [.blk eO (.cells A 60)] (xE N xt K) ?_ (fun hF=>?_)))
  ·
   refine aS (aj 4 [.e 0] [1] [(6,.bool (xt.lab.1==8))] ?_)
   refine bN 6 hF (fun i0 hF=>?_) (fun i0 hF=>?_)
   ·refine av 5 [(2,.bool true)] kr (aa (aB 2 D (df i0) ?_))
    exact fz hF
   refine aj 5 [.e 0] [] [(2,.bool (xt.lab.1==9))] ?_
   refine aa (aB 2 D (bR i0) ?_)
   exact fz hF
  refine Ok.ret (bu (vs:=[.bool D]) (.inl rfl) rfl (.cons (.tmp rfl) .nil) rfl (av 2 [(2,pv eO 0),(90,.bool (! D))] kr (bN 90 hF (fun Z0 hF=>?_) (fun Z0 hF=>?_))))
  ·refine aj 4 [.e 0] [2] [(90,.bool true),(94,.bool (xt.lab.2.2.2.2.1 != 0))] ?_
   refine bN 94 hF (fun S0 hF=>?_) (fun S0 hF=>?_)
   ·refine ag 21 [2] [(115,.bool true)] ?_
    refine aa (aB 115 (xG xt) (au (df S0) ((aT Z0).symm)) ?_)
    exact fz hF
   refine aj 6 [.e 0] [2] [(100,.bool (xt.lab.2.2.2.2.2 != 0))] ?_
   refine bN 100 hF (fun E0 hF=>?_) (fun E0 hF=>?_)
   ·refine ag 15 [2] [(115,.bool true)] ?_
    refine aa (aB 115 (xG xt) (au (au (df E0) (bR S0)) ((aT Z0).symm)) ?_)
    exact fz hF
   refine aj 8 [.e 0,.e 0] [2] [(108,.bool (decide ((if xt.lab.2.2.2.2.2<xt.lab.2.2.2.2.1 then xt.lab.2.2.2.2.2 else xt.lab.2.2.2.2.1)<(-1000))))] ?_
   refine bN 108 hF (fun V0 hF=>?_) (fun V0 hF=>?_)
   ·refine ag 7 [2] [(115,.bool true)] ?_
    refine aa (aB 115 (xG xt) (au (au (au (df V0) (bR E0)) (bR S0)) ((aT Z0).symm)) ?_)
    exact fz hF
   refine aj 7 [.e 0,.e 0] [2] [(115,.bool (decide ((if xt.lab.2.2.2.2.1<xt.lab.2.2.2.2.2 then xt.lab.2.2.2.2.2 else xt.lab.2.2.2.2.1)>1000)))] ?_
   refine aa (aB 115 (xG xt) (au (au (au (bR V0) (bR E0)) (bR S0)) ((aT Z0).symm)) ?_)
   exact fz hF
  refine aj 18 [.e 0,.e 0] [2] [(108,.bool (decide ((if xt.lab.2.2.2.2.2<xt.lab.2.2.2.2.1 then xt.lab.2.2.2.2.2 else xt.lab.2.2.2.2.1)<(-1000))))] ?_
  refine bN 108 hF (fun Q0 hF=>?_) (fun Q0 hF=>?_)
  ·refine ag 7 [2] [(115,.bool true)] ?_
   refine aa (aB 115 (xG xt) (au (df Q0) ((aF Z0).symm)) ?_)
   exact fz hF
  refine aj 7 [.e 0,.e 0] [2] [(115,.bool (decide ((if xt.lab.2.2.2.2.1<xt.lab.2.2.2.2.2 then xt.lab.2.2.2.2.2 else xt.lab.2.2.2.2.1)>1000)))] ?_
  refine aa (aB 115 (xG xt) (au (bR Q0) ((aF Z0).symm)) ?_)
  exact fz hF
 refine aM hF (fun j4 hF=>?_) (fun j4 hF=>?_)
 ·refine ae (av 1 [(4,.bool false)] kr (aa (Ok.ret (aC ?_))))
  exact dD false hF
 refine Ok.k (Ok.t (aH (ae (ai (af.s (v:=.agg A) (a_ 0 7 A rfl rfl underlying60 rfl kr kr kr) rfl rfl (ai (bM (args:=#[.agg A]) 11 [(0,.agg A)] gT func108 rfl rfl rfl rfl (ae (ai (di fun XZ=>?_))))))))))
 let E:=(xt.lab.1==10)||(xt.lab.1==11)
 refine av 1 [(1,pv XZ 0)] kr (aa (gD [(2,.bool E)] [.blk eO (.cells A 60)] (uY N xt K) ?_ (fun hF=>?_)))
 ·
  refine aS (aj 4 [.e 0] [1] [(6,.bool (xt.lab.1==10))] ?_)
  refine bN 6 hF (fun mW hF=>?_) (fun mW hF=>?_)
  ·refine av 5 [(2,.bool true)] kr (aa (aB 2 E (df mW) ?_))
   exact fz hF
  refine aj 5 [.e 0] [] [(2,.bool (xt.lab.1==11))] ?_
  refine aa (aB 2 E (bR mW) ?_)
  exact fz hF
 refine Ok.ret (bu (vs:=[.bool E]) (.inl rfl) rfl (.cons (.tmp rfl) .nil) rfl (aa (aM hF (fun iC hF=>?_) (fun iC hF=>?_))))
 ·refine aH (aS ?_)
  obtain ⟨Mc,hF⟩:=hF
  refine aj 4 [.e 0,.k (SQ _ xt.kids s0 hG0 Mc)] [] [(4,.bool (nV xt.kids))] ?_
  refine aa (Ok.ret (aC ?_))
  exact dD (nV xt.kids) hF
 let H:=(xt.kids.length:Int)==0
 refine Ok.k (Ok.t (ae (aj 5 [.e 0] [] [(4,.bool H)] ?_)))
 refine aa (Ok.ret ?_)
 exact dD H hF
def CG (e3:PH):Bool :=
 (((e3.1.length:Int)==0)||((e3.2.length:Int) != (w6 ((e3.1.length:Int) - 1))))
def V6 (N:Nat) (K:Bool→Prop) (q0:Int) (e8:List TS) (C30:Int→Prop) (v0:Int) (C45:Int→Prop):Prop :=
 ((decide (v0<(e8.length:Int)))=true→0≤v0∧v0.toNat<e8.length∧I4 N (e8.getD v0.toNat default) v0∧((!(xI (e8.getD v0.toNat default) v0))=true→K false)∧((!(xI (e8.getD v0.toNat default) v0))=false→C45 (w6 (v0+1))))∧((decide (v0<(e8.length:Int)))=false→(((e8.length:Int)==0)=true→K false)∧(((e8.length:Int)==0)=false→C30 (w6 (q0+1))))
def Gi (N:Nat) (K:Bool→Prop) (q0:Int) (e8:List TS) (C30:Int→Prop):Nat→Int→Prop
 | 0,_=>False
 | k+1,v0=>V6 N K q0 e8 C30 v0 (Gi N K q0 e8 C30 k)
def V5 (K:Bool→Prop) (e3:PH) (z0:Int) (C7:Int→Prop) (u0:Int) (C75:Int→Prop):Prop :=
 ((decide (u0<(e3.2.length:Int)))=true→0≤u0∧u0.toNat<e3.2.length∧((decide ((Du ([32,62,43,126]:Bs) (e3.2.getD u0.toNat default))<0))=true→K false)∧((decide ((Du ([32,62,43,126]:Bs) (e3.2.getD u0.toNat default))<0))=false→C75 (w6 (u0+1))))∧((decide (u0<(e3.2.length:Int)))=false→C7 (w6 (z0+1)))
def Gg (K:Bool→Prop) (e3:PH) (z0:Int) (C7:Int→Prop):Nat→Int→Prop
 | 0,_=>False
 | k+1,u0=>V5 K e3 z0 C7 u0 (Gg K e3 z0 C7 k)
def V7 (N:Nat) (K:Bool→Prop) (e3:PH) (z0:Int) (C7:Int→Prop) (q0:Int) (C30:Int→Prop):Prop :=
 ((decide (q0<(e3.1.length:Int)))=true→0≤q0∧q0.toNat<e3.1.length∧∃ k,Gi N K q0 (e3.1.getD q0.toNat default) C30 k 0)∧((decide (q0<(e3.1.length:Int)))=false→∃ k,Gg K e3 z0 C7 k 0)
def CF (N:Nat) (K:Bool→Prop) (e3:PH) (z0:Int) (C7:Int→Prop):Nat→Int→Prop
 | 0,_=>False
 | k+1,q0=>V7 N K e3 z0 C7 q0 (CF N K e3 z0 C7 k)
def Gj (N:Nat) (K:Bool→Prop) (e3:PH) (z0:Int) (C7:Int→Prop):Prop :=
 (CG e3=true→K false)∧(CG e3=false→∃ k,CF N K e3 z0 C7 k 0)
def aan (N:Nat) (xl:List PH) (K:Bool→Prop) (z0:Int) (C7:Int→Prop):Prop :=
 ((decide (z0<(xl.length:Int)))=true→0≤z0∧z0.toNat<xl.length∧((((xl.getD z0.toNat default).1.length:Int)==0)=true→Gj N K (xl.getD z0.toNat default) z0 C7)∧((((xl.getD z0.toNat default).1.length:Int)==0)=false→Gj N K (xl.getD z0.toNat default) z0 C7))∧((decide (z0<(xl.length:Int)))=false→K (decide ((xl.length:Int)>0)))
def xV (N:Nat) (xl:List PH) (K:Bool→Prop):Nat→Int→Prop
 | 0,_=>False
 | k+1,z0=>aan N xl K z0 (xV N xl K k)
def agA (N:Nat) (xl:List PH) (K:Bool→Prop):Prop :=
 ∃ k,xV N xl K k 0
theorem aao {g:ak} (N:Nat) (SL:QQ N) (SQ:RB N) {j0:Option Addr} {x0:Nat} (xl:List PH) (b0:bG g (.slice yP) [.slice j0 xl.length x0] xl) (hG0:bP g 0) (K:Bool→Prop)
  (hF:agA N xl K):az prog 39 #[.slice j0 xl.length x0] g [] (fun g' H' v=>∃ (r0:Bool),v=.bool r0∧H'=[]∧K r0):=by
 refine aP 69 func39 rfl fun w0=>?_
 let D:=(xl.length:Int)
 refine ae (av 1 [(0,.slice j0 xl.length x0)] kr (aa (aH (ae (ag 3 [0] [(11,.slice j0 xl.length x0),(12,iv D),(13,iv 0)] ?_)))))
 refine aa (Ok.block ?_)
 obtain ⟨k,hF⟩:=hF
 refine gF (fun k a W=>∃ (z0:Int),fJ 69 [(0,.slice j0 xl.length x0),(11,.slice j0 xl.length x0),(12,iv D),(13,iv z0)] a∧dh w0 [] g W∧xV N xl K k z0) k ?_ ?_
 ·
  exact fun _ _ u v=>⟨0,fA u v hF⟩
 clear hF
 rintro (_ | k7) _ _ ⟨z0,q⟩
 exact (q.2.2:False).elim
 refine jn (fun hF=>?_) _ _ q
 refine ae (ag 1 [0,11,12,13] [(14,.bool (decide (z0<D)))] ?_)
 refine aa (aH (aM hF (fun hc1 hF=>?_) (fun hc1 hF=>?_)))
 ·refine Ok.k (Ok.t (aH (Ok.block (aH (aS ?_)))))
  obtain ⟨Eu,Et,hF⟩:=hF
  have yu:=aV (l:=xl) default Et
  generalize hg3:(xl.getD z0.toNat default)=e3 at yu hF ⊢
  refine ai (af.bf (e:=yP) rfl rfl underlying33 kr b0 Eu yu rfl fun q2 o2 cs2 _ P0 hr2=>?_)
  obtain ⟨_,_,rfl,⟨c0,d0,rfl,aiq,aia⟩,⟨e0,f0,rfl,aip,ah9⟩⟩:=hr2
  have ai7:bG g (.slice (.slice yS)) [.slice c0 e3.1.length d0] e3.1:=⟨c0,d0,rfl,aiq,aia⟩
  have YU:bG g (.slice yb) [.slice e0 e3.2.length f0] e3.2:=⟨e0,f0,rfl,aip,ah9⟩
  replace P0:At g q2 o2 [.slice c0 e3.1.length d0,.slice e0 e3.2.length f0]:=P0
  let A:=(#[.slice c0 e3.1.length d0,.slice e0 e3.2.length f0]:Array Value)
  refine ai (af.s (v:=.agg A) (bU 0 2 A P0 kr underlying28 rfl kr kr kr) rfl rfl (ai (bK #[.slice none 0 0,.slice none 0 0] fun kZ=>?_)))
  refine ai (af.w 0 ?_)
  let C:=xV N xl K k7
  let E:=(xl.length:Int)
  refine aa (aH (Ok.cut (fun a W=>fJ 69 [(0,.slice j0 xl.length x0),(4,pv kZ 0),(11,.slice j0 xl.length x0),(12,iv E),(13,iv z0),(30,.bool (CG e3))] a∧dh w0 [.blk kZ (.cells A 28)] g W∧Gj N K e3 z0 C) ?_ ?_))
  ·
   refine aS (aj 5 [.e 0] [0,11,12,13] [(4,pv kZ 0),(21,.bool ((e3.1.length:Int)==0))] ?_)
   refine bN 21 hF (fun a0 hF=>?_) (fun a0 hF=>?_)
   ·refine ag 9 [0,4,11,12,13] [(30,.bool true)] ?_
    refine aa (aB 30 (CG e3) (df a0) ?_)
    exact fz hF
   refine aj 9 [.e 0,.e 0] [0,4,11,12,13] [(30,.bool ((e3.2.length:Int) != (w6 ((e3.1.length:Int) - 1))))] ?_
   refine aa (aB 30 (CG e3) (bR a0) ?_)
   exact fz hF
  clear hF
  refine jn fun hF=>?_
  refine ed hF rfl (fun j4=>?_) (fun j4=>?_)
  ·replace hF:=hF.1 j4
   refine ae (av 1 [(2,.bool false)] kr (aa (Ok.ret (aC (aU (aC (aC (aU (aC ?_)))))))))
   exact dD false hF
  replace hF:=hF.2 j4
  refine Ok.k (Ok.t (aH (ae (aj 4 [.e 0] [0,4,11,12,13] [(32,.slice c0 e3.1.length d0),(33,iv (e3.1.length:Int)),(34,iv 0)] ?_))))
  refine aa (Ok.block ?_)
  obtain ⟨k,hF⟩:=hF
  refine gF (fun k a W=>∃ (q0:Int),fJ 69 [(0,.slice j0 xl.length x0),(4,pv kZ 0),(11,.slice j0 xl.length x0),(12,iv E),(13,iv z0),(32,.slice c0 e3.1.length d0),(33,iv (e3.1.length:Int)),(34,iv q0)] a∧dh w0 [.blk kZ (.cells A 28)] g W∧CF N K e3 z0 C k q0) k ?_ ?_
  ·
   exact fun _ _ u v=>⟨0,fA u v hF⟩
  clear hF
  rintro (_ | k30) _ _ ⟨q0,q⟩
  exact (q.2.2:False).elim
  refine jn (fun hF=>?_) _ _ q
  refine ae (ag 1 [0,4,11,12,13,32,33,34] [(35,.bool (decide (q0<(e3.1.length:Int))))] ?_)
  refine aa (aH (ed hF rfl (fun hc6=>?_) (fun hc6=>?_)))
  ·replace hF:=hF.1 hc6
   refine Ok.k (Ok.t (aH (Ok.block (aH (aS ?_)))))
   obtain ⟨MG,h18,hF⟩:=hF
   have Ml:=aV (l:=e3.1) default h18
   generalize YP:(e3.1.getD q0.toNat default)=e8 at Ml hF ⊢
   refine ai (af.bf (e:=.slice yS) rfl rfl underlying25 kr ai7 MG Ml rfl fun q7 o7 cs7 _ ab1 S9=>?_)
   obtain ⟨F0,G0,rfl,TK⟩:=oS S9
   refine aj 2 [.a 0 ab1] [0,4,11,12,13,32,33,34] [(6,.slice F0 e8.length G0)] ?_
   let F:=(e8.length:Int)
   refine aa (aH (ae (ag 3 [0,4,6,11,12,13,32,33,34] [(38,.slice F0 e8.length G0),(39,iv F),(40,iv 0)] ?_)))
   refine aa (Ok.block ?_)
   obtain ⟨k,hF⟩:=hF
   refine gF (fun k a W=>∃ (v0:Int),fJ 69 [(0,.slice j0 xl.length x0),(4,pv kZ 0),(6,.slice F0 e8.length G0),(11,.slice j0 xl.length x0),(12,iv E),(13,iv z0),(32,.slice c0 e3.1.length d0),(33,iv (e3.1.length:Int)),(34,iv q0),(38,.slice F0 e8.length G0),(39,iv F),(40,iv v0)] a∧dh w0 [.blk kZ (.cells #[.slice c0 e3.1.length d0,.slice e0 e3.2.length f0] 28)] g W∧Gi N K q0 e8 (CF N K e3 z0 C k30) k v0) k ?_ ?_
   ·
    exact fun _ _ u v=>⟨0,fA u v hF⟩
   clear hF
   rintro (_ | k45) _ _ ⟨v0,q⟩
   exact (q.2.2:False).elim
   refine jn (fun hF=>?_) _ _ q
   refine ae (ag 1 [0,4,6,11,12,13,32,33,34,38,39,40] [(41,.bool (decide (v0<F)))] ?_)
   refine aa (aH (ed hF rfl (fun mW=>?_) (fun mW=>?_)))
   ·replace hF:=hF.1 mW
    refine Ok.k (Ok.t (aH (Ok.block (ae (ag 1 [0,4,6,11,12,13,32,33,34,38,39,40] [(42,iv v0)] ?_)))))
    obtain ⟨MM,Dz,hF⟩:=hF
    have T0:=aV (l:=e8) default Dz
    generalize Hy:(e8.getD v0.toNat default)=e11 at T0 hF ⊢
    refine ai (af.bf (e:=yS) rfl rfl underlying54 kr TK MM T0 rfl fun q10 o10 Qj _ B0 Hu=>?_)
    have K0:=Hu
    replace K0:=bG.tst.1 K0
    obtain ⟨_,_,rfl,⟨_,_,rfl,rfl,⟨_,_,rfl,rfl,⟨_,_,rfl,rfl,⟨_,_,rfl,rfl,⟨_,_,rfl,rfl,rfl⟩⟩⟩⟩⟩,⟨g0,m0,rfl,abI,abt⟩⟩:=K0
    have acF:bG g (.slice yP) [.slice g0 e11.kids.length m0] e11.kids:=⟨g0,m0,rfl,abI,abt⟩
    replace B0:At g q10 o10 (vL e11.lab g0 e11.kids.length m0):=B0
    let B:=aL e11.lab g0 e11.kids.length m0
    refine ai (af.s (v:=.agg B) (bU 0 7 B B0 kr underlying60 rfl kr kr kr) rfl rfl (ai (bK #[iv 0,sv ([]:Bs),.int .u8 0,sv ([]:Bs),iv 0,iv 0,.slice none 0 0] fun pQ=>?_)))
    refine ag 1 [0,4,6,11,12,13,32,33,34,38,39,40] [(7,iv v0),(8,pv pQ 0),(44,.agg B)] ?_
    refine ai (af.w 0 ?_)
    refine aa (aH (aS ?_))
    obtain ⟨zx,hF⟩:=hF
    refine aj 4 [.e 0,.k (SL _ e11 v0 acF hG0 zx)] [0,4,6,11,12,13,32,33,34,38,39,40] [(48,.bool (!(xI e11 v0)))] ?_
    refine aa (ed hF rfl (fun V0=>?_) (fun V0=>?_))
    ·replace hF:=hF.1 V0
     refine ae (av 1 [(2,.bool false)] kr (aa (Ok.ret (aU (aC (aC (aU (aC (aU (aC (aC (aU (aC (aU (aC (aC (aU (aC ?_))))))))))))))))))
     exact dD false hF
    replace hF:=hF.2 V0
    refine Ok.k (bJ (Ok.t (aS (ag 2 [0,4,6,11,12,13,32,33,34,38,39] [(40,iv (w6 (v0+1)))] ?_))))
    refine bY (Ok.t ?_)
    subst Hy
    exact fun _ _ u v=>⟨k45,nl,w6 (v0+1),fA u v hF⟩
   replace hF:=hF.2 mW
   refine fU (aA (aA (aO (Ok.t (ae (ag 3 [0,4,11,12,13,32,33,34] [(52,.bool ((e8.length:Int)==0))] ?_))))))
   refine aa (ed hF rfl (fun Q0=>?_) (fun Q0=>?_))
   ·replace hF:=hF.1 Q0
    refine ae (av 1 [(2,.bool false)] kr (aa (Ok.ret (aU (aC (aC (aU (aC (aU (aC (aC (aU (aC ?_)))))))))))))
    exact dD false hF
   replace hF:=hF.2 Q0
   refine Ok.k (bJ (Ok.t (aS (ag 2 [0,4,11,12,13,32,33] [(34,iv (w6 (q0+1)))] ?_))))
   refine bY (Ok.t ?_)
   subst YP
   exact fun _ _ u v=>⟨k30,nl,w6 (q0+1),fA u v hF⟩
  replace hF:=hF.2 hc6
  refine fU (aA (aA (aO (Ok.t (ae (aj 4 [.e 0] [0,11,12,13] [(55,.slice e0 e3.2.length f0),(56,iv (e3.2.length:Int)),(57,iv 0)] ?_))))))
  refine aa (Ok.block ?_)
  obtain ⟨k,hF⟩:=hF
  refine gF (fun k a W=>∃ (u0:Int),fJ 69 [(0,.slice j0 xl.length x0),(11,.slice j0 xl.length x0),(12,iv E),(13,iv z0),(55,.slice e0 e3.2.length f0),(56,iv (e3.2.length:Int)),(57,iv u0)] a∧dh w0 [] g W∧Gg K e3 z0 C k u0) k ?_ ?_
  ·
   exact fun _ _ u v=>⟨0,fA u v hF⟩
  clear hF
  rintro (_ | k75) _ _ ⟨u0,q⟩
  exact (q.2.2:False).elim
  refine jn (fun hF=>?_) _ _ q
  refine ae (ag 1 [0,11,12,13,55,56,57] [(58,.bool (decide (u0<(e3.2.length:Int))))] ?_)
  refine aa (aH (ed hF rfl (fun i0=>?_) (fun i0=>?_)))
  ·replace hF:=hF.1 i0
   refine Ok.k (Ok.t (aH (Ok.block (aH (aS ?_)))))
   obtain ⟨MJ,MC,hF⟩:=hF
   have L0:=aV (l:=e3.2) default MC
   generalize anb:(e3.2.getD u0.toNat default)=e18 at L0 hF ⊢
   refine ai (af.bf (e:=.int .u8) rfl rfl underlying26 kr YU MJ L0 rfl fun q17 o17 ajA _ C0 Tg=>?_)
   obtain rfl:=Tg
   replace C0:At g q17 o17 [.int .u8 e18]:=C0
   refine aj 2 [.a 0 C0] [0,11,12,13,55,56,57] [(10,.int .u8 e18)] ?_
   refine aa (ae (aj 3 [.k (aa6 ([32,62,43,126]:Bs) e18)] [0,11,12,13,55,56,57] [(63,.bool (decide (Du ([32,62,43,126]:Bs) e18<0)))] ?_))
   refine aa (ed hF rfl (fun n0=>?_) (fun n0=>?_))
   ·replace hF:=hF.1 n0
    refine ae (av 1 [(2,.bool false)] kr (aa (Ok.ret (aU (aC (aC (aU (aU (aC (aC (aU (aC ?_))))))))))))
    exact dD false hF
   replace hF:=hF.2 n0
   refine Ok.k (bJ (Ok.t (aS (ag 2 [0,11,12,13,55,56] [(57,iv (w6 (u0+1)))] ?_))))
   refine bY (Ok.t ?_)
   subst anb
   exact fun _ _ u v=>⟨k75,nl,w6 (u0+1),fA u v hF⟩
  replace hF:=hF.2 i0
  refine fU (aA (aA (aO (bJ (Ok.t (aS (ag 2 [0,11,12] [(13,iv (w6 (z0+1)))] ?_)))))))
  refine bY (Ok.t ?_)
  subst hg3
  exact fun _ _ u v=>⟨k7,nl,w6 (z0+1),fA u v hF⟩
 refine fU (aA (aA (aO (Ok.t (ae (av 4 [(2,.bool (decide ((xl.length:Int)>0)))] kr (aa (Ok.ret ?_))))))))
 exact dD (decide ((xl.length:Int)>0)) hF
theorem afc (t:Ts) (i:Int):¬ I4 0 t i:=fun h=>absurd h.1 (jQ _)
theorem agz (l:List Ph):¬ Ls 0 l:=fun h=>absurd h.1 (jQ _)
theorem afb (N:Nat) (t:Ts) (i:Int) (h:I4 (N+1) t i):afd N t i (fun r=>r=xI t i):=by
 have hk:=EG h
 have hb:=lQ t
 have hc:r_ t.lab.2.1:=by have:=h.2.1; show t.lab.2.1.length<4294967281; omega
 have hl:ig t.lab.2.1:=by have:=h.2.1; show t.lab.2.1.length≤140737488351232; omega
 have e:=lU t i
 have hop:=(x8 h.2.2).1
 have hV2:tK t=l2 t.lab:=by
  unfold tK l2
  rw [aa5 hop]
 have A0:l0 t.lab i=false→l1 t.lab=false→l2 t.lab=false→l3 t.lab=false→uY N t (fun r=>r=xI t i):=by
  intro h0 h1 h2 h3
  have e2:Az t.lab i=true:=by unfold Az; rw [h0,h1,h2,h3]; rfl
  rw [e2,fu] at e
  refine ⟨fun hn=>⟨hk,?_⟩,fun hn=>?_⟩
  ·rw [aT hn] at e; exact e.symm
  rw [aF hn] at e; exact e.symm
 have j30:l0 t.lab i=false→l1 t.lab=false→l2 t.lab=false→tH N t (fun r=>r=xI t i):=by
  intro h0 h1 h2
  refine ⟨fun h3=>?_,fun h3=>⟨fun _=>A0 h0 h1 h2 h3,fun _=>A0 h0 h1 h2 h3⟩⟩
  have h3:l3 t.lab=true:=h3
  show false=xZ t i
  rw [e]; unfold Az; rw [h3]; simp
 have j88:l0 t.lab i=false→l1 t.lab=false→l2 t.lab=false→xE N t (fun r=>r=xI t i):=by
  intro h0 h1 h2
  have k:=j30 h0 h1 h2
  exact ⟨fun _=>⟨fun _=>k,fun _=>⟨fun _=>k,fun _=>⟨fun _=>k,fun _=>k⟩⟩⟩,fun _=>⟨fun _=>k,fun _=>k⟩⟩
 have j22:l0 t.lab i=false→l1 t.lab=false→tJ N t (fun r=>r=xI t i):=by
  intro h0 h1
  refine ⟨fun h2=>?_,fun h2=>?_⟩
  ·rw [hV2] at h2
   show false=xZ t i
   rw [e]; unfold Az; rw [h2]; simp
  rw [hV2] at h2
  exact ⟨fun _=>j88 h0 h1 h2,fun _=>j88 h0 h1 h2⟩
 have j14:l0 t.lab i=false→BO N t (fun r=>r=xI t i):=by
  intro h0
  refine ⟨fun h1=>?_,fun h1=>?_⟩
  ·have h1:l1 t.lab=true:=h1
   show false=xZ t i
   rw [e]; unfold Az; rw [h1]; simp
  have k:=j22 h0 h1
  exact ⟨fun _=>⟨fun _=>k,fun _=>⟨fun _=>k,fun _=>⟨fun _=>k,fun _=>k⟩⟩⟩,fun _=>⟨fun _=>k,fun _=>k⟩⟩
 have j6:zV N t i (fun r=>r=xI t i):=by
  refine ⟨fun h0=>?_,fun h0=>?_⟩
  ·have h0:l0 t.lab i=true:=h0
   show false=xZ t i
   rw [e]; unfold Az; rw [h0]; simp
  have k:=j14 h0
  exact ⟨fun _=>⟨hl,k⟩,fun _=>⟨fun _=>⟨hl,k⟩,fun _=>k⟩⟩
 have j3:Nr N t i (fun r=>r=xI t i):=⟨fun _=>j6,fun _=>⟨fun _=>j6,fun _=>⟨fun _=>j6,fun _=>⟨fun _=>j6,fun _=>⟨fun _=>⟨hc,j6⟩,fun _=>j6⟩⟩⟩⟩⟩
 exact ⟨fun _=>j3,fun _=>j3⟩
theorem agC {N:Nat} {r:Bool} (s:List Ts) (hs:∀ t ∈ s,∀ i,I4 N t i) (hl:s.length≤1048600) (k:Int) (C:Int→Prop) (R:Bool) (hC:r=R→C (w6 (k+1))) :
  ∀ (m i:Nat),i+m=s.length→r=(ok1 (s.drop i) i&&(!((s.length:Int)==0)&&R))→Gi N (fun x=>x=r) k s C (m+1) (i:Int):=by
 intro m
 induction m with
 | zero =>
  intro i hi he
  rw [fF om,ok1,fu] at he
  refine ⟨fun hc=>absurd (dn hc) om,fun _=>⟨fun h0=>?_,fun h0=>?_⟩⟩
  ·rw [he,h0]; rfl
  rw [h0,Bool.not_false,fu] at he; exact hC he
 | succ m ih =>
  intro i hi he
  have hi':i<s.length:=om
  have ht:=hs _ (nk default hi') i
  rw [dm (l:=s) default hi',ok1,uT] at he
  refine ⟨fun _=>⟨om,by rw [eB]; omega,?_⟩,fun hc=>absurd (fZ hc) om⟩
  rw [eB]
  refine ⟨ht,fun hb=>?_,fun hb=>?_⟩
  ·have hb:xZ (s.getD i default) i=false:=by simpa [xI] using hb
   rw [he,hb,gZ]
  have hb:xZ (s.getD i default) i=true:=by simpa [xI] using hb
  rw [hb,fu] at he
  rw [show (i:Int)+1=((i+1:Nat):Int) by omega] at he
  rw [gp om,show (i:Int)+1=((i+1:Nat):Int) by omega]
  exact ih (i+1) om he
theorem agB {r:Bool} (q:Ph) (hj:∀ z ∈ q.2,UH z) (hl:q.2.length≤1048600) (j:Int) (C:Int→Prop) (R:Bool) (hC:r=R→C (w6 (j+1))) :
  ∀ (m i:Nat),i+m=q.2.length→r=((q.2.drop i).all zn&&R)→Gg (fun x=>x=r) q j C (m+1) (i:Int):=by
 intro m
 induction m with
 | zero =>
  intro i hi he
  rw [fF om,List.all_nil,fu] at he
  exact ⟨fun hc=>absurd (dn hc) om,fun _=>hC he⟩
 | succ m ih =>
  intro i hi he
  have hi':i<q.2.length:=om
  have hz:=hj _ (nk default hi')
  rw [dm (l:=q.2) default hi',sH,uT] at he
  refine ⟨fun _=>⟨om,by rw [eB]; omega,?_⟩,fun hc=>absurd (fZ hc) om⟩
  rw [eB,SX hz]
  refine ⟨fun hb=>?_,fun hb=>?_⟩
  ·have hb:zn (q.2.getD i default)=false:=by simpa [zn] using hb
   rw [he,hb,gZ]
  have hb:zn (q.2.getD i default)=true:=by simpa [zn] using hb
  rw [hb,fu] at he
  rw [gp om,show (i:Int)+1=((i+1:Nat):Int) by omega]
  exact ih (i+1) om he
theorem agD {N:Nat} {r:Bool} (q:Ph) (hj:∀ z ∈ q.2,UH z) (hs:∀ s ∈ q.1,∀ t ∈ s,∀ i,I4 N t i) (hw:w2 q.1≤1048600) (hl:q.2.length≤1048600) (j:Int) (C:Int→Prop) (R:Bool) (hC:r=R→C (w6 (j+1))) :
  ∀ (m i:Nat),i+m=q.1.length→r=(t_ (q.1.drop i)&&(q.2.all zn&&R))→CF N (fun x=>x=r) q j C (m+1) (i:Int):=by
 intro m
 induction m with
 | zero =>
  intro i hi he
  rw [fF om,t_,fu] at he
  exact ⟨fun hc=>absurd (dn hc) om,fun _=>⟨_,agB q hj hl j C R hC q.2.length 0 om (by rw [iG]; exact he)⟩⟩
 | succ m ih =>
  intro i hi he
  have hi':i<q.1.length:=om
  have hin:=nk default hi'
  have ht:=hs _ hin
  have h1:=wC (q.1.getD i default)
  have h2:=xC hin
  have h3:=wB q.1
  rw [dm (l:=q.1) default hi',t_,uT,uT] at he
  refine ⟨fun _=>⟨om,by rw [eB]; omega,?_⟩,fun hc=>absurd (fZ hc) om⟩
  rw [eB]
  refine ⟨_,agC (q.1.getD i default) ht om (i:Int) _ _ (fun h=>?_) (q.1.getD i default).length 0 om (by rw [iG]; exact he)⟩
  rw [gp om,show (i:Int)+1=((i+1:Nat):Int) by omega]
  exact ih (i+1) om h
theorem agy (N:Nat) (l:List Ph) (h:Ls (N+1) l):agA N l (fun r=>r=nV l):=by
 have h5:=uE l
 have hlen:=yU l
 have hin:=fun q hq s hs t ht i=>Od h (q:=q) hq (s:=s) hs (t:=t) ht i
 obtain ⟨_,hb,ho⟩:=h
 have loop:∀ (m i:Nat),i+m=l.length→nV l=(tZ (l.drop i)&&decide ((l.length:Int)>0))→xV N l (fun r=>r=nV l) (m+1) (i:Int):=by
  intro m
  induction m with
  | zero =>
   intro i hi he
   rw [fF om,tZ,fu] at he
   exact ⟨fun hc=>absurd (dn hc) om,fun _=>he.symm⟩
  | succ m ih =>
   intro i hi he
   have hi':i<l.length:=om
   have hq:=nk default hi'
   have hwq:=zU hq
   have hq1:=wB (l.getD i default).1
   rw [dm (l:=l) default hi',mE,uT,uT,uT] at he
   refine ⟨fun _=>⟨om,by rw [eB]; omega,?_⟩,fun hc=>absurd (fZ hc) om⟩
   rw [eB]
   have SI:Gj N (fun r=>r=nV l) (l.getD i default) (i:Int) (xV N l (fun r=>r=nV l) (m+1)):=by
    have hV:CG (l.getD i default)=((((l.getD i default).1.length:Int)==0)||(((l.getD i default).2.length:Int) != ((l.getD i default).1.length:Int) - 1)):=by
     unfold CG
     rw [gp om]
    refine ⟨fun h0=>?_,fun h0=>?_⟩
    ·rw [hV] at h0
     rw [he,h0]; rfl
    rw [hV] at h0
    rw [h0,Bool.not_false,fu] at he
    refine ⟨_,agD (l.getD i default) (ho _ hq).1 (hin _ hq) om om (i:Int) _ _ (fun h=>?_) (l.getD i default).1.length 0 om (by rw [iG]; exact he)⟩
    rw [gp om,show (i:Int)+1=((i+1:Nat):Int) by omega]
    exact ih (i+1) om h
   exact ⟨fun _=>SI,fun _=>SI⟩
 exact ⟨_,loop l.length 0 om (by rw [iG]; rfl)⟩
theorem Ns:∀ N,QQ N∧RB N
 | 0=>⟨(by intro g k0 y0 xt pM s0 hG0 hp; exact (afc xt pM hp).elim),(by intro g j0 x0 xl b0 hG0 hp; exact (agz xl hp).elim)⟩
 | N+1 =>
  have ih:=Ns N
  ⟨(by intro g k0 y0 xt pM s0 hG0 hp; exact (Zi N ih.1 ih.2 xt pM s0 hG0 _ (afb N xt pM hp)).gv),(by intro g j0 x0 xl b0 hG0 hp; exact (aao N ih.1 ih.2 xl b0 hG0 _ (agy N xl hp)).gv)⟩
def RD (xl:List PH):Prop:=∃ N,Ls N xl
theorem agx {g:ak} {j0:Option Addr} {x0:Nat} (xl:List PH) (b0:bG g (.slice yP) [.slice j0 xl.length x0] xl) (hG0:bP g 0)  (hp:RD xl):bE prog 39 #[.slice j0 xl.length x0] g (.bool (nV xl)):=by
 obtain ⟨N,hp⟩:=hp
 exact (Ns N).2 _ xl b0 hG0 hp
set_option linter.unusedVariables false
set_option linter.unusedSimpArgs false
set_option maxHeartbeats 4000000
set_option maxRecDepth 100000
set_option linter.unusedVariables false
set_option linter.unusedSimpArgs false
set_option maxHeartbeats 4000000
set_option maxRecDepth 100000
def ajI (xl:List PH) (K:Int→Prop):Prop :=
 QR xl 0∧((!(iF xl 0).2)=true→K 2)∧((!(iF xl 0).2)=false→RD xl∧((!(nV xl))=true→K 3)∧((!(nV xl))=false→K 0))
theorem aec {g:ak} {z0:Option Addr} {v0:Nat} (xl:List PH) (q0:bG g (.slice yP) [.slice z0 xl.length v0] xl) (hG0:bP g 0) (K:Int→Prop)
  (hF:ajI xl K):az prog 22 #[.slice z0 xl.length v0] g [] (fun g' H' v=>∃ (r0:Int),v=iv r0∧H'=[]∧K r0):=by
 refine aP 15 func22 rfl fun w0=>?_
 refine ae (av 1 [(0,.slice z0 xl.length v0)] kr (aa (aH (aH (aS ?_)))))
 obtain ⟨hp1,hF⟩:=hF
 refine aj 7 [.k (afe xl 0 q0 hp1)] [0] [(4,.bool (iF xl 0).2)] ?_
 refine aa (ae (ag 2 [0] [(11,.bool (!(iF xl 0).2))] ?_))
 refine aa (aM hF (fun hc2 hF=>?_) (fun hc2 hF=>?_))
 ·refine ae (av 1 [(2,iv 2)] kr (aa (Ok.ret (aC ?_))))
  exact rG (iv 2) ⟨_,rfl,rfl,hF⟩
 refine Ok.k (Ok.t (aH (aH (aS ?_))))
 obtain ⟨hp3,hF⟩:=hF
 refine aj 3 [.k (agx xl q0 hG0 hp3)] [] [(14,.bool (!(nV xl)))] ?_
 refine aa (aM hF (fun hc4 hF=>?_) (fun hc4 hF=>?_))
 ·refine ae (av 1 [(2,iv 3)] kr (aa (Ok.ret (aC ?_))))
  exact rG (iv 3) ⟨_,rfl,rfl,hF⟩
 refine Ok.k (Ok.t (ae (av 1 [(2,iv 0)] kr (aa (Ok.ret ?_)))))
 exact rG (iv 0) ⟨_,rfl,rfl,hF⟩
def nO (l:List Ph):Int:=if (!((K4 l 0 0).2))=true then 2 else if (!(nV l))=true then 3 else 0
def zG (l:List Ph):Prop:=b3 l≤1048600∧PM l
theorem alI {l:List Ph} (h:zG l):QR l 0:=⟨b3 l+1,om,h.1,om,by have:=h.1; omega⟩
theorem alV {l:List Ph} (h:zG l):RD l:=⟨b3 l+1,om,h.1,h.2⟩
theorem ajH (l:List Ph) (h:zG l):ajI l (fun r=>r=nO l):=by
 have e:∀ b,(!((iF l 0).2))=b→(!((K4 l 0 0).2))=b:=fun b h=>h
 refine ⟨alI h,fun h1=>?_,fun h1=>⟨alV h,fun h2=>?_,fun h2=>?_⟩⟩
 ·unfold nO; rw [aT (e _ h1)]
 ·unfold nO; rw [aF (e _ h1),aT h2]
 unfold nO; rw [aF (e _ h1),aF h2]
theorem Y4 {g:ak} {z0:Option Addr} {v0:Nat} (xl:List PH) (q0:bG g (.slice yP) [.slice z0 xl.length v0] xl) (hG0:bP g 0)  (hp:zG xl):bE prog 22 #[.slice z0 xl.length v0] g (iv (nO xl)) :=
 (aec xl q0 hG0 _ (ajH xl hp)).gv
end Go.Proofs.YtdapgmigogpdcaaGreatDoor.Se
