/- selector: how many tests there are, by the program and by the document. -/
import Derived.Test.YtdapgmigogpdcaaGreatDoorSec
import Derived.Test.YtdapgmigogpdcaaGreatDoorSfa
set_option linter.unusedSimpArgs false
set_option linter.unusedVariables false
namespace Go.Proofs.YtdapgmigogpdcaaGreatDoor.Se
open _root_.Go.Proofs.Tryz Go Go.iT Go.RowKit jN BI tO Tk Ti
set_option maxHeartbeats 4000000
set_option maxRecDepth 100000
def iH (l:List Ph) (d:Int):Int×Bool:=LJ l d 0
def Ga (N:Nat) (l:List Ph) (d:Int):Prop:=b3 l<N∧b3 l≤1048600∧0≤d∧d+b3 l≤1000000000
theorem Wl {N:Nat} {l:List Ph} {d:Int} (h:Ga (N+1) l d) {q:Ph} (hq:q ∈ l) {s:List Ts} (hs:s ∈ q.1) {t:Ts} (ht:t ∈ s):Ga N t.kids (d+1):=by
 have h1:=sW hq;have h2:=tQ hs;have h3:=xK ht;have h4:=kE t;have h5:=mO l;obtain ⟨a,b,c,e⟩:=h;exact ⟨om,om,om,om⟩
def Zl (N:Nat):Prop:=∀ (g:ak) {y0:Option Addr} {u0:Nat} (xl:List PH) (bM:Int) (c0:bE g (.slice yP) [.slice y0 xl.length u0] xl)  (hp:Ga N xl bM),bC prog 38 #[.slice y0 xl.length u0,iv bM] g (.tuple #[iv (iH xl bM).1,.bool (iH xl bM).2])
def BZ (bM:Int) (e7:List TS) (x0:Int) (z0:Int):Int :=
 (if (((e7.getD z0.toNat default).kids.length:Int)==0)=true then x0 else w6 (x0+(iH (e7.getD z0.toNat default).kids (w6 (bM+1))).1))
def BX (bM:Int) (e7:List TS) (x0:Int) (z0:Int) (C39:Int→Int→Prop):Prop :=
 C39 (BZ bM e7 x0 z0) (w6 (z0+1))
def Wi (N:Nat) (bM:Int) (K:Int→Bool→Prop) (e7:List TS) (j0:Int) (Es:Int→Int→Prop) (x0:Int) (z0:Int) (C39:Int→Int→Prop):Prop :=
 ((decide (z0<(e7.length:Int)))=true→0≤z0∧z0.toNat<e7.length∧((((e7.getD z0.toNat default).kids.length:Int)==0)=true→BX bM e7 x0 z0 C39)∧((((e7.getD z0.toNat default).kids.length:Int)==0)=false→Ga N (e7.getD z0.toNat default).kids (w6 (bM+1))∧((((!(iH (e7.getD z0.toNat default).kids (w6 (bM+1))).2)||decide (bM≥3))||(decide ((w6 (x0+(iH (e7.getD z0.toNat default).kids (w6 (bM+1))).1))>40)))=true→K (w6 (x0+(iH (e7.getD z0.toNat default).kids (w6 (bM+1))).1)) false)∧((((!(iH (e7.getD z0.toNat default).kids (w6 (bM+1))).2)||decide (bM≥3))||(decide ((w6 (x0+(iH (e7.getD z0.toNat default).kids (w6 (bM+1))).1))>40)))=false→BX bM e7 x0 z0 C39)))∧((decide (z0<(e7.length:Int)))=false→Es x0 (w6 (j0+1)))
def y7 (N:Nat) (bM:Int) (K:Int→Bool→Prop) (e7:List TS) (j0:Int) (Es:Int→Int→Prop):Nat→Int→Int→Prop
 | 0,_,_=>False
 | k+1,x0,z0=>Wi N bM K e7 j0 Es x0 z0 (y7 N bM K e7 j0 Es k)
def Wj (N:Nat) (bM:Int) (K:Int→Bool→Prop) (e3:PH) (b0:Int) (C9:Int→Int→Prop) (d0:Int) (j0:Int) (Es:Int→Int→Prop):Prop :=
 ((decide (j0<(e3.1.length:Int)))=true→0≤j0∧j0.toNat<e3.1.length∧∃ k,y7 N bM K (e3.1.getD j0.toNat default) j0 Es k (w6 (d0+((e3.1.getD j0.toNat default).length:Int))) 0)∧((decide (j0<(e3.1.length:Int)))=false→C9 d0 (w6 (b0+1)))
def y8 (N:Nat) (bM:Int) (K:Int→Bool→Prop) (e3:PH) (b0:Int) (C9:Int→Int→Prop):Nat→Int→Int→Prop
 | 0,_,_=>False
 | k+1,d0,j0=>Wj N bM K e3 b0 C9 d0 j0 (y8 N bM K e3 b0 C9 k)
def aan (N:Nat) (xl:List PH) (bM:Int) (K:Int→Bool→Prop) (s0:Int) (b0:Int) (C9:Int→Int→Prop):Prop :=
 ((decide (b0<(xl.length:Int)))=true→0≤b0∧b0.toNat<xl.length∧∃ k,y8 N bM K (xl.getD b0.toNat default) b0 C9 k s0 0)∧((decide (b0<(xl.length:Int)))=false→K s0 (decide (s0≤40)))
def BV (N:Nat) (xl:List PH) (bM:Int) (K:Int→Bool→Prop):Nat→Int→Int→Prop
 | 0,_,_=>False
 | k+1,s0,b0=>aan N xl bM K s0 b0 (BV N xl bM K k)
def agH (N:Nat) (xl:List PH) (bM:Int) (K:Int→Bool→Prop):Prop :=
 ∃ k,BV N xl bM K k 0 0
theorem aao {g:ak} (N:Nat) (ab5:Zl N) {y0:Option Addr} {u0:Nat} (xl:List PH) (bM:Int) (c0:bE g (.slice yP) [.slice y0 xl.length u0] xl) (K:Int→Bool→Prop)
  (hF:agH N xl bM K):az prog 38 #[.slice y0 xl.length u0,iv bM] g [] (fun g' H' v=>∃ (r0:Int),∃ (r1:Bool),v=.tuple #[iv r0,.bool r1]∧H'=[]∧K r0 r1):=by
 refine aP 70 func38 rfl fun w0=>?_;refine ae (av 2 [(0,.slice y0 xl.length u0),(1,iv bM)] kr (aa (ae (ag 1 [0,1] [(6,iv 0)] ?_))));let J:=(xl.length:Int);refine aa (aF (ae (ag 3 [1,6] [(15,.slice y0 xl.length u0),(16,iv J),(17,iv 0)] ?_)));refine aa (Ok.block ?_);obtain ⟨k,hF⟩:=hF;refine fQ (fun k a W=>∃ (s0:Int) (b0:Int),fC 70 [(1,iv bM),(6,iv s0),(15,.slice y0 xl.length u0),(16,iv J),(17,iv b0)] a∧dm w0 [] g W∧BV N xl bM K k s0 b0) k ?_ ?_
 ·
  exact fun _ _ u v=>⟨0,0,fA u v hF⟩
 clear hF;rintro (_ | k9) _ _ ⟨s0,b0,q⟩;exact (q.2.2:False).elim;refine jn (fun hF=>?_) _ _ q;refine ae (ag 1 [1,6,15,16,17] [(18,.bool (decide (b0<J)))] ?_);refine aa (aF (aJ hF (fun hc1 hF=>?_) (fun hc1 hF=>?_)))
 ·refine Ok.k (Ok.t (aF (Ok.block (aF (aR ?_)))));obtain ⟨DL,DJ,hF⟩:=hF;have wu:=aT (l:=xl) default DJ;generalize hg3:(xl.getD b0.toNat default)=e3 at wu hF ⊢;refine ai (af.aX (e:=yP) rfl rfl underlying33 kr c0 DL wu rfl fun q2 o2 cs2 _ i0 hr2=>?_);obtain ⟨_,_,rfl,⟨f0,g0,rfl,W0,X0⟩,⟨n0,o0,rfl,S0,B0⟩⟩:=hr2;have T0:bE g (.slice (.slice yS)) [.slice f0 e3.1.length g0] e3.1:=⟨f0,g0,rfl,W0,X0⟩;have PE:bE g (.slice yb) [.slice n0 e3.2.length o0] e3.2:=⟨n0,o0,rfl,S0,B0⟩;replace i0:At g q2 o2 [.slice f0 e3.1.length g0,.slice n0 e3.2.length o0]:=i0;let E:=(#[.slice f0 e3.1.length g0,.slice n0 e3.2.length o0]:Array Value);refine ai (af.s (v:=.agg E) (bL 0 2 E i0 kr underlying28 rfl kr kr kr) rfl rfl (ai (bI #[.slice none 0 0,.slice none 0 0] fun pW=>?_)));refine ai (af.w 0 ?_);let G:=(e3.1.length:Int);refine aa (ae (aj 4 [.e 0] [1,6,15,16,17] [(22,.slice f0 e3.1.length g0),(23,iv G),(24,iv 0)] ?_));refine aa (Ok.block ?_);obtain ⟨k,hF⟩:=hF;let L:=(xl.length:Int);refine fQ (fun k a W=>∃ (d0:Int) (j0:Int),fC 70 [(1,iv bM),(6,iv d0),(15,.slice y0 xl.length u0),(16,iv L),(17,iv b0),(22,.slice f0 e3.1.length g0),(23,iv G),(24,iv j0)] a∧dm w0 [] g W∧y8 N bM K e3 b0 (BV N xl bM K k9) k d0 j0) k ?_ ?_
  ·
   exact fun _ _ u v=>⟨s0,0,fA u v hF⟩
  clear hF;rintro (_ | k23) _ _ ⟨d0,j0,q⟩;exact (q.2.2:False).elim;refine jn (fun hF=>?_) _ _ q;refine ae (ag 1 [1,6,15,16,17,22,23,24] [(25,.bool (decide (j0<G)))] ?_);refine aa (aF (dW hF rfl (fun jy=>?_) (fun jy=>?_)))
  ·replace hF:=hF.1 jy;refine Ok.k (Ok.t (aF (Ok.block (aF (aR ?_)))));obtain ⟨PG,QY,hF⟩:=hF;have Jn:=aT (l:=e3.1) default QY;generalize V4:(e3.1.getD j0.toNat default)=e7 at Jn hF ⊢;refine ai (af.aX (e:=.slice yS) rfl rfl underlying25 kr T0 PG Jn rfl fun q6 o6 cs6 _ A0 QV=>?_);obtain ⟨Z0,V0,rfl,L0⟩:=oS QV;refine aj 2 [.a 0 A0] [1,6,15,16,17,22,23,24] [(10,.slice Z0 e7.length V0)] ?_;let D:=(e7.length:Int);refine aa (ae (ag 5 [1,10,15,16,17,22,23,24] [(6,iv (w6 (d0+D)))] ?_));refine aa (ae (ag 3 [1,6,15,16,17,22,23,24] [(32,.slice Z0 e7.length V0),(33,iv D),(34,iv 0)] ?_));refine aa (Ok.block ?_);obtain ⟨k,hF⟩:=hF;let F:=y8 N bM K e3 b0 (BV N xl bM K k9) k23;let H:=(e3.1.length:Int);refine fQ (fun k a W=>∃ (x0:Int) (z0:Int),fC 70 [(1,iv bM),(6,iv x0),(15,.slice y0 xl.length u0),(16,iv L),(17,iv b0),(22,.slice f0 e3.1.length g0),(23,iv H),(24,iv j0),(32,.slice Z0 e7.length V0),(33,iv D),(34,iv z0)] a∧dm w0 [] g W∧y7 N bM K e7 j0 F k x0 z0) k ?_ ?_
   ·
    exact fun _ _ u v=>⟨w6 (d0+D),0,fA u v hF⟩
   clear hF;rintro (_ | k39) _ _ ⟨x0,z0,q⟩;exact (q.2.2:False).elim;refine jn (fun hF=>?_) _ _ q;refine ae (ag 1 [1,6,15,16,17,22,23,24,32,33,34] [(35,.bool (decide (z0<D)))] ?_);refine aa (aF (dW hF rfl (fun hc8=>?_) (fun hc8=>?_)))
   ·replace hF:=hF.1 hc8;refine Ok.k (Ok.t (gB [(1,iv bM),(6,iv (BZ bM e7 x0 z0)),(15,.slice y0 xl.length u0),(16,iv L),(17,iv b0),(22,.slice f0 e3.1.length g0),(23,iv H),(24,iv j0),(32,.slice Z0 e7.length V0),(33,iv D),(34,iv z0)] [] (BX bM e7 x0 z0 (y7 N bM K e7 j0 F k39)) ?_ (fun hF=>?_)))
    ·
     refine Ok.block (aF (aR ?_));obtain ⟨U_,Nn,hF⟩:=hF;have u1:=aT (l:=e7) default Nn;generalize j1:(e7.getD z0.toNat default)=e10 at u1 hF ⊢;refine ai (af.aX (e:=yS) rfl rfl underlying54 kr L0 U_ u1 rfl fun q9 o9 cs9 _ Q0 Um=>?_);have C0:=Um;replace C0:=bE.tst.1 C0;obtain ⟨_,_,rfl,⟨_,_,rfl,rfl,⟨_,_,rfl,rfl,⟨_,_,rfl,rfl,⟨_,_,rfl,rfl,⟨_,_,rfl,rfl,rfl⟩⟩⟩⟩⟩,⟨D0,E0,rfl,ajM,aju⟩⟩:=C0;have aku:bE g (.slice yP) [.slice D0 e10.kids.length E0] e10.kids:=⟨D0,E0,rfl,ajM,aju⟩;replace Q0:At g q9 o9 (vL e10.lab D0 e10.kids.length E0):=Q0;let I:=aL e10.lab D0 e10.kids.length E0;refine ai (af.s (v:=.agg I) (bL 0 7 I Q0 kr underlying60 rfl kr kr kr) rfl rfl (ai (bI #[iv 0,sv ([]:Bs),.int .u8 0,sv ([]:Bs),iv 0,iv 0,.slice none 0 0] fun ar2=>?_)));refine ai (af.w 0 ?_);refine aa (aF (ae (aj 4 [.e 0] [1,6,15,16,17,22,23,24,32,33,34] [(12,pv ar2 0),(41,.bool ((e10.kids.length:Int)==0))] ?_)));refine aa (dW hF rfl (fun F0=>?_) (fun F0=>?_))
     ·replace hF:=hF.1 F0;refine fw (ay (aM (Ok.t ?_)));subst j1;refine gX 6 rfl (show (iv x0:Value)=iv (BZ bM e7 x0 z0) from aA (Value.int .i64) ((aU F0).symm)) ?_;exact fz hF
     replace hF:=hF.2 F0;refine Ok.k (Ok.t (aF (aR ?_)));obtain ⟨zD,hF⟩:=hF;let A:=iH e10.kids (w6 (bM+1));refine aj 10 [.e 0,.k (ab5 _ e10.kids (w6 (bM+1)) aku zD)] [1,6,15,16,17,22,23,24,32,33,34] [(13,iv A.1),(14,.bool A.2)] ?_;refine aa (ae (ag 4 [1,14,15,16,17,22,23,24,32,33,34] [(6,iv (w6 (x0+A.1)))] ?_));refine aa (ae (ag 3 [1,6,15,16,17,22,23,24,32,33,34] [(55,.bool (! A.2))] ?_));let B:=(! A.2)||decide (bM≥3);refine Ok.w 3 [(1,iv bM),(6,iv (w6 (x0+A.1))),(15,.slice y0 xl.length u0),(16,iv L),(17,iv b0),(22,.slice f0 e3.1.length g0),(23,iv H),(24,iv j0),(32,.slice Z0 e7.length V0),(33,iv (e7.length:Int)),(34,iv z0),(58,.bool B)] (fun x1=>?_) ?_
     ·refine Ok.a 55 (! A.2) rfl (fun K0=>?_) (fun K0=>?_)
      ·skip;refine ag 3 [1,6,15,16,17,22,23,24,32,33,34] [(58,.bool true)] ?_;refine aB 58 B (cK K0) (ag 0 [1,6,15,16,17,22,23,24,32,33,34] [(58,.bool B)] ?_);exact x1
      skip;refine ag 3 [1,6,15,16,17,22,23,24,32,33,34] [(58,.bool (decide (bM≥3)))] ?_;refine aB 58 B (bN K0) (ag 0 [1,6,15,16,17,22,23,24,32,33,34] [(58,.bool B)] ?_);exact x1
     refine ag 1 [1,6,15,16,17,22,23,24,32,33,34] [(59,.bool B)] ?_;let C:=decide ((w6 (x0+A.1))>40);refine Ok.w 3 [(1,iv bM),(6,iv (w6 (x0+A.1))),(15,.slice y0 xl.length u0),(16,iv L),(17,iv b0),(22,.slice f0 e3.1.length g0),(23,iv H),(24,iv j0),(32,.slice Z0 e7.length V0),(33,iv (e7.length:Int)),(34,iv z0),(62,.bool (B||C))] (fun G0=>?_) ?_
     ·refine Ok.a 59 B rfl (fun Y0=>?_) (fun Y0=>?_)
      ·skip;refine ag 3 [1,6,15,16,17,22,23,24,32,33,34] [(62,.bool true)] ?_;refine aB 62 (B||C) (cK Y0) (ag 0 [1,6,15,16,17,22,23,24,32,33,34] [(62,.bool (B||C))] ?_);exact G0
      skip;refine ag 3 [1,6,15,16,17,22,23,24,32,33,34] [(62,.bool C)] ?_;refine aB 62 (B||C) (bN Y0) (ag 0 [1,6,15,16,17,22,23,24,32,33,34] [(62,.bool (B||C))] ?_);exact G0
     refine aa (dW hF rfl (fun U0=>?_) (fun U0=>?_))
     ·replace hF:=hF.1 U0;refine ae (av 3 [(4,iv (w6 (x0+A.1))),(5,.bool false)] kr (aa (Ok.ret (aV (aC (aC (aV (aV (aC (aC (aV (aV (aC (aC (aV (aC ?_))))))))))))))));exact FZ [] (bu w0 g) ⟨(w6 (x0+A.1)),false,rfl,rfl,hF⟩
     replace hF:=hF.2 U0;refine Ok.k (bG (Ok.t ?_));subst j1;refine gX 6 rfl (show (iv (w6 (x0+(iH (e7.getD z0.toNat default).kids (w6 (bM+1))).1)):Value)=iv (BZ bM e7 x0 z0) from aA (Value.int .i64) ((aG F0).symm)) ?_;exact fz hF
    refine aR (ag 2 [1,6,15,16,17,22,23,24,32,33] [(34,iv (w6 (z0+1)))] ?_);refine bV (Ok.t ?_);exact fun _ _ u v=>⟨k39,nl,BZ bM e7 x0 z0,w6 (z0+1),fA u v hF⟩
   replace hF:=hF.2 hc8;refine fw (ay (ay (aM (bG (Ok.t (aR (ag 2 [1,6,15,16,17,22,23] [(24,iv (w6 (j0+1)))] ?_)))))));refine bV (Ok.t ?_);subst V4;exact fun _ _ u v=>⟨k23,nl,x0,w6 (j0+1),fA u v hF⟩
  replace hF:=hF.2 jy;refine fw (ay (ay (aM (bG (Ok.t (aR (ag 2 [1,6,15,16] [(17,iv (w6 (b0+1)))] ?_)))))));refine bV (Ok.t ?_);subst hg3;exact fun _ _ u v=>⟨k9,nl,d0,w6 (b0+1),fA u v hF⟩
 refine fw (ay (ay (aM (Ok.t (ae (av 5 [(4,iv s0),(5,.bool (decide (s0≤40)))] kr (aa (Ok.ret ?_))))))));exact gZ (vs:=[iv s0,.bool (decide (s0≤40))]) (.inl rfl) rfl (.cons (.tmp rfl) (.cons (.tmp rfl) .nil)) (bu w0 g) ⟨s0,decide (s0≤40),rfl,rfl,hF⟩
theorem agG (l:List Ph) (d:Int):¬ Ga 0 l d:=fun h=>absurd h.1 (iN _)
theorem agI {N:Nat} {d:Int} {r:Int×Bool} (hd:0≤d∧d≤1000000000) (s:List Ts) (hs:∀ t ∈ s,Ga N t.kids (d+1)) (hl:s.length≤1048600) (k:Int) (C:Int→Int→Prop) (F:Int→Int×Bool) (U:Int) (hU:U≤4000000)
  (hC:∀ n,0≤n→n≤U→r=F n→C n (w6 (k+1))):∀ (m i:Nat) (n:Int),i+m=s.length→0≤n→n+w1 (s.drop i)≤U+m →
  r=(if (Et (s.drop i) d n).2=true then F (Et (s.drop i) d n).1 else ((Et (s.drop i) d n).1,false))→y7 N d (fun a b=>(a,b)=r) s k C (m+1) n (i:Int):=by
 intro m
 induction m with
 | zero =>
  intro i n hi hn hu he;rw [eD om] at he;exact ⟨fun hc=>absurd (df hc) om,fun _=>hC n hn om (by rw [he,Et,bB rfl])⟩
 | succ m ih =>
  intro i n hi hn hu he;have hi':i<s.length:=om;have ht:=hs _ (jR default hi');have hb:=kE (s.getD i default);have hbd:=(bdT (s.getD i default) (d+1)).1;rw [bX (l:=s) default hi',Et,RV] at he;rw [bX (l:=s) default hi',w1] at hu;rw [RV] at hbd;refine ⟨fun _=>⟨om,by rw [dR]; omega,?_⟩,fun hc=>absurd (fq hc) om⟩
  have key:∀ n',BZ d s n (i:Int)=n'→0≤n'→n'+w1 (s.drop (i+1))≤U+m→r=(if (Et (s.drop (i+1)) d n').2=true then F (Et (s.drop (i+1)) d n').1 else ((Et (s.drop (i+1)) d n').1,false))→BX d s n (i:Int) (y7 N d (fun a b=>(a,b)=r) s k C (m+1)):=by
   intro n' hn' h0 h1 h2;unfold BX;rw [hn',fU om,show (i:Int)+1=((i+1:Nat):Int) by omega];exact ih (i+1) n' om h0 h1 h2
  unfold BZ at key;rw [dR] at key ⊢;generalize s.getD i default=t at *;rw [fU (x:=d+1) om] at key ⊢
  have hcn:(((t.kids.length:Int)==0)=true)=(t.kids.length=0):=by simp
  refine ⟨fun hc=>?_,fun hc=>⟨ht,fun hb2=>?_,fun hb2=>?_⟩⟩
  ·rw [aU hc] at key;rw [hcn] at hc;rw [bB hc] at he;exact key n rfl hn om he
  ·have hc2:¬ t.kids.length=0:=by rw [← hcn,hc]; simp
   rw [aQ hc2] at he;unfold iH at hb2 ⊢;rw [fU (x:=n+_) om] at hb2 ⊢;rw [Bool.or_assoc] at hb2;rw [hb2] at he;simp only [zY,↓reduceIte] at he;exact he.symm
  have hc2:¬ t.kids.length=0:=by rw [← hcn,hc]; simp
  rw [aQ hc2] at he;rw [aG hc] at key;unfold iH at hb2 key;rw [fU (x:=n+_) om] at hb2 key;rw [Bool.or_assoc] at hb2;rw [hb2] at he;simp only [zY,↓reduceIte] at he;exact key _ rfl om om he
theorem agJ {N:Nat} {d:Int} {r:Int×Bool} (hd:0≤d∧d≤1000000000) (q:Ph) (hs:∀ s ∈ q.1,∀ t ∈ s,Ga N t.kids (d+1)) (hw:w2 q.1≤1048600) (k:Int) (C:Int→Int→Prop) (F:Int→Int×Bool) (U:Int) (hU:U≤2000000)
  (hC:∀ n,0≤n→n≤U→r=F n→C n (w6 (k+1))):∀ (m i:Nat) (n:Int),i+m=q.1.length→0≤n→n+w2 (q.1.drop i)≤U →
  r=(if (ES (q.1.drop i) d n).2=true then F (ES (q.1.drop i) d n).1 else ((ES (q.1.drop i) d n).1,false))→y8 N d (fun a b=>(a,b)=r) q k C (m+1) n (i:Int):=by
 intro m
 induction m with
 | zero =>
  intro i n hi hn hu he;rw [eD om] at he;exact ⟨fun hc=>absurd (df hc) om,fun _=>hC n hn om (by rw [he,ES,bB rfl])⟩
 | succ m ih =>
  intro i n hi hn hu he;have hi':i<q.1.length:=om;have ht:=hs _ (jR default hi');have hl:=rO (q.1.getD i default);have hw2:=tQ (jR default hi');have hql:=rM q.1;rw [bX (l:=q.1) default hi',ES] at he;rw [bX (l:=q.1) default hi',w2] at hu;refine ⟨fun _=>⟨om,by rw [dR]; omega,?_⟩,fun hc=>absurd (fq hc) om⟩;rw [dR];generalize q.1.getD i default=s at *;rw [fU om];refine ⟨_,agI hd s ht om (i:Int) _ (fun n=>if (ES (q.1.drop (i+1)) d n).2=true then F (ES (q.1.drop (i+1)) d n).1 else ((ES (q.1.drop (i+1)) d n).1,false)) (n+w1 s) om (fun n' h0 h1 h2=>?_) s.length 0 (n+s.length) om om (by rw [gm]; omega) ?_⟩
  ·rw [fU om,show (i:Int)+1=((i+1:Nat):Int) by omega];exact ih (i+1) n' om h0 om h2
  rw [gm,he];cases hb:(Et s d (n+s.length)).2
  ·rw [aQ (by simp),aQ (by simp),aQ (by simp)]
  rw [bB rfl,bB rfl]
theorem agF (N:Nat) (l:List Ph) (d:Int) (h:Ga (N+1) l d):agH N l d (fun a b=>(a,b)=iH l d):=by
 have h5:=mO l;have hlen:=qo l;have hin:=fun q hq s hs t ht=>Wl h (q:=q) hq (s:=s) hs (t:=t) ht;obtain ⟨_,hb,hd0,hd1⟩:=h
 have loop:∀ (m i:Nat) (n:Int),i+m=l.length→0≤n→n+w3 (l.drop i)≤1048600→iH l d=LJ (l.drop i) d n→BV N l d (fun a b=>(a,b)=iH l d) (m+1) n (i:Int):=by
  intro m
  induction m with
  | zero =>
   intro i n hi hn hu he;rw [eD om,LJ] at he;exact ⟨fun hc=>absurd (df hc) om,fun _=>he.symm⟩
  | succ m ih =>
   intro i n hi hn hu he;have hi':i<l.length:=om;have hq:=jR default hi';have hwq:=sW hq;rw [bX (l:=l) default hi'] at he hu;rw [w3] at hu;refine ⟨fun _=>⟨om,by rw [dR]; omega,?_⟩,fun hc=>absurd (fq hc) om⟩;rw [dR];have I0:=hin _ hq;generalize l.getD i default=q at *;obtain ⟨p,js⟩:=q;rw [LJ] at he;have hu:n+((w2 p+js.length+2+w3 (l.drop (i+1)):Nat):Int)≤1048600:=hu;have hwq:w2 p+js.length+2≤w3 l:=hwq;refine ⟨_,agJ ⟨hd0,om⟩ (p,js) I0 (by show w2 p≤_; omega) (i:Int) _ (fun n=>LJ (l.drop (i+1)) d n) (n+w2 p) om (fun n' h0 h1 h2=>?_) p.length 0 n (by show 0+p.length=p.length; omega) hn (by show n+w2 (p.drop 0)≤_; rw [gm]; omega) ?_⟩
   ·rw [fU om,show (i:Int)+1=((i+1:Nat):Int) by omega];exact ih (i+1) n' om h0 om h2
   show iH l d=(if (ES (p.drop 0) d n).2=true then _ else _);rw [gm];exact he
 exact ⟨_,loop l.length 0 0 om om (by rw [gm]; omega) (by rw [gm]; rfl)⟩
theorem Oi:∀ N,Zl N
 | 0=>(by intro g y0 u0 xl bM c0 hp; exact (agG xl bM hp).elim)
 | N+1 =>
  have ih:=Oi N
  (by intro g y0 u0 xl bM c0 hp; exact (aao N ih xl bM c0 _ (agF N xl bM hp)).gives (by rintro g' H' v _ ⟨r0,r1,rfl,rfl,hK⟩; obtain ⟨rfl,rfl⟩:r0=(iH xl bM).1∧r1=(iH xl bM).2:=⟨aA (fun z=>z.1) hK,aA (fun z=>z.2) hK⟩; rfl))
def RU (xl:List PH) (bM:Int):Prop:=∃ N,Ga N xl bM
theorem agE {g:ak} {y0:Option Addr} {u0:Nat} (xl:List PH) (bM:Int) (c0:bE g (.slice yP) [.slice y0 xl.length u0] xl)  (hp:RU xl bM):bC prog 38 #[.slice y0 xl.length u0,iv bM] g (.tuple #[iv (iH xl bM).1,.bool (iH xl bM).2]):=by
 obtain ⟨N,hp⟩:=hp;exact (Oi N) _ xl bM c0 hp
set_option maxHeartbeats 4000000
set_option maxRecDepth 100000
def l0 (x:Lb) (i:Int):Bool:=(decide (x.1<1)||(decide (x.1>11)||((decide (x.1≤2)&&decide (i>0))||((!((decide (x.1≥2)&&decide (x.1≤5))==!(x.2.1==([]:Bs))))||((decide (x.1≥2)&&decide (x.1≤5))&&(!(eB x.2.1)))))))
def l1 (x:Lb):Bool:=(if (x.1==2)=true then !(x.2.1==aO x.2.1) else ((x.1==5)&&(!(x.2.1==aO x.2.1))))
def l2 (x:Lb):Bool:=(if (x.2.2.1 != 0)=true then ((x.1 != 5)||((!(DF ([61,126,124,94,36,42]:Bs) x.2.2.1))||((x.2.2.1==0)&&(!(x.2.2.2.1==([]:Bs)))))) else ((x.2.2.1==0)&&(!(x.2.2.2.1==([]:Bs)))))
def l3 (x:Lb):Bool:=(if (!((x.1==8)||(x.1==9)))=true then ((x.2.2.2.2.1 != 0)||((x.2.2.2.2.2 != 0)||((decide ((if x.2.2.2.2.2<x.2.2.2.2.1 then x.2.2.2.2.2 else x.2.2.2.2.1)<(-1000)))||(decide ((if x.2.2.2.2.1<x.2.2.2.2.2 then x.2.2.2.2.2 else x.2.2.2.2.1)>1000))))) else ((decide ((if x.2.2.2.2.2<x.2.2.2.2.1 then x.2.2.2.2.2 else x.2.2.2.2.1)<(-1000)))||(decide ((if x.2.2.2.2.1<x.2.2.2.2.2 then x.2.2.2.2.2 else x.2.2.2.2.1)>1000))))
def AJ (x:Lb) (i:Int):Bool:=!(l0 x i)&&(!(l1 x)&&(!(l2 x)&&!(l3 x)))
def zw (z:Int):Bool:=DF ([32,62,43,126]:Bs) z
mutual
def yh:Ts→Int→Bool
 | .mk x l,i=>AJ x i&&(if ((x.1==10)||(x.1==11))=true then rV l&&decide ((l.length:Int)>0) else ((l.length:Int)==0))
def rV:List Ph→Bool
 | []=>true
 | (p,js)::l=>!(((p.length:Int)==0)||((js.length:Int) != (p.length:Int) - 1))&&(uk p&&(js.all zw&&rV l))
def uk:List (List Ts)→Bool
 | []=>true
 | s::l=>ok1 s 0&&(!((s.length:Int)==0)&&uk l)
def ok1:List Ts→Int→Bool
 | [],_=>true
 | t::l,i=>yh t i&&ok1 l (i+1)
end
def xP (t:Ts) (i:Int):Bool:=yh t i
def nV (l:List Ph):Bool:=rV l&&decide ((l.length:Int)>0)
theorem lW (t:Ts) (i:Int):yh t i=(AJ t.lab i&&(if ((t.lab.1==10)||(t.lab.1==11))=true then nV t.kids else ((t.kids.length:Int)==0))):=by obtain ⟨x,l⟩:=t; rw [yh]; rfl
theorem kJ (q:Ph) (l:List Ph):rV (q::l)=(!(((q.1.length:Int)==0)||((q.2.length:Int) != (q.1.length:Int) - 1))&&(uk q.1&&(q.2.all zw&&rV l))):=by obtain ⟨p,js⟩:=q; rw [rV]
def Ju (N:Nat) (t:Ts) (i:Int):Prop:=bT t<N∧bT t≤1048600∧okB t
def Ml (N:Nat) (l:List Ph):Prop:=b3 l<N∧b3 l≤1048600∧QF l
theorem O4 {N:Nat} {l:List Ph} (h:Ml (N+1) l) {q:Ph} (hq:q ∈ l) {s:List Ts} (hs:s ∈ q.1) {t:Ts} (ht:t ∈ s) (i:Int):Ju N t i:=by
 have h1:=sW hq;have h2:=tQ hs;have h3:=xK ht;have h5:=mO l;obtain ⟨a,b,c⟩:=h;exact ⟨om,om,(c q hq).2 s hs t ht⟩
theorem ER {N:Nat} {t:Ts} {i:Int} (h:Ju (N+1) t i):Ml N t.kids:=by
 have:=kE t;obtain ⟨a,b,c⟩:=h;exact ⟨om,om,(yj c).2⟩
def RS (N:Nat):Prop:=∀ (g:ak) {k0:Option Addr} {y0:Nat} (xt:TS) (pU:Int) (s0:bE g (.slice yP) [.slice k0 xt.kids.length y0] xt.kids) (hG0:bR g 0)  (hp:Ju N xt pU),bC prog 64 #[.agg (aL xt.lab k0 xt.kids.length y0),iv pU] g (.bool (xP xt pU))
def SQ (N:Nat):Prop:=∀ (g:ak) {j0:Option Addr} {x0:Nat} (xl:List PH) (b0:bE g (.slice yP) [.slice j0 xl.length x0] xl) (hG0:bR g 0)  (hp:Ml N xl),bC prog 39 #[.slice j0 xl.length x0] g (.bool (nV xl))
def xO (xt:TS) (pU:Int):Bool :=
 (decide (xt.lab.1<1)||(decide (xt.lab.1>11)||((decide (xt.lab.1≤2)&&decide (pU>0))||((!((decide (xt.lab.1≥2)&&decide (xt.lab.1≤5))==!(xt.lab.2.1==([]:Bs))))||((decide (xt.lab.1≥2)&&decide (xt.lab.1≤5))&&(!(eB xt.lab.2.1)))))))
def EP (xt:TS):Bool :=
 (if (xt.lab.1==2)=true then !(xt.lab.2.1==aO xt.lab.2.1) else ((xt.lab.1==5)&&(!(xt.lab.2.1==aO xt.lab.2.1))))
def tX (xt:TS):Bool :=
 (if (xt.lab.2.2.1 != 0)=true then ((xt.lab.1 != 5)||((decide (Dw ([61,126,124,94,36,42]:Bs) xt.lab.2.2.1<0))||((xt.lab.2.2.1==0)&&(!(xt.lab.2.2.2.1==([]:Bs)))))) else ((xt.lab.2.2.1==0)&&(!(xt.lab.2.2.2.1==([]:Bs)))))
def xN (xt:TS):Bool :=
 (if (!((xt.lab.1==8)||(xt.lab.1==9)))=true then ((xt.lab.2.2.2.2.1 != 0)||((xt.lab.2.2.2.2.2 != 0)||((decide ((if xt.lab.2.2.2.2.2<xt.lab.2.2.2.2.1 then xt.lab.2.2.2.2.2 else xt.lab.2.2.2.2.1)<(-1000)))||(decide ((if xt.lab.2.2.2.2.1<xt.lab.2.2.2.2.2 then xt.lab.2.2.2.2.2 else xt.lab.2.2.2.2.1)>1000))))) else ((decide ((if xt.lab.2.2.2.2.2<xt.lab.2.2.2.2.1 then xt.lab.2.2.2.2.2 else xt.lab.2.2.2.2.1)<(-1000)))||(decide ((if xt.lab.2.2.2.2.1<xt.lab.2.2.2.2.2 then xt.lab.2.2.2.2.2 else xt.lab.2.2.2.2.1)>1000))))
def vg (N:Nat) (xt:TS) (K:Bool→Prop):Prop :=
 (((xt.lab.1==10)||(xt.lab.1==11))=true→Ml N xt.kids∧K (nV xt.kids))∧(((xt.lab.1==10)||(xt.lab.1==11))=false→K ((xt.kids.length:Int)==0))
def tT (N:Nat) (xt:TS) (K:Bool→Prop):Prop :=
 (xN xt=true→K false)∧(xN xt=false→((xt.lab.1==10)=true→vg N xt K)∧((xt.lab.1==10)=false→vg N xt K))
def xM (N:Nat) (xt:TS) (K:Bool→Prop):Prop :=
 ((!((xt.lab.1==8)||(xt.lab.1==9)))=true→((xt.lab.2.2.2.2.1 != 0)=true→tT N xt K)∧((xt.lab.2.2.2.2.1 != 0)=false→((xt.lab.2.2.2.2.2 != 0)=true→tT N xt K)∧((xt.lab.2.2.2.2.2 != 0)=false→((decide ((if xt.lab.2.2.2.2.2<xt.lab.2.2.2.2.1 then xt.lab.2.2.2.2.2 else xt.lab.2.2.2.2.1)<(-1000)))=true→tT N xt K)∧((decide ((if xt.lab.2.2.2.2.2<xt.lab.2.2.2.2.1 then xt.lab.2.2.2.2.2 else xt.lab.2.2.2.2.1)<(-1000)))=false→tT N xt K))))∧((!((xt.lab.1==8)||(xt.lab.1==9)))=false→((decide ((if xt.lab.2.2.2.2.2<xt.lab.2.2.2.2.1 then xt.lab.2.2.2.2.2 else xt.lab.2.2.2.2.1)<(-1000)))=true→tT N xt K)∧((decide ((if xt.lab.2.2.2.2.2<xt.lab.2.2.2.2.1 then xt.lab.2.2.2.2.2 else xt.lab.2.2.2.2.1)<(-1000)))=false→tT N xt K))
def tV (N:Nat) (xt:TS) (K:Bool→Prop):Prop :=
 (tX xt=true→K false)∧(tX xt=false→((xt.lab.1==8)=true→xM N xt K)∧((xt.lab.1==8)=false→xM N xt K))
def BU (N:Nat) (xt:TS) (K:Bool→Prop):Prop :=
 (EP xt=true→K false)∧(EP xt=false→((xt.lab.2.2.1 != 0)=true→((xt.lab.1 != 5)=true→tV N xt K)∧((xt.lab.1 != 5)=false→((decide (Dw ([61,126,124,94,36,42]:Bs) xt.lab.2.2.1<0))=true→tV N xt K)∧((decide (Dw ([61,126,124,94,36,42]:Bs) xt.lab.2.2.1<0))=false→((xt.lab.2.2.1==0)=true→tV N xt K)∧((xt.lab.2.2.1==0)=false→tV N xt K))))∧((xt.lab.2.2.1 != 0)=false→((xt.lab.2.2.1==0)=true→tV N xt K)∧((xt.lab.2.2.1==0)=false→tV N xt K)))
def z8 (N:Nat) (xt:TS) (pU:Int) (K:Bool→Prop):Prop :=
 (xO xt pU=true→K false)∧(xO xt pU=false→((xt.lab.1==2)=true→ig xt.lab.2.1∧BU N xt K)∧((xt.lab.1==2)=false→((xt.lab.1==5)=true→ig xt.lab.2.1∧BU N xt K)∧((xt.lab.1==5)=false→BU N xt K)))
def Og (N:Nat) (xt:TS) (pU:Int) (K:Bool→Prop):Prop :=
 (decide (xt.lab.1<1)=true→z8 N xt pU K)∧(decide (xt.lab.1<1)=false→(decide (xt.lab.1>11)=true→z8 N xt pU K)∧(decide (xt.lab.1>11)=false→((decide (xt.lab.1≤2)&&decide (pU>0))=true→z8 N xt pU K)∧((decide (xt.lab.1≤2)&&decide (pU>0))=false→((!((decide (xt.lab.1≥2)&&decide (xt.lab.1≤5))==!(xt.lab.2.1==([]:Bs))))=true→z8 N xt pU K)∧((!((decide (xt.lab.1≥2)&&decide (xt.lab.1≤5))==!(xt.lab.2.1==([]:Bs))))=false→((decide (xt.lab.1≥2)&&decide (xt.lab.1≤5))=true→sD xt.lab.2.1∧z8 N xt pU K)∧((decide (xt.lab.1≥2)&&decide (xt.lab.1≤5))=false→z8 N xt pU K)))))
def agD (N:Nat) (xt:TS) (pU:Int) (K:Bool→Prop):Prop :=
 (decide (xt.lab.1≥2)=true→Og N xt pU K)∧(decide (xt.lab.1≥2)=false→Og N xt pU K)
theorem aam {g:ak} (N:Nat) (Ub:RS N) (Uf:SQ N) {k0:Option Addr} {y0:Nat} (xt:TS) (pU:Int) (s0:bE g (.slice yP) [.slice k0 xt.kids.length y0] xt.kids) (hG0:bR g 0) (K:Bool→Prop)
  (hF:agD N xt pU K):az prog 64 #[.agg (aL xt.lab k0 xt.kids.length y0),iv pU] g [] (fun g' H' v=>∃ (r0:Bool),v=.bool r0∧H'=[]∧K r0):=by
 refine aP 125 func64 rfl fun w0=>?_;refine ae (ai (cO fun eT=>?_));let A:=aL xt.lab k0 xt.kids.length y0;let B:=decide (xt.lab.1≥2)&&decide (xt.lab.1≤5);refine av 1 [(1,iv pU),(2,pv eT 0)] kr (aa (gB [(1,iv pU),(2,pv eT 0),(5,.bool B)] [.blk eT (.cells A 60)] (Og N xt pU K) ?_ (fun hF=>?_)))
 ·
  refine aR (aj 4 [.e 0] [1,2] [(9,.bool (decide (xt.lab.1≥2)))] ?_);refine bP 9 hF (fun H0 hF=>?_) (fun H0 hF=>?_)
  ·refine aj 5 [.e 0] [1,2] [(5,.bool (decide (xt.lab.1≤5)))] ?_;refine aa (aB 5 B (bn H0) ?_);exact fz hF
  refine ag 5 [1,2] [(5,.bool false)] ?_;refine aa (aB 5 B (bZ H0) ?_);exact fz hF
 refine aF (gB [(2,pv eT 0),(46,.bool (xO xt pU))] [.blk eT (.cells A 60)] (z8 N xt pU K) ?_ (fun hF=>?_))
 ·
  refine aR (aj 4 [.e 0] [1,2,5] [(17,.bool (decide (xt.lab.1<1)))] ?_);refine bP 17 hF (fun o0 hF=>?_) (fun o0 hF=>?_)
  ·refine ag 29 [2] [(46,.bool true)] ?_;refine aa (aB 46 (xO xt pU) (cK o0) ?_);exact fz hF
  refine aj 5 [.e 0] [1,2,5] [(22,.bool (decide (xt.lab.1>11)))] ?_;refine bP 22 hF (fun Y0 hF=>?_) (fun Y0 hF=>?_)
  ·refine ag 24 [2] [(46,.bool true)] ?_;refine aa (aB 46 (xO xt pU) (au (cK Y0) (bN o0)) ?_);exact fz hF
  let J:=decide (xt.lab.1≤2);refine aj 4 [.e 0] [1,2,5] [(22,.bool false),(26,.bool J)] ?_;let C:=decide (xt.lab.1≤2)&&decide (pU>0);refine Ok.w 3 [(2,pv eT 0),(5,.bool B),(22,.bool false),(29,.bool C)] (fun R0=>?_) ?_
  ·refine Ok.a 26 J rfl (fun M0=>?_) (fun M0=>?_)
   ·skip;refine ag 3 [2,5,22] [(29,.bool (decide (pU>0)))] ?_;refine aB 29 C (bn M0) (ag 0 [2,5,22] [(29,.bool C)] ?_);exact R0
   skip;refine ag 3 [2,5,22] [(29,.bool false)] ?_;refine aB 29 C (bZ M0) (ag 0 [2,5,22] [(29,.bool C)] ?_);exact R0
  refine ag 2 [2,5] [(31,.bool C)] ?_;refine bP 31 hF (fun J0 hF=>?_) (fun J0 hF=>?_)
  ·refine ag 15 [2] [(46,.bool true)] ?_;refine aa (aB 46 (xO xt pU) (au (au (cK J0) (bN Y0)) (bN o0)) ?_);exact fz hF
  refine aj 7 [.e 0] [2,5] [(38,.bool (!(B==!(xt.lab.2.1==([]:Bs)))))] ?_;refine bP 38 hF (fun D0 hF=>?_) (fun D0 hF=>?_)
  ·refine ag 8 [2] [(46,.bool true)] ?_;refine aa (aB 46 (xO xt pU) (au (au (au (cK D0) (bN J0)) (bN Y0)) (bN o0)) ?_);exact fz hF
  refine ag 2 [2] [(38,.bool false),(40,.bool B)] ?_;refine bP 40 hF (fun N0 hF=>?_) (fun N0 hF=>?_)
  ·obtain ⟨acz,hF⟩:=hF;refine aj 6 [.e 0,.k (EW xt.lab.2.1 hG0 acz)] [2] [(46,.bool (!(eB xt.lab.2.1)))] ?_;refine aa (aB 46 (xO xt pU) (au (au (au (au (bn N0) (bN D0)) (bN J0)) (bN Y0)) (bN o0)) ?_);exact fz hF
  refine ag 6 [2] [(46,.bool false)] ?_;refine aa (aB 46 (xO xt pU) (au (au (au (au (bZ N0) (bN D0)) (bN J0)) (bN Y0)) (bN o0)) ?_);exact fz hF
 refine aJ hF (fun hc2 hF=>?_) (fun hc2 hF=>?_)
 ·refine ae (av 1 [(4,.bool false)] kr (aa (Ok.ret (aC ?_))));exact dE false hF
 refine Ok.k (Ok.t (aF (gB [(2,pv eT 0),(62,.bool (EP xt))] [.blk eT (.cells A 60)] (BU N xt K) ?_ (fun hF=>?_))))
 ·
  refine gq kr kr (eZ 1 [2] [(47,pv eT 0)] ?_);refine dS.op rfl (fK.s (v:=iv xt.lab.1) (aS 0 rfl rfl underlying3 rfl kr) rfl rfl (eZ 2 [2] [(50,.bool (xt.lab.1==2))] ?_));refine sP 50 (xt.lab.1==2) rfl (fun U0=>?_) (fun U0=>?_)
  ·replace hF:=hF.1 U0;refine eZ 6 [2] [(55,.bool true),(56,pv eT 1)] ?_;refine lS (j:=8) (d:=55) (want:=true) (b:=true) rfl kr kr rfl (fK.s (v:=sv xt.lab.2.1) (aS 0 rfl rfl underlying9 rfl kr) rfl rfl (eZ 1 [2,55] [(57,sv xt.lab.2.1),(58,pv eT 1)] ?_));refine lS (j:=8) (d:=55) (want:=true) (b:=true) rfl kr kr rfl (fK.s (v:=sv xt.lab.2.1) (aS 0 rfl rfl underlying9 rfl kr) rfl rfl ?_);obtain ⟨Uy,hF⟩:=hF;refine lS (j:=8) (d:=55) (want:=true) (b:=true) rfl kr kr rfl (fK.f gU (fun W hW=>EY xt.lab.2.1 Uy) rfl ?_);let F:=!(xt.lab.2.1==aO xt.lab.2.1);refine lS (j:=8) (d:=55) (want:=true) (b:=true) rfl kr kr rfl (fK.s (v:=.bool F) (iG (f:=.neq) (a:=xt.lab.2.1) (b:=aO xt.lab.2.1) kr kr rfl) rfl rfl (eZ 1 [2] [(62,.bool F)] ?_));refine kQ (Ok.t (aB 62 (EP xt) ((aU U0).symm) ?_));exact fz hF
  replace hF:=hF.2 U0;refine eZ 1 [2] [(50,.bool false),(51,pv eT 0)] ?_;refine lS (j:=3) (d:=50) (want:=false) (b:=false) rfl kr kr rfl (fK.s (v:=iv xt.lab.1) (aS 0 rfl rfl underlying3 rfl kr) rfl rfl (eZ 3 [2] [(55,.bool (xt.lab.1==5))] ?_));refine sP 55 (xt.lab.1==5) rfl (fun W0=>?_) (fun W0=>?_)
  ·replace hF:=hF.1 W0;refine eZ 1 [2] [(55,.bool true),(56,pv eT 1)] ?_;refine lS (j:=8) (d:=55) (want:=true) (b:=true) rfl kr kr rfl (fK.s (v:=sv xt.lab.2.1) (aS 0 rfl rfl underlying9 rfl kr) rfl rfl (eZ 1 [2,55] [(57,sv xt.lab.2.1),(58,pv eT 1)] ?_));refine lS (j:=8) (d:=55) (want:=true) (b:=true) rfl kr kr rfl (fK.s (v:=sv xt.lab.2.1) (aS 0 rfl rfl underlying9 rfl kr) rfl rfl ?_);obtain ⟨M4,hF⟩:=hF;refine lS (j:=8) (d:=55) (want:=true) (b:=true) rfl kr kr rfl (fK.f gU (fun W hW=>EY xt.lab.2.1 M4) rfl ?_);let G:=!(xt.lab.2.1==aO xt.lab.2.1);refine lS (j:=8) (d:=55) (want:=true) (b:=true) rfl kr kr rfl (fK.s (v:=.bool G) (iG (f:=.neq) (a:=xt.lab.2.1) (b:=aO xt.lab.2.1) kr kr rfl) rfl rfl (eZ 1 [2] [(62,.bool G)] ?_));refine kQ (Ok.t (aB 62 (EP xt) (au (bn W0) ((aG U0).symm)) ?_));exact fz hF
  replace hF:=hF.2 W0;refine eZ 7 [2] [(62,.bool false)] ?_;refine kQ (Ok.t (aB 62 (EP xt) (au (bZ W0) ((aG U0).symm)) ?_));exact fz hF
 refine aJ hF (fun hc3 hF=>?_) (fun hc3 hF=>?_)
 ·refine ae (av 1 [(4,.bool false)] kr (aa (Ok.ret (aC ?_))));exact dE false hF
 refine Ok.k (Ok.t (aF (gB [(2,pv eT 0),(86,.bool (tX xt))] [.blk eT (.cells A 60)] (tV N xt K) ?_ (fun hF=>?_))))
 ·
  refine aR (aj 4 [.e 0] [2] [(66,.bool (xt.lab.2.2.1 != 0))] ?_);refine bP 66 hF (fun t0 hF=>?_) (fun t0 hF=>?_)
  ·refine aj 4 [.e 0] [2] [(66,.bool true),(70,.bool (xt.lab.1 != 5))] ?_;refine bP 70 hF (fun X0 hF=>?_) (fun X0 hF=>?_)
   ·refine ag 16 [2] [(86,.bool true)] ?_;refine aa (aB 86 (tX xt) (au (cK X0) ((aU t0).symm)) ?_);exact fz hF
   let I:=([61,126,124,94,36,42]:Bs);refine aj 7 [.e 0,.k (ab8 I xt.lab.2.2.1)] [2] [(77,.bool (decide (Dw I xt.lab.2.2.1<0)))] ?_;refine bP 77 hF (fun n0 hF=>?_) (fun n0 hF=>?_)
   ·refine ag 9 [2] [(86,.bool true)] ?_;refine aa (aB 86 (tX xt) (au (au (cK n0) (bN X0)) ((aU t0).symm)) ?_);exact fz hF
   refine aj 4 [.e 0] [2] [(77,.bool false),(81,.bool (xt.lab.2.2.1==0))] ?_;refine bP 81 hF (fun a0 hF=>?_) (fun a0 hF=>?_)
   ·refine aj 5 [.e 0] [2] [(86,.bool (!(xt.lab.2.2.2.1==([]:Bs))))] ?_;refine aa (aB 86 (tX xt) (au (au (au (bn a0) (bN n0)) (bN X0)) ((aU t0).symm)) ?_);exact fz hF
   refine ag 5 [2] [(86,.bool false)] ?_;refine aa (aB 86 (tX xt) (au (au (au (bZ a0) (bN n0)) (bN X0)) ((aU t0).symm)) ?_);exact fz hF
  refine aj 15 [.e 0] [2] [(77,.bool false),(81,.bool (xt.lab.2.2.1==0))] ?_;refine bP 81 hF (fun O0 hF=>?_) (fun O0 hF=>?_)
  ·refine aj 5 [.e 0] [2] [(86,.bool (!(xt.lab.2.2.2.1==([]:Bs))))] ?_;refine aa (aB 86 (tX xt) (au (bn O0) ((aG t0).symm)) ?_);exact fz hF
  refine ag 5 [2] [(86,.bool false)] ?_;refine aa (aB 86 (tX xt) (au (bZ O0) ((aG t0).symm)) ?_);exact fz hF
 refine aJ hF (fun hc4 hF=>?_) (fun hc4 hF=>?_)
 ·refine ae (av 1 [(4,.bool false)] kr (aa (Ok.ret (aC ?_))));exact dE false hF
 refine Ok.k (Ok.t (aF (gB [(2,pv eT 0),(115,.bool (xN xt))] [.blk eT (.cells A 60)] (tT N xt K) ?_ (fun hF=>?_))))
 ·
  refine aR (ai (af.s (v:=.agg A) (aZ 0 7 A rfl rfl underlying60 rfl kr kr kr) rfl rfl (ai (bO (args:=#[.agg A]) 11 [(0,.agg A)] gU func107 rfl rfl rfl rfl (ae (ai (cO fun afD=>?_)))))));let D:=(xt.lab.1==8)||(xt.lab.1==9);refine av 1 [(1,pv afD 0)] kr (aa (gB [(2,.bool D)] [.blk eT (.cells A 60)] (xM N xt K) ?_ (fun hF=>?_)))
  ·
   refine aR (aj 4 [.e 0] [1] [(6,.bool (xt.lab.1==8))] ?_);refine bP 6 hF (fun i0 hF=>?_) (fun i0 hF=>?_)
   ·refine av 5 [(2,.bool true)] kr (aa (aB 2 D (cK i0) ?_));exact fz hF
   refine aj 5 [.e 0] [] [(2,.bool (xt.lab.1==9))] ?_;refine aa (aB 2 D (bN i0) ?_);exact fz hF
  refine Ok.ret (bA (vs:=[.bool D]) (.inl rfl) rfl (.cons (.tmp rfl) .nil) rfl (av 2 [(2,pv eT 0),(90,.bool (! D))] kr (bP 90 hF (fun Z0 hF=>?_) (fun Z0 hF=>?_))))
  ·refine aj 4 [.e 0] [2] [(90,.bool true),(94,.bool (xt.lab.2.2.2.2.1 != 0))] ?_;refine bP 94 hF (fun S0 hF=>?_) (fun S0 hF=>?_)
   ·refine ag 21 [2] [(115,.bool true)] ?_;refine aa (aB 115 (xN xt) (au (cK S0) ((aU Z0).symm)) ?_);exact fz hF
   refine aj 6 [.e 0] [2] [(100,.bool (xt.lab.2.2.2.2.2 != 0))] ?_;refine bP 100 hF (fun E0 hF=>?_) (fun E0 hF=>?_)
   ·refine ag 15 [2] [(115,.bool true)] ?_;refine aa (aB 115 (xN xt) (au (au (cK E0) (bN S0)) ((aU Z0).symm)) ?_);exact fz hF
   refine aj 8 [.e 0,.e 0] [2] [(108,.bool (decide ((if xt.lab.2.2.2.2.2<xt.lab.2.2.2.2.1 then xt.lab.2.2.2.2.2 else xt.lab.2.2.2.2.1)<(-1000))))] ?_;refine bP 108 hF (fun V0 hF=>?_) (fun V0 hF=>?_)
   ·refine ag 7 [2] [(115,.bool true)] ?_;refine aa (aB 115 (xN xt) (au (au (au (cK V0) (bN E0)) (bN S0)) ((aU Z0).symm)) ?_);exact fz hF
   refine aj 7 [.e 0,.e 0] [2] [(115,.bool (decide ((if xt.lab.2.2.2.2.1<xt.lab.2.2.2.2.2 then xt.lab.2.2.2.2.2 else xt.lab.2.2.2.2.1)>1000)))] ?_;refine aa (aB 115 (xN xt) (au (au (au (bN V0) (bN E0)) (bN S0)) ((aU Z0).symm)) ?_);exact fz hF
  refine aj 18 [.e 0,.e 0] [2] [(108,.bool (decide ((if xt.lab.2.2.2.2.2<xt.lab.2.2.2.2.1 then xt.lab.2.2.2.2.2 else xt.lab.2.2.2.2.1)<(-1000))))] ?_;refine bP 108 hF (fun Q0 hF=>?_) (fun Q0 hF=>?_)
  ·refine ag 7 [2] [(115,.bool true)] ?_;refine aa (aB 115 (xN xt) (au (cK Q0) ((aG Z0).symm)) ?_);exact fz hF
  refine aj 7 [.e 0,.e 0] [2] [(115,.bool (decide ((if xt.lab.2.2.2.2.1<xt.lab.2.2.2.2.2 then xt.lab.2.2.2.2.2 else xt.lab.2.2.2.2.1)>1000)))] ?_;refine aa (aB 115 (xN xt) (au (bN Q0) ((aG Z0).symm)) ?_);exact fz hF
 refine aJ hF (fun jy hF=>?_) (fun jy hF=>?_)
 ·refine ae (av 1 [(4,.bool false)] kr (aa (Ok.ret (aC ?_))));exact dE false hF
 refine Ok.k (Ok.t (aF (ae (ai (af.s (v:=.agg A) (aZ 0 7 A rfl rfl underlying60 rfl kr kr kr) rfl rfl (ai (bO (args:=#[.agg A]) 11 [(0,.agg A)] gU func108 rfl rfl rfl rfl (ae (ai (cO fun YS=>?_))))))))));let E:=(xt.lab.1==10)||(xt.lab.1==11);refine av 1 [(1,pv YS 0)] kr (aa (gB [(2,.bool E)] [.blk eT (.cells A 60)] (vg N xt K) ?_ (fun hF=>?_)))
 ·
  refine aR (aj 4 [.e 0] [1] [(6,.bool (xt.lab.1==10))] ?_);refine bP 6 hF (fun mq hF=>?_) (fun mq hF=>?_)
  ·refine av 5 [(2,.bool true)] kr (aa (aB 2 E (cK mq) ?_));exact fz hF
  refine aj 5 [.e 0] [] [(2,.bool (xt.lab.1==11))] ?_;refine aa (aB 2 E (bN mq) ?_);exact fz hF
 refine Ok.ret (bA (vs:=[.bool E]) (.inl rfl) rfl (.cons (.tmp rfl) .nil) rfl (aa (aJ hF (fun iB hF=>?_) (fun iB hF=>?_))))
 ·refine aF (aR ?_);obtain ⟨KV,hF⟩:=hF;refine aj 4 [.e 0,.k (Uf _ xt.kids s0 hG0 KV)] [] [(4,.bool (nV xt.kids))] ?_;refine aa (Ok.ret (aC ?_));exact dE (nV xt.kids) hF
 let H:=(xt.kids.length:Int)==0;refine Ok.k (Ok.t (ae (aj 5 [.e 0] [] [(4,.bool H)] ?_)));refine aa (Ok.ret ?_);exact dE H hF
def CO (e3:PH):Bool :=
 (((e3.1.length:Int)==0)||((e3.2.length:Int) != (w6 ((e3.1.length:Int) - 1))))
def Xg (N:Nat) (K:Bool→Prop) (q0:Int) (e8:List TS) (C30:Int→Prop) (v0:Int) (C45:Int→Prop):Prop :=
 ((decide (v0<(e8.length:Int)))=true→0≤v0∧v0.toNat<e8.length∧Ju N (e8.getD v0.toNat default) v0∧((!(xP (e8.getD v0.toNat default) v0))=true→K false)∧((!(xP (e8.getD v0.toNat default) v0))=false→C45 (w6 (v0+1))))∧((decide (v0<(e8.length:Int)))=false→(((e8.length:Int)==0)=true→K false)∧(((e8.length:Int)==0)=false→C30 (w6 (q0+1))))
def GL (N:Nat) (K:Bool→Prop) (q0:Int) (e8:List TS) (C30:Int→Prop):Nat→Int→Prop
 | 0,_=>False
 | k+1,v0=>Xg N K q0 e8 C30 v0 (GL N K q0 e8 C30 k)
def Xf (K:Bool→Prop) (e3:PH) (z0:Int) (C7:Int→Prop) (u0:Int) (C75:Int→Prop):Prop :=
 ((decide (u0<(e3.2.length:Int)))=true→0≤u0∧u0.toNat<e3.2.length∧((decide ((Dw ([32,62,43,126]:Bs) (e3.2.getD u0.toNat default))<0))=true→K false)∧((decide ((Dw ([32,62,43,126]:Bs) (e3.2.getD u0.toNat default))<0))=false→C75 (w6 (u0+1))))∧((decide (u0<(e3.2.length:Int)))=false→C7 (w6 (z0+1)))
def GK (K:Bool→Prop) (e3:PH) (z0:Int) (C7:Int→Prop):Nat→Int→Prop
 | 0,_=>False
 | k+1,u0=>Xf K e3 z0 C7 u0 (GK K e3 z0 C7 k)
def Xh (N:Nat) (K:Bool→Prop) (e3:PH) (z0:Int) (C7:Int→Prop) (q0:Int) (C30:Int→Prop):Prop :=
 ((decide (q0<(e3.1.length:Int)))=true→0≤q0∧q0.toNat<e3.1.length∧∃ k,GL N K q0 (e3.1.getD q0.toNat default) C30 k 0)∧((decide (q0<(e3.1.length:Int)))=false→∃ k,GK K e3 z0 C7 k 0)
def CL (N:Nat) (K:Bool→Prop) (e3:PH) (z0:Int) (C7:Int→Prop):Nat→Int→Prop
 | 0,_=>False
 | k+1,q0=>Xh N K e3 z0 C7 q0 (CL N K e3 z0 C7 k)
def GM (N:Nat) (K:Bool→Prop) (e3:PH) (z0:Int) (C7:Int→Prop):Prop :=
 (CO e3=true→K false)∧(CO e3=false→∃ k,CL N K e3 z0 C7 k 0)
def abo (N:Nat) (xl:List PH) (K:Bool→Prop) (z0:Int) (C7:Int→Prop):Prop :=
 ((decide (z0<(xl.length:Int)))=true→0≤z0∧z0.toNat<xl.length∧((((xl.getD z0.toNat default).1.length:Int)==0)=true→GM N K (xl.getD z0.toNat default) z0 C7)∧((((xl.getD z0.toNat default).1.length:Int)==0)=false→GM N K (xl.getD z0.toNat default) z0 C7))∧((decide (z0<(xl.length:Int)))=false→K (decide ((xl.length:Int)>0)))
def x_ (N:Nat) (xl:List PH) (K:Bool→Prop):Nat→Int→Prop
 | 0,_=>False
 | k+1,z0=>abo N xl K z0 (x_ N xl K k)
def ah7 (N:Nat) (xl:List PH) (K:Bool→Prop):Prop :=
 ∃ k,x_ N xl K k 0
theorem abp {g:ak} (N:Nat) (Ub:RS N) (Uf:SQ N) {j0:Option Addr} {x0:Nat} (xl:List PH) (b0:bE g (.slice yP) [.slice j0 xl.length x0] xl) (hG0:bR g 0) (K:Bool→Prop)
  (hF:ah7 N xl K):az prog 39 #[.slice j0 xl.length x0] g [] (fun g' H' v=>∃ (r0:Bool),v=.bool r0∧H'=[]∧K r0):=by
 refine aP 69 func39 rfl fun w0=>?_;let D:=(xl.length:Int);refine ae (av 1 [(0,.slice j0 xl.length x0)] kr (aa (aF (ae (ag 3 [0] [(11,.slice j0 xl.length x0),(12,iv D),(13,iv 0)] ?_)))));refine aa (Ok.block ?_);obtain ⟨k,hF⟩:=hF;refine fQ (fun k a W=>∃ (z0:Int),fC 69 [(0,.slice j0 xl.length x0),(11,.slice j0 xl.length x0),(12,iv D),(13,iv z0)] a∧dm w0 [] g W∧x_ N xl K k z0) k ?_ ?_
 ·
  exact fun _ _ u v=>⟨0,fA u v hF⟩
 clear hF;rintro (_ | k7) _ _ ⟨z0,q⟩;exact (q.2.2:False).elim;refine jn (fun hF=>?_) _ _ q;refine ae (ag 1 [0,11,12,13] [(14,.bool (decide (z0<D)))] ?_);refine aa (aF (aJ hF (fun hc1 hF=>?_) (fun hc1 hF=>?_)))
 ·refine Ok.k (Ok.t (aF (Ok.block (aF (aR ?_)))));obtain ⟨DL,DJ,hF⟩:=hF;have wu:=aT (l:=xl) default DJ;generalize hg3:(xl.getD z0.toNat default)=e3 at wu hF ⊢;refine ai (af.aX (e:=yP) rfl rfl underlying33 kr b0 DL wu rfl fun q2 o2 cs2 _ P0 hr2=>?_);obtain ⟨_,_,rfl,⟨c0,d0,rfl,UF,Uq⟩,⟨e0,f0,rfl,UE,Uo⟩⟩:=hr2;have UU:bE g (.slice (.slice yS)) [.slice c0 e3.1.length d0] e3.1:=⟨c0,d0,rfl,UF,Uq⟩;have PE:bE g (.slice yb) [.slice e0 e3.2.length f0] e3.2:=⟨e0,f0,rfl,UE,Uo⟩;replace P0:At g q2 o2 [.slice c0 e3.1.length d0,.slice e0 e3.2.length f0]:=P0;let A:=(#[.slice c0 e3.1.length d0,.slice e0 e3.2.length f0]:Array Value);refine ai (af.s (v:=.agg A) (bL 0 2 A P0 kr underlying28 rfl kr kr kr) rfl rfl (ai (bI #[.slice none 0 0,.slice none 0 0] fun ll=>?_)));refine ai (af.w 0 ?_);let C:=x_ N xl K k7;let E:=(xl.length:Int);refine aa (aF (Ok.cut (fun a W=>fC 69 [(0,.slice j0 xl.length x0),(4,pv ll 0),(11,.slice j0 xl.length x0),(12,iv E),(13,iv z0),(30,.bool (CO e3))] a∧dm w0 [.blk ll (.cells A 28)] g W∧GM N K e3 z0 C) ?_ ?_))
  ·
   refine aR (aj 5 [.e 0] [0,11,12,13] [(4,pv ll 0),(21,.bool ((e3.1.length:Int)==0))] ?_);refine bP 21 hF (fun a0 hF=>?_) (fun a0 hF=>?_)
   ·refine ag 9 [0,4,11,12,13] [(30,.bool true)] ?_;refine aa (aB 30 (CO e3) (cK a0) ?_);exact fz hF
   refine aj 9 [.e 0,.e 0] [0,4,11,12,13] [(30,.bool ((e3.2.length:Int) != (w6 ((e3.1.length:Int) - 1))))] ?_;refine aa (aB 30 (CO e3) (bN a0) ?_);exact fz hF
  clear hF;refine jn fun hF=>?_;refine dW hF rfl (fun jy=>?_) (fun jy=>?_)
  ·replace hF:=hF.1 jy;refine ae (av 1 [(2,.bool false)] kr (aa (Ok.ret (aC (aV (aC (aC (aV (aC ?_)))))))));exact dE false hF
  replace hF:=hF.2 jy;refine Ok.k (Ok.t (aF (ae (aj 4 [.e 0] [0,4,11,12,13] [(32,.slice c0 e3.1.length d0),(33,iv (e3.1.length:Int)),(34,iv 0)] ?_))));refine aa (Ok.block ?_);obtain ⟨k,hF⟩:=hF;refine fQ (fun k a W=>∃ (q0:Int),fC 69 [(0,.slice j0 xl.length x0),(4,pv ll 0),(11,.slice j0 xl.length x0),(12,iv E),(13,iv z0),(32,.slice c0 e3.1.length d0),(33,iv (e3.1.length:Int)),(34,iv q0)] a∧dm w0 [.blk ll (.cells A 28)] g W∧CL N K e3 z0 C k q0) k ?_ ?_
  ·
   exact fun _ _ u v=>⟨0,fA u v hF⟩
  clear hF;rintro (_ | k30) _ _ ⟨q0,q⟩;exact (q.2.2:False).elim;refine jn (fun hF=>?_) _ _ q;refine ae (ag 1 [0,4,11,12,13,32,33,34] [(35,.bool (decide (q0<(e3.1.length:Int))))] ?_);refine aa (aF (dW hF rfl (fun hc6=>?_) (fun hc6=>?_)))
  ·replace hF:=hF.1 hc6;refine Ok.k (Ok.t (aF (Ok.block (aF (aR ?_)))));obtain ⟨IK,h18,hF⟩:=hF;have EA:=aT (l:=e3.1) default h18;generalize Ru:(e3.1.getD q0.toNat default)=e8 at EA hF ⊢;refine ai (af.aX (e:=.slice yS) rfl rfl underlying25 kr UU IK EA rfl fun q7 o7 cs7 _ ac5 MX=>?_);obtain ⟨F0,G0,rfl,K4⟩:=oS MX;refine aj 2 [.a 0 ac5] [0,4,11,12,13,32,33,34] [(6,.slice F0 e8.length G0)] ?_;let F:=(e8.length:Int);refine aa (aF (ae (ag 3 [0,4,6,11,12,13,32,33,34] [(38,.slice F0 e8.length G0),(39,iv F),(40,iv 0)] ?_)));refine aa (Ok.block ?_);obtain ⟨k,hF⟩:=hF;refine fQ (fun k a W=>∃ (v0:Int),fC 69 [(0,.slice j0 xl.length x0),(4,pv ll 0),(6,.slice F0 e8.length G0),(11,.slice j0 xl.length x0),(12,iv E),(13,iv z0),(32,.slice c0 e3.1.length d0),(33,iv (e3.1.length:Int)),(34,iv q0),(38,.slice F0 e8.length G0),(39,iv F),(40,iv v0)] a∧dm w0 [.blk ll (.cells #[.slice c0 e3.1.length d0,.slice e0 e3.2.length f0] 28)] g W∧GL N K q0 e8 (CL N K e3 z0 C k30) k v0) k ?_ ?_
   ·
    exact fun _ _ u v=>⟨0,fA u v hF⟩
   clear hF;rintro (_ | k45) _ _ ⟨v0,q⟩;exact (q.2.2:False).elim;refine jn (fun hF=>?_) _ _ q;refine ae (ag 1 [0,4,6,11,12,13,32,33,34,38,39,40] [(41,.bool (decide (v0<F)))] ?_);refine aa (aF (dW hF rfl (fun mq=>?_) (fun mq=>?_)))
   ·replace hF:=hF.1 mq;refine Ok.k (Ok.t (aF (Ok.block (ae (ag 1 [0,4,6,11,12,13,32,33,34,38,39,40] [(42,iv v0)] ?_)))));obtain ⟨Nu,DK,hF⟩:=hF;have T0:=aT (l:=e8) default DK;generalize Ip:(e8.getD v0.toNat default)=e11 at T0 hF ⊢;refine ai (af.aX (e:=yS) rfl rfl underlying54 kr K4 Nu T0 rfl fun q10 o10 Rb _ B0 Ik=>?_);have K0:=Ik;replace K0:=bE.tst.1 K0;obtain ⟨_,_,rfl,⟨_,_,rfl,rfl,⟨_,_,rfl,rfl,⟨_,_,rfl,rfl,⟨_,_,rfl,rfl,⟨_,_,rfl,rfl,rfl⟩⟩⟩⟩⟩,⟨g0,m0,rfl,acM,acw⟩⟩:=K0;have adH:bE g (.slice yP) [.slice g0 e11.kids.length m0] e11.kids:=⟨g0,m0,rfl,acM,acw⟩;replace B0:At g q10 o10 (vL e11.lab g0 e11.kids.length m0):=B0;let B:=aL e11.lab g0 e11.kids.length m0;refine ai (af.s (v:=.agg B) (bL 0 7 B B0 kr underlying60 rfl kr kr kr) rfl rfl (ai (bI #[iv 0,sv ([]:Bs),.int .u8 0,sv ([]:Bs),iv 0,iv 0,.slice none 0 0] fun pW=>?_)));refine ag 1 [0,4,6,11,12,13,32,33,34,38,39,40] [(7,iv v0),(8,pv pW 0),(44,.agg B)] ?_;refine ai (af.w 0 ?_);refine aa (aF (aR ?_));obtain ⟨zD,hF⟩:=hF;refine aj 4 [.e 0,.k (Ub _ e11 v0 adH hG0 zD)] [0,4,6,11,12,13,32,33,34,38,39,40] [(48,.bool (!(xP e11 v0)))] ?_;refine aa (dW hF rfl (fun V0=>?_) (fun V0=>?_))
    ·replace hF:=hF.1 V0;refine ae (av 1 [(2,.bool false)] kr (aa (Ok.ret (aV (aC (aC (aV (aC (aV (aC (aC (aV (aC (aV (aC (aC (aV (aC ?_))))))))))))))))));exact dE false hF
    replace hF:=hF.2 V0;refine Ok.k (bG (Ok.t (aR (ag 2 [0,4,6,11,12,13,32,33,34,38,39] [(40,iv (w6 (v0+1)))] ?_))));refine bV (Ok.t ?_);subst Ip;exact fun _ _ u v=>⟨k45,nl,w6 (v0+1),fA u v hF⟩
   replace hF:=hF.2 mq;refine fw (ay (ay (aM (Ok.t (ae (ag 3 [0,4,11,12,13,32,33,34] [(52,.bool ((e8.length:Int)==0))] ?_))))));refine aa (dW hF rfl (fun Q0=>?_) (fun Q0=>?_))
   ·replace hF:=hF.1 Q0;refine ae (av 1 [(2,.bool false)] kr (aa (Ok.ret (aV (aC (aC (aV (aC (aV (aC (aC (aV (aC ?_)))))))))))));exact dE false hF
   replace hF:=hF.2 Q0;refine Ok.k (bG (Ok.t (aR (ag 2 [0,4,11,12,13,32,33] [(34,iv (w6 (q0+1)))] ?_))));refine bV (Ok.t ?_);subst Ru;exact fun _ _ u v=>⟨k30,nl,w6 (q0+1),fA u v hF⟩
  replace hF:=hF.2 hc6;refine fw (ay (ay (aM (Ok.t (ae (aj 4 [.e 0] [0,11,12,13] [(55,.slice e0 e3.2.length f0),(56,iv (e3.2.length:Int)),(57,iv 0)] ?_))))));refine aa (Ok.block ?_);obtain ⟨k,hF⟩:=hF;refine fQ (fun k a W=>∃ (u0:Int),fC 69 [(0,.slice j0 xl.length x0),(11,.slice j0 xl.length x0),(12,iv E),(13,iv z0),(55,.slice e0 e3.2.length f0),(56,iv (e3.2.length:Int)),(57,iv u0)] a∧dm w0 [] g W∧GK K e3 z0 C k u0) k ?_ ?_
  ·
   exact fun _ _ u v=>⟨0,fA u v hF⟩
  clear hF;rintro (_ | k75) _ _ ⟨u0,q⟩;exact (q.2.2:False).elim;refine jn (fun hF=>?_) _ _ q;refine ae (ag 1 [0,11,12,13,55,56,57] [(58,.bool (decide (u0<(e3.2.length:Int))))] ?_);refine aa (aF (dW hF rfl (fun i0=>?_) (fun i0=>?_)))
  ·replace hF:=hF.1 i0;refine Ok.k (Ok.t (aF (Ok.block (aF (aR ?_)))));obtain ⟨Nr,Nk,hF⟩:=hF;have L0:=aT (l:=e3.2) default Nk;generalize aoN:(e3.2.getD u0.toNat default)=e18 at L0 hF ⊢;refine ai (af.aX (e:=.int .u8) rfl rfl underlying26 kr PE Nr L0 rfl fun q17 o17 alb _ C0 Uu=>?_);obtain rfl:=Uu;replace C0:At g q17 o17 [.int .u8 e18]:=C0;refine aj 2 [.a 0 C0] [0,11,12,13,55,56,57] [(10,.int .u8 e18)] ?_;refine aa (ae (aj 3 [.k (ab8 ([32,62,43,126]:Bs) e18)] [0,11,12,13,55,56,57] [(63,.bool (decide (Dw ([32,62,43,126]:Bs) e18<0)))] ?_));refine aa (dW hF rfl (fun n0=>?_) (fun n0=>?_))
   ·replace hF:=hF.1 n0;refine ae (av 1 [(2,.bool false)] kr (aa (Ok.ret (aV (aC (aC (aV (aV (aC (aC (aV (aC ?_))))))))))));exact dE false hF
   replace hF:=hF.2 n0;refine Ok.k (bG (Ok.t (aR (ag 2 [0,11,12,13,55,56] [(57,iv (w6 (u0+1)))] ?_))));refine bV (Ok.t ?_);subst aoN;exact fun _ _ u v=>⟨k75,nl,w6 (u0+1),fA u v hF⟩
  replace hF:=hF.2 i0;refine fw (ay (ay (aM (bG (Ok.t (aR (ag 2 [0,11,12] [(13,iv (w6 (z0+1)))] ?_)))))));refine bV (Ok.t ?_);subst hg3;exact fun _ _ u v=>⟨k7,nl,w6 (z0+1),fA u v hF⟩
 refine fw (ay (ay (aM (Ok.t (ae (av 4 [(2,.bool (decide ((xl.length:Int)>0)))] kr (aa (Ok.ret ?_))))))));exact dE (decide ((xl.length:Int)>0)) hF
theorem agC (t:Ts) (i:Int):¬ Ju 0 t i:=fun h=>absurd h.1 (iN _)
theorem ah6 (l:List Ph):¬ Ml 0 l:=fun h=>absurd h.1 (iN _)
theorem agB (N:Nat) (t:Ts) (i:Int) (h:Ju (N+1) t i):agD N t i (fun r=>r=xP t i):=by
 have hk:=ER h;have hb:=kE t
 have hc:sD t.lab.2.1:=by have:=h.2.1; show t.lab.2.1.length<4294967281; omega
 have hl:ig t.lab.2.1:=by have:=h.2.1; show t.lab.2.1.length≤140737488351232; omega
 have e:=lW t i;have hop:=(yj h.2.2).1
 have hV2:tX t=l2 t.lab:=by
  unfold tX l2;rw [ab7 hop]
 have A0:l0 t.lab i=false→l1 t.lab=false→l2 t.lab=false→l3 t.lab=false→vg N t (fun r=>r=xP t i):=by
  intro h0 h1 h2 h3
  have e2:AJ t.lab i=true:=by unfold AJ; rw [h0,h1,h2,h3]; rfl
  rw [e2,fJ] at e;refine ⟨fun hn=>⟨hk,?_⟩,fun hn=>?_⟩
  ·rw [aU hn] at e; exact e.symm
  rw [aG hn] at e; exact e.symm
 have j30:l0 t.lab i=false→l1 t.lab=false→l2 t.lab=false→tT N t (fun r=>r=xP t i):=by
  intro h0 h1 h2;refine ⟨fun h3=>?_,fun h3=>⟨fun _=>A0 h0 h1 h2 h3,fun _=>A0 h0 h1 h2 h3⟩⟩;have h3:l3 t.lab=true:=h3;show false=yh t i;rw [e]; unfold AJ; rw [h3]; simp
 have j88:l0 t.lab i=false→l1 t.lab=false→l2 t.lab=false→xM N t (fun r=>r=xP t i):=by
  intro h0 h1 h2;have k:=j30 h0 h1 h2;exact ⟨fun _=>⟨fun _=>k,fun _=>⟨fun _=>k,fun _=>⟨fun _=>k,fun _=>k⟩⟩⟩,fun _=>⟨fun _=>k,fun _=>k⟩⟩
 have j22:l0 t.lab i=false→l1 t.lab=false→tV N t (fun r=>r=xP t i):=by
  intro h0 h1;refine ⟨fun h2=>?_,fun h2=>?_⟩
  ·rw [hV2] at h2;show false=yh t i;rw [e]; unfold AJ; rw [h2]; simp
  rw [hV2] at h2;exact ⟨fun _=>j88 h0 h1 h2,fun _=>j88 h0 h1 h2⟩
 have j14:l0 t.lab i=false→BU N t (fun r=>r=xP t i):=by
  intro h0;refine ⟨fun h1=>?_,fun h1=>?_⟩
  ·have h1:l1 t.lab=true:=h1;show false=yh t i;rw [e]; unfold AJ; rw [h1]; simp
  have k:=j22 h0 h1;exact ⟨fun _=>⟨fun _=>k,fun _=>⟨fun _=>k,fun _=>⟨fun _=>k,fun _=>k⟩⟩⟩,fun _=>⟨fun _=>k,fun _=>k⟩⟩
 have j6:z8 N t i (fun r=>r=xP t i):=by
  refine ⟨fun h0=>?_,fun h0=>?_⟩
  ·have h0:l0 t.lab i=true:=h0;show false=yh t i;rw [e]; unfold AJ; rw [h0]; simp
  have k:=j14 h0;exact ⟨fun _=>⟨hl,k⟩,fun _=>⟨fun _=>⟨hl,k⟩,fun _=>k⟩⟩
 have j3:Og N t i (fun r=>r=xP t i):=⟨fun _=>j6,fun _=>⟨fun _=>j6,fun _=>⟨fun _=>j6,fun _=>⟨fun _=>j6,fun _=>⟨fun _=>⟨hc,j6⟩,fun _=>j6⟩⟩⟩⟩⟩;exact ⟨fun _=>j3,fun _=>j3⟩
theorem ah9 {N:Nat} {r:Bool} (s:List Ts) (hs:∀ t ∈ s,∀ i,Ju N t i) (hl:s.length≤1048600) (k:Int) (C:Int→Prop) (R:Bool) (hC:r=R→C (w6 (k+1))) :
  ∀ (m i:Nat),i+m=s.length→r=(ok1 (s.drop i) i&&(!((s.length:Int)==0)&&R))→GL N (fun x=>x=r) k s C (m+1) (i:Int):=by
 intro m
 induction m with
 | zero =>
  intro i hi he;rw [eD om,ok1,fJ] at he;refine ⟨fun hc=>absurd (df hc) om,fun _=>⟨fun h0=>?_,fun h0=>?_⟩⟩
  ·rw [he,h0]; rfl
  rw [h0,Bool.not_false,fJ] at he; exact hC he
 | succ m ih =>
  intro i hi he;have hi':i<s.length:=om;have ht:=hs _ (jR default hi') i;rw [bX (l:=s) default hi',ok1,uZ] at he;refine ⟨fun _=>⟨om,by rw [dR]; omega,?_⟩,fun hc=>absurd (fq hc) om⟩;rw [dR];refine ⟨ht,fun hb=>?_,fun hb=>?_⟩
  ·have hb:yh (s.getD i default) i=false:=by simpa [xP] using hb
   rw [he,hb,iw]
  have hb:yh (s.getD i default) i=true:=by simpa [xP] using hb
  rw [hb,fJ] at he;rw [show (i:Int)+1=((i+1:Nat):Int) by omega] at he;rw [fU om,show (i:Int)+1=((i+1:Nat):Int) by omega];exact ih (i+1) om he
theorem ah8 {r:Bool} (q:Ph) (hj:∀ z ∈ q.2,VD z) (hl:q.2.length≤1048600) (j:Int) (C:Int→Prop) (R:Bool) (hC:r=R→C (w6 (j+1))) :
  ∀ (m i:Nat),i+m=q.2.length→r=((q.2.drop i).all zw&&R)→GK (fun x=>x=r) q j C (m+1) (i:Int):=by
 intro m
 induction m with
 | zero =>
  intro i hi he;rw [eD om,List.all_nil,fJ] at he;exact ⟨fun hc=>absurd (df hc) om,fun _=>hC he⟩
 | succ m ih =>
  intro i hi he;have hi':i<q.2.length:=om;have hz:=hj _ (jR default hi');rw [bX (l:=q.2) default hi',sM,uZ] at he;refine ⟨fun _=>⟨om,by rw [dR]; omega,?_⟩,fun hc=>absurd (fq hc) om⟩;rw [dR,Ui hz];refine ⟨fun hb=>?_,fun hb=>?_⟩
  ·have hb:zw (q.2.getD i default)=false:=by simpa [zw] using hb
   rw [he,hb,iw]
  have hb:zw (q.2.getD i default)=true:=by simpa [zw] using hb
  rw [hb,fJ] at he;rw [fU om,show (i:Int)+1=((i+1:Nat):Int) by omega];exact ih (i+1) om he
theorem aia {N:Nat} {r:Bool} (q:Ph) (hj:∀ z ∈ q.2,VD z) (hs:∀ s ∈ q.1,∀ t ∈ s,∀ i,Ju N t i) (hw:w2 q.1≤1048600) (hl:q.2.length≤1048600) (j:Int) (C:Int→Prop) (R:Bool) (hC:r=R→C (w6 (j+1))) :
  ∀ (m i:Nat),i+m=q.1.length→r=(uk (q.1.drop i)&&(q.2.all zw&&R))→CL N (fun x=>x=r) q j C (m+1) (i:Int):=by
 intro m
 induction m with
 | zero =>
  intro i hi he;rw [eD om,uk,fJ] at he;exact ⟨fun hc=>absurd (df hc) om,fun _=>⟨_,ah8 q hj hl j C R hC q.2.length 0 om (by rw [gm]; exact he)⟩⟩
 | succ m ih =>
  intro i hi he;have hi':i<q.1.length:=om;have hin:=jR default hi';have ht:=hs _ hin;have h1:=rO (q.1.getD i default);have h2:=tQ hin;have h3:=rM q.1;rw [bX (l:=q.1) default hi',uk,uZ,uZ] at he;refine ⟨fun _=>⟨om,by rw [dR]; omega,?_⟩,fun hc=>absurd (fq hc) om⟩;rw [dR];refine ⟨_,ah9 (q.1.getD i default) ht om (i:Int) _ _ (fun h=>?_) (q.1.getD i default).length 0 om (by rw [gm]; exact he)⟩;rw [fU om,show (i:Int)+1=((i+1:Nat):Int) by omega];exact ih (i+1) om h
theorem ah5 (N:Nat) (l:List Ph) (h:Ml (N+1) l):ah7 N l (fun r=>r=nV l):=by
 have h5:=mO l;have hlen:=qo l;have hin:=fun q hq s hs t ht i=>O4 h (q:=q) hq (s:=s) hs (t:=t) ht i;obtain ⟨_,hb,ho⟩:=h
 have loop:∀ (m i:Nat),i+m=l.length→nV l=(rV (l.drop i)&&decide ((l.length:Int)>0))→x_ N l (fun r=>r=nV l) (m+1) (i:Int):=by
  intro m
  induction m with
  | zero =>
   intro i hi he;rw [eD om,rV,fJ] at he;exact ⟨fun hc=>absurd (df hc) om,fun _=>he.symm⟩
  | succ m ih =>
   intro i hi he;have hi':i<l.length:=om;have hq:=jR default hi';have hwq:=sW hq;have hq1:=rM (l.getD i default).1;rw [bX (l:=l) default hi',kJ,uZ,uZ,uZ] at he;refine ⟨fun _=>⟨om,by rw [dR]; omega,?_⟩,fun hc=>absurd (fq hc) om⟩;rw [dR]
   have ZL:GM N (fun r=>r=nV l) (l.getD i default) (i:Int) (x_ N l (fun r=>r=nV l) (m+1)):=by
    have hV:CO (l.getD i default)=((((l.getD i default).1.length:Int)==0)||(((l.getD i default).2.length:Int) != ((l.getD i default).1.length:Int) - 1)):=by
     unfold CO;rw [fU om]
    refine ⟨fun h0=>?_,fun h0=>?_⟩
    ·rw [hV] at h0;rw [he,h0]; rfl
    rw [hV] at h0;rw [h0,Bool.not_false,fJ] at he;refine ⟨_,aia (l.getD i default) (ho _ hq).1 (hin _ hq) om om (i:Int) _ _ (fun h=>?_) (l.getD i default).1.length 0 om (by rw [gm]; exact he)⟩;rw [fU om,show (i:Int)+1=((i+1:Nat):Int) by omega];exact ih (i+1) om h
   exact ⟨fun _=>ZL,fun _=>ZL⟩
 exact ⟨_,loop l.length 0 om (by rw [gm]; rfl)⟩
theorem Oh:∀ N,RS N∧SQ N
 | 0=>⟨(by intro g k0 y0 xt pU s0 hG0 hp; exact (agC xt pU hp).elim),(by intro g j0 x0 xl b0 hG0 hp; exact (ah6 xl hp).elim)⟩
 | N+1 =>
  have ih:=Oh N
  ⟨(by intro g k0 y0 xt pU s0 hG0 hp; exact (aam N ih.1 ih.2 xt pU s0 hG0 _ (agB N xt pU hp)).gv),(by intro g j0 x0 xl b0 hG0 hp; exact (abp N ih.1 ih.2 xl b0 hG0 _ (ah5 N xl hp)).gv)⟩
def SS (xl:List PH):Prop:=∃ N,Ml N xl
theorem ah4 {g:ak} {j0:Option Addr} {x0:Nat} (xl:List PH) (b0:bE g (.slice yP) [.slice j0 xl.length x0] xl) (hG0:bR g 0)  (hp:SS xl):bC prog 39 #[.slice j0 xl.length x0] g (.bool (nV xl)):=by
 obtain ⟨N,hp⟩:=hp;exact (Oh N).2 _ xl b0 hG0 hp
set_option maxHeartbeats 4000000
set_option maxRecDepth 100000
set_option maxHeartbeats 4000000
set_option maxRecDepth 100000
def alj (xl:List PH) (K:Int→Prop):Prop :=
 RU xl 0∧((!(iH xl 0).2)=true→K 2)∧((!(iH xl 0).2)=false→SS xl∧((!(nV xl))=true→K 3)∧((!(nV xl))=false→K 0))
theorem afe {g:ak} {z0:Option Addr} {v0:Nat} (xl:List PH) (q0:bE g (.slice yP) [.slice z0 xl.length v0] xl) (hG0:bR g 0) (K:Int→Prop)
  (hF:alj xl K):az prog 22 #[.slice z0 xl.length v0] g [] (fun g' H' v=>∃ (r0:Int),v=iv r0∧H'=[]∧K r0):=by
 refine aP 15 func22 rfl fun w0=>?_;refine ae (av 1 [(0,.slice z0 xl.length v0)] kr (aa (aF (aF (aR ?_)))));obtain ⟨hp1,hF⟩:=hF;refine aj 7 [.k (agE xl 0 q0 hp1)] [0] [(4,.bool (iH xl 0).2)] ?_;refine aa (ae (ag 2 [0] [(11,.bool (!(iH xl 0).2))] ?_));refine aa (aJ hF (fun hc2 hF=>?_) (fun hc2 hF=>?_))
 ·refine ae (av 1 [(2,iv 2)] kr (aa (Ok.ret (aC ?_))));exact pO (iv 2) ⟨_,rfl,rfl,hF⟩
 refine Ok.k (Ok.t (aF (aF (aR ?_))));obtain ⟨hp3,hF⟩:=hF;refine aj 3 [.k (ah4 xl q0 hG0 hp3)] [] [(14,.bool (!(nV xl)))] ?_;refine aa (aJ hF (fun hc4 hF=>?_) (fun hc4 hF=>?_))
 ·refine ae (av 1 [(2,iv 3)] kr (aa (Ok.ret (aC ?_))));exact pO (iv 3) ⟨_,rfl,rfl,hF⟩
 refine Ok.k (Ok.t (ae (av 1 [(2,iv 0)] kr (aa (Ok.ret ?_)))));exact pO (iv 0) ⟨_,rfl,rfl,hF⟩
def nP (l:List Ph):Int:=if (!((LJ l 0 0).2))=true then 2 else if (!(nV l))=true then 3 else 0
def zN (l:List Ph):Prop:=b3 l≤1048600∧QF l
theorem anl {l:List Ph} (h:zN l):RU l 0:=⟨b3 l+1,om,h.1,om,by have:=h.1; omega⟩
theorem anA {l:List Ph} (h:zN l):SS l:=⟨b3 l+1,om,h.1,h.2⟩
theorem ali (l:List Ph) (h:zN l):alj l (fun r=>r=nP l):=by
 have e:∀ b,(!((iH l 0).2))=b→(!((LJ l 0 0).2))=b:=fun b h=>h;refine ⟨anl h,fun h1=>?_,fun h1=>⟨anA h,fun h2=>?_,fun h2=>?_⟩⟩
 ·unfold nP; rw [aU (e _ h1)]
 ·unfold nP; rw [aG (e _ h1),aU h2]
 unfold nP; rw [aG (e _ h1),aG h2]
theorem ZW {g:ak} {z0:Option Addr} {v0:Nat} (xl:List PH) (q0:bE g (.slice yP) [.slice z0 xl.length v0] xl) (hG0:bR g 0)  (hp:zN xl):bC prog 22 #[.slice z0 xl.length v0] g (iv (nP xl)) :=
 (afe xl q0 hG0 _ (ali xl hp)).gv
end Go.Proofs.YtdapgmigogpdcaaGreatDoor.Se
