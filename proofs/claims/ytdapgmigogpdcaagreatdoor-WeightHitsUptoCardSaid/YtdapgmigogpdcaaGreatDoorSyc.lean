/- selector: what its reader reads, plain. -/
import Derived.Test.YtdapgmigogpdcaaGreatDoorSya
import Derived.Lib.AtoiAll
import Derived.Lib.ItoaLen
set_option linter.unusedVariables false
namespace Go.Proofs.YtdapgmigogpdcaaGreatDoor.Se
open Go Go.iT jN BI tO Tk Rp Qu Me
def vI (s:List UInt8):Int:=match Lib.atoiAll s with | .ok v=>v | _=>0
def mh (s:List UInt8):Int×Int×Bool:=(vI (s.takeWhile fun c=>!(c==110)),vI ((s.dropWhile fun c=>!(c==110)).drop 1),true)
def L_:Rd→List UInt8×Rd
 | []=>([],[])
 | t::r=>if (t.2.1==[41])=true then ([],r) else (t.2.1++(L_ r).1,(L_ r).2)
def mr (r:Rd) (k:Int):Ts×Rd:=(.mk (k,[],0,[],(mh (L_ r).1).1,(mh (L_ r).1).2.1) [],(L_ r).2)
def Zn:Ts:=.mk (0,[],0,[],0,0) []
mutual
def nW:Nat→Rd→Ts×Bool×Rd
 | 0,r=>(Zn,false,r)
 | k+1,r =>
  if ((ah r).1.2.1==[42])=true then (.mk (1,[],0,[],0,0) [],true,r.drop 1)
  else if ((ah r).1.1==1)=true then (.mk (2,aO (ah r).1.2.2.1,0,[],0,0) [],true,r.drop 1)
  else if ((ah r).1.1==4)=true then (.mk (3,(ah r).1.2.2.1,0,[],0,0) [],true,r.drop 1)
  else if ((ah r).1.2.1==[46])=true then (.mk (4,(ah (r.drop 1)).1.2.2.1,0,[],0,0) [],true,r.drop 2)
  else if ((ah r).1.2.1==[91])=true then ((mY (r.drop 1)).1,true,(mY (r.drop 1)).2)
  else if ((ah r).1.2.1==[58])=true then ((CP k (r.drop 1)).1,true,(CP k (r.drop 1)).2)
  else (Zn,false,r)
def CP:Nat→Rd→Ts×Rd
 | 0,r=>(Zn,r)
 | k+1,r =>
  if ((ah r).1.1==1)=true then (if (aO (ah r).1.2.2.1==sV)=true then .mk (6,[],0,[],0,0) [] else if (aO (ah r).1.2.2.1==nS)=true then .mk (7,[],0,[],0,0) [] else Zn,r.drop 1)
  else if (aO (ah r).1.2.2.1==Ob)=true then mr (r.drop 1) 8
  else if (aO (ah r).1.2.2.1==Oa)=true then mr (r.drop 1) 9
  else if (aO (ah r).1.2.2.1==xJ)=true then (.mk (10,[],0,[],0,0) (Dk k (r.drop 1) [41]).1,(Dk k (r.drop 1) [41]).2)
  else (.mk (11,[],0,[],0,0) (Dk k (r.drop 1) [41]).1,(Dk k (r.drop 1) [41]).2)
def rP:Nat→Rd→List Ts×Rd
 | 0,r=>([],r)
 | k+1,r=>if (nW k r).2.1=true then ((nW k r).1::(rP k (nW k r).2.2).1,(rP k (nW k r).2.2).2) else ([],(nW k r).2.2)
def qX:Nat→Rd→List (List Ts)×List Int×Rd
 | 0,r=>([],[],r)
 | k+1,r =>
  if (((ah (bF r).2).1.2.1==[62])||(((ah (bF r).2).1.2.1==[43])||((ah (bF r).2).1.2.1==[126])))=true then
   ((rP k (bF ((bF r).2.drop 1)).2).1::(qX k (rP k (bF ((bF r).2.drop 1)).2).2).1,(((ah (bF r).2).1.2.1.getD 0 0).toNat:Int)::(qX k (rP k (bF ((bF r).2.drop 1)).2).2).2.1,(qX k (rP k (bF ((bF r).2.drop 1)).2).2).2.2)
  else if ((bF r).1&&(((ah (bF r).2).1.1 != 0)&&(!((ah (bF r).2).1.2.1==[44])&&!((ah (bF r).2).1.2.1==[41]))))=true then
   ((rP k (bF r).2).1::(qX k (rP k (bF r).2).2).1,32::(qX k (rP k (bF r).2).2).2.1,(qX k (rP k (bF r).2).2).2.2)
  else ([],[],(bF r).2)
def Ew:Nat→Rd→Ph×Rd
 | 0,r=>(([],[]),r)
 | k+1,r=>(((rP k r).1::(qX k (rP k r).2).1,(qX k (rP k r).2).2.1),(qX k (rP k r).2).2.2)
def Dk:Nat→Rd→List UInt8→List Ph×Rd
 | 0,r,_=>([],r)
 | k+1,r,e =>
  if ((ah (bF (Ew k (bF r).2).2).2).1.2.1==[44])=true then
   ((Ew k (bF r).2).1::(Dk k ((bF (Ew k (bF r).2).2).2.drop 1) e).1,(Dk k ((bF (Ew k (bF r).2).2).2.drop 1) e).2)
  else ([(Ew k (bF r).2).1],if (e==[])=true then (bF (Ew k (bF r).2).2).2 else (bF (Ew k (bF r).2).2).2.drop 1)
end
theorem run_read {u:List UInt8} {us:List Tok} (h:RunT u us) (rest:Rd):L_ (us++clT::rest)=(u,rest):=by
 obtain ⟨rfl,h2⟩:=h
 induction us with
 | nil=>rfl
 | cons t us ih =>
  have ht:=(h2 t (cz ..)).2;rw [iP,L_,aQ (by simpa using ht),ih (fun y hy=>h2 y (dK _ hy))];simp
theorem mk_eq {t:Ts} {x:Lb} {l:List Ph} (h1:t.lab=x) (h2:t.kids=l):gL.mk x l=t:=by
 obtain ⟨y,k⟩:=t;rw [show x=y from h1.symm,show l=k from h2.symm]
theorem ni {t:Ts} {k a b:Int} {n v:List UInt8} {o:Int} (h1:t.lab.1=k) (h2:t.lab.2.1=n) (h3:t.lab.2.2.1=o) (h4:t.lab.2.2.2.1=v) (h5:t.lab.2.2.2.2.1=a) (h6:t.lab.2.2.2.2.2=b):t.lab=(k,n,o,v,a,b):=by
 obtain ⟨⟨x1,x2,x3,x4,x5,x6⟩,l⟩:=t;simp only [gL.lab] at *;rw [h1,h2,h3,h4,h5,h6]
def VZ:Rd→Bool
 | []=>true
 | t::_=>t==bl||(t==sg 44||t==clT)
def xh:Rd→Bool
 | []=>true
 | t::_=>t==sg 44||t==clT
theorem xR {p:UInt8→Bool} {b:UInt8} (hb:p b=false):∀ (x r:List UInt8),(∀ c ∈ x,p c=true)→(x++b::r).takeWhile p=x∧(x++b::r).dropWhile p=b::r
 | [],r,_=>by rw [jV,List.takeWhile_cons_of_neg (by rw [hb]; simp),Eh (by rw [hb]; simp)]; exact ⟨rfl,rfl⟩
 | c::x,r,h=>by
  have ih:=xR hb x r (fun y hy=>h y (dK _ hy));have hc:=h c (cz ..);rw [iP,List.takeWhile_cons_of_pos hc,List.dropWhile_cons_of_pos hc,ih.1,ih.2];exact ⟨rfl,rfl⟩
theorem Vq (u:Nat):∀ c ∈ Lib.decDigits u,(!(c==110))=true:=by
 induction u using Nat.strongRecOn with
 | _ u ih =>
  have dig:∀ n:Nat,n<10→(!(UInt8.ofNat (48+n)==110))=true:=fun n hn=>by
   have:∀ k:Fin 10,(!(UInt8.ofNat (48+k.val)==110))=true:=by decide +kernel
   exact this ⟨n,hn⟩
  intro c hc;rw [Lib.decDigits] at hc
  split at hc
  ·rw [il] at hc; subst hc; exact dig u (om)
  rcases lu.1 hc with hc | hc
  ·exact ih (u / 10) (om) c hc
  rw [il] at hc; subst hc; exact dig (u % 10) (om)
theorem vE (n:Int):∀ c ∈ Lib.itoa n,(!(c==110))=true:=by
 intro c hc;unfold Lib.itoa at hc
 split at hc
 ·rcases eO.1 hc with rfl | hc
  ·decide
  exact Vq _ c hc
 exact Vq _ c hc
def ank:Prop:=∀ n:Int,-1000≤n∧n≤1000→vI (Lib.itoa n)=n∧(0≤n→vI (43::Lib.itoa n)=n)
theorem Oc:ank:=fun n h=>by
 have:∀ k:Fin 2001,vI (Lib.itoa ((k.val:Int) - 1000))=(k.val:Int) - 1000∧(0≤(k.val:Int) - 1000→vI (43::Lib.itoa ((k.val:Int) - 1000))=(k.val:Int) - 1000):=by decide +kernel
 have:=this ⟨(n+1000).toNat,om⟩;rw [show (((⟨(n+1000).toNat,om⟩:Fin 2001).val:Int) - 1000)=n by show (((n+1000).toNat:Nat):Int) - 1000=n; omega] at this;exact this
theorem Bf {a b:Int} (ha : -1000≤a∧a≤1000) (hb : -1000≤b∧b≤1000):mh (lY a b)=(a,b,true):=by
 unfold mh lY
 by_cases h:b<0
 ·rw [bB h];obtain ⟨e1,e2⟩:=xR (p:=fun c=>!(c==110)) (b:=110) (by decide) (Lib.itoa a) (Lib.itoa b) (vE a);rw [e1,e2,(Oc a ha).1,List.drop_one,List.tail_cons,(Oc b hb).1]
 rw [aQ h];obtain ⟨e1,e2⟩:=xR (p:=fun c=>!(c==110)) (b:=110) (by decide) (Lib.itoa a) (43::Lib.itoa b) (vE a);rw [e1,e2,(Oc a ha).1,List.drop_one,List.tail_cons,(Oc b hb).2 (om)]
def LF (t:Ts):Prop:=∀ i,yh t i=true→∀ ts,RB t ts→1≤ts.length∧∀ rest k,8 * ts.length+1≤k→nW k (ts++rest)=(t,true,rest)
theorem lT {t:Ts} {i:Int} (h:yh t i=true) (h5:t.lab.1≠5) (h8:¬ (t.lab.1=8∨t.lab.1=9)) (hk:¬ (t.lab.1=10∨t.lab.1=11)):gL.mk (t.lab.1,t.lab.2.1,0,[],0,0) []=t:=by
 rw [lW,aH] at h;have hf:=nk h.1;have h2:=h.2;rw [aQ (by simpa using hk)] at h2;have ho:t.lab.2.2.1=0:=oh fun ho=>h5 (hf.op ho).1;exact mk_eq (ni rfl rfl ho (hf.val ho) (hf.ab h8).1 (hf.ab h8).2) (iO (by have:=eq_of_beq h2; omega))
theorem Ta {t:Ts} {i:Int} (hi:yh t i=true)
  (hk:t.lab.1=10∨t.lab.1=11→∀ us,Rj t.kids us→∀ rest k,8 * us.length+8≤k→Dk k (us++clT::rest) [41]=(t.kids,rest)) :
  ∀ ts,RB t ts→1≤ts.length∧∀ rest k,8 * ts.length+1≤k→nW k (ts++rest)=(t,true,rest):=by
 intro ts hts;rw [lD] at hts;have hi':=hi;rw [lW,aH] at hi';have hf:=nk hi'.1;obtain ⟨hab,-,-⟩:=H7 hi'.1
 have n0:2≤t.lab.1→t.lab.1≤5→t.lab.2.1≠[42]:=fun a b e=>by
  have:=hf.name a b;rw [e] at this;exact absurd this (by decide +kernel)
 rcases kinds hf with e | e | e | e | e | e | e | e | e | e | e
 ·rw [Ox e] at hts; subst hts;have ht:=lT hi (om) (om) (om);rw [e,hf.un (om)] at ht;refine ⟨fP _,fun rest k hkk=>?_⟩;obtain ⟨k,rfl⟩:∃ j,k=j+1:=⟨k - 1,om⟩;simp [nW,ah,ht]
 ·rw [Ow e] at hts; subst hts;have ht:=lT hi (om) (om) (om);rw [e] at ht;refine ⟨fP _,fun rest k hkk=>?_⟩;obtain ⟨k,rfl⟩:∃ j,k=j+1:=⟨k - 1,om⟩;simp [nW,ah,ht,n0 (om) (om),hf.low (.inl e)]
 ·rw [Ov e] at hts; subst hts;have ht:=lT hi (om) (om) (om);rw [e] at ht;refine ⟨fP _,fun rest k hkk=>?_⟩;obtain ⟨k,rfl⟩:∃ j,k=j+1:=⟨k - 1,om⟩;simp [nW,ah,ht]
 ·rw [Ou e] at hts; subst hts;have ht:=lT hi (om) (om) (om);rw [e] at ht;refine ⟨by simp,fun rest k hkk=>?_⟩;obtain ⟨k,rfl⟩:∃ j,k=j+1:=⟨k - 1,om⟩;simp [nW,ah,ht]
 ·rw [JC e] at hts;have h2:=hi'.2;rw [aQ (by rw [e]; decide)] at h2;have zF:t.kids=[]:=iO (by have:=eq_of_beq h2; omega);have hA:=hf.ab (om)
  by_cases h0:(t.lab.2.2.1==0)=true
  ·rw [bB h0] at hts; subst hts;have ho:t.lab.2.2.1=0:=eq_of_beq h0;have ht:gL.mk (5,t.lab.2.1,0,[],0,0) []=t:=mk_eq (ni e rfl ho (hf.val ho) hA.1 hA.2) zF;refine ⟨by simp,fun rest k hkk=>?_⟩;obtain ⟨k,rfl⟩:∃ j,k=j+1:=⟨k - 1,om⟩;simp [nW,ah,mY,ht]
  rw [aQ h0] at hts; subst hts;have hz:=GQ (hf.op (by simpa using h0)).2;have ht:gL.mk (5,t.lab.2.1,t.lab.2.2.1,t.lab.2.2.2.1,0,0) []=t:=mk_eq (ni e rfl rfl rfl hA.1 hA.2) zF;refine ⟨by simp,fun rest k hkk=>?_⟩;obtain ⟨k,rfl⟩:∃ j,k=j+1:=⟨k - 1,om⟩
  rcases hz with hz | hz | hz | hz | hz | hz
  all_goals (rw [hz] at ht ⊢; simp [nW,ah,mY,S_,oq,ht])
 ·rw [JB e] at hts; subst hts;have ht:=lT hi (om) (om) (om);rw [e,hf.un (om)] at ht;refine ⟨by simp,fun rest k hkk=>?_⟩;obtain ⟨k,rfl⟩:∃ j,k=j+2:=⟨k - 2,by simp at hkk; omega⟩
  have hl:aO sV=sV:=by decide +kernel
  simp [nW,CP,ah,ht,hl]
 ·rw [JA e] at hts; subst hts;have ht:=lT hi (om) (om) (om);rw [e,hf.un (om)] at ht;refine ⟨by simp,fun rest k hkk=>?_⟩;obtain ⟨k,rfl⟩:∃ j,k=j+2:=⟨k - 2,by simp at hkk; omega⟩
  have hl:aO nS=nS:=by decide +kernel
  simp [nW,CP,ah,ht,hl]
 ·rw [Jz e] at hts;obtain ⟨us,Ak,rfl⟩:=hts;have h2:=hi'.2;rw [aQ (by rw [e]; decide)] at h2;have zF:t.kids=[]:=iO (by have:=eq_of_beq h2; omega);have ho:t.lab.2.2.1=0:=oh fun ho=>absurd (hf.op ho).1 (om);have ht:gL.mk (8,[],0,[],t.lab.2.2.2.2.1,t.lab.2.2.2.2.2) []=t:=mk_eq (ni e (hf.un (om)) ho (hf.val ho) rfl rfl) zF;refine ⟨by simp,fun rest k hkk=>?_⟩;obtain ⟨k,rfl⟩:∃ j,k=j+2:=⟨k - 2,by simp at hkk; omega⟩
  have hl:aO Ob=Ob:=by decide +kernel
  have hr:=run_read Ak rest;have hv:=Bf hab.1 hab.2;simp [nW,CP,ah,ht,hl,mr,hr,hv]
 ·rw [Jy e] at hts;obtain ⟨us,Ak,rfl⟩:=hts;have h2:=hi'.2;rw [aQ (by rw [e]; decide)] at h2;have zF:t.kids=[]:=iO (by have:=eq_of_beq h2; omega);have ho:t.lab.2.2.1=0:=oh fun ho=>absurd (hf.op ho).1 (om);have ht:gL.mk (9,[],0,[],t.lab.2.2.2.2.1,t.lab.2.2.2.2.2) []=t:=mk_eq (ni e (hf.un (om)) ho (hf.val ho) rfl rfl) zF;refine ⟨by simp,fun rest k hkk=>?_⟩;obtain ⟨k,rfl⟩:∃ j,k=j+2:=⟨k - 2,by simp at hkk; omega⟩
  have hl:aO Oa=Oa:=by decide +kernel
  have hr:=run_read Ak rest;have hv:=Bf hab.1 hab.2;simp [nW,CP,ah,ht,hl,mr,hr,hv]
 ·rw [Cb e] at hts;obtain ⟨us,Ak,rfl⟩:=hts;have ho:t.lab.2.2.1=0:=oh fun ho=>absurd (hf.op ho).1 (om);have hA:=hf.ab (om);have ht:gL.mk (10,[],0,[],0,0) t.kids=t:=mk_eq (ni e (hf.un (om)) ho (hf.val ho) hA.1 hA.2) rfl;refine ⟨by simp,fun rest k hkk=>?_⟩;obtain ⟨k,rfl⟩:∃ j,k=j+2:=⟨k - 2,by simp at hkk; omega⟩
  have hl:aO xJ=xJ:=by decide +kernel
  have hr:=hk (.inl e) us Ak rest k (by simp at hkk; omega);simp [nW,CP,ah,ht,hl,hr]
 rw [Ca e] at hts;obtain ⟨us,Ak,rfl⟩:=hts;have ho:t.lab.2.2.1=0:=oh fun ho=>absurd (hf.op ho).1 (om);have hA:=hf.ab (om);have ht:gL.mk (11,[],0,[],0,0) t.kids=t:=mk_eq (ni e (hf.un (om)) ho (hf.val ho) hA.1 hA.2) rfl;refine ⟨by simp,fun rest k hkk=>?_⟩;obtain ⟨k,rfl⟩:∃ j,k=j+2:=⟨k - 2,by simp at hkk; omega⟩
 have hl:aO Qk=Qk:=by decide +kernel
 have hr:=hk (.inr e) us Ak rest k (by simp at hkk; omega);simp [nW,CP,ah,ht,hl,hr]
end Go.Proofs.YtdapgmigogpdcaaGreatDoor.Se
namespace Go.Proofs.YtdapgmigogpdcaaGreatDoor.Se
open Go Go.iT jN BI tO Tk Rp Qu Me
theorem Kb {r:Rd} (h:VZ r=true):r=[]∨∃ q,r=bl::q∨r=sg 44::q∨r=clT::q:=by
 match r,h with
 | [],_=>exact .inl rfl
 | t::q,h =>
  simp only [VZ,dY,dJ] at h
  rcases h with rfl | rfl | rfl
  ·exact .inr ⟨q,.inl rfl⟩
  ·exact .inr ⟨q,.inr (.inl rfl)⟩
  exact .inr ⟨q,.inr (.inr rfl)⟩
theorem vJ {r:Rd} (h:xh r=true):r=[]∨∃ q,r=sg 44::q∨r=clT::q:=by
 match r,h with
 | [],_=>exact .inl rfl
 | t::q,h =>
  simp only [xh,dY,dJ] at h
  rcases h with rfl | rfl
  ·exact .inr ⟨q,.inl rfl⟩
  exact .inr ⟨q,.inr rfl⟩
theorem aex {r:Rd} (h:xh r=true):VZ r=true:=by
 rcases vJ h with rfl | ⟨q,rfl | rfl⟩
 ·rfl
 ·rfl
 rfl
theorem Mt {r:Rd} (h:VZ r=true) (k:Nat):nW k r=(Zn,false,r):=by
 cases k with
 | zero=>rw [nW]
 | succ k =>
  rcases Kb h with rfl | ⟨q,rfl | rfl | rfl⟩
  all_goals simp [nW,ah]
theorem yF {r:Rd} (h:xh r=true):bF r=(false,r):=by
 rcases vJ h with rfl | ⟨q,rfl | rfl⟩
 all_goals simp [bF,wJ]
def X6 (t:Tok):Prop:=wJ t=false∧t.1≠0∧(t.2.1≠[62]∧t.2.1≠[43]∧t.2.1≠[126]∧t.2.1≠[44]∧t.2.1≠[41])
theorem X5 {n:List UInt8} (h:eB n=true):X6 (wd n):=by
 have key:∀ w,eB w=false→n≠w:=fun w hw e=>by rw [e,hw] at h; cases h
 exact ⟨rfl,(by show (1:Int)≠0; decide),key _ (by decide +kernel),key _ (by decide +kernel),key _ (by decide +kernel),key _ (by decide +kernel),key _ (by decide +kernel)⟩
theorem R3 {t:Ts} {i:Int} (hi:yh t i=true) {ts:List Tok} (h:RB t ts):∃ x q,ts=x::q∧X6 x:=by
 rw [lD] at h;rw [lW,aH] at hi;have hf:=nk hi.1;have h58:X6 (sg 58):=⟨rfl,by decide,by decide,by decide,by decide,by decide,by decide⟩
 rcases kinds hf with e | e | e | e | e | e | e | e | e | e | e
 ·rw [Ox e] at h; subst h; exact ⟨_,_,rfl,rfl,by decide,by decide,by decide,by decide,by decide,by decide⟩
 ·rw [Ow e] at h; subst h; exact ⟨_,_,rfl,X5 (hf.name (om) (om))⟩
 ·rw [Ov e] at h; subst h; exact ⟨_,_,rfl,rfl,(by show (4:Int)≠0; decide),by simp,by simp,by simp,by simp,by simp⟩
 ·rw [Ou e] at h; subst h; exact ⟨_,_,rfl,rfl,by decide,by decide,by decide,by decide,by decide,by decide⟩
 ·rw [JC e] at h
  split at h
  ·subst h; exact ⟨_,_,rfl,rfl,by decide,by decide,by decide,by decide,by decide,by decide⟩
  subst h; exact ⟨_,_,rfl,rfl,by decide,by decide,by decide,by decide,by decide,by decide⟩
 ·rw [JB e] at h; subst h; exact ⟨_,_,rfl,h58⟩
 ·rw [JA e] at h; subst h; exact ⟨_,_,rfl,h58⟩
 ·rw [Jz e] at h; obtain ⟨us,-,rfl⟩:=h; exact ⟨_,_,rfl,h58⟩
 ·rw [Jy e] at h; obtain ⟨us,-,rfl⟩:=h; exact ⟨_,_,rfl,h58⟩
 ·rw [Cb e] at h; obtain ⟨us,-,rfl⟩:=h; exact ⟨_,_,rfl,h58⟩
 rw [Ca e] at h; obtain ⟨us,-,rfl⟩:=h; exact ⟨_,_,rfl,h58⟩
theorem Cc {s:List Ts} (hne:s≠[]) {k:Int} (ho:ok1 s k=true) {ts:List Tok} (h:Lx s ts):∃ x q,ts=x::q∧X6 x:=by
 match s,hne with
 | t::s,_ =>
  rw [ok1,aH] at ho;rw [Lx] at h;obtain ⟨a,b,ha,-,rfl⟩:=h;obtain ⟨x,q,rfl,hx⟩:=R3 ho.1 ha;exact ⟨x,q++b,rfl,hx⟩
theorem K6 {x:Tok} {q:Rd} (h:X6 x):bF (x::q)=(false,x::q):=by
 simp [bF,h.1]
theorem IP {x:Tok} {q:Rd} (h:X6 x):bF (bl::x::q)=(true,x::q):=by
 have:wJ bl=true:=rfl;simp [bF,h.1,this]; omega
theorem xS:∀ {s:List Ts} {k0:Int},(∀ t ∈ s,LF t)→ok1 s k0=true→∀ ts,Lx s ts→∀ rest,VZ rest=true→∀ k,8 * ts.length+3≤k→rP k (ts++rest)=(s,rest)
 | [],_,_,_,ts,h,rest,hr,k,hk=>by
  rw [Lx] at h; subst h;obtain ⟨k,rfl⟩:∃ j,k=j+1:=⟨k - 1,om⟩;rw [jV,rP,Mt hr]; rfl
 | t::s,k0,hO,ho,ts,h,rest,hr,k,hk=>by
  rw [ok1,aH] at ho;rw [Lx] at h;obtain ⟨a,b,ha,hb,rfl⟩:=h;obtain ⟨h1,h2⟩:=hO t (cz ..) _ ho.1 a ha;obtain ⟨k,rfl⟩:∃ j,k=j+1:=⟨k - 1,om⟩;rw [bD] at hk;have ih:=xS (fun y hy=>hO y (dK _ hy)) ho.2 b hb rest hr k (om);rw [dM,rP,h2 (b++rest) k (om),bB rfl,ih]
theorem y9 {p:List (List Ts)} {js:List Int} {b:List Tok} (h:LP p js b) {rest:Rd} (hr:xh rest=true):VZ (b++rest)=true:=by
 match p,h with
 | [],h=>rw [LP] at h; subst h; exact aex hr
 | s::p,h =>
  rw [LP] at h;obtain ⟨a,c,-,-,rfl⟩:=h;unfold Ia
  split <;> rfl
theorem J4:∀ {p:List (List Ts)} {js:List Int},(∀ s ∈ p,∀ t ∈ s,LF t)→uk p=true→(∀ z ∈ js,zw z=true)→p.length=js.length→∀ ts,LP p js ts→∀ rest,xh rest=true→∀ k,8 * ts.length+4≤k→qX k (ts++rest)=(p,js,rest)
 | [],[],_,_,_,_,ts,h,rest,hr,k,hk=>by
  rw [LP] at h; subst h;obtain ⟨k,rfl⟩:∃ j,k=j+1:=⟨k - 1,om⟩;rw [jV,qX,yF hr]
  rcases vJ hr with rfl | ⟨q,rfl | rfl⟩
  all_goals simp [ah]
 | s::p,z::js,hO,ho,hj,hl,ts,h,rest,hr,k,hk=>by
  rw [uk,aH,aH] at ho;obtain ⟨ho1,ho2,ho3⟩:=ho
  have hne:s≠[]:=fun e=>by rw [e] at ho2; cases ho2
  rw [LP] at h;obtain ⟨a,b,ha,hb,rfl⟩:=h;have hb:LP p js b:=hb;obtain ⟨x,q,hxa,hx⟩:=Cc hne ho1 ha;obtain ⟨k,rfl⟩:∃ j,k=j+1:=⟨k - 1,om⟩
  have hjl:1≤(Ia z).length:=by unfold Ia; split <;> simp
  simp only [bD] at hk;have hk:8 * ((Ia z).length+(a.length+b.length))+4≤k+1:=hk;have hs:=xS (hO s (cz ..)) ho1 a ha (b++rest) (y9 hb hr) k (om);have ih:=J4 (fun y hy=>hO y (dK _ hy)) ho3 (fun y hy=>hj y (dK _ hy)) (by simpa using hl) b hb rest hr k (om)
  have e:(Ia z++(a++b))++rest=Ia z++(x::(q++(b++rest))):=by rw [hxa]; simp
  have e2:x::(q++(b++rest))=a++(b++rest):=by rw [hxa]; simp
  show qX (k+1) ((Ia z++(a++b))++rest)=_;rw [e];obtain ⟨h1,h2,h3,h4,h5,h6,h7⟩:=hx;have hx:X6 x:=⟨h1,h2,h3,h4,h5,h6,h7⟩;have hgb:=IP (q:=q++(b++rest)) hx
  rcases H_ (hj z (cz ..)) with rfl | rfl | rfl | rfl
  ·show qX (k+1) (bl::x::(q++(b++rest)))=_;have hpk:ah (x::(q++(b++rest)))=(x,x::(q++(b++rest))):=rfl
   have hs:rP k (x::(q++(b++rest)))=(s,b++rest):=by rw [e2]; exact hs
   simp [qX,hgb,ah,hs,ih,h2,h3,h4,h5,h6,h7]
  ·show qX (k+1) (bl::sg 62::bl::x::(q++(b++rest)))=_
   have hg:bF (bl::sg 62::bl::x::(q++(b++rest)))=(true,sg 62::bl::x::(q++(b++rest))):=by simp [bF,wJ]; omega
   rw [qX,hg];simp only [ah,Eg,gm];rw [hgb,e2,hs,ih];simp
  ·show qX (k+1) (bl::sg 43::bl::x::(q++(b++rest)))=_
   have hg:bF (bl::sg 43::bl::x::(q++(b++rest)))=(true,sg 43::bl::x::(q++(b++rest))):=by simp [bF,wJ]; omega
   rw [qX,hg];simp only [ah,Eg,gm];rw [hgb,e2,hs,ih];simp
  show qX (k+1) (bl::sg 126::bl::x::(q++(b++rest)))=_
  have hg:bF (bl::sg 126::bl::x::(q++(b++rest)))=(true,sg 126::bl::x::(q++(b++rest))):=by simp [bF,wJ]; omega
  rw [qX,hg];simp only [ah,Eg,gm];rw [hgb,e2,hs,ih];simp
theorem J5 {p:List (List Ts)} {js:List Int} (hO:∀ s ∈ p,∀ t ∈ s,LF t) (ho:uk p=true) (hne:p≠[]) (hj:∀ z ∈ js,zw z=true) (hl:js.length+1=p.length) (ts:List Tok) (h:Jo p js ts) (rest:Rd) (hr:xh rest=true) (k:Nat) (hk:8 * ts.length+5≤k):Ew k (ts++rest)=((p,js),rest):=by
 match p,hne with
 | s::p,_ =>
  rw [uk,aH,aH] at ho;obtain ⟨ho1,ho2,ho3⟩:=ho;rw [Jo] at h;obtain ⟨a,b,ha,hb,rfl⟩:=h;obtain ⟨k,rfl⟩:∃ j,k=j+1:=⟨k - 1,om⟩;rw [bD] at hk;have hs:=xS (hO s (cz ..)) ho1 a ha (b++rest) (y9 hb hr) k (om);have ih:=J4 (fun y hy=>hO y (dK _ hy)) ho3 hj (by simpa using hl.symm) b hb rest hr k (om);rw [dM,Ew,hs,ih]
theorem xQ {p:List (List Ts)} {js:List Int} (hne:p≠[]) (ho:uk p=true) {ts:List Tok} (h:Jo p js ts):∃ x q,ts=x::q∧X6 x:=by
 match p,hne with
 | s::p,_ =>
  rw [uk,aH,aH] at ho
  have hs:s≠[]:=fun e=>by have:=ho.2.1; rw [e] at this; cases this
  rw [Jo] at h;obtain ⟨a,b,ha,-,rfl⟩:=h;obtain ⟨x,q,rfl,hx⟩:=Cc hs ho.1 ha;exact ⟨x,q++b,rfl,hx⟩
theorem Om {l:List Ph} {b:List Tok} (h:Lv l b) {fin:Rd} (hf:xh fin=true):xh (b++fin)=true:=by
 match l,h with
 | [],h=>rw [Lv] at h; subst h; exact hf
 | (p,js)::l,h=>rw [Lv] at h; obtain ⟨a,c,-,-,rfl⟩:=h; rfl
def Y9 (e:List UInt8) (fin rest:Rd):Prop:=e=[]∧fin=[]∧rest=[]∨e=[41]∧fin=clT::rest
theorem Dj:∀ {l:List Ph} {p:List (List Ts)} {js:List Int},(∀ q ∈ (p,js)::l,∀ s ∈ q.1,∀ t ∈ s,LF t)→rV ((p,js)::l)=true→∀ a b,Jo p js a→Lv l b→∀ e fin rest,Y9 e fin rest→∀ r,(bF r).2=a++(b++fin)→∀ k,8 * (a.length+b.length)+8≤k→Dk k r e=((p,js)::l,rest)
 | l,p,js,hO,ho,a,b,ha,hb,e,fin,rest,hF,r,hg,k,hk=>by
  obtain ⟨⟨q1,q2⟩,q3,q4⟩:=kI ho (cz ..);obtain ⟨k,rfl⟩:∃ j,k=j+1:=⟨k - 1,om⟩
  have hfin:xh fin=true:=by rcases hF with ⟨-,rfl,-⟩ | ⟨-,rfl⟩ <;> rfl
  have hend:=Om hb hfin;have hp:=J5 (hO (p,js) (cz ..)) q3 q1 (fun z hz=>l7.1 q4 z hz) q2 a ha (b++fin) hend k (om);have hg2:=yF hend;rw [Dk,hg,hp];simp only [hg2]
  match l,hb,ho,hO with
  | [],hb,_,_ =>
   rw [Lv] at hb; subst hb
   rcases hF with ⟨rfl,rfl,rfl⟩ | ⟨rfl,rfl⟩
   ·simp [ah]
   simp [ah]
  | (p',js')::l,hb,ho,hO =>
   rw [Lv] at hb;obtain ⟨a',b',ha',hb',rfl⟩:=hb;have ho3:=ho;rw [kJ,aH,aH,aH] at ho3;have ho4:=ho3.2.2.2;obtain ⟨⟨r1,r2⟩,r3,r4⟩:=kI ho4 (cz ..);obtain ⟨x,q,hxa,hx⟩:=xQ r1 r3 ha'
   have e2:sg 44::bl::(a'++b')++fin=sg 44::bl::(a'++(b'++fin)):=by simp
   simp only [di,bD] at hk
   have ih:=Dj (l:=l) (p:=p') (js:=js') (fun y hy=>hO y (dK _ hy)) ho4 a' b' ha' hb' e fin rest hF (bl::(a'++(b'++fin))) (by
    rw [hxa,iP,IP hx]) k (om)
   rw [e2];simp only [ah,Eg,gm];rw [ih];simp
theorem zk:∀ t:Ts,LF t:=gL.ind fun x l ih i hi=>by
 refine Ta hi (fun hk us Ak rest k hkk=>?_);have hi':=hi;rw [lW,aH] at hi'
 have e:(((gL.mk x l).lab.1==10)||((gL.mk x l).lab.1==11))=true:=by
  rcases hk with h | h
  ·rw [h]; rfl
  rw [h]; rfl
 have h2:=hi'.2;rw [bB e] at h2;simp only [nV,aH] at h2
 have hl0:l≠[]:=fun e=>by
  have:=df h2.2;rw [show (gL.mk x l).kids=l from rfl,e] at this;simp at this
 show Dk k (us++clT::rest) [41]=(l,rest);have Ak:Rj l us:=Ak;have ho:rV l=true:=h2.1
 match l,hl0,ih,Ak,ho with
 | (p,js)::l,_,ih,Ak,ho =>
  rw [Rj] at Ak;obtain ⟨a,b,ha,hb,rfl⟩:=Ak;obtain ⟨⟨r1,r2⟩,r3,r4⟩:=kI ho (cz ..);obtain ⟨y,q,hya,hy⟩:=xQ r1 r3 ha;rw [bD] at hkk;exact Dj ih ho a b ha hb [41] (clT::rest) rest (.inr ⟨rfl,rfl⟩) _ (by rw [hya,dM,iP,K6 hy]) k (om)
end Go.Proofs.YtdapgmigogpdcaaGreatDoor.Se
