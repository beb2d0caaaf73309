/- selector: what its reader reads, plain. -/
import Derived.Test.YtdapgmigogpdcaaGreatDoorSya
import Derived.Lib.AtoiAll
import Derived.Lib.ItoaLen
namespace Go.Proofs.YtdapgmigogpdcaaGreatDoor.Se
open Go Go.iQ jL BF tF Tk Rp Qu Me
set_option linter.unusedVariables false
def vI (s:List UInt8):Int:=match Lib.atoiAll s with | .ok v=>v | _=>0
def mf (s:List UInt8):Int×Int×Bool:=(vI (s.takeWhile fun c=>!(c==110)),vI ((s.dropWhile fun c=>!(c==110)).drop 1),true)
def Le:Rd→List UInt8×Rd
 | []=>([],[])
 | t::r=>if (t.2.1==[41])=true then ([],r) else (t.2.1++(Le r).1,(Le r).2)
def mg (r:Rd) (k:Int):Ts×Rd:=(.mk (k,[],0,[],(mf (Le r).1).1,(mf (Le r).1).2.1) [],(Le r).2)
def Yt:Ts:=.mk (0,[],0,[],0,0) []
mutual
def nW:Nat→Rd→Ts×Bool×Rd
 | 0,r=>(Yt,false,r)
 | k+1,r =>
  if ((ah r).1.2.1==[42])=true then (.mk (1,[],0,[],0,0) [],true,r.drop 1)
  else if ((ah r).1.1==1)=true then (.mk (2,aJ (ah r).1.2.2.1,0,[],0,0) [],true,r.drop 1)
  else if ((ah r).1.1==4)=true then (.mk (3,(ah r).1.2.2.1,0,[],0,0) [],true,r.drop 1)
  else if ((ah r).1.2.1==[46])=true then (.mk (4,(ah (r.drop 1)).1.2.2.1,0,[],0,0) [],true,r.drop 2)
  else if ((ah r).1.2.1==[91])=true then ((mX (r.drop 1)).1,true,(mX (r.drop 1)).2)
  else if ((ah r).1.2.1==[58])=true then ((CJ k (r.drop 1)).1,true,(CJ k (r.drop 1)).2)
  else (Yt,false,r)
def CJ:Nat→Rd→Ts×Rd
 | 0,r=>(Yt,r)
 | k+1,r =>
  if ((ah r).1.1==1)=true then (if (aJ (ah r).1.2.2.1==sP)=true then .mk (6,[],0,[],0,0) [] else if (aJ (ah r).1.2.2.1==nR)=true then .mk (7,[],0,[],0,0) [] else Yt,r.drop 1)
  else if (aJ (ah r).1.2.2.1==Nl)=true then mg (r.drop 1) 8
  else if (aJ (ah r).1.2.2.1==Nk)=true then mg (r.drop 1) 9
  else if (aJ (ah r).1.2.2.1==xB)=true then (.mk (10,[],0,[],0,0) (De k (r.drop 1) [41]).1,(De k (r.drop 1) [41]).2)
  else (.mk (11,[],0,[],0,0) (De k (r.drop 1) [41]).1,(De k (r.drop 1) [41]).2)
def rJ:Nat→Rd→List Ts×Rd
 | 0,r=>([],r)
 | k+1,r=>if (nW k r).2.1=true then ((nW k r).1::(rJ k (nW k r).2.2).1,(rJ k (nW k r).2.2).2) else ([],(nW k r).2.2)
def qU:Nat→Rd→List (List Ts)×List Int×Rd
 | 0,r=>([],[],r)
 | k+1,r =>
  if (((ah (bD r).2).1.2.1==[62])||(((ah (bD r).2).1.2.1==[43])||((ah (bD r).2).1.2.1==[126])))=true then
   ((rJ k (bD ((bD r).2.drop 1)).2).1::(qU k (rJ k (bD ((bD r).2.drop 1)).2).2).1,(((ah (bD r).2).1.2.1.getD 0 0).toNat:Int)::(qU k (rJ k (bD ((bD r).2.drop 1)).2).2).2.1,(qU k (rJ k (bD ((bD r).2.drop 1)).2).2).2.2)
  else if ((bD r).1&&(((ah (bD r).2).1.1 != 0)&&(!((ah (bD r).2).1.2.1==[44])&&!((ah (bD r).2).1.2.1==[41]))))=true then
   ((rJ k (bD r).2).1::(qU k (rJ k (bD r).2).2).1,32::(qU k (rJ k (bD r).2).2).2.1,(qU k (rJ k (bD r).2).2).2.2)
  else ([],[],(bD r).2)
def Eo:Nat→Rd→Ph×Rd
 | 0,r=>(([],[]),r)
 | k+1,r=>(((rJ k r).1::(qU k (rJ k r).2).1,(qU k (rJ k r).2).2.1),(qU k (rJ k r).2).2.2)
def De:Nat→Rd→List UInt8→List Ph×Rd
 | 0,r,_=>([],r)
 | k+1,r,e =>
  if ((ah (bD (Eo k (bD r).2).2).2).1.2.1==[44])=true then
   ((Eo k (bD r).2).1::(De k ((bD (Eo k (bD r).2).2).2.drop 1) e).1,(De k ((bD (Eo k (bD r).2).2).2.drop 1) e).2)
  else ([(Eo k (bD r).2).1],if (e==[])=true then (bD (Eo k (bD r).2).2).2 else (bD (Eo k (bD r).2).2).2.drop 1)
end
theorem run_read {u:List UInt8} {us:List Tok} (h:RunT u us) (rest:Rd):Le (us++clT::rest)=(u,rest):=by
 obtain ⟨rfl,h2⟩:=h
 induction us with
 | nil=>rfl
 | cons t us ih =>
  have ht:=(h2 t (cO ..)).2
  rw [iM,Le,aQ (by simpa using ht),ih (fun y hy=>h2 y (dS _ hy))]
  simp
theorem mk_eq {t:Ts} {x:Lb} {l:List Ph} (h1:t.lab=x) (h2:t.kids=l):gL.mk x l=t:=by
 obtain ⟨y,k⟩:=t
 rw [show x=y from h1.symm,show l=k from h2.symm]
theorem ng {t:Ts} {k a b:Int} {n v:List UInt8} {o:Int} (h1:t.lab.1=k) (h2:t.lab.2.1=n) (h3:t.lab.2.2.1=o) (h4:t.lab.2.2.2.1=v) (h5:t.lab.2.2.2.2.1=a) (h6:t.lab.2.2.2.2.2=b):t.lab=(k,n,o,v,a,b):=by
 obtain ⟨⟨x1,x2,x3,x4,x5,x6⟩,l⟩:=t
 simp only [gL.lab] at *
 rw [h1,h2,h3,h4,h5,h6]
def Va:Rd→Bool
 | []=>true
 | t::_=>t==bl||(t==sg 44||t==clT)
def wY:Rd→Bool
 | []=>true
 | t::_=>t==sg 44||t==clT
theorem xK {p:UInt8→Bool} {b:UInt8} (hb:p b=false):∀ (x r:List UInt8),(∀ c ∈ x,p c=true)→(x++b::r).takeWhile p=x∧(x++b::r).dropWhile p=b::r
 | [],r,_=>by rw [jS,List.takeWhile_cons_of_neg (by rw [hb]; simp),Eb (by rw [hb]; simp)]; exact ⟨rfl,rfl⟩
 | c::x,r,h=>by
  have ih:=xK hb x r (fun y hy=>h y (dS _ hy))
  have hc:=h c (cO ..)
  rw [iM,List.takeWhile_cons_of_pos hc,List.dropWhile_cons_of_pos hc,ih.1,ih.2]
  exact ⟨rfl,rfl⟩
theorem Us (u:Nat):∀ c ∈ Lib.decDigits u,(!(c==110))=true:=by
 induction u using Nat.strongRecOn with
 | _ u ih =>
  have dig:∀ n:Nat,n<10→(!(UInt8.ofNat (48+n)==110))=true:=fun n hn=>by
   have:∀ k:Fin 10,(!(UInt8.ofNat (48+k.val)==110))=true:=by decide +kernel
   exact this ⟨n,hn⟩
  intro c hc
  rw [Lib.decDigits] at hc
  split at hc
  ·rw [il] at hc; subst hc; exact dig u (om)
  rcases lh.1 hc with hc | hc
  ·exact ih (u / 10) (om) c hc
  rw [il] at hc; subst hc; exact dig (u % 10) (om)
theorem vo (n:Int):∀ c ∈ Lib.itoa n,(!(c==110))=true:=by
 intro c hc
 unfold Lib.itoa at hc
 split at hc
 ·rcases eG.1 hc with rfl | hc
  ·decide
  exact Us _ c hc
 exact Us _ c hc
def alH:Prop:=∀ n:Int,-1000≤n∧n≤1000→vI (Lib.itoa n)=n∧(0≤n→vI (43::Lib.itoa n)=n)
theorem Nn:alH:=fun n h=>by
 have:∀ k:Fin 2001,vI (Lib.itoa ((k.val:Int) - 1000))=(k.val:Int) - 1000∧(0≤(k.val:Int) - 1000→vI (43::Lib.itoa ((k.val:Int) - 1000))=(k.val:Int) - 1000):=by decide +kernel
 have:=this ⟨(n+1000).toNat,om⟩
 rw [show (((⟨(n+1000).toNat,om⟩:Fin 2001).val:Int) - 1000)=n by show (((n+1000).toNat:Nat):Int) - 1000=n; omega] at this
 exact this
theorem Bb {a b:Int} (ha : -1000≤a∧a≤1000) (hb : -1000≤b∧b≤1000):mf (lW a b)=(a,b,true):=by
 unfold mf lW
 by_cases h:b<0
 ·rw [bn h]
  obtain ⟨e1,e2⟩:=xK (p:=fun c=>!(c==110)) (b:=110) (by decide) (Lib.itoa a) (Lib.itoa b) (vo a)
  rw [e1,e2,(Nn a ha).1,List.drop_one,List.tail_cons,(Nn b hb).1]
 rw [aQ h]
 obtain ⟨e1,e2⟩:=xK (p:=fun c=>!(c==110)) (b:=110) (by decide) (Lib.itoa a) (43::Lib.itoa b) (vo a)
 rw [e1,e2,(Nn a ha).1,List.drop_one,List.tail_cons,(Nn b hb).2 (om)]
def KW (t:Ts):Prop:=∀ i,xZ t i=true→∀ ts,QI t ts→1≤ts.length∧∀ rest k,8 * ts.length+1≤k→nW k (ts++rest)=(t,true,rest)
theorem lN {t:Ts} {i:Int} (h:xZ t i=true) (h5:t.lab.1≠5) (h8:¬ (t.lab.1=8∨t.lab.1=9)) (hk:¬ (t.lab.1=10∨t.lab.1=11)):gL.mk (t.lab.1,t.lab.2.1,0,[],0,0) []=t:=by
 rw [lU,aG] at h
 have hf:=ni h.1
 have h2:=h.2
 rw [aQ (by simpa using hk)] at h2
 have ho:t.lab.2.2.1=0:=oh fun ho=>h5 (hf.op ho).1
 exact mk_eq (ng rfl rfl ho (hf.val ho) (hf.ab h8).1 (hf.ab h8).2) (iL (by have:=eq_of_beq h2; omega))
theorem RL {t:Ts} {i:Int} (hi:xZ t i=true)
  (hk:t.lab.1=10∨t.lab.1=11→∀ us,Qs t.kids us→∀ rest k,8 * us.length+8≤k→De k (us++clT::rest) [41]=(t.kids,rest)) :
  ∀ ts,QI t ts→1≤ts.length∧∀ rest k,8 * ts.length+1≤k→nW k (ts++rest)=(t,true,rest):=by
 intro ts hts
 rw [lu] at hts
 have hi':=hi
 rw [lU,aG] at hi'
 have hf:=ni hi'.1
 obtain ⟨hab,-,-⟩:=G9 hi'.1
 have n0:2≤t.lab.1→t.lab.1≤5→t.lab.2.1≠[42]:=fun a b e=>by
  have:=hf.name a b
  rw [e] at this
  exact absurd this (by decide +kernel)
 rcases kinds hf with e | e | e | e | e | e | e | e | e | e | e
 ·rw [NG e] at hts; subst hts
  have ht:=lN hi (om) (om) (om)
  rw [e,hf.un (om)] at ht
  refine ⟨fK _,fun rest k hkk=>?_⟩
  obtain ⟨k,rfl⟩:∃ j,k=j+1:=⟨k - 1,om⟩
  simp [nW,ah,ht]
 ·rw [NF e] at hts; subst hts
  have ht:=lN hi (om) (om) (om)
  rw [e] at ht
  refine ⟨fK _,fun rest k hkk=>?_⟩
  obtain ⟨k,rfl⟩:∃ j,k=j+1:=⟨k - 1,om⟩
  simp [nW,ah,ht,n0 (om) (om),hf.low (.inl e)]
 ·rw [NC e] at hts; subst hts
  have ht:=lN hi (om) (om) (om)
  rw [e] at ht
  refine ⟨fK _,fun rest k hkk=>?_⟩
  obtain ⟨k,rfl⟩:∃ j,k=j+1:=⟨k - 1,om⟩
  simp [nW,ah,ht]
 ·rw [NB e] at hts; subst hts
  have ht:=lN hi (om) (om) (om)
  rw [e] at ht
  refine ⟨by simp,fun rest k hkk=>?_⟩
  obtain ⟨k,rfl⟩:∃ j,k=j+1:=⟨k - 1,om⟩
  simp [nW,ah,ht]
 ·rw [Ja e] at hts
  have h2:=hi'.2
  rw [aQ (by rw [e]; decide)] at h2
  have zy:t.kids=[]:=iL (by have:=eq_of_beq h2; omega)
  have hA:=hf.ab (om)
  by_cases h0:(t.lab.2.2.1==0)=true
  ·rw [bn h0] at hts; subst hts
   have ho:t.lab.2.2.1=0:=eq_of_beq h0
   have ht:gL.mk (5,t.lab.2.1,0,[],0,0) []=t:=mk_eq (ng e rfl ho (hf.val ho) hA.1 hA.2) zy
   refine ⟨by simp,fun rest k hkk=>?_⟩
   obtain ⟨k,rfl⟩:∃ j,k=j+1:=⟨k - 1,om⟩
   simp [nW,ah,mX,ht]
  rw [aQ h0] at hts; subst hts
  have hz:=Gm (hf.op (by simpa using h0)).2
  have ht:gL.mk (5,t.lab.2.1,t.lab.2.2.1,t.lab.2.2.2.1,0,0) []=t:=mk_eq (ng e rfl rfl rfl hA.1 hA.2) zy
  refine ⟨by simp,fun rest k hkk=>?_⟩
  obtain ⟨k,rfl⟩:∃ j,k=j+1:=⟨k - 1,om⟩
  rcases hz with hz | hz | hz | hz | hz | hz
  all_goals (rw [hz] at ht ⊢; simp [nW,ah,mX,RJ,oq,ht])
 ·rw [I_ e] at hts; subst hts
  have ht:=lN hi (om) (om) (om)
  rw [e,hf.un (om)] at ht
  refine ⟨by simp,fun rest k hkk=>?_⟩
  obtain ⟨k,rfl⟩:∃ j,k=j+2:=⟨k - 2,by simp at hkk; omega⟩
  have hl:aJ sP=sP:=by decide +kernel
  simp [nW,CJ,ah,ht,hl]
 ·rw [I9 e] at hts; subst hts
  have ht:=lN hi (om) (om) (om)
  rw [e,hf.un (om)] at ht
  refine ⟨by simp,fun rest k hkk=>?_⟩
  obtain ⟨k,rfl⟩:∃ j,k=j+2:=⟨k - 2,by simp at hkk; omega⟩
  have hl:aJ nR=nR:=by decide +kernel
  simp [nW,CJ,ah,ht,hl]
 ·rw [I8 e] at hts
  obtain ⟨us,Af,rfl⟩:=hts
  have h2:=hi'.2
  rw [aQ (by rw [e]; decide)] at h2
  have zy:t.kids=[]:=iL (by have:=eq_of_beq h2; omega)
  have ho:t.lab.2.2.1=0:=oh fun ho=>absurd (hf.op ho).1 (om)
  have ht:gL.mk (8,[],0,[],t.lab.2.2.2.2.1,t.lab.2.2.2.2.2) []=t:=mk_eq (ng e (hf.un (om)) ho (hf.val ho) rfl rfl) zy
  refine ⟨by simp,fun rest k hkk=>?_⟩
  obtain ⟨k,rfl⟩:∃ j,k=j+2:=⟨k - 2,by simp at hkk; omega⟩
  have hl:aJ Nl=Nl:=by decide +kernel
  have hr:=run_read Af rest
  have hv:=Bb hab.1 hab.2
  simp [nW,CJ,ah,ht,hl,mg,hr,hv]
 ·rw [I7 e] at hts
  obtain ⟨us,Af,rfl⟩:=hts
  have h2:=hi'.2
  rw [aQ (by rw [e]; decide)] at h2
  have zy:t.kids=[]:=iL (by have:=eq_of_beq h2; omega)
  have ho:t.lab.2.2.1=0:=oh fun ho=>absurd (hf.op ho).1 (om)
  have ht:gL.mk (9,[],0,[],t.lab.2.2.2.2.1,t.lab.2.2.2.2.2) []=t:=mk_eq (ng e (hf.un (om)) ho (hf.val ho) rfl rfl) zy
  refine ⟨by simp,fun rest k hkk=>?_⟩
  obtain ⟨k,rfl⟩:∃ j,k=j+2:=⟨k - 2,by simp at hkk; omega⟩
  have hl:aJ Nk=Nk:=by decide +kernel
  have hr:=run_read Af rest
  have hv:=Bb hab.1 hab.2
  simp [nW,CJ,ah,ht,hl,mg,hr,hv]
 ·rw [BV e] at hts
  obtain ⟨us,Af,rfl⟩:=hts
  have ho:t.lab.2.2.1=0:=oh fun ho=>absurd (hf.op ho).1 (om)
  have hA:=hf.ab (om)
  have ht:gL.mk (10,[],0,[],0,0) t.kids=t:=mk_eq (ng e (hf.un (om)) ho (hf.val ho) hA.1 hA.2) rfl
  refine ⟨by simp,fun rest k hkk=>?_⟩
  obtain ⟨k,rfl⟩:∃ j,k=j+2:=⟨k - 2,by simp at hkk; omega⟩
  have hl:aJ xB=xB:=by decide +kernel
  have hr:=hk (.inl e) us Af rest k (by simp at hkk; omega)
  simp [nW,CJ,ah,ht,hl,hr]
 rw [BU e] at hts
 obtain ⟨us,Af,rfl⟩:=hts
 have ho:t.lab.2.2.1=0:=oh fun ho=>absurd (hf.op ho).1 (om)
 have hA:=hf.ab (om)
 have ht:gL.mk (11,[],0,[],0,0) t.kids=t:=mk_eq (ng e (hf.un (om)) ho (hf.val ho) hA.1 hA.2) rfl
 refine ⟨by simp,fun rest k hkk=>?_⟩
 obtain ⟨k,rfl⟩:∃ j,k=j+2:=⟨k - 2,by simp at hkk; omega⟩
 have hl:aJ Po=Po:=by decide +kernel
 have hr:=hk (.inr e) us Af rest k (by simp at hkk; omega)
 simp [nW,CJ,ah,ht,hl,hr]
end Go.Proofs.YtdapgmigogpdcaaGreatDoor.Se
namespace Go.Proofs.YtdapgmigogpdcaaGreatDoor.Se
open Go Go.iQ jL BF tF Tk Rp Qu Me
set_option linter.unusedVariables false
theorem JF {r:Rd} (h:Va r=true):r=[]∨∃ q,r=bl::q∨r=sg 44::q∨r=clT::q:=by
 match r,h with
 | [],_=>exact .inl rfl
 | t::q,h =>
  simp only [Va,dU,dI] at h
  rcases h with rfl | rfl | rfl
  ·exact .inr ⟨q,.inl rfl⟩
  ·exact .inr ⟨q,.inr (.inl rfl)⟩
  exact .inr ⟨q,.inr (.inr rfl)⟩
theorem vC {r:Rd} (h:wY r=true):r=[]∨∃ q,r=sg 44::q∨r=clT::q:=by
 match r,h with
 | [],_=>exact .inl rfl
 | t::q,h =>
  simp only [wY,dU,dI] at h
  rcases h with rfl | rfl
  ·exact .inr ⟨q,.inl rfl⟩
  exact .inr ⟨q,.inr rfl⟩
theorem adv {r:Rd} (h:wY r=true):Va r=true:=by
 rcases vC h with rfl | ⟨q,rfl | rfl⟩
 ·rfl
 ·rfl
 rfl
theorem LB {r:Rd} (h:Va r=true) (k:Nat):nW k r=(Yt,false,r):=by
 cases k with
 | zero=>rw [nW]
 | succ k =>
  rcases JF h with rfl | ⟨q,rfl | rfl | rfl⟩
  all_goals simp [nW,ah]
theorem yx {r:Rd} (h:wY r=true):bD r=(false,r):=by
 rcases vC h with rfl | ⟨q,rfl | rfl⟩
 all_goals simp [bD,wE]
def W_ (t:Tok):Prop:=wE t=false∧t.1≠0∧(t.2.1≠[62]∧t.2.1≠[43]∧t.2.1≠[126]∧t.2.1≠[44]∧t.2.1≠[41])
theorem W9 {n:List UInt8} (h:eu n=true):W_ (wd n):=by
 have key:∀ w,eu w=false→n≠w:=fun w hw e=>by rw [e,hw] at h; cases h
 exact ⟨rfl,(by show (1:Int)≠0; decide),key _ (by decide +kernel),key _ (by decide +kernel),key _ (by decide +kernel),key _ (by decide +kernel),key _ (by decide +kernel)⟩
theorem QX {t:Ts} {i:Int} (hi:xZ t i=true) {ts:List Tok} (h:QI t ts):∃ x q,ts=x::q∧W_ x:=by
 rw [lu] at h
 rw [lU,aG] at hi
 have hf:=ni hi.1
 have h58:W_ (sg 58):=⟨rfl,by decide,by decide,by decide,by decide,by decide,by decide⟩
 rcases kinds hf with e | e | e | e | e | e | e | e | e | e | e
 ·rw [NG e] at h; subst h; exact ⟨_,_,rfl,rfl,by decide,by decide,by decide,by decide,by decide,by decide⟩
 ·rw [NF e] at h; subst h; exact ⟨_,_,rfl,W9 (hf.name (om) (om))⟩
 ·rw [NC e] at h; subst h; exact ⟨_,_,rfl,rfl,(by show (4:Int)≠0; decide),by simp,by simp,by simp,by simp,by simp⟩
 ·rw [NB e] at h; subst h; exact ⟨_,_,rfl,rfl,by decide,by decide,by decide,by decide,by decide,by decide⟩
 ·rw [Ja e] at h
  split at h
  ·subst h; exact ⟨_,_,rfl,rfl,by decide,by decide,by decide,by decide,by decide,by decide⟩
  subst h; exact ⟨_,_,rfl,rfl,by decide,by decide,by decide,by decide,by decide,by decide⟩
 ·rw [I_ e] at h; subst h; exact ⟨_,_,rfl,h58⟩
 ·rw [I9 e] at h; subst h; exact ⟨_,_,rfl,h58⟩
 ·rw [I8 e] at h; obtain ⟨us,-,rfl⟩:=h; exact ⟨_,_,rfl,h58⟩
 ·rw [I7 e] at h; obtain ⟨us,-,rfl⟩:=h; exact ⟨_,_,rfl,h58⟩
 ·rw [BV e] at h; obtain ⟨us,-,rfl⟩:=h; exact ⟨_,_,rfl,h58⟩
 rw [BU e] at h; obtain ⟨us,-,rfl⟩:=h; exact ⟨_,_,rfl,h58⟩
theorem BX {s:List Ts} (hne:s≠[]) {k:Int} (ho:ok1 s k=true) {ts:List Tok} (h:KP s ts):∃ x q,ts=x::q∧W_ x:=by
 match s,hne with
 | t::s,_ =>
  rw [ok1,aG] at ho
  rw [KP] at h
  obtain ⟨a,b,ha,-,rfl⟩:=h
  obtain ⟨x,q,rfl,hx⟩:=QX ho.1 ha
  exact ⟨x,q++b,rfl,hx⟩
theorem Ko {x:Tok} {q:Rd} (h:W_ x):bD (x::q)=(false,x::q):=by
 simp [bD,h.1]
theorem Ih {x:Tok} {q:Rd} (h:W_ x):bD (bl::x::q)=(true,x::q):=by
 have:wE bl=true:=rfl
 simp [bD,h.1,this]; omega
theorem xL:∀ {s:List Ts} {k0:Int},(∀ t ∈ s,KW t)→ok1 s k0=true→∀ ts,KP s ts→∀ rest,Va rest=true→∀ k,8 * ts.length+3≤k→rJ k (ts++rest)=(s,rest)
 | [],_,_,_,ts,h,rest,hr,k,hk=>by
  rw [KP] at h; subst h
  obtain ⟨k,rfl⟩:∃ j,k=j+1:=⟨k - 1,om⟩
  rw [jS,rJ,LB hr]; rfl
 | t::s,k0,hO,ho,ts,h,rest,hr,k,hk=>by
  rw [ok1,aG] at ho
  rw [KP] at h
  obtain ⟨a,b,ha,hb,rfl⟩:=h
  obtain ⟨h1,h2⟩:=hO t (cO ..) _ ho.1 a ha
  obtain ⟨k,rfl⟩:∃ j,k=j+1:=⟨k - 1,om⟩
  rw [bC] at hk
  have ih:=xL (fun y hy=>hO y (dS _ hy)) ho.2 b hb rest hr k (om)
  rw [dL,rJ,h2 (b++rest) k (om),bn rfl,ih]
theorem yY {p:List (List Ts)} {js:List Int} {b:List Tok} (h:K6 p js b) {rest:Rd} (hr:wY rest=true):Va (b++rest)=true:=by
 match p,h with
 | [],h=>rw [K6] at h; subst h; exact adv hr
 | s::p,h =>
  rw [K6] at h
  obtain ⟨a,c,-,-,rfl⟩:=h
  unfold He
  split <;> rfl
theorem Jw:∀ {p:List (List Ts)} {js:List Int},(∀ s ∈ p,∀ t ∈ s,KW t)→t_ p=true→(∀ z ∈ js,zn z=true)→p.length=js.length→∀ ts,K6 p js ts→∀ rest,wY rest=true→∀ k,8 * ts.length+4≤k→qU k (ts++rest)=(p,js,rest)
 | [],[],_,_,_,_,ts,h,rest,hr,k,hk=>by
  rw [K6] at h; subst h
  obtain ⟨k,rfl⟩:∃ j,k=j+1:=⟨k - 1,om⟩
  rw [jS,qU,yx hr]
  rcases vC hr with rfl | ⟨q,rfl | rfl⟩
  all_goals simp [ah]
 | s::p,z::js,hO,ho,hj,hl,ts,h,rest,hr,k,hk=>by
  rw [t_,aG,aG] at ho
  obtain ⟨ho1,ho2,ho3⟩:=ho
  have hne:s≠[]:=fun e=>by rw [e] at ho2; cases ho2
  rw [K6] at h
  obtain ⟨a,b,ha,hb,rfl⟩:=h
  have hb:K6 p js b:=hb
  obtain ⟨x,q,hxa,hx⟩:=BX hne ho1 ha
  obtain ⟨k,rfl⟩:∃ j,k=j+1:=⟨k - 1,om⟩
  have hjl:1≤(He z).length:=by unfold He; split <;> simp
  simp only [bC] at hk
  have hk:8 * ((He z).length+(a.length+b.length))+4≤k+1:=hk
  have hs:=xL (hO s (cO ..)) ho1 a ha (b++rest) (yY hb hr) k (om)
  have ih:=Jw (fun y hy=>hO y (dS _ hy)) ho3 (fun y hy=>hj y (dS _ hy)) (by simpa using hl) b hb rest hr k (om)
  have e:(He z++(a++b))++rest=He z++(x::(q++(b++rest))):=by rw [hxa]; simp
  have e2:x::(q++(b++rest))=a++(b++rest):=by rw [hxa]; simp
  show qU (k+1) ((He z++(a++b))++rest)=_
  rw [e]
  obtain ⟨h1,h2,h3,h4,h5,h6,h7⟩:=hx
  have hx:W_ x:=⟨h1,h2,h3,h4,h5,h6,h7⟩
  have hgb:=Ih (q:=q++(b++rest)) hx
  rcases Hd (hj z (cO ..)) with rfl | rfl | rfl | rfl
  ·show qU (k+1) (bl::x::(q++(b++rest)))=_
   have hpk:ah (x::(q++(b++rest)))=(x,x::(q++(b++rest))):=rfl
   have hs:rJ k (x::(q++(b++rest)))=(s,b++rest):=by rw [e2]; exact hs
   simp [qU,hgb,ah,hs,ih,h2,h3,h4,h5,h6,h7]
  ·show qU (k+1) (bl::sg 62::bl::x::(q++(b++rest)))=_
   have hg:bD (bl::sg 62::bl::x::(q++(b++rest)))=(true,sg 62::bl::x::(q++(b++rest))):=by simp [bD,wE]; omega
   rw [qU,hg]
   simp only [ah,Ea,iG]
   rw [hgb,e2,hs,ih]
   simp
  ·show qU (k+1) (bl::sg 43::bl::x::(q++(b++rest)))=_
   have hg:bD (bl::sg 43::bl::x::(q++(b++rest)))=(true,sg 43::bl::x::(q++(b++rest))):=by simp [bD,wE]; omega
   rw [qU,hg]
   simp only [ah,Ea,iG]
   rw [hgb,e2,hs,ih]
   simp
  show qU (k+1) (bl::sg 126::bl::x::(q++(b++rest)))=_
  have hg:bD (bl::sg 126::bl::x::(q++(b++rest)))=(true,sg 126::bl::x::(q++(b++rest))):=by simp [bD,wE]; omega
  rw [qU,hg]
  simp only [ah,Ea,iG]
  rw [hgb,e2,hs,ih]
  simp
theorem Jy {p:List (List Ts)} {js:List Int} (hO:∀ s ∈ p,∀ t ∈ s,KW t) (ho:t_ p=true) (hne:p≠[]) (hj:∀ z ∈ js,zn z=true) (hl:js.length+1=p.length) (ts:List Tok) (h:IU p js ts) (rest:Rd) (hr:wY rest=true) (k:Nat) (hk:8 * ts.length+5≤k):Eo k (ts++rest)=((p,js),rest):=by
 match p,hne with
 | s::p,_ =>
  rw [t_,aG,aG] at ho
  obtain ⟨ho1,ho2,ho3⟩:=ho
  rw [IU] at h
  obtain ⟨a,b,ha,hb,rfl⟩:=h
  obtain ⟨k,rfl⟩:∃ j,k=j+1:=⟨k - 1,om⟩
  rw [bC] at hk
  have hs:=xL (hO s (cO ..)) ho1 a ha (b++rest) (yY hb hr) k (om)
  have ih:=Jw (fun y hy=>hO y (dS _ hy)) ho3 hj (by simpa using hl.symm) b hb rest hr k (om)
  rw [dL,Eo,hs,ih]
theorem xJ {p:List (List Ts)} {js:List Int} (hne:p≠[]) (ho:t_ p=true) {ts:List Tok} (h:IU p js ts):∃ x q,ts=x::q∧W_ x:=by
 match p,hne with
 | s::p,_ =>
  rw [t_,aG,aG] at ho
  have hs:s≠[]:=fun e=>by have:=ho.2.1; rw [e] at this; cases this
  rw [IU] at h
  obtain ⟨a,b,ha,-,rfl⟩:=h
  obtain ⟨x,q,rfl,hx⟩:=BX hs ho.1 ha
  exact ⟨x,q++b,rfl,hx⟩
theorem Nw {l:List Ph} {b:List Tok} (h:KO l b) {fin:Rd} (hf:wY fin=true):wY (b++fin)=true:=by
 match l,h with
 | [],h=>rw [KO] at h; subst h; exact hf
 | (p,js)::l,h=>rw [KO] at h; obtain ⟨a,c,-,-,rfl⟩:=h; rfl
def Yf (e:List UInt8) (fin rest:Rd):Prop:=e=[]∧fin=[]∧rest=[]∨e=[41]∧fin=clT::rest
theorem Db:∀ {l:List Ph} {p:List (List Ts)} {js:List Int},(∀ q ∈ (p,js)::l,∀ s ∈ q.1,∀ t ∈ s,KW t)→tZ ((p,js)::l)=true→∀ a b,IU p js a→KO l b→∀ e fin rest,Yf e fin rest→∀ r,(bD r).2=a++(b++fin)→∀ k,8 * (a.length+b.length)+8≤k→De k r e=((p,js)::l,rest)
 | l,p,js,hO,ho,a,b,ha,hb,e,fin,rest,hF,r,hg,k,hk=>by
  obtain ⟨⟨q1,q2⟩,q3,q4⟩:=kV ho (cO ..)
  obtain ⟨k,rfl⟩:∃ j,k=j+1:=⟨k - 1,om⟩
  have hfin:wY fin=true:=by rcases hF with ⟨-,rfl,-⟩ | ⟨-,rfl⟩ <;> rfl
  have hend:=Nw hb hfin
  have hp:=Jy (hO (p,js) (cO ..)) q3 q1 (fun z hz=>l5.1 q4 z hz) q2 a ha (b++fin) hend k (om)
  have hg2:=yx hend
  rw [De,hg,hp]
  simp only [hg2]
  match l,hb,ho,hO with
  | [],hb,_,_ =>
   rw [KO] at hb; subst hb
   rcases hF with ⟨rfl,rfl,rfl⟩ | ⟨rfl,rfl⟩
   ·simp [ah]
   simp [ah]
  | (p',js')::l,hb,ho,hO =>
   rw [KO] at hb
   obtain ⟨a',b',ha',hb',rfl⟩:=hb
   have ho3:=ho
   rw [mE,aG,aG,aG] at ho3
   have ho4:=ho3.2.2.2
   obtain ⟨⟨r1,r2⟩,r3,r4⟩:=kV ho4 (cO ..)
   obtain ⟨x,q,hxa,hx⟩:=xJ r1 r3 ha'
   have e2:sg 44::bl::(a'++b')++fin=sg 44::bl::(a'++(b'++fin)):=by simp
   simp only [cK,bC] at hk
   have ih:=Db (l:=l) (p:=p') (js:=js') (fun y hy=>hO y (dS _ hy)) ho4 a' b' ha' hb' e fin rest hF (bl::(a'++(b'++fin))) (by
    rw [hxa,iM,Ih hx]) k (om)
   rw [e2]
   simp only [ah,Ea,iG]
   rw [ih]
   simp
theorem zf:∀ t:Ts,KW t:=gL.ind fun x l ih i hi=>by
 refine RL hi (fun hk us Af rest k hkk=>?_)
 have hi':=hi
 rw [lU,aG] at hi'
 have e:(((gL.mk x l).lab.1==10)||((gL.mk x l).lab.1==11))=true:=by
  rcases hk with h | h
  ·rw [h]; rfl
  rw [h]; rfl
 have h2:=hi'.2
 rw [bn e] at h2
 simp only [nV,aG] at h2
 have hl0:l≠[]:=fun e=>by
  have:=dn h2.2
  rw [show (gL.mk x l).kids=l from rfl,e] at this
  simp at this
 show De k (us++clT::rest) [41]=(l,rest)
 have Af:Qs l us:=Af
 have ho:tZ l=true:=h2.1
 match l,hl0,ih,Af,ho with
 | (p,js)::l,_,ih,Af,ho =>
  rw [Qs] at Af
  obtain ⟨a,b,ha,hb,rfl⟩:=Af
  obtain ⟨⟨r1,r2⟩,r3,r4⟩:=kV ho (cO ..)
  obtain ⟨y,q,hya,hy⟩:=xJ r1 r3 ha
  rw [bC] at hkk
  exact Db ih ho a b ha hb [41] (clT::rest) rest (.inr ⟨rfl,rfl⟩) _ (by rw [hya,dL,iM,Ko hy]) k (om)
end Go.Proofs.YtdapgmigogpdcaaGreatDoor.Se
