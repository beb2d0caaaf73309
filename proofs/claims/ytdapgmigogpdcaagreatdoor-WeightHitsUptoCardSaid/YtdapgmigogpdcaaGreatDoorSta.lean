/- selector: the text of paths. -/
import Derived.Test.YtdapgmigogpdcaaGreatDoorSeh
import Derived.Test.YtdapgmigogpdcaaGreatDoorMta
import Derived.Test.YtdapgmigogpdcaaGreatDoorQud
import Derived.Test.YtdapgmigogpdcaaGreatDoorTrd
import Derived.Test.YtdapgmigogpdcaaGreatDoorSfa
import Derived.Test.YtdapgmigogpdcaaGreatDoorBlw
set_option linter.unusedSimpArgs false
set_option linter.unusedVariables false
namespace Go.Proofs.YtdapgmigogpdcaaGreatDoor.Se
open Go Go.iT Go.RowKit jN BI tO Tk Ti Me Rp Qu
def lY (a b:Int):Bs:=if b<0 then Lib.itoa a++110::Lib.itoa b else Lib.itoa a++110::43::Lib.itoa b
def oq (z:Int):UInt8:=UInt8.ofNat z.toNat
def Jm (z:Int):Bs:=if (z==32)=true then [32] else [32,oq z,32]
def Rt (z:Int):Bs:=if (z==61)=true then [] else [oq z]
def kL (x:Lb) (s:Bs):Bs :=
 if (x.1==1)=true then [42] else if (x.1==2)=true then x.2.1 else if (x.1==3)=true then 35::x.2.1 else if (x.1==4)=true then 46::x.2.1
 else if (x.1==5)=true then (if (x.2.2.1==0)=true then 91::(x.2.1++[93]) else 91::(x.2.1++(Rt x.2.2.1++61::(Er x.2.2.2.1++[93]))))
 else if (x.1==6)=true then [58,114,111,111,116] else if (x.1==7)=true then [58,101,109,112,116,121]
 else if (x.1==8)=true then [58,110,116,104,45,99,104,105,108,100,40]++(lY x.2.2.2.2.1 x.2.2.2.2.2++[41])
 else if (x.1==9)=true then [58,110,116,104,45,108,97,115,116,45,99,104,105,108,100,40]++(lY x.2.2.2.2.1 x.2.2.2.2.2++[41])
 else if (x.1==10)=true then [58,110,111,116,40]++(s++[41]) else [58,105,115,40]++(s++[41])
mutual
def Jl:Ts→Bs
 | .mk x l=>kL x (tx3 l)
def tx3:List Ph→Bs
 | []=>[]
 | (p,js)::l=>BS p js++tr3 l
def tr3:List Ph→Bs
 | []=>[]
 | (p,js)::l=>44::32::(BS p js++tr3 l)
def BS:List (List Ts)→List Int→Bs
 | [],_=>[]
 | s::p,js=>tx1 s++tr2 p js
def tr2:List (List Ts)→List Int→Bs
 | [],_=>[]
 | s::p,js=>Jm (js.headD 0)++(tx1 s++tr2 p js.tail)
def tx1:List Ts→Bs
 | []=>[]
 | t::s=>Jl t++tx1 s
end
theorem LW (t:Ts):Jl t=kL t.lab (tx3 t.kids):=by obtain ⟨x,l⟩:=t; rw [Jl]; rfl
def nthT (t:Ts):Bs:=lY t.lab.2.2.2.2.1 t.lab.2.2.2.2.2
def Ae (t:Ts):Prop:=(-1000≤t.lab.2.2.2.2.1∧t.lab.2.2.2.2.1≤1000)∧(-1000≤t.lab.2.2.2.2.2∧t.lab.2.2.2.2.2≤1000)
theorem vF {x:Int} (h : -1000≤x∧x≤1000):QU x∧(Lib.itoa x).length≤1002:=by
 have:=MN x;exact ⟨⟨om,om⟩,om⟩
theorem G5 {t:Ts} (h:Ae t):(nthT t).length≤2006:=by
 obtain ⟨h1,h2⟩:=vF h.1;obtain ⟨h3,h4⟩:=vF h.2;unfold nthT lY
 split <;> simp only [bD,di] <;> omega
theorem H7 {t:Ts} {i:Int} (h:AJ t.lab i=true):(Ae t)∧(1≤t.lab.1∧t.lab.1≤11):=by
 unfold AJ at h;simp only [aH,dC] at h;obtain ⟨h0,-,-,h3⟩:=h;unfold l0 at h0;simp only [dB,eP] at h0;refine ⟨?_,om,om⟩;unfold l3 at h3;unfold Ae;generalize t.lab.2.2.2.2.1=a at *;generalize t.lab.2.2.2.2.2=b at *
 have key:((decide ((if b<a then b else a)<(-1000)))||(decide ((if a<b then b else a)>1000)))=false:=by
  split at h3
  ·simp only [dB] at h3 ⊢; exact h3.2.2
  exact h3
 simp only [dB,eP] at key;obtain ⟨k1,k2⟩:=key
 split at k1 <;> split at k2 <;> omega
theorem aby {i:Nat}:∀ {s:List Ts} {k:Int},ok1 s k=true→i<s.length→yh (s.getD i default) (k+i)=true:=by
 induction i with
 | zero =>
  intro s k h hi
  match s,h with
  | t::s,h =>
   rw [ok1,aH] at h;simpa using h.1
 | succ i ih =>
  intro s k h hi
  match s,h with
  | t::s,h =>
   rw [ok1,aH] at h;have:=ih h.2 (by simpa using hi);rw [show k+((i+1:Nat):Int)=k+1+(i:Int) by omega];simpa using this
theorem rW {s:List Ts}:∀ {p:List (List Ts)},uk p=true→s ∈ p→ok1 s 0=true
 | y::p,h,hs=>by
  rw [uk,aH,aH] at h
  rcases eO.1 hs with rfl | hs
  ·exact h.1
  exact rW h.2.2 hs
theorem kI {q:Ph}:∀ {l:List Ph},rV l=true→q ∈ l→(q.1≠[]∧q.2.length+1=q.1.length)∧uk q.1=true∧q.2.all zw=true
 | y::l,h,hs=>by
  rw [kJ] at h;simp only [aH,dC,dB,dX] at h
  rcases eO.1 hs with rfl | hs
  ·obtain ⟨⟨h1,h2⟩,h3,h4,h5⟩:=h
   have h2:(q.2.length:Int)=(q.1.length:Int) - 1:=by simpa using h2
   refine ⟨⟨fun e=>?_,om⟩,h3,h4⟩;rw [e] at h1; exact h1 rfl
  exact kI h.2.2.2 hs
theorem TN (t:Ts) (s:Bs) (h:Ae t):(kL t.lab s).length≤400 * (6+t.lab.2.1.length+t.lab.2.2.2.1.length)+s.length:=by
 have h1:=G5 h;have h2:=oK t.lab.2.2.2.1;unfold nthT at h1
 have h3:(Rt t.lab.2.2.1).length≤1:=by unfold Rt; split <;> simp
 have h4:(Er t.lab.2.2.2.1).length≤2 * t.lab.2.2.2.1.length+2:=by unfold Er; simp; omega
 unfold kL
 repeat' split
 all_goals try simp only [bD,di,jW]
 all_goals omega
theorem XM (z:Int):(Jm z).length≤3:=by unfold Jm; split <;> simp
def Rk (t:Ts):Prop:=∀ i,yh t i=true→(Jl t).length≤400 * bT t
theorem F_:∀ {s:List Ts} {k:Int} (h:∀ t ∈ s,Rk t) (hk:ok1 s k=true),(tx1 s).length≤400 * w1 s
 | [],_,_,_=>by rw [tx1,w1]; simp
 | t::s,k,h,hk=>by
  rw [ok1,aH] at hk;have h1:=h t (cz ..) k hk.1;have h2:=F_ (fun y hy=>h y (dK _ hy)) hk.2;rw [tx1,w1,bD]; omega
theorem Oo:∀ {p:List (List Ts)} {js:List Int} (h:∀ s ∈ p,∀ t ∈ s,Rk t) (hk:uk p=true),(tr2 p js).length≤400 * w2 p
 | [],_,_,_=>by rw [tr2,w2]; simp
 | s::p,js,h,hk=>by
  have h1:=F_ (h s (cz ..)) (rW hk (cz ..));rw [uk,aH,aH] at hk;have h2:=Oo (js:=js.tail) (fun y hy=>h y (dK _ hy)) hk.2.2;have h3:=XM (js.headD 0);rw [tr2,w2,bD,bD]; omega
theorem F9 {p:List (List Ts)} {js:List Int} (h:∀ s ∈ p,∀ t ∈ s,Rk t) (hk:uk p=true):(BS p js).length≤400 * w2 p:=by
 match p,h,hk with
 | [],_,_=>rw [BS,w2]; simp
 | s::p,h,hk =>
  have h1:=F_ (h s (cz ..)) (rW hk (cz ..));rw [uk,aH,aH] at hk;have h2:=Oo (js:=js) (fun y hy=>h y (dK _ hy)) hk.2.2;rw [BS,w2,bD]; omega
theorem Ol:∀ {l:List Ph} (h:∀ q ∈ l,∀ s ∈ q.1,∀ t ∈ s,Rk t) (hk:rV l=true),(tr3 l).length≤400 * w3 l
 | [],_,_=>by rw [tr3,w3]; simp
 | (p,js)::l,h,hk=>by
  have h0:=(kI hk (cz ..)).2.1;have h1:(BS p js).length≤400 * w2 p:=F9 (js:=js) (h (p,js) (cz ..)) h0;rw [kJ,aH,aH,aH] at hk;have h2:=Ol (fun y hy=>h y (dK _ hy)) hk.2.2.2;rw [tr3,w3,di,di,bD];show _≤400 * (w2 p+js.length+2+w3 l);omega
theorem F8 {l:List Ph} (h:∀ q ∈ l,∀ s ∈ q.1,∀ t ∈ s,Rk t) (hk:rV l=true):(tx3 l).length≤400 * w3 l:=by
 match l,h,hk with
 | [],_,_=>rw [tx3,w3]; simp
 | (p,js)::l,h,hk =>
  have h0:=(kI hk (cz ..)).2.1;have h1:(BS p js).length≤400 * w2 p:=F9 (js:=js) (h (p,js) (cz ..)) h0;rw [kJ,aH,aH,aH] at hk;have h2:=Ol (fun y hy=>h y (dK _ hy)) hk.2.2.2;rw [tx3,w3,bD];show _≤400 * (w2 p+js.length+2+w3 l);omega
theorem aap:∀ t:Ts,Rk t:=gL.ind fun x l ih i hi=>by
 rw [lW,aH] at hi;obtain ⟨hl,hs⟩:=hi;have h1:=TN (.mk x l) (tx3 l) (H7 hl).1;rw [VK,mO,Jl]
 have h2:(tx3 l).length≤400 * w3 l:=by
  split at hs
  ·simp only [nV,aH] at hs;exact F8 ih hs.1
  have:l=[]:=by
   have:(l.length:Int)=0:=eq_of_beq hs;exact iO om
  subst this;rw [tx3]; simp
 show (kL x (tx3 l)).length≤_;have h3:(kL x (tx3 l)).length≤400 * (6+x.2.1.length+x.2.2.2.1.length)+(tx3 l).length:=h1;omega
def JE (N:Nat) (t:Ts):Prop:=bT t<N∧bT t≤1048600∧okB t∧∃ i,yh t i=true
def JD (N:Nat) (l:List Ph):Prop:=b3 l<N∧b3 l≤1048600∧QF l∧rV l=true
theorem Wt {N:Nat} {l:List Ph} (h:JD (N+1) l) {q:Ph} (hq:q ∈ l) {s:List Ts} (hs:s ∈ q.1) {i:Nat} (hi:i<s.length):JE N (s.getD i default):=by
 obtain ⟨a,b,c,d⟩:=h;have ht:=jR (l:=s) default hi;obtain ⟨h1,h2,h3⟩:=O4 (N:=N) ⟨a,b,c⟩ hq hs ht 0;exact ⟨h1,h2,h3,_,aby (rW (kI d hq).2.1 hs) hi⟩
theorem Qp {N:Nat} {t:Ts} (h:JE (N+1) t) (hk:t.lab.1=10∨t.lab.1=11):JD N t.kids:=by
 obtain ⟨a,b,c,i,d⟩:=h;obtain ⟨h1,h2,h3⟩:=ER (N:=N) (i:=i) ⟨a,b,c⟩;rw [lW,aH] at d;refine ⟨h1,h2,h3,?_⟩
 have e:((t.lab.1==10)||(t.lab.1==11))=true:=by
  rcases hk with h | h <;> rw [h] <;> rfl
 have:=d.2;rw [bB e] at this;simp only [nV,aH] at this;exact this.1
theorem Oe (l:List Ph):Lib.join (l.map fun q=>BS q.1 q.2) [44,32]=tx3 l:=by
 cases l with
 | nil=>rw [tx3]; rfl
 | cons q l =>
  obtain ⟨p,js⟩:=q;rw [jL,Lib.join_cons,tx3];congr 1
  induction l with
  | nil=>rw [tr3]; rfl
  | cons q l ih =>
   obtain ⟨p,js⟩:=q;rw [tr3,← ih];simp [Lib.joinTail]
end Go.Proofs.YtdapgmigogpdcaaGreatDoor.Se
namespace Go.Proofs.YtdapgmigogpdcaaGreatDoor.tO
open Go Go.iT jN BI
theorem yD (c:UInt8) (r:List UInt8):(c::r).getD (Int.toNat 0) 0=c:=rfl
theorem pY {c d:UInt8} {r p:List UInt8} (h:(c==d)=false):kH (c::r) (d::p)=false:=by
 unfold kH rQ;simp only [di,dR,List.take_succ_cons];rw [fF];right;simp only [List.cons_beq_cons,h,iw]
theorem JI {d:UInt8} {p:List UInt8}:kH [] (d::p)=false:=by
 unfold kH rQ;rw [fF];left;simp
theorem JH {d:UInt8} {p:List UInt8}:kH (d::p) [d]=true:=by
 unfold kH rQ;rw [aH];refine ⟨by simp; omega,?_⟩;show ((d::p).take (Int.toNat ((1:Nat):Int))==[d])=true;simp
theorem ow {c:UInt8} {r cut:List UInt8} (h:cut.contains c=false):m_ (c::r) cut=c::r:=by
 unfold m_;rw [Eh (by rw [h]; simp)]
def QW (c:UInt8):Bool:=!(([32,9,10,12,13,47,39,34,35,64]:List UInt8).contains c)
theorem qB {c d:UInt8} (h:(c==d)=false):((c.toNat:Int)==(d.toNat:Int))=false:=by
 simp only [dX,gp] at h ⊢;intro e;exact h (UInt8.toNat_inj.1 (om))
theorem wy {c:UInt8} (h:QW c=true) {d:UInt8} (hd:d ∈ ([32,9,10,12,13,47,39,34,35,64]:List UInt8)):(c==d)=false:=by
 rw [dX];rintro rfl;unfold QW at h;rw [List.contains_iff_mem.2 hd] at h;cases h
theorem DZ {c:UInt8} {r:List UInt8} (hc:QW c=true) :
  firstM (c::r)=if (decide ((jc (c::r)).2>0))=true then kC (c::r) (jc (c::r)).1 (jc (c::r)).2 else if mM (c::r)=true then mf (c::r) else ji (c::r) c:=by
 have h1:m_ (c::r) ([32,9,10,12,13]:List UInt8)=c::r:=ow (by
  simp only [List.contains_cons,List.contains_nil,nD,wy hc (d:=32) (by decide),wy hc (d:=9) (by decide),wy hc (d:=10) (by decide),wy hc (d:=12) (by decide),wy hc (d:=13) (by decide)])
 have h2:(pV (c::r) ([47,42]:List UInt8)).2=false:=by
  unfold pV ky;rw [pY (wy hc (d:=47) (by decide))]; rfl
 unfold firstM;rw [h1,show w6 (((c::r).length:Int) - ((c::r).length:Int))=0 by rw [Int.sub_self]; rfl,aG (show decide ((0:Int)>0)=false from rfl),h2,aG rfl,yD];have e39:((c.toNat:Int)==39)=false:=qB (wy hc (d:=39) (by decide));have e34:((c.toNat:Int)==34)=false:=qB (wy hc (d:=34) (by decide));have e35:((c.toNat:Int)==35)=false:=qB (wy hc (d:=35) (by decide));have e64:((c.toNat:Int)==64)=false:=qB (wy hc (d:=64) (by decide));rw [e39,e34,aG (show (false||false)=false from rfl)];unfold nz mK;rw [e35,iw,aG rfl];unfold oL sj;rw [e64,iw,aG rfl]
def Yw (c:UInt8):Bool:=([48,49,50,51,52,53,54,55,56,57]:List UInt8).contains c
def ait:List UInt8→Bool
 | []=>true
 | e::_=>!(Yw e)
def ED:List UInt8→Bool
 | []=>true
 | d::u=>!(Yw d)&&(!(d==46)||ait u)
def Ri:List UInt8→List UInt8
 | []=>[]
 | c::r=>if (c==43||c==45)=true then r else c::r
theorem u7 (c:UInt8) (r:List UInt8):Ri (c::r)=if (c==43||c==45)=true then r else c::r:=rfl
def J_ (s:List UInt8):Bool:=ED (Ri s)
theorem Ic {c d:UInt8}:((c.toNat:Int)==(d.toNat:Int))=(c==d):=by
 by_cases h:c=d
 ·subst h; simp
 rw [dX.2 h];exact qB (dX.2 h)
theorem akV {s:List UInt8} (h:ED s=true):bU s=0:=by
 unfold bU
 match s,h with
 | [],_=>rfl
 | d::u,h =>
  rw [ED,aH,dC] at h;rw [ow h.1,Int.sub_self]; rfl
theorem akU {e:UInt8} {u:List UInt8} (h:Yw e=false):bU (e::u)=0:=by
 unfold bU;rw [ow h,Int.sub_self]; rfl
theorem ZB {c:UInt8} {r:List UInt8} (h:J_ (c::r)=true):jc (c::r)=(0,0):=by
 unfold J_ at h
 have v0:oW (c::r)=(c==43||c==45):=by
  unfold oW;rw [yD,show ((c.toNat:Int)==43)=(c==43) from Ic (d:=43),show ((c.toNat:Int)==45)=(c==45) from Ic (d:=45)];rfl
 have hd:(c::r).drop (Int.toNat (aY (c::r)))=Ri (c::r):=by
  unfold aY;rw [v0,u7]
  split <;> rfl
 have v1:aY (c::r)=1∨aY (c::r)=0:=by unfold aY; split <;> simp
 have dg:=akV h
 have w1:w6 (aY (c::r)+0)=aY (c::r):=by rcases v1 with e | e <;> rw [e] <;> rfl
 have v2:numbV2 (c::r)=0:=by
  unfold numbV2;rw [hd,dg,w1,hd];generalize Ri (c::r)=t at h
  match t,h with
  | [],_=>rw [show zC ([]:List UInt8) [46]=false from JI,aG rfl]
  | d::u,h =>
   rw [ED,aH] at h
   by_cases h46:d=46
   ·subst h46;have h2:=h.2;rw [show zC ((46:UInt8)::u) [46]=true from JH,aU rfl];show bU u=0
    match u,h2 with
    | [],_=>rfl
    | e::u,h2=>exact akU (by simpa [ait] using h2)
   rw [show zC (d::u) [46]=false from pY (by simpa using h46),aG rfl]
 unfold jc;rw [hd,dg,v2];rfl
theorem Q5 {c:UInt8} {r:List UInt8} (hc:QW c=true) (hn:J_ (c::r)=true) (hs:dF (c.toNat:Int)=false) (h45:(c==45)=false) (Rx:(c==92)=false) :
  firstM (c::r)=(if (c.toNat=40∨c.toNat=91∨c.toNat=123) then 10 else if (c.toNat=41∨c.toNat=93∨c.toNat=125) then 11 else 12,[c],[],0):=by
 have e92:((c.toNat:Int)==92)=false:=qB (d:=92) Rx;have e45:((c.toNat:Int)==45)=false:=qB (d:=45) h45
 have hb:mM (c::r)=false:=by
  unfold mM;rw [aG (show (c::r==([]:List UInt8))=false from rfl),yD,e45,iw,aG rfl];unfold qc jJ zI;rw [hs,yD,e92]; simp
 rw [DZ hc,ZB hn,aG (show decide ((0:Int)>0)=false from rfl),hb,aG rfl];unfold ji kM oD oC;rw [e92]
 have h5:((((c.toNat:Int)==40)||(((c.toNat:Int)==91)||((c.toNat:Int)==123)))=true)↔(c.toNat=40∨c.toNat=91∨c.toNat=123):=by simp; omega
 have h6:((((c.toNat:Int)==41)||(((c.toNat:Int)==93)||((c.toNat:Int)==125)))=true)↔(c.toNat=41∨c.toNat=93∨c.toNat=125):=by simp; omega
 by_cases a:c.toNat=40∨c.toNat=91∨c.toNat=123
 ·rw [bB (h5.2 a),bB a]; rfl
 rw [aQ (fun h=>a (h5.1 h)),aQ a]
 by_cases b:c.toNat=41∨c.toNat=93∨c.toNat=125
 ·rw [bB (h6.2 b),bB b]; rfl
 rw [aQ (fun h=>b (h6.1 h)),aQ b]; rfl
def Az (c:UInt8):Bool:=kz (c.toNat:Int)
def Wx (c:UInt8):Bool:=dF (c.toNat:Int)
theorem pJ {p:UInt8→Bool} (h:(List.range 256).all (fun n=>p (UInt8.ofNat n))=true) (c:UInt8):p c=true:=by
 have h1:=l7.1 h c.toNat (by simpa using c.toNat_lt);simpa using h1
theorem Sl (c:UInt8):(!(Az c)||(QW c&&!(c==92)&&!(c==46)&&!(c==43)&&!(c==40)&&!(c==37)))=true :=
 pJ (p:=fun c=>(!(Az c)||(QW c&&!(c==92)&&!(c==46)&&!(c==43)&&!(c==40)&&!(c==37)))) (by decide +kernel) c
theorem Sc (c:UInt8):(!(Wx c)||(Az c&&!(Yw c)&&!(c==45)))=true :=
 pJ (p:=fun c=>(!(Wx c)||(Az c&&!(Yw c)&&!(c==45)))) (by decide +kernel) c
theorem EZ {c:UInt8} (h:Az c=true):QW c=true∧(c==92)=false∧(c==46)=false∧(c==43)=false:=by
 have:=Sl c;rw [h] at this;simp only [Bool.not_true,lC,aH,dC] at this;exact ⟨this.1.1.1.1.1,this.1.1.1.1.2,this.1.1.1.2,this.1.1.2⟩
theorem OE {c:UInt8} (h:Wx c=true):Az c=true∧Yw c=false∧(c==45)=false:=by
 have:=Sc c;rw [h] at this;simp only [Bool.not_true,lC,aH,dC] at this;exact ⟨this.1.1,this.1.2,this.2⟩
def vW:List UInt8→Bool
 | []=>true
 | c::_=>!(Az c)&&!(c==92)
def ar4:List UInt8→Bool
 | []=>false
 | d::_=>d==45||Wx d
def EE:List UInt8→Bool
 | []=>false
 | c::v=>Wx c||(c==45&&ar4 v)
def nN (w:List UInt8):Bool:=EE w&&w.all Az
theorem uG {c:UInt8} {r:List UInt8} (h:(c==92)=false):jJ (c::r)=false:=by
 unfold jJ zI;rw [yD,show ((c.toNat:Int)==92)=false from qB (d:=92) h]; simp
theorem CX:∀ (w r:List UInt8) (k:Nat),w.length≤k→w.all Az=true→vW r=true→xE k (w++r)=(w,w.length)
 | [],[],k,_,_,_=>by cases k <;> rfl
 | [],c::r,0,_,_,_=>rfl
 | [],c::r,k+1,_,_,h=>by
  rw [vW,aH,dC,dC] at h;rw [jV,mI k c r (uG h.2),show kz (c.toNat:Int)=false from h.1]; rfl
 | c::w,r,0,h,_,_=>by simp at h
 | c::w,r,k+1,h,hw,hr=>by
  rw [sM,aH] at hw;have ih:=CX w r k (by simp at h; omega) hw.2 hr;rw [iP,mI k c _ (uG (EZ hw.1).2.1),aU (show kz (c.toNat:Int)=true from hw.1),ih]; rfl
theorem QJ {w r:List UInt8} (h:EE w=true):J_ (w++r)=true:=by
 match w,h with
 | c::v,h =>
  rw [EE,dY] at h
  rcases h with h | h
  ·obtain ⟨h1,h2,h3⟩:=OE h;obtain ⟨-,-,h46,h43⟩:=EZ h1;show ED (Ri (c::(v++r)))=true;rw [u7,h43,h3,aQ (by decide),ED,h2,h46]; rfl
  rw [aH] at h
  match v,h with
  | d::u,h =>
   have hc:c=45:=eq_of_beq h.1;subst hc;show ED (Ri ((45:UInt8)::d::(u++r)))=true;rw [u7,bB (by decide),ED];have h2:(d==45||Wx d)=true:=h.2;rw [dY] at h2
   rcases h2 with h2 | h2
   ·rw [eq_of_beq h2]; rfl
   obtain ⟨h1,h3,h4⟩:=OE h2;rw [h3,(EZ h1).2.2.1]; rfl
theorem Tw {w r:List UInt8} (h:EE w=true):mM (w++r)=true:=by
 match w,h with
 | c::v,h =>
  rw [EE,dY] at h;unfold mM;rw [iP,aG (show (c::(v++r)==([]:List UInt8))=false from rfl),yD]
  rcases h with h | h
  ·have e45:((c.toNat:Int)==45)=false:=qB (d:=45) (OE h).2.2;rw [e45,iw,aG rfl];unfold qc;rw [show dF (c.toNat:Int)=true from h]; rfl
  rw [aH] at h
  match v,h with
  | d::u,h =>
   have hc:c=45:=eq_of_beq h.1;subst hc;rw [aU (by simp; omega)];unfold vQ;have h2:(d==45||Wx d)=true:=h.2;show (((d.toNat:Int)==45)||(dF (d.toNat:Int)||_))=true;rw [show ((d.toNat:Int)==45)=(d==45) from Ic (d:=45),← Bool.or_assoc,show (d==45||dF (d.toNat:Int))=true from h2]; rfl
theorem G_ {w r:List UInt8} (h:nN w=true):∃ c v,w=c::v∧QW c=true:=by
 unfold nN at h;rw [aH] at h
 match w,h with
 | c::v,h =>
  have:=h.2;rw [sM,aH] at this;exact ⟨c,v,rfl,(EZ this.1).1⟩
theorem DY {w r:List UInt8} (hl:(w++r).length≤1000) (h:nN w=true) (hr:vW r=true) :
  firstM (w++r)=if zC r ([40]:List UInt8)=true then (2,(w++r).take (w.length+1),w,0) else (1,w,w,0):=by
 obtain ⟨c,v,hw,hc⟩:=G_ (r:=r) h
 have hb:EE w=true:=by unfold nN at h; rw [aH] at h; exact h.1
 have ha:w.all Az=true:=by unfold nN at h; rw [aH] at h; exact h.2
 have hl':w.length+r.length≤1000:=by rw [bD] at hl; exact hl
 have hn:ek (w++r)=(w,(w.length:Int)):=by
  unfold ek;rw [CX w r _ (by simp) ha hr]
 have hN:cZ 1 (w++r) 0=(1,w,w,0):=by
  unfold cZ;rw [show (w++r).drop (Int.toNat 0)=w++r from rfl,hn];simp only;rw [fU (om),Int.zero_add,dR,List.take_left]
 have e1:firstM (w++r)=mf (w++r):=by
  have h1:=QJ (r:=r) hb;have h2:=Tw (r:=r) hb;rw [hw,iP] at h1 h2 ⊢;rw [DZ hc,ZB h1,aG (show decide ((0:Int)>0)=false from rfl),aU h2]
 rw [e1];unfold mf nG kU;rw [hN];simp only;rw [dR,List.drop_left,fU (om)]
 split
 ·rw [show (w.length:Int)+1=((w.length+1:Nat):Int) by omega,dR]
 rfl
def Cj (r:List UInt8):Bool:=vW r&&(match r with | []=>true | c::_=>!(c==40))
theorem NA {w r:List UInt8} (hl:(w++r).length≤1000) (h:nN w=true) (hr:Cj r=true):firstM (w++r)=(1,w,w,0):=by
 unfold Cj at hr;rw [aH] at hr
 have e:zC r ([40]:List UInt8)=false:=by
  match r,hr with
  | [],_=>exact JI
  | c::r,hr=>exact pY (by simpa using hr.2)
 rw [DY hl h hr.1,aG e]
theorem NC {w r:List UInt8} (hl:(w++40::r).length≤1000) (h:nN w=true):firstM (w++40::r)=(2,w++[40],w,0):=by
 rw [DY hl h (by rw [vW]; decide),aU (show zC ((40:UInt8)::r) [40]=true from JH)];congr 2;rw [show w++40::r=(w++[40])++r by simp,List.take_left' (by simp)]
theorem NB {w r:List UInt8} (hl:(35::(w++r)).length≤1000) (hne:w≠[]) (ha:w.all Az=true) (hr:vW r=true):firstM (35::(w++r))=(4,35::w,w,0):=by
 have hl':w.length+r.length+1≤1000:=by simpa using hl
 have h1:m_ (35::(w++r)) ([32,9,10,12,13]:List UInt8)=35::(w++r):=ow (by decide)
 have h2:(pV (35::(w++r)) ([47,42]:List UInt8)).2=false:=by
  unfold pV ky;rw [pY (by decide)]; rfl
 unfold firstM;rw [h1,show w6 (((35::(w++r)).length:Int) - ((35::(w++r)).length:Int))=0 by rw [Int.sub_self]; rfl,aG (show decide ((0:Int)>0)=false from rfl),h2,aG rfl,yD];rw [aG (by decide)]
 have hv:mK (35::(w++r)) 35=true:=by
  unfold mK
  match w,hne with
  | c::v,_ =>
   rw [sM,aH] at ha;rw [aH];refine ⟨by decide,?_⟩;rw [aH];refine ⟨by simp; omega,?_⟩;show (kz (c.toNat:Int)||_)=true;rw [show kz (c.toNat:Int)=true from ha.1]; rfl
 unfold nz;rw [aU hv]
 have hn:ek (w++r)=(w,(w.length:Int)):=by
  unfold ek;rw [CX w r _ (by simp) ha hr]
 unfold cZ;rw [show (35::(w++r)).drop (Int.toNat 1)=w++r from rfl,hn];simp only;rw [fU (om),show (1:Int)+(w.length:Int)=((w.length+1:Nat):Int) by omega,dR,List.take_succ_cons,List.take_left]
theorem K9 {r:List UInt8} (hl:(32::r).length≤1000) (hr:m_ r ([32,9,10,12,13]:List UInt8)=r):firstM (32::r)=(8,[32],[],0):=by
 have h1:m_ (32::r) ([32,9,10,12,13]:List UInt8)=r:=by
  unfold m_ at hr ⊢;rw [List.dropWhile_cons_of_pos (by decide)]; exact hr
 unfold firstM;rw [h1,di,show w6 (((r.length+1:Nat):Int) - (r.length:Int))=1 by rw [fU (by simp at hl; omega)]; omega,aU (show decide ((1:Int)>0)=true from rfl)];rfl
end Go.Proofs.YtdapgmigogpdcaaGreatDoor.tO
namespace Go.Proofs.YtdapgmigogpdcaaGreatDoor.tO
open Go Go.iT jN BI Rp Qu Se Tk
theorem Pd:∀ (k:Nat) (s:List UInt8),s.length≤k→(xE k s).1=s→s.all Az=true
 | _,[],_,_=>rfl
 | 0,c::r,h,_=>by simp at h
 | k+1,c::r,h,he=>by
  by_cases hx:jJ (c::r)=true
  ·have h1:=Br hx
   match r,h1 with
   | d::r',_ =>
    rw [Bg k c d r' hx] at he;have h2:=aA List.length he;have h3:=yn k r';simp only [di] at h2;omega
  have hx:jJ (c::r)=false:=by simpa using hx
  rw [mI k c r hx] at he
  by_cases hs:kz (c.toNat:Int)=true
  ·rw [aU hs] at he
   have h2:(xE k r).1=r:=by
    have:=aA List.tail he;exact this
   rw [sM,aH];exact ⟨hs,Pd k r (by simp at h; omega) h2⟩
  rw [aQ hs] at he;cases he
theorem VG {w:List UInt8} (ha:w.all Az=true) (hb:mM w=true):EE w=true:=by
 match w,ha,hb with
 | [],_,hb=>cases hb
 | c::v,ha,hb =>
  rw [sM,aH] at ha;unfold mM at hb;rw [aG (show (c::v==([]:List UInt8))=false from rfl),yD] at hb;rw [EE,dY]
  by_cases h45:c=45
  ·subst h45
   match v,ha,hb with
   | [],_,hb=>exact absurd hb (by decide)
   | d::u,ha,hb =>
    rw [aU (by simp; omega)] at hb;unfold vQ at hb;have ha2:=ha.2;rw [sM,aH] at ha2;refine .inr ?_;rw [aH];refine ⟨rfl,?_⟩;have e:jJ ((45::d::u:List UInt8).drop (Int.toNat 1))=false:=uG (EZ ha2.1).2.1;rw [e,nD] at hb;have hb:(((d.toNat:Int)==45)||dF (d.toNat:Int))=true:=hb;rw [show ((d.toNat:Int)==45)=(d==45) from Ic (d:=45)] at hb;exact hb
  have e45:((c.toNat:Int)==45)=false:=qB (d:=45) (by simpa using h45);rw [e45,iw,aG rfl] at hb;unfold qc at hb;rw [uG (EZ ha.1).2.1,nD] at hb;exact .inl hb
theorem K8 {w:List UInt8} (h:(firstM w).1=1):mM w=true∧(firstM w).2.2.1=(ek w).1:=by
 unfold firstM at h ⊢
 split at h
 ·exact absurd h (by simp)
 split at h
 ·exact absurd h (by unfold rC; simp)
 split at h
 ·refine absurd h ?_;show (qM w).1≠1;unfold qM Wh;simp only
  split <;> (try split) <;> simp
 rename_i h1 h2 h3
 rw [aQ h1,aQ h2,aQ h3];unfold nz at h ⊢
 split at h
 ·exact absurd h (by unfold cZ; simp)
 rename_i h4
 rw [aQ h4];unfold oL at h ⊢
 split at h
 ·exact absurd h (by unfold cZ; simp)
 rename_i h5
 rw [aQ h5]
 split at h
 ·exact absurd h (by unfold kC ng; simp)
 rename_i h6
 rw [aQ h6]
 split at h
 ·rename_i h7
  rw [bB h7];exact ⟨h7,rfl⟩
 refine absurd h ?_;unfold ji kM
 repeat' split
 all_goals simp
theorem CQ {w:List UInt8} (h:eB w=true):nN w=true:=by
 unfold eB at h
 have key:w≠[]∧(firstM w).1=1∧(firstM w).2.2.1=w:=by
  unfold jd at h
  match w,h with
  | [],h=>cases h
  | c::r,h =>
   rw [show (c::r).length=r.length+1 from rfl,cutN,aQ (by simp)] at h
   split at h
   ·rename_i t he
    have e1:=(xA he).1;rw [e1];simp only [aH,dJ] at h;exact ⟨by simp,h.1.1,h.2⟩
   cases h
 obtain ⟨h1,h2,h3⟩:=key;obtain ⟨h4,h5⟩:=K8 h2
 have ha:w.all Az=true:=Pd w.length w (fP _) (by
  rw [h3] at h5;unfold ek at h5
  exact h5.symm)
 unfold nN;rw [aH];exact ⟨VG ha h4,ha⟩
theorem EO:∀ (v r:List UInt8) (k:Nat),(quoteS v).length<k→xL k 34 (quoteS v++34::r)=(v,(quoteS v).length,0)
 | [],r,k,h=>by
  obtain ⟨k,rfl⟩:∃ j,k=j+1:=⟨k - 1,om⟩;exact Zi k 34 r
 | c::v,r,k,h=>by
  obtain ⟨k,rfl⟩:∃ j,k=j+1:=⟨k - 1,om⟩;rw [quoteS,bD] at h;have ih:=EO v r k;rw [quoteS,dM];unfold rp1 at h ⊢
  by_cases hs:Eu c=true
  ·rw [bB hs] at h ⊢;simp only [di,jW] at h;show xL (k+1) 34 (92::c::(quoteS v++34::r))=_;rw [Zj k 34 92 c _ (by decide) (by decide) rfl,ih (om)];simp only [bD,di,jW];congr 2; omega
  rw [aQ hs] at h ⊢;simp only [di,jW] at h
  have hs:Eu c=false:=by simpa using hs
  unfold Eu at hs;simp only [dB,dX] at hs;show xL (k+1) 34 (c::(quoteS v++34::r))=_;rw [Zk k 34 c _ hs.1.2 hs.1.1 (.inl hs.2),ih (om)];simp only [bD,di,jW];congr 2; omega
theorem Nz {v r:List UInt8}:firstM (Er v++r)=(5,Er v,v,0):=by
 have e:Er v++r=34::(quoteS v++34::r):=by unfold Er; simp
 rw [e];have h1:m_ (34::(quoteS v++34::r)) ([32,9,10,12,13]:List UInt8)=34::(quoteS v++34::r):=ow (by decide)
 have h2:(pV (34::(quoteS v++34::r)) ([47,42]:List UInt8)).2=false:=by
  unfold pV ky;rw [pY (by decide)]; rfl
 unfold firstM;rw [h1,Int.sub_self,aG (show decide (w6 0>0)=false from rfl),h2,aG rfl,yD,aU (by decide)]
 have ht:qM (34::(quoteS v++34::r))=(5,Er v,v,0):=by
  unfold qM;rw [show ((34::(quoteS v++34::r)):List UInt8).getD 0 0=34 from rfl,List.drop_one,List.tail_cons,EO v r _ (by simp; omega)];unfold Wh;rw [bB rfl];congr 2;rw [List.take_succ_cons,show (quoteS v).length+1=(quoteS v++[34]).length by simp,show quoteS v++34::r=(quoteS v++[34])++r by simp,List.take_left];rfl
 rw [ht]
end Go.Proofs.YtdapgmigogpdcaaGreatDoor.tO
namespace Go.Proofs.YtdapgmigogpdcaaGreatDoor.tO
open Go Go.iT jN BI Rp Qu Se Tk
inductive g_:List UInt8→List Tok→Prop
 | nil:g_ [] []
 | cons {w r:List UInt8} {t:Tok} {ts:List Tok} (hw:w≠[]) (h:firstM (w++r)=t) (ht:t.2.1=w) (hr:g_ r ts):g_ (w++r) (t::ts)
theorem Vw {s:List UInt8} {ts:List Tok} (h:g_ s ts):∀ k,s.length≤k→cutN k s=ts:=by
 induction h with
 | nil=>exact fun k _=>by cases k <;> rfl
 | @cons w r t ts hw h ht hr ih =>
  have hl:1≤w.length:=by
   cases w with
   | nil=>exact absurd rfl hw
   | cons _ _=>simp
  intro k hk;rw [bD] at hk
  cases k with
  | zero=>omega
  | succ k =>
   have ih:=ih k (om)
   have hne:w++r≠[]:=by
    cases w with
    | nil=>exact absurd rfl hw
    | cons _ _=>simp
   have e:(w++r).drop (firstM (w++r)).2.1.length=r:=by rw [h,ht,List.drop_left]
   rw [cutN,aQ hne,e,ih,h]
def nX (c:UInt8):Bool:=Yw c||c==110||c==43||c==45
theorem QI (c:UInt8):(!(nX c)||(QW c&&!(c==92)&&!(c==46)&&!(c==40)&&!(c==41)&&!(c==37)&&(Az c||c==43)))=true :=
 pJ (p:=fun c=>(!(nX c)||(QW c&&!(c==92)&&!(c==46)&&!(c==40)&&!(c==41)&&!(c==37)&&(Az c||c==43)))) (by decide +kernel) c
structure asc (c:UInt8):Prop where
 hd:QW c=true
 n92:(c==92)=false
 n46:(c==46)=false
 n40:(c==40)=false
 n41:(c==41)=false
 n37:(c==37)=false
 sg:Az c=true∨c=43
theorem GZ {c:UInt8} (h:nX c=true):asc c:=by
 have:=QI c;rw [h] at this;simp only [Bool.not_true,lC,aH,dC,dY,dJ] at this;obtain ⟨⟨⟨⟨⟨⟨a,b⟩,c⟩,d⟩,e⟩,f⟩,g⟩:=this;exact ⟨a,b,c,d,e,f,g⟩
theorem dw_stop {p:UInt8→Bool} {b:UInt8} (hb:p b=false):∀ (x r:List UInt8),(x++b::r).dropWhile p=x.dropWhile p++b::r
 | [],r=>by rw [jV,Eh (by rw [hb]; simp)]; rfl
 | c::x,r=>by
  rw [iP,List.dropWhile_cons,List.dropWhile_cons]
  split
  ·exact dw_stop hb x r
  rfl
theorem Yq (x r:List UInt8) (hl:(x++41::r).length≤1000):0≤bU (x++41::r)∧bU (x++41::r)≤x.length:=by
 have h1:m_ (x++41::r) ([48,49,50,51,52,53,54,55,56,57]:List UInt8)=x.dropWhile (fun c=>([48,49,50,51,52,53,54,55,56,57]:List UInt8).contains c)++41::r:=dw_stop (by decide) x r;have h2:(x.dropWhile (fun c=>([48,49,50,51,52,53,54,55,56,57]:List UInt8).contains c)).length≤x.length:=(List.dropWhile_sublist _).length_le;simp only [bD,di] at hl;unfold bU;rw [h1,fU (by simp only [bD,di]; omega)];simp only [bD,di];omega
theorem ZE:∀ (x r:List UInt8) (k:Nat),(x.all fun c=>!(c==92))=true→(xE k (x++41::r)).2≤x.length
 | [],r,0,_=>fP _
 | [],r,k+1,_=>by
  rw [jV,mI k 41 r (uG (by decide)),aQ (by decide)]; exact fP _
 | c::x,r,0,_=>ik _
 | c::x,r,k+1,h=>by
  rw [sM,aH,dC] at h;have ih:=ZE x r k h.2;rw [iP,mI k c _ (uG h.1)]
  split
  ·simp only [di]; omega
  simp
theorem Iq {u r:List UInt8} (hu:∀ c ∈ u,nX c=true) (k:Nat) (hk:k≤u.length):∃ d q,(u++41::r).drop k=d::q∧(nX d=true∨d=41):=by
 rw [Jg hk]
 cases h:u.drop k with
 | nil=>exact ⟨41,r,rfl,.inr rfl⟩
 | cons d q=>exact ⟨d,q++41::r,rfl,.inl (hu d (List.mem_of_mem_drop (h ▸ cz ..)))⟩
theorem Dz {d:UInt8} (h:nX d=true∨d=41):(d==46)=false∧(d==40)=false∧(d==37)=false:=by
 rcases h with h | rfl
 ·have:=GZ h;exact ⟨this.n46,this.n40,this.n37⟩
 exact ⟨by decide,by decide,by decide⟩
theorem anp {c:UInt8} {v r:List UInt8} (hu:∀ d ∈ c::v,nX d=true) (hl:((c::v)++41::r).length≤1000) :
  ∃ k t,1≤k∧k≤(c::v).length∧firstM ((c::v)++41::r)=t∧t.2.1=(c::v).take k∧t.1≠0:=by
 have hc:=GZ (hu c (cz ..))
 have Rx:∀ k,(((c::v).drop k).all fun c=>!(c==92))=true:=fun k=>l7.2 fun d hd=>by
  rw [(GZ (hu d (List.mem_of_mem_drop hd))).n92]; rfl
 have hlen:(c::v).length+(r.length+1)≤1000:=by rw [bD] at hl; exact hl
 have tk:∀ k,k≤(c::v).length→((c::v)++41::r).take k=(c::v).take k:=fun k hk=>List.take_append_of_le_length hk;have dr:∀ k,k≤(c::v).length→((c::v)++41::r).drop k=(c::v).drop k++41::r:=fun k hk=>Jg hk
 have hnm:∀ k,k≤(c::v).length→0≤(ek (((c::v)++41::r).drop k)).2∧(ek (((c::v)++41::r).drop k)).2≤((c::v).length - k:Nat):=fun k hk=>by
  rw [dr k hk];unfold ek;have:=ZE ((c::v).drop k) r ((c::v).drop k++41::r).length (Rx k);rw [gJ] at this;simp only;omega
 have M8:=DZ (r:=v++41::r) hc.hd;rw [show c::(v++41::r)=(c::v)++41::r from rfl] at M8
 by_cases acH:decide ((jc ((c::v)++41::r)).2>0)=true
 ·have hn0:=df acH
  have v1:aY ((c::v)++41::r)=1∨aY ((c::v)++41::r)=0:=by unfold aY; split <;> simp
  have key:∃ k:Nat,(jc ((c::v)++41::r)).2=(k:Int)∧k≤(c::v).length:=by
   have hl1:1≤(c::v).length:=by simp
   obtain ⟨j,hj,hjl⟩:∃ j:Nat,aY ((c::v)++41::r)=(j:Int)∧j≤(c::v).length:=by
    rcases v1 with e | e
    ·exact ⟨1,e,hl1⟩
    exact ⟨0,e,ik _⟩
   have hdg:=Yq ((c::v).drop j) r (by rw [← dr j hjl,gJ]; omega);rw [← dr j hjl,gJ] at hdg;obtain ⟨g,hg⟩:∃ g:Nat,bU (((c::v)++41::r).drop j)=(g:Int):=⟨(bU (((c::v)++41::r).drop j)).toNat,om⟩
   have hw:w6 ((j:Int)+(g:Int))=((j+g:Nat):Int):=by rw [fU (om)]; omega
   have hV2:numbV2 ((c::v)++41::r)=0:=by
    unfold numbV2;rw [hj,dR,hg,hw,dR];obtain ⟨d,q,e1,e2⟩:=Iq (r:=r) hu (j+g) (om);rw [e1,aG (show zC (d::q) [46]=false from pY (Dz e2).1)]
   have Rw:lg ((c::v)++41::r)=((j+g:Nat):Int):=by
    unfold lg;rw [hV2,aG (by decide),hj,dR,hg,hw]
   unfold jc
   split
   ·exact ⟨0,rfl,ik _⟩
   exact ⟨j+g,Rw,om⟩
  obtain ⟨k,hk,hkl⟩:=key;rw [M8,bB acH,hk];have hk1:1≤k:=om
  have h37:zC (((c::v)++41::r).drop k) ([37]:List UInt8)=false:=by
   obtain ⟨d,q,e1,e2⟩:=Iq (r:=r) hu k hkl;rw [e1];exact pY (Dz e2).2.2
  have hm:=hnm k hkl
  by_cases hb:mM (((c::v)++41::r).drop k)=true
  ·obtain ⟨m,hm1⟩:∃ m:Nat,(ek (((c::v)++41::r).drop k)).2=(m:Int):=⟨(ek (((c::v)++41::r).drop k)).2.toNat,om⟩;refine ⟨k+m,_,om,om,rfl,?_,by unfold kC ng; simp⟩;show jq _ _=_;unfold jq;rw [dR,h37,aG rfl,bB hb,hm1,fU (om),show (k:Int)+(m:Int)=((k+m:Nat):Int) by omega,dR,tk _ (om)]
  refine ⟨k,_,hk1,hkl,rfl,?_,by unfold kC ng; simp⟩;show jq _ _=_;unfold jq;rw [dR,h37,aG rfl,aQ hb,tk _ hkl]
 rw [M8,aQ acH]
 by_cases hb:mM ((c::v)++41::r)=true
 ·rw [bB hb];have hm:=hnm 0 (ik _);rw [gm] at hm
  have hsg:Az c=true:=by
   rcases hc.sg with h | h
   ·exact h
   subst h; exact absurd hb (by
    unfold mM qc;rw [show (((43:UInt8)::v)++41::r).getD (Int.toNat 0) 0=43 from rfl,show jJ (((43:UInt8)::v)++41::r)=false from uG (by decide)]
    simp; decide)
  obtain ⟨m,hm1⟩:∃ m:Nat,(ek ((c::v)++41::r)).2=(m:Int):=⟨(ek ((c::v)++41::r)).2.toNat,om⟩
  have hm0:1≤m:=by
   have:(ek ((c::v)++41::r)).2=((xE ((v++41::r).length+1) (c::(v++41::r))).2:Int):=rfl;rw [mI _ c _ (uG hc.n92),aU (show kz (c.toNat:Int)=true from hsg)] at this;simp only at this;omega
  have hN:(cZ 1 ((c::v)++41::r) 0).2.1=(c::v).take m:=by
   unfold cZ;simp only;rw [show ((c::v)++41::r).drop (Int.toNat 0)=(c::v)++41::r from rfl,hm1,Int.zero_add,fU (om),dR,tk _ (om)]
  have h40:zC (((c::v)++41::r).drop (Int.toNat (((c::v).take m).length:Int))) ([40]:List UInt8)=false:=by
   rw [dR,gG,og (om)];obtain ⟨d,q,e1,e2⟩:=Iq (r:=r) hu m (om);rw [e1];exact pY (Dz e2).2.1
  refine ⟨m,_,hm0,om,rfl,?_,?_⟩
  ·unfold mf kU;simp only;rw [hN,h40,aG rfl]
  unfold mf nG;simp only;rw [hN,h40,aG rfl];unfold cZ; simp
 rw [aQ hb];refine ⟨1,_,fP _,by simp,rfl,?_,?_⟩
 ·unfold ji kM
  repeat' split
  all_goals rfl
 unfold ji kM
 repeat' split
 all_goals simp
theorem Ct:∀ (n:Nat) (u r:List UInt8) (rs:List Tok),u.length≤n→(∀ d ∈ u,nX d=true)→(u++41::r).length≤1000→g_ (41::r) rs →
  ∃ us:List Tok,(us.map fun t=>t.2.1).flatten=u∧(∀ t ∈ us,t.1≠0∧t.2.1≠[41])∧g_ (u++41::r) (us++rs)
 | _,[],r,rs,_,_,_,h=>⟨[],rfl,(fun t ht=>by cases ht),h⟩
 | 0,c::v,r,rs,h,_,_,_=>by simp at h
 | n+1,c::v,r,rs,hn,hu,hl,h=>by
  obtain ⟨k,t,h1,h2,h3,h4,h5⟩:=anp (r:=r) hu hl
  have e:(c::v)++41::r=(c::v).take k++((c::v).drop k++41::r):=by rw [← dM,uR]
  obtain ⟨us,g1,g2,g3⟩:=Ct n ((c::v).drop k) r rs (by rw [gJ]; omega) (fun d hd=>hu d (List.mem_of_mem_drop hd)) (by
   rw [bD,gJ];rw [bD] at hl
   omega) h
  refine ⟨t::us,?_,fun y hy=>?_,?_⟩
  ·rw [jL,zV,g1,h4,uR]
  ·rcases eO.1 hy with rfl | hy
   ·refine ⟨h5,?_⟩;rw [h4];intro he;have:(41:UInt8) ∈ c::v:=Ee (he ▸ il.2 rfl);have:=(GZ (hu 41 this)).n41;exact absurd this (by decide)
   exact g2 y hy
  rw [e,iP];refine .cons ?_ (by rw [← e]; exact h3) h4 g3;intro he;have:=aA List.length he;rw [gG,og h2] at this;simp at this;omega
end Go.Proofs.YtdapgmigogpdcaaGreatDoor.tO
namespace Go.Proofs.YtdapgmigogpdcaaGreatDoor.Se
open Go Go.iT jN BI Rp Qu Tk tO Me
abbrev bl:Tok:=(8,[32],[],0)
abbrev sg (c:UInt8):Tok:=(12,[c],[],0)
abbrev wd (w:List UInt8):Tok:=(1,w,w,0)
abbrev Am (w:List UInt8):Tok:=(2,w++[40],w,0)
abbrev clT:Tok:=(11,[41],[],0)
abbrev Ob:List UInt8:=[110,116,104,45,99,104,105,108,100]
abbrev Oa:List UInt8:=[110,116,104,45,108,97,115,116,45,99,104,105,108,100]
abbrev xJ:List UInt8:=[110,111,116]
abbrev Qk:List UInt8:=[105,115]
abbrev sV:List UInt8:=[114,111,111,116]
abbrev nS:List UInt8:=[101,109,112,116,121]
def RunT (u:List UInt8) (us:List Tok):Prop:=(us.map fun t=>t.2.1).flatten=u∧∀ t ∈ us,t.1≠0∧t.2.1≠[41]
def S_ (z:Int):List Tok:=if (z==61)=true then [sg 61] else [sg (oq z),sg 61]
def Ia (z:Int):List Tok:=if (z==32)=true then [bl] else [bl,sg (oq z),bl]
def BJ (x:Lb) (K:List Tok→Prop) (ts:List Tok):Prop :=
 if (x.1==1)=true then ts=[sg 42] else if (x.1==2)=true then ts=[wd x.2.1] else if (x.1==3)=true then ts=[(4,35::x.2.1,x.2.1,0)] else if (x.1==4)=true then ts=[sg 46,wd x.2.1]
 else if (x.1==5)=true then (if (x.2.2.1==0)=true then ts=[(10,[91],[],0),wd x.2.1,(11,[93],[],0)] else ts=(10,[91],[],0)::wd x.2.1::(S_ x.2.2.1++[(5,Er x.2.2.2.1,x.2.2.2.1,0),(11,[93],[],0)]))
 else if (x.1==6)=true then ts=[sg 58,wd sV] else if (x.1==7)=true then ts=[sg 58,wd nS]
 else if (x.1==8)=true then (∃ us,RunT (lY x.2.2.2.2.1 x.2.2.2.2.2) us∧ts=sg 58::Am Ob::(us++[clT]))
 else if (x.1==9)=true then (∃ us,RunT (lY x.2.2.2.2.1 x.2.2.2.2.2) us∧ts=sg 58::Am Oa::(us++[clT]))
 else if (x.1==10)=true then (∃ us,K us∧ts=sg 58::Am xJ::(us++[clT])) else (∃ us,K us∧ts=sg 58::Am Qk::(us++[clT]))
mutual
def RB:Ts→List Tok→Prop
 | .mk x l,ts=>BJ x (fun us=>Rj l us) ts
def Rj:List Ph→List Tok→Prop
 | [],ts=>ts=[]
 | (p,js)::l,ts=>∃ a b,Jo p js a∧Lv l b∧ts=a++b
def Lv:List Ph→List Tok→Prop
 | [],ts=>ts=[]
 | (p,js)::l,ts=>∃ a b,Jo p js a∧Lv l b∧ts=sg 44::bl::(a++b)
def Jo:List (List Ts)→List Int→List Tok→Prop
 | [],_,ts=>ts=[]
 | s::p,js,ts=>∃ a b,Lx s a∧LP p js b∧ts=a++b
def LP:List (List Ts)→List Int→List Tok→Prop
 | [],_,ts=>ts=[]
 | s::p,js,ts=>∃ a b,Lx s a∧LP p js.tail b∧ts=Ia (js.headD 0)++(a++b)
def Lx:List Ts→List Tok→Prop
 | [],ts=>ts=[]
 | t::s,ts=>∃ a b,RB t a∧Lx s b∧ts=a++b
end
theorem lD (t:Ts) (ts:List Tok):RB t ts=BJ t.lab (fun us=>Rj t.kids us) ts:=by obtain ⟨x,l⟩:=t; rw [RB]; rfl
theorem NI {c:UInt8} {r:List UInt8} {rs:List Tok} (k:Int) (hc:QW c=true) (hn:J_ (c::r)=true) (hs:Wx c=false) (h45:(c==45)=false) (Rx:(c==92)=false) (hk:(if (c.toNat=40∨c.toNat=91∨c.toNat=123) then (10:Int) else if (c.toNat=41∨c.toNat=93∨c.toNat=125) then 11 else 12)=k) (h:g_ r rs):g_ (c::r) ((k,[c],[],0)::rs) :=
 g_.cons (w:=[c]) (by simp) ((Q5 hc hn hs h45 Rx).trans (by rw [hk])) rfl h
def ahc (c:UInt8):Bool:=QW c&&!(Wx c)&&!(c==45)&&!(c==92)&&!(c==43)&&!(c==46)&&!(Yw c)
theorem jG {c:UInt8} {r:List UInt8} {rs:List Tok} (k:Int) (hc:ahc c=true) (hk:(if (c.toNat=40∨c.toNat=91∨c.toNat=123) then (10:Int) else if (c.toNat=41∨c.toNat=93∨c.toNat=125) then 11 else 12)=k) (h:g_ r rs):g_ (c::r) ((k,[c],[],0)::rs):=by
 unfold ahc at hc;simp only [aH,dC] at hc;obtain ⟨⟨⟨⟨⟨⟨a,b⟩,c1⟩,d⟩,e⟩,f⟩,g⟩:=hc;refine NI k a ?_ b c1 d hk h;unfold J_;rw [u7,e,c1,aQ (by decide),ED,g,f]; rfl
theorem pG {w r:List UInt8} {rs:List Tok} (hl:(w++r).length≤1000) (hw:nN w=true) (hr:Cj r=true) (h:g_ r rs):g_ (w++r) (wd w::rs):=by
 obtain ⟨c,v,e,-⟩:=G_ (r:=r) hw;exact g_.cons (by rw [e]; simp) (NA hl hw hr) rfl h
theorem ae2 {w r:List UInt8} {rs:List Tok} (hl:(w++40::r).length≤1000) (hw:nN w=true) (h:g_ r rs):g_ (w++40::r) (Am w::rs):=by
 have e:w++40::r=(w++[40])++r:=by simp
 have:=NC hl hw;rw [e] at this ⊢;exact g_.cons (by simp) this rfl h
theorem uI {r:List UInt8} {rs:List Tok} (hl:(32::r).length≤1000) (hr:m_ r ([32,9,10,12,13]:List UInt8)=r) (h:g_ r rs):g_ (32::r) (bl::rs) :=
 g_.cons (w:=[32]) (by simp) (K9 hl hr) rfl h
structure Y8 (t:Ts) (i:Int):Prop where
 lo:1≤t.lab.1
 hi:t.lab.1≤11
 at0:t.lab.1≤2→¬ i>0
 name:2≤t.lab.1→t.lab.1≤5→eB t.lab.2.1=true
 low:t.lab.1=2∨t.lab.1=5→aO t.lab.2.1=t.lab.2.1
 op:t.lab.2.2.1≠0→t.lab.1=5∧DF ([61,126,124,94,36,42]:List UInt8) t.lab.2.2.1=true
 val:t.lab.2.2.1=0→t.lab.2.2.2.1=[]
 un:¬ (2≤t.lab.1∧t.lab.1≤5)→t.lab.2.1=[]
 ab:¬ (t.lab.1=8∨t.lab.1=9)→t.lab.2.2.2.2.1=0∧t.lab.2.2.2.2.2=0
theorem nk {t:Ts} {i:Int} (h:AJ t.lab i=true):Y8 t i:=by
 unfold AJ at h;simp only [aH,dC] at h;obtain ⟨h0,h1,h2,h3⟩:=h;unfold l0 at h0;unfold l1 at h1;unfold l2 at h2;unfold l3 at h3;simp only [dB] at h0;obtain ⟨a1,a2,a3,a4,a5⟩:=h0;refine ⟨by have:=fq a1; omega,by have:=fq a2; omega,fun h hi=>?_,fun h5 h6=>?_,fun h=>?_,fun h=>?_,fun h=>?_,fun h=>?_,fun h=>?_⟩
 ·rw [gu h,gu hi] at a3; cases a3
 ·rw [show decide (t.lab.1≥2)=true from gu h5,gu h6] at a5;simpa using a5
 ·rcases h with h | h
  ·rw [aU (by rw [h]; rfl)] at h1;exact (eq_of_beq (by simpa using h1)).symm
  rw [aG (by rw [h]; rfl),show (t.lab.1==5)=true by rw [h]; rfl,fJ] at h1;exact (eq_of_beq (by simpa using h1)).symm
 ·rw [aU (by simpa using h),dB,dB] at h2;exact ⟨by simpa using h2.1,by simpa using h2.2.1⟩
 ·rw [aG (by rw [h]; rfl),show (t.lab.2.2.1==0)=true by rw [h]; rfl,fJ] at h2;exact eq_of_beq (by simpa using h2)
 ·have e:(decide (t.lab.1≥2)&&decide (t.lab.1≤5))=false:=by
   by_cases c1:t.lab.1≥2
   ·rw [l6 (fun c2=>h ⟨c1,c2⟩),uY]
   rw [l6 c1,iw]
  rw [e] at a4;have a4:(!(false==!(t.lab.2.1==([]:List UInt8))))=false:=a4
  exact eq_of_beq (by
   cases hb:(t.lab.2.1==([]:List UInt8)) with
   | true=>rfl
   | false=>rw [hb] at a4; cases a4)
 have e:(!((t.lab.1==8)||(t.lab.1==9)))=true:=by
  rw [dC,dB];exact ⟨by simpa using fun e=>h (.inl e),by simpa using fun e=>h (.inr e)⟩
 rw [aU e,dB,dB] at h3;exact ⟨by simpa using h3.1,by simpa using h3.2.1⟩
def pX:List UInt8→Bool
 | []=>true
 | c::_=>([35,46,91,58,32,41,44]:List UInt8).contains c
def nbS:List UInt8→Bool
 | []=>true
 | c::_=>!(([32,9,10,12,13]:List UInt8).contains c)
theorem L6 (c:UInt8):(!(([35,46,91,58,32,41,44]:List UInt8).contains c)||(!(Az c)&&!(c==92)&&!(c==40)))=true :=
 pJ (p:=fun c=>(!(([35,46,91,58,32,41,44]:List UInt8).contains c)||(!(Az c)&&!(c==92)&&!(c==40)))) (by decide +kernel) c
theorem aaD {r:List UInt8} (h:pX r=true):Cj r=true∧vW r=true:=by
 match r,h with
 | [],_=>exact ⟨rfl,rfl⟩
 | c::r,h =>
  have:=L6 c;rw [show ([35,46,91,58,32,41,44]:List UInt8).contains c=true from h] at this;simp only [Bool.not_true,lC,aH] at this
  have e:vW (c::r)=true:=by rw [vW,this.1.1,this.1.2]; rfl
  refine ⟨?_,e⟩;unfold Cj;rw [e,fJ];exact this.2
theorem Kc {r:List UInt8} (h:nbS r=true):m_ r ([32,9,10,12,13]:List UInt8)=r:=by
 match r,h with
 | [],_=>rfl
 | c::r,h=>exact ow (by simpa [nbS] using h)
theorem ahd {c:UInt8} (h:Az c=true):(!(([32,9,10,12,13]:List UInt8).contains c))=true:=by
 have:(!(Az c)||!(([32,9,10,12,13]:List UInt8).contains c))=true:=pJ (p:=fun c=>(!(Az c)||!(([32,9,10,12,13]:List UInt8).contains c))) (by decide +kernel) c;rw [h] at this;simpa using this
theorem Mq {w:List UInt8} (h:eB w=true):∃ c v,w=c::v∧Az c=true:=by
 have:=CQ h;unfold nN at this;rw [aH] at this
 match w,this with
 | c::v,this =>
  have h2:=this.2;rw [sM,aH] at h2;exact ⟨c,v,rfl,h2.1⟩
theorem TZ {x:Lb} {s:List UInt8} (h:x.1=1):kL x s=[42]:=by unfold kL; rw [h]; rfl
theorem Ox {x:Lb} {K:List Tok→Prop} {ts:List Tok} (h:x.1=1):BJ x K ts=(ts=[sg 42]):=by unfold BJ; rw [h]; rfl
theorem TY {x:Lb} {s:List UInt8} (h:x.1=2):kL x s=x.2.1:=by unfold kL; rw [h]; rfl
theorem Ow {x:Lb} {K:List Tok→Prop} {ts:List Tok} (h:x.1=2):BJ x K ts=(ts=[wd x.2.1]):=by unfold BJ; rw [h]; rfl
theorem TW {x:Lb} {s:List UInt8} (h:x.1=3):kL x s=35::x.2.1:=by unfold kL; rw [h]; rfl
theorem Ov {x:Lb} {K:List Tok→Prop} {ts:List Tok} (h:x.1=3):BJ x K ts=(ts=[(4,35::x.2.1,x.2.1,0)]):=by unfold BJ; rw [h]; rfl
theorem TV {x:Lb} {s:List UInt8} (h:x.1=4):kL x s=46::x.2.1:=by unfold kL; rw [h]; rfl
theorem Ou {x:Lb} {K:List Tok→Prop} {ts:List Tok} (h:x.1=4):BJ x K ts=(ts=[sg 46,wd x.2.1]):=by unfold BJ; rw [h]; rfl
theorem TU {x:Lb} {s:List UInt8} (h:x.1=5):kL x s=(if (x.2.2.1==0)=true then 91::(x.2.1++[93]) else 91::(x.2.1++(Rt x.2.2.1++61::(Er x.2.2.2.1++[93])))):=by unfold kL; rw [h]; rfl
theorem JC {x:Lb} {K:List Tok→Prop} {ts:List Tok} (h:x.1=5):BJ x K ts=((if (x.2.2.1==0)=true then ts=[(10,[91],[],0),wd x.2.1,(11,[93],[],0)] else ts=(10,[91],[],0)::wd x.2.1::(S_ x.2.2.1++[(5,Er x.2.2.2.1,x.2.2.2.1,0),(11,[93],[],0)]))):=by unfold BJ; rw [h]; rfl
theorem TT {x:Lb} {s:List UInt8} (h:x.1=6):kL x s=[58,114,111,111,116]:=by unfold kL; rw [h]; rfl
theorem JB {x:Lb} {K:List Tok→Prop} {ts:List Tok} (h:x.1=6):BJ x K ts=(ts=[sg 58,wd sV]):=by unfold BJ; rw [h]; rfl
theorem TR {x:Lb} {s:List UInt8} (h:x.1=7):kL x s=[58,101,109,112,116,121]:=by unfold kL; rw [h]; rfl
theorem JA {x:Lb} {K:List Tok→Prop} {ts:List Tok} (h:x.1=7):BJ x K ts=(ts=[sg 58,wd nS]):=by unfold BJ; rw [h]; rfl
theorem TQ {x:Lb} {s:List UInt8} (h:x.1=8):kL x s=58::(Ob++40::(lY x.2.2.2.2.1 x.2.2.2.2.2++[41])):=by unfold kL; rw [h]; rfl
theorem Jz {x:Lb} {K:List Tok→Prop} {ts:List Tok} (h:x.1=8):BJ x K ts=(∃ us,RunT (lY x.2.2.2.2.1 x.2.2.2.2.2) us∧ts=sg 58::Am Ob::(us++[clT])):=by unfold BJ; rw [h]; rfl
theorem TP {x:Lb} {s:List UInt8} (h:x.1=9):kL x s=58::(Oa++40::(lY x.2.2.2.2.1 x.2.2.2.2.2++[41])):=by unfold kL; rw [h]; rfl
theorem Jy {x:Lb} {K:List Tok→Prop} {ts:List Tok} (h:x.1=9):BJ x K ts=(∃ us,RunT (lY x.2.2.2.2.1 x.2.2.2.2.2) us∧ts=sg 58::Am Oa::(us++[clT])):=by unfold BJ; rw [h]; rfl
theorem Ps {x:Lb} {s:List UInt8} (h:x.1=10):kL x s=58::(xJ++40::(s++[41])):=by unfold kL; rw [h]; rfl
theorem Cb {x:Lb} {K:List Tok→Prop} {ts:List Tok} (h:x.1=10):BJ x K ts=(∃ us,K us∧ts=sg 58::Am xJ::(us++[clT])):=by unfold BJ; rw [h]; rfl
theorem Pq {x:Lb} {s:List UInt8} (h:x.1=11):kL x s=58::(Qk++40::(s++[41])):=by unfold kL; rw [h]; rfl
theorem Ca {x:Lb} {K:List Tok→Prop} {ts:List Tok} (h:x.1=11):BJ x K ts=(∃ us,K us∧ts=sg 58::Am Qk::(us++[clT])):=by unfold BJ; rw [h]; rfl
theorem kinds {t:Ts} {i:Int} (h:Y8 t i):t.lab.1=1∨t.lab.1=2∨t.lab.1=3∨t.lab.1=4∨t.lab.1=5∨t.lab.1=6∨t.lab.1=7∨t.lab.1=8∨t.lab.1=9∨t.lab.1=10∨t.lab.1=11:=by
 have:=h.lo;have:=h.hi;omega
theorem TM {t:Ts} {i:Int} {s:List UInt8} (h:Y8 t i):∃ c q,kL t.lab s=c::q∧(!(([32,9,10,12,13]:List UInt8).contains c))=true∧(i>0→([35,46,91,58,32,41,44]:List UInt8).contains c=true):=by
 have h12:t.lab.1≤2→¬ i>0:=h.at0
 rcases kinds h with hk | hk | hk | hk | hk | hk | hk | hk | hk | hk | hk
 ·rw [TZ hk]; exact ⟨42,[],rfl,by decide,fun hi=>absurd hi (h12 (om))⟩
 ·rw [TY hk];obtain ⟨c,v,e,hc⟩:=Mq (h.name (om) (om));exact ⟨c,v,e,ahd hc,fun hi=>absurd hi (h12 (om))⟩
 ·rw [TW hk]; exact ⟨35,_,rfl,by decide,fun _=>by decide⟩
 ·rw [TV hk]; exact ⟨46,_,rfl,by decide,fun _=>by decide⟩
 ·rw [TU hk]
  by_cases h0:(t.lab.2.2.1==0)=true
  ·rw [bB h0]; exact ⟨91,_,rfl,by decide,fun _=>by decide⟩
  rw [aQ h0]; exact ⟨91,_,rfl,by decide,fun _=>by decide⟩
 ·rw [TT hk]; exact ⟨58,_,rfl,by decide,fun _=>by decide⟩
 ·rw [TR hk]; exact ⟨58,_,rfl,by decide,fun _=>by decide⟩
 ·rw [TQ hk]; exact ⟨58,_,rfl,by decide,fun _=>by decide⟩
 ·rw [TP hk]; exact ⟨58,_,rfl,by decide,fun _=>by decide⟩
 ·rw [Ps hk]; exact ⟨58,_,rfl,by decide,fun _=>by decide⟩
 rw [Pq hk]; exact ⟨58,_,rfl,by decide,fun _=>by decide⟩
end Go.Proofs.YtdapgmigogpdcaaGreatDoor.Se
namespace Go.Proofs.YtdapgmigogpdcaaGreatDoor.Se
open Go Go.iT jN BI Rp Qu Tk tO Me
theorem lU {c:UInt8} {r:List UInt8} (h:(!(Az c)&&!(c==92)&&!(c==40))=true):Cj (c::r)=true:=by
 simp only [aH] at h;unfold Cj;rw [vW,h.1.1,h.1.2];exact h.2
theorem Vr (u:Nat):∀ c ∈ Lib.decDigits u,nX c=true:=by
 induction u using Nat.strongRecOn with
 | _ u ih =>
  have dig:∀ n:Nat,n<10→nX (UInt8.ofNat (48+n))=true:=fun n hn=>by
   have:∀ k:Fin 10,nX (UInt8.ofNat (48+k.val))=true:=by decide +kernel
   exact this ⟨n,hn⟩
  intro c hc;rw [Lib.decDigits] at hc
  split at hc
  ·rw [il] at hc;subst hc;exact dig u (om)
  rcases lu.1 hc with hc | hc
  ·exact ih (u / 10) (om) c hc
  rw [il] at hc;subst hc;exact dig (u % 10) (om)
theorem yz (n:Int):∀ c ∈ Lib.itoa n,nX c=true:=by
 intro c hc;unfold Lib.itoa at hc
 split at hc
 ·rcases eO.1 hc with rfl | hc
  ·decide
  exact Vr _ c hc
 exact Vr _ c hc
theorem Ka (a b:Int):∀ c ∈ lY a b,nX c=true:=by
 intro c hc;unfold lY at hc
 split at hc
 ·rcases lu.1 hc with hc | hc
  ·exact yz a c hc
  rcases eO.1 hc with rfl | hc
  ·decide
  exact yz b c hc
 rcases lu.1 hc with hc | hc
 ·exact yz a c hc
 rcases eO.1 hc with rfl | hc
 ·decide
 rcases eO.1 hc with rfl | hc
 ·decide
 exact yz b c hc
theorem I8 {r:List UInt8} {rs:List Tok} (h:g_ r rs):g_ (41::r) (clT::rs):=jG 11 (by decide) (by decide) h
theorem NJ {r:List UInt8} {rs:List Tok} (h:g_ r rs):g_ (58::r) (sg 58::rs):=jG 12 (by decide) (by decide) h
theorem I9 {w r:List UInt8} {rs:List Tok} (hl:(58::(w++40::r)).length≤1000) (hw:nN w=true) (h:g_ r rs):g_ (58::(w++40::r)) (sg 58::Am w::rs) :=
 NJ (ae2 (by simp only [di] at hl ⊢; omega) hw h)
theorem ae3 {n r:List UInt8} {rs:List Tok} (z:Int) (hz:z=61∨z=126∨z=124∨z=94∨z=36∨z=42) (hl:(n++(Rt z++61::r)).length≤1000) (hw:nN n=true) (h:g_ r rs):g_ (n++(Rt z++61::r)) (wd n::(S_ z++rs)):=by
 have h61:g_ (61::r) (sg 61::rs):=jG 12 (by decide) (by decide) h
 rcases hz with rfl | rfl | rfl | rfl | rfl | rfl
 ·exact pG hl hw (lU (by decide)) h61
 ·exact pG hl hw (lU (c:=126) (by decide)) (jG (c:=126) 12 (by decide) (by decide) h61)
 ·exact pG hl hw (lU (c:=124) (by decide)) (jG (c:=124) 12 (by decide) (by decide) h61)
 ·exact pG hl hw (lU (c:=94) (by decide)) (jG (c:=94) 12 (by decide) (by decide) h61)
 ·exact pG hl hw (lU (c:=36) (by decide)) (jG (c:=36) 12 (by decide) (by decide) h61)
 exact pG hl hw (lU (c:=42) (by decide)) (jG (c:=42) 12 (by decide) (by decide) h61)
theorem GQ {z:Int} (h:DF ([61,126,124,94,36,42]:List UInt8) z=true):z=61∨z=126∨z=124∨z=94∨z=36∨z=42:=by
 unfold DF at h;simp only [jM,xB,nD,dY,dJ] at h
 rcases h with h | h | h | h | h | h
 ·exact .inl h.symm
 ·exact .inr (.inl h.symm)
 ·exact .inr (.inr (.inl h.symm))
 ·exact .inr (.inr (.inr (.inl h.symm)))
 ·exact .inr (.inr (.inr (.inr (.inl h.symm))))
 exact .inr (.inr (.inr (.inr (.inr h.symm))))
theorem Vy {t:Ts} {i:Int} (hf:Y8 t i)
  (hk:t.lab.1=10∨t.lab.1=11→∀ r rs,(tx3 t.kids++41::r).length≤1000→g_ (41::r) rs→∃ us,Rj t.kids us∧g_ (tx3 t.kids++41::r) (us++rs)) :
  ∀ r rs,pX r=true→(Jl t++r).length≤1000→g_ r rs→∃ ts,RB t ts∧g_ (Jl t++r) (ts++rs):=by
 intro r rs hr hl h;have hB:=aaD hr;rw [LW] at hl ⊢;have hpl:2≤t.lab.1→t.lab.1≤5→nN t.lab.2.1=true:=fun a b=>CQ (hf.name a b)
 rcases kinds hf with e | e | e | e | e | e | e | e | e | e | e
 ·rw [TZ e] at hl ⊢;exact ⟨[sg 42],by rw [lD,Ox e],jG (c:=42) 12 (by decide) (by decide) h⟩
 ·rw [TY e] at hl ⊢;exact ⟨_,by rw [lD,Ow e],pG hl (hpl (om) (om)) hB.1 h⟩
 ·rw [TW e] at hl ⊢;have hw:=hpl (om) (om);obtain ⟨c,v,ew,-⟩:=G_ (r:=r) hw;unfold nN at hw;rw [aH] at hw;exact ⟨_,by rw [lD,Ov e],g_.cons (w:=35::t.lab.2.1) (by simp) (NB hl (by rw [ew]; simp) hw.2 hB.2) rfl h⟩
 ·rw [TV e] at hl ⊢;have hw:=hpl (om) (om);refine ⟨_,by rw [lD,Ou e],?_⟩
  have hz:J_ (46::(t.lab.2.1++r))=true:=by
   have hb:EE t.lab.2.1=true:=by unfold nN at hw; rw [aH] at hw; exact hw.1
   unfold J_;rw [u7,aQ (by decide),ED];generalize t.lab.2.1=w at hb
   match w,hb with
   | c::v,hb =>
    show (_&&(_||!(Yw c)))=true;rw [EE,dY] at hb
    rcases hb with hb | hb
    ·rw [(OE hb).2.1]; decide
    rw [aH] at hb;rw [eq_of_beq hb.1]; decide
  exact NI (c:=46) 12 (by decide) hz (by decide) (by decide) (by decide) (by decide) (pG (by simp at hl ⊢; omega) hw hB.1 h)
 ·rw [TU e] at hl ⊢;have hw:=hpl (om) (om)
  by_cases h0:(t.lab.2.2.1==0)=true
  ·rw [bB h0] at hl ⊢;refine ⟨_,by rw [lD,JC e,bB h0],?_⟩
   have e2:(91::(t.lab.2.1++[93]))++r=91::(t.lab.2.1++93::r):=by simp
   rw [e2] at hl ⊢;exact jG 10 (by decide) (by decide) (pG (by simp at hl ⊢; omega) hw (lU (by decide)) (jG 11 (by decide) (by decide) h))
  rw [aQ h0] at hl ⊢;refine ⟨_,by rw [lD,JC e,aQ h0],?_⟩
  have e2:(91::(t.lab.2.1++(Rt t.lab.2.2.1++61::(Er t.lab.2.2.2.1++[93]))))++r=91::(t.lab.2.1++(Rt t.lab.2.2.1++61::(Er t.lab.2.2.2.1++93::r))):=by simp
  have e3:((10,[91],[],0)::wd t.lab.2.1::(S_ t.lab.2.2.1++[(5,Er t.lab.2.2.2.1,t.lab.2.2.2.1,0),(11,[93],[],0)]):List Tok)++rs=(10,[91],[],0)::wd t.lab.2.1::(S_ t.lab.2.2.1++((5,Er t.lab.2.2.2.1,t.lab.2.2.2.1,0)::(11,[93],[],0)::rs)):=by simp
  rw [e2] at hl ⊢;rw [e3];have hz:=GQ (hf.op (by simpa using h0)).2;have h93:g_ (93::r) ((11,[93],[],0)::rs):=jG 11 (by decide) (by decide) h;have hq:g_ (Er t.lab.2.2.2.1++93::r) ((5,Er t.lab.2.2.2.1,t.lab.2.2.2.1,0)::(11,[93],[],0)::rs):=g_.cons (by unfold Er; simp) Nz rfl h93;exact jG 10 (by decide) (by decide) (ae3 _ hz (by rw [di] at hl; omega) hw hq)
 ·rw [TT e] at hl ⊢;refine ⟨[sg 58,wd sV],by rw [lD,JB e],?_⟩;show g_ (58::(sV++r)) (sg 58::wd sV::rs);exact NJ (pG (w:=sV) (by simp at hl ⊢; omega) (by decide) hB.1 h)
 ·rw [TR e] at hl ⊢;refine ⟨[sg 58,wd nS],by rw [lD,JA e],?_⟩;show g_ (58::(nS++r)) (sg 58::wd nS::rs);exact NJ (pG (w:=nS) (by simp at hl ⊢; omega) (by decide) hB.1 h)
 ·rw [TQ e] at hl ⊢
  have e2:(58::(Ob++40::(lY t.lab.2.2.2.2.1 t.lab.2.2.2.2.2++[41])))++r=58::(Ob++40::(lY t.lab.2.2.2.2.1 t.lab.2.2.2.2.2++41::r)):=by simp
  rw [e2] at hl ⊢;obtain ⟨us,g1,g2,g3⟩:=Ct _ (lY t.lab.2.2.2.2.1 t.lab.2.2.2.2.2) r (clT::rs) (fP _) (Ka _ _) (by simp at hl ⊢; omega) (I8 h);refine ⟨sg 58::Am Ob::(us++[clT]),by rw [lD,Jz e]; exact ⟨us,⟨g1,g2⟩,rfl⟩,?_⟩;rw [show (sg 58::Am Ob::(us++[clT]))++rs=sg 58::Am Ob::(us++clT::rs) by simp];exact I9 hl (by decide) g3
 ·rw [TP e] at hl ⊢
  have e2:(58::(Oa++40::(lY t.lab.2.2.2.2.1 t.lab.2.2.2.2.2++[41])))++r=58::(Oa++40::(lY t.lab.2.2.2.2.1 t.lab.2.2.2.2.2++41::r)):=by simp
  rw [e2] at hl ⊢;obtain ⟨us,g1,g2,g3⟩:=Ct _ (lY t.lab.2.2.2.2.1 t.lab.2.2.2.2.2) r (clT::rs) (fP _) (Ka _ _) (by simp at hl ⊢; omega) (I8 h);refine ⟨sg 58::Am Oa::(us++[clT]),by rw [lD,Jy e]; exact ⟨us,⟨g1,g2⟩,rfl⟩,?_⟩;rw [show (sg 58::Am Oa::(us++[clT]))++rs=sg 58::Am Oa::(us++clT::rs) by simp];exact I9 hl (by decide) g3
 ·rw [Ps e] at hl ⊢
  have e2:(58::(xJ++40::(tx3 t.kids++[41])))++r=58::(xJ++40::(tx3 t.kids++41::r)):=by simp
  rw [e2] at hl ⊢;obtain ⟨us,g1,g3⟩:=hk (.inl e) r (clT::rs) (by simp at hl ⊢; omega) (I8 h);refine ⟨sg 58::Am xJ::(us++[clT]),by rw [lD,Cb e]; exact ⟨us,g1,rfl⟩,?_⟩;rw [show (sg 58::Am xJ::(us++[clT]))++rs=sg 58::Am xJ::(us++clT::rs) by simp];exact I9 hl (by decide) g3
 rw [Pq e] at hl ⊢
 have e2:(58::(Qk++40::(tx3 t.kids++[41])))++r=58::(Qk++40::(tx3 t.kids++41::r)):=by simp
 rw [e2] at hl ⊢;obtain ⟨us,g1,g3⟩:=hk (.inr e) r (clT::rs) (by simp at hl ⊢; omega) (I8 h);refine ⟨sg 58::Am Qk::(us++[clT]),by rw [lD,Ca e]; exact ⟨us,g1,rfl⟩,?_⟩;rw [show (sg 58::Am Qk::(us++[clT]))++rs=sg 58::Am Qk::(us++clT::rs) by simp];exact I9 hl (by decide) g3
theorem Jt {t:Ts} {i:Int} (h:yh t i=true):∃ c q,Jl t=c::q∧(!(([32,9,10,12,13]:List UInt8).contains c))=true∧(i>0→([35,46,91,58,32,41,44]:List UInt8).contains c=true):=by
 rw [lW,aH] at h;rw [LW];exact TM (nk h.1)
def CT (t:Ts):Prop:=∀ i,yh t i=true→okB t→∀ r rs,pX r=true→(Jl t++r).length≤1000→g_ r rs→∃ ts,RB t ts∧g_ (Jl t++r) (ts++rs)
theorem ae5:∀ {s:List Ts} {k:Int},0≤k→(∀ t ∈ s,CT t)→ok1 s k=true→(∀ t ∈ s,okB t)→∀ r rs,pX r=true→(tx1 s++r).length≤1000→g_ r rs→∃ ts,Lx s ts∧g_ (tx1 s++r) (ts++rs)
 | [],_,_,_,_,_,r,rs,_,_,h=>⟨[],by rw [Lx],by rw [tx1]; exact h⟩
 | t::s,k,hk,hC,ho,hB,r,rs,hr,hl,h=>by
  rw [ok1,aH] at ho;rw [tx1,dM] at hl ⊢
  have hl2:(tx1 s++r).length≤1000:=by rw [bD] at hl; omega
  obtain ⟨b,hb,hcb⟩:=ae5 (k:=k+1) (om) (fun y hy=>hC y (dK _ hy)) ho.2 (fun y hy=>hB y (dK _ hy)) r rs hr hl2 h
  have hst:pX (tx1 s++r)=true:=by
   match s,ho.2 with
   | [],_=>rw [tx1]; exact hr
   | y::s,ho2 =>
    rw [ok1,aH] at ho2;obtain ⟨c,q,e1,-,e3⟩:=Jt ho2.1;rw [tx1,e1];exact e3 (om)
  obtain ⟨a,ha,X7⟩:=hC t (cz ..) k ho.1 (hB t (cz ..)) (tx1 s++r) (b++rs) hst hl hcb;exact ⟨a++b,by rw [Lx]; exact ⟨a,b,ha,hb,rfl⟩,by rw [dM]; exact X7⟩
theorem RQ {s:List Ts} (hne:s≠[]) {k:Int} (ho:ok1 s k=true) (r:List UInt8):nbS (tx1 s++r)=true:=by
 match s,hne with
 | t::s,_ =>
  rw [ok1,aH] at ho;obtain ⟨c,q,e1,e2,-⟩:=Jt ho.1;rw [tx1,e1];exact e2
theorem H_ {z:Int} (h:zw z=true):z=32∨z=62∨z=43∨z=126:=by
 unfold zw DF at h;simp only [jM,xB,nD,dY,dJ] at h
 rcases h with h | h | h | h
 ·exact .inl h.symm
 ·exact .inr (.inl h.symm)
 ·exact .inr (.inr (.inl h.symm))
 exact .inr (.inr (.inr h.symm))
theorem ae1 {z:Int} (hz:zw z=true) {r:List UInt8} {rs:List Tok} (hl:(Jm z++r).length≤1000) (hr:nbS r=true) (h:g_ r rs):g_ (Jm z++r) (Ia z++rs):=by
 rcases H_ hz with rfl | rfl | rfl | rfl
 ·exact uI hl (Kc hr) h
 ·have h1:g_ (62::32::r) (sg 62::bl::rs):=jG (c:=62) 12 (by decide) (by decide) (uI (by simp [Jm] at hl ⊢; omega) (Kc hr) h);exact uI hl (ow (by decide)) h1
 ·have h1:g_ (43::32::r) (sg 43::bl::rs):=NI (c:=43) 12 (by decide) rfl (by decide) (by decide) (by decide) (by decide) (uI (by simp [Jm] at hl ⊢; omega) (Kc hr) h);exact uI hl (ow (by decide)) h1
 have h1:g_ (126::32::r) (sg 126::bl::rs):=jG (c:=126) 12 (by decide) (by decide) (uI (by simp [Jm] at hl ⊢; omega) (Kc hr) h);exact uI hl (ow (by decide)) h1
theorem Px {z:Int} (r:List UInt8):pX (Jm z++r)=true:=by
 unfold Jm
 split <;> rfl
theorem ZU:∀ {p:List (List Ts)} {js:List Int},(∀ s ∈ p,∀ t ∈ s,CT t)→uk p=true→(∀ s ∈ p,∀ t ∈ s,okB t)→(∀ z ∈ js,zw z=true)→p.length≤js.length→∀ r rs,pX r=true→(tr2 p js++r).length≤1000→g_ r rs→∃ ts,LP p js ts∧g_ (tr2 p js++r) (ts++rs)
 | [],js,_,_,_,_,_,r,rs,_,_,h=>⟨[],by rw [LP],by rw [tr2]; exact h⟩
 | s::p,js,hC,ho,hB,hj,hjl,r,rs,hr,hl,h=>by
  match js,hj,hjl with
  | z::js,hj,hjl =>
   rw [uk,aH,aH] at ho;obtain ⟨ho1,ho2,ho3⟩:=ho
   have hne:s≠[]:=fun e=>by rw [e] at ho2; cases ho2
   rw [tr2,dM,dM] at hl ⊢
   have hl2:(tx1 s++(tr2 p js++r)).length≤1000:=by rw [bD] at hl; exact gQ (Nat.le_add_left ..) hl
   have hl3:(tr2 p js++r).length≤1000:=by rw [bD] at hl2; omega
   obtain ⟨b,hb,hcb⟩:=ZU (p:=p) (js:=js) (fun y hy=>hC y (dK _ hy)) ho3 (fun y hy=>hB y (dK _ hy)) (fun y hy=>hj y (dK _ hy)) (by simpa using hjl) r rs hr hl3 h
   have hst:pX (tr2 p js++r)=true:=by
    match p with
    | []=>rw [tr2]; exact hr
    | y::p=>rw [tr2,dM]; exact Px _
   obtain ⟨a,ha,X7⟩:=ae5 (lv 0) (hC s (cz ..)) ho1 (hB s (cz ..)) _ _ hst hl2 hcb;refine ⟨Ia z++(a++b),by rw [LP]; exact ⟨a,b,ha,hb,rfl⟩,?_⟩;rw [dM,dM];exact ae1 (hj z (cz ..)) hl (RQ hne ho1 _) X7
theorem ak2 {p:List (List Ts)} {js:List Int} (hC:∀ s ∈ p,∀ t ∈ s,CT t) (ho:uk p=true) (hB:∀ s ∈ p,∀ t ∈ s,okB t) (hj:∀ z ∈ js,zw z=true) (hjl:p.length≤js.length+1) (r:List UInt8) (rs:List Tok) (hr:pX r=true) (hl:(BS p js++r).length≤1000) (h:g_ r rs):∃ ts,Jo p js ts∧g_ (BS p js++r) (ts++rs):=by
 match p,hC,ho,hB,hjl with
 | [],_,_,_,_=>exact ⟨[],by rw [Jo],by rw [BS]; exact h⟩
 | s::p,hC,ho,hB,hjl =>
  rw [uk,aH,aH] at ho;obtain ⟨ho1,ho2,ho3⟩:=ho;rw [BS,dM] at hl ⊢
  have hl3:(tr2 p js++r).length≤1000:=by rw [bD] at hl; omega
  obtain ⟨b,hb,hcb⟩:=ZU (p:=p) (js:=js) (fun y hy=>hC y (dK _ hy)) ho3 (fun y hy=>hB y (dK _ hy)) hj (by simpa using hjl) r rs hr hl3 h
  have hst:pX (tr2 p js++r)=true:=by
   match p with
   | []=>rw [tr2]; exact hr
   | y::p=>rw [tr2,dM]; exact Px _
  obtain ⟨a,ha,X7⟩:=ae5 (lv 0) (hC s (cz ..)) ho1 (hB s (cz ..)) _ _ hst hl hcb;exact ⟨a++b,by rw [Jo]; exact ⟨a,b,ha,hb,rfl⟩,by rw [dM]; exact X7⟩
theorem aal {p:List (List Ts)} {js:List Int} (hne:p≠[]) (ho:uk p=true) (r:List UInt8):nbS (BS p js++r)=true:=by
 match p,hne with
 | s::p,_ =>
  rw [uk,aH,aH] at ho
  have hs:s≠[]:=fun e=>by have:=ho.2.1; rw [e] at this; cases this
  rw [BS,dM];exact RQ hs ho.1 _
theorem Jv {l:List Ph} {r:List UInt8} (hr:pX r=true):pX (tr3 l++r)=true:=by
 match l with
 | []=>rw [tr3]; exact hr
 | (p,js)::l=>rw [tr3]; rfl
theorem ZT:∀ {l:List Ph},(∀ q ∈ l,∀ s ∈ q.1,∀ t ∈ s,CT t)→rV l=true→(∀ q ∈ l,∀ s ∈ q.1,∀ t ∈ s,okB t)→∀ r rs,pX r=true→(tr3 l++r).length≤1000→g_ r rs→∃ ts,Lv l ts∧g_ (tr3 l++r) (ts++rs)
 | [],_,_,_,r,rs,_,_,h=>⟨[],by rw [Lv],by rw [tr3]; exact h⟩
 | (p,js)::l,hC,ho,hB,r,rs,hr,hl,h=>by
  obtain ⟨⟨q1,q2⟩,q3,q4⟩:=kI ho (cz ..);rw [kJ,aH,aH,aH] at ho
  have e:tr3 ((p,js)::l)++r=44::32::(BS p js++(tr3 l++r)):=by rw [tr3]; simp
  rw [e] at hl ⊢
  have hl1:(32::(BS p js++(tr3 l++r))).length≤1000:=by rw [di] at hl; omega
  have hl2:(BS p js++(tr3 l++r)).length≤1000:=by rw [di] at hl1; omega
  have hl3:(tr3 l++r).length≤1000:=by rw [bD] at hl2; omega
  obtain ⟨b,hb,hcb⟩:=ZT (l:=l) (fun y hy=>hC y (dK _ hy)) ho.2.2.2 (fun y hy=>hB y (dK _ hy)) r rs hr hl3 h;obtain ⟨a,ha,X7⟩:=ak2 (hC (p,js) (cz ..)) q3 (hB (p,js) (cz ..)) (fun z hz=>l7.1 q4 z hz) (Nat.le_of_eq q2.symm) _ _ (Jv hr) hl2 hcb;refine ⟨sg 44::bl::(a++b),by rw [Lv]; exact ⟨a,b,ha,hb,rfl⟩,?_⟩
  have e2:(sg 44::bl::(a++b))++rs=sg 44::bl::(a++(b++rs)):=by simp
  rw [e2];exact jG (c:=44) 12 (by decide) (by decide) (uI hl1 (Kc (aal q1 q3 _)) X7)
theorem ak1 {l:List Ph} (hC:∀ q ∈ l,∀ s ∈ q.1,∀ t ∈ s,CT t) (ho:rV l=true) (hB:∀ q ∈ l,∀ s ∈ q.1,∀ t ∈ s,okB t) (r:List UInt8) (rs:List Tok) (hr:pX r=true) (hl:(tx3 l++r).length≤1000) (h:g_ r rs):∃ ts,Rj l ts∧g_ (tx3 l++r) (ts++rs):=by
 match l,hC,ho,hB with
 | [],_,_,_=>exact ⟨[],by rw [Rj],by rw [tx3]; exact h⟩
 | (p,js)::l,hC,ho,hB =>
  obtain ⟨⟨q1,q2⟩,q3,q4⟩:=kI ho (cz ..);rw [kJ,aH,aH,aH] at ho;rw [tx3,dM] at hl ⊢
  have hl3:(tr3 l++r).length≤1000:=by rw [bD] at hl; omega
  obtain ⟨b,hb,hcb⟩:=ZT (l:=l) (fun y hy=>hC y (dK _ hy)) ho.2.2.2 (fun y hy=>hB y (dK _ hy)) r rs hr hl3 h;obtain ⟨a,ha,X7⟩:=ak2 (hC (p,js) (cz ..)) q3 (hB (p,js) (cz ..)) (fun z hz=>l7.1 q4 z hz) (Nat.le_of_eq q2.symm) _ _ (Jv hr) hl hcb;exact ⟨a++b,by rw [Rj]; exact ⟨a,b,ha,hb,rfl⟩,by rw [dM]; exact X7⟩
theorem ae4:∀ t:Ts,CT t:=gL.ind fun x l ih i hi hB=>by
 have hi':=hi;rw [lW,aH] at hi;refine Vy (nk hi.1) (fun hk r rs hl h=>?_)
 have e:((x.1==10)||(x.1==11))=true:=by
  rcases hk with h | h
  ·rw [show x.1=10 from h]; rfl
  rw [show x.1=11 from h]; rfl
 have h2:=hi.2;rw [bB (show (((gL.mk x l).lab.1==10)||((gL.mk x l).lab.1==11))=true from e)] at h2;simp only [nV,aH] at h2;exact ak1 ih h2.1 (fun q hq s hs t ht=>((yj hB).2 q hq).2 s hs t ht) (41::r) rs rfl hl h
theorem Qm {l:List Ph} (ho:rV l=true) (hB:QF l) (hl:(tx3 l).length≤1000):Rj l (jd (tx3 l))∧g_ (tx3 l) (jd (tx3 l)):=by
 obtain ⟨ts,h1,h2⟩:=ak1 (fun q _ s _ t _=>ae4 t) ho (fun q hq s hs t ht=>(hB q hq).2 s hs t ht) [] [] rfl (by rw [gK]; exact hl) .nil;rw [gK,gK] at h2;have:jd (tx3 l)=ts:=Vw h2 _ (fP _);rw [this]; exact ⟨h1,h2⟩
end Go.Proofs.YtdapgmigogpdcaaGreatDoor.Se
namespace Go.Proofs.YtdapgmigogpdcaaGreatDoor.Se
open _root_.Go.Proofs.Tryz Go Go.iT Go.RowKit jN BI tO Tk Ti Me Rp Qu
set_option maxHeartbeats 4000000
set_option maxRecDepth 100000
def ais (xt:TS) (K:Bs→Prop):Prop :=
 (decide (xt.lab.2.2.2.2.2<0)=true→QU xt.lab.2.2.2.2.1∧(Lib.itoa xt.lab.2.2.2.2.1).length+([110]:Bs).length≤maxLen∧QU xt.lab.2.2.2.2.2∧(Lib.itoa xt.lab.2.2.2.2.1++([110]:Bs)).length+(Lib.itoa xt.lab.2.2.2.2.2).length≤maxLen∧K ((Lib.itoa xt.lab.2.2.2.2.1++([110]:Bs))++Lib.itoa xt.lab.2.2.2.2.2))∧(decide (xt.lab.2.2.2.2.2<0)=false→QU xt.lab.2.2.2.2.1∧(Lib.itoa xt.lab.2.2.2.2.1).length+([110,43]:Bs).length≤maxLen∧QU xt.lab.2.2.2.2.2∧(Lib.itoa xt.lab.2.2.2.2.1++([110,43]:Bs)).length+(Lib.itoa xt.lab.2.2.2.2.2).length≤maxLen∧K ((Lib.itoa xt.lab.2.2.2.2.1++([110,43]:Bs))++Lib.itoa xt.lab.2.2.2.2.2))
theorem abE {g:ak} {g0:Option Addr} {m0:Nat} (xt:TS) (a0:bE g (.slice yP) [.slice g0 xt.kids.length m0] xt.kids) (hG3:mg g 3 (.int .u64) yZ) (K:Bs→Prop)
  (hF:ais xt K):az prog 83 #[.agg (aL xt.lab g0 xt.kids.length m0)] g [] (fun g' H' v=>∃ (r0:Bs),v=sv r0∧H'=[]∧K r0):=by
 refine aP 22 func83 rfl fun w0=>?_;refine ae (ai (cO fun iC=>?_));refine av 1 [(1,pv iC 0)] kr (aa (aF (ae (aj 3 [.e 0] [1] [(5,.bool (decide (xt.lab.2.2.2.2.2<0)))] ?_))));refine aa (aJ hF (fun hc2 hF=>?_) (fun hc2 hF=>?_))
 ·refine aF (gq kr kr (eZ 1 [1] [(6,pv iC 4)] ?_));refine dS.op rfl (fK.s (v:=iv xt.lab.2.2.2.2.1) (aS 0 rfl rfl underlying3 rfl kr) rfl rfl ?_);obtain ⟨hp3,hF⟩:=hF;refine dS.op rfl (fK.f gU (fun W hW=>Ib xt.lab.2.2.2.2.1 (hG3.mono hW.sees) hp3) rfl ?_);obtain ⟨hv,hF⟩:=hF;let D:=Lib.itoa xt.lab.2.2.2.2.1++([110]:Bs);refine dS.op rfl (fK.s (v:=sv D) (dz rfl rfl hv) rfl rfl (yX 1 [(9,sv D),(10,pv iC 5)] kr (dS.op rfl (fK.s (v:=iv xt.lab.2.2.2.2.2) (aS 0 rfl rfl underlying3 rfl kr) rfl rfl ?_))));obtain ⟨XT,hF⟩:=hF;refine dS.op rfl (fK.f gU (fun W hW=>Ib xt.lab.2.2.2.2.2 (hG3.mono hW.sees) XT) rfl ?_);obtain ⟨hv,hF⟩:=hF;let B:=D++Lib.itoa xt.lab.2.2.2.2.2;refine dS.op rfl (fK.s (v:=sv B) (dz rfl rfl hv) rfl rfl (yX 1 [(2,sv B)] kr (kQ (Ok.t (Ok.ret (aC ?_))))));exact gV (sv B) ⟨B,rfl,rfl,hF⟩
 refine Ok.k (Ok.t (aF (gq kr kr (eZ 1 [1] [(14,pv iC 4)] ?_))));refine dS.op rfl (fK.s (v:=iv xt.lab.2.2.2.2.1) (aS 0 rfl rfl underlying3 rfl kr) rfl rfl ?_);obtain ⟨M3,hF⟩:=hF;refine dS.op rfl (fK.f gU (fun W hW=>Ib xt.lab.2.2.2.2.1 (hG3.mono hW.sees) M3) rfl ?_);obtain ⟨hv,hF⟩:=hF;let C:=Lib.itoa xt.lab.2.2.2.2.1++([110,43]:Bs);refine dS.op rfl (fK.s (v:=sv C) (dz rfl rfl hv) rfl rfl (yX 1 [(17,sv C),(18,pv iC 5)] kr (dS.op rfl (fK.s (v:=iv xt.lab.2.2.2.2.2) (aS 0 rfl rfl underlying3 rfl kr) rfl rfl ?_))));obtain ⟨hp6,hF⟩:=hF;refine dS.op rfl (fK.f gU (fun W hW=>Ib xt.lab.2.2.2.2.2 (hG3.mono hW.sees) hp6) rfl ?_);obtain ⟨hv,hF⟩:=hF;let A:=C++Lib.itoa xt.lab.2.2.2.2.2;refine dS.op rfl (fK.s (v:=sv A) (dz rfl rfl hv) rfl rfl (yX 1 [(2,sv A)] kr (kQ (Ok.t (Ok.ret ?_)))));exact gV (sv A) ⟨A,rfl,rfl,hF⟩
theorem air (t:Ts) (hp:Ae t):ais t (fun r=>r=nthT t):=by
 obtain ⟨h1,h2⟩:=vF hp.1;obtain ⟨h3,h4⟩:=vF hp.2;have e:maxLen=9223372036854775807:=rfl;refine ⟨fun hb=>⟨h1,sl,h3,sl,?_⟩,fun hb=>⟨h1,sl,h3,sl,?_⟩⟩
 ·unfold nthT lY; rw [bB (df hb)]; simp
 unfold nthT lY; rw [aQ (fq hb)]; simp
theorem ZC {g:ak} {g0:Option Addr} {m0:Nat} (xt:TS) (a0:bE g (.slice yP) [.slice g0 xt.kids.length m0] xt.kids) (hG3:mg g 3 (.int .u64) yZ)  (hp:Ae xt):bC prog 83 #[.agg (aL xt.lab g0 xt.kids.length m0)] g (sv (nthT xt)) :=
 (abE xt a0 hG3 _ (air xt hp)).gv
def R8 (N:Nat):Prop:=∀ (g:ak) {g0:Option Addr} {m0:Nat} (xt:TS) (a0:bE g (.slice yP) [.slice g0 xt.kids.length m0] xt.kids) (hG3:mg g 3 (.int .u64) yZ)  (hp:JE N xt),bC prog 49 #[.agg (aL xt.lab g0 xt.kids.length m0)] g (sv (Jl xt))
def R6 (N:Nat):Prop:=∀ (g:ak) {i0:Option Addr} {Z0:Nat} (xl:List PH) (s0:bE g (.slice yP) [.slice i0 xl.length Z0] xl) (hG3:mg g 3 (.int .u64) yZ)  (hp:JD N xl),bC prog 26 #[.slice i0 xl.length Z0] g (sv (tx3 xl))
def vV (xt:TS):Bool :=
 ((decide (((bytesOf ([xt.lab.2.2.1]:List Int)).length:Int)≥(([61]:Bs).length:Int)))&&(((bytesOf ([xt.lab.2.2.1]:List Int)).drop (Int.toNat (w6 (((bytesOf ([xt.lab.2.2.1]:List Int)).length:Int) - (([61]:Bs).length:Int)))))==([61]:Bs)))
def sttV1 (xt:TS):Bs :=
 (if (vV xt)=true then (bytesOf ([xt.lab.2.2.1]:List Int)).take (Int.toNat (w6 (((bytesOf ([xt.lab.2.2.1]:List Int)).length:Int) - (([61]:Bs).length:Int)))) else (bytesOf ([xt.lab.2.2.1]:List Int)))
def tY (xt:TS) (K:Bs→Prop):Prop :=
 (([91]:Bs)++xt.lab.2.1).length+(sttV1 xt).length≤maxLen∧((([91]:Bs)++xt.lab.2.1)++sttV1 xt).length+([61,34]:Bs).length≤maxLen∧mG xt.lab.2.2.2.1∧(((([91]:Bs)++xt.lab.2.1)++sttV1 xt)++([61,34]:Bs)).length+(quoteS xt.lab.2.2.2.1).length≤maxLen∧((((([91]:Bs)++xt.lab.2.1)++sttV1 xt)++([61,34]:Bs))++quoteS xt.lab.2.2.2.1).length+([34,93]:Bs).length≤maxLen∧K (((((([91]:Bs)++xt.lab.2.1)++sttV1 xt)++([61,34]:Bs))++quoteS xt.lab.2.2.2.1)++([34,93]:Bs))
def oz (xt:TS) (K:Bs→Prop):Prop :=
 (vV xt=true→(0:Int)≤0∧0≤(w6 (((bytesOf ([xt.lab.2.2.1]:List Int)).length:Int) - (([61]:Bs).length:Int)))∧(w6 (((bytesOf ([xt.lab.2.2.1]:List Int)).length:Int) - (([61]:Bs).length:Int)))≤((bytesOf ([xt.lab.2.2.1]:List Int)).length:Int)∧tY xt K)∧(vV xt=false→tY xt K)
def ag0 (N:Nat) (xt:TS) (K:Bs→Prop):Prop :=
 ((xt.lab.1==1)=true→K ([42]:Bs))∧((xt.lab.1==1)=false→((xt.lab.1==2)=true→K xt.lab.2.1)∧((xt.lab.1==2)=false→((xt.lab.1==3)=true→([35]:Bs).length+xt.lab.2.1.length≤maxLen∧K (([35]:Bs)++xt.lab.2.1))∧((xt.lab.1==3)=false→((xt.lab.1==4)=true→([46]:Bs).length+xt.lab.2.1.length≤maxLen∧K (([46]:Bs)++xt.lab.2.1))∧((xt.lab.1==4)=false→((xt.lab.1==5)=true→((xt.lab.2.2.1==0)=true→([91]:Bs).length+xt.lab.2.1.length≤maxLen∧(([91]:Bs)++xt.lab.2.1).length+([93]:Bs).length≤maxLen∧K ((([91]:Bs)++xt.lab.2.1)++([93]:Bs)))∧((xt.lab.2.2.1==0)=false→([91]:Bs).length+xt.lab.2.1.length≤maxLen∧((decide (((bytesOf ([xt.lab.2.2.1]:List Int)).length:Int)≥(([61]:Bs).length:Int)))=true→0≤(w6 (((bytesOf ([xt.lab.2.2.1]:List Int)).length:Int) - (([61]:Bs).length:Int)))∧((w6 (((bytesOf ([xt.lab.2.2.1]:List Int)).length:Int) - (([61]:Bs).length:Int))):Int)≤((bytesOf ([xt.lab.2.2.1]:List Int)).length:Int)∧((bytesOf ([xt.lab.2.2.1]:List Int)).length:Int)≤((bytesOf ([xt.lab.2.2.1]:List Int)).length:Int)∧oz xt K)∧((decide (((bytesOf ([xt.lab.2.2.1]:List Int)).length:Int)≥(([61]:Bs).length:Int)))=false→oz xt K)))∧((xt.lab.1==5)=false→((xt.lab.1==6)=true→K ([58,114,111,111,116]:Bs))∧((xt.lab.1==6)=false→((xt.lab.1==7)=true→K ([58,101,109,112,116,121]:Bs))∧((xt.lab.1==7)=false→((xt.lab.1==8)=true→Ae xt∧([58,110,116,104,45,99,104,105,108,100,40]:Bs).length+(nthT xt).length≤maxLen∧(([58,110,116,104,45,99,104,105,108,100,40]:Bs)++nthT xt).length+([41]:Bs).length≤maxLen∧K ((([58,110,116,104,45,99,104,105,108,100,40]:Bs)++nthT xt)++([41]:Bs)))∧((xt.lab.1==8)=false→((xt.lab.1==9)=true→Ae xt∧([58,110,116,104,45,108,97,115,116,45,99,104,105,108,100,40]:Bs).length+(nthT xt).length≤maxLen∧(([58,110,116,104,45,108,97,115,116,45,99,104,105,108,100,40]:Bs)++nthT xt).length+([41]:Bs).length≤maxLen∧K ((([58,110,116,104,45,108,97,115,116,45,99,104,105,108,100,40]:Bs)++nthT xt)++([41]:Bs)))∧((xt.lab.1==9)=false→((xt.lab.1==10)=true→JD N xt.kids∧([58,110,111,116,40]:Bs).length+(tx3 xt.kids).length≤maxLen∧(([58,110,111,116,40]:Bs)++tx3 xt.kids).length+([41]:Bs).length≤maxLen∧K ((([58,110,111,116,40]:Bs)++tx3 xt.kids)++([41]:Bs)))∧((xt.lab.1==10)=false→JD N xt.kids∧([58,105,115,40]:Bs).length+(tx3 xt.kids).length≤maxLen∧(([58,105,115,40]:Bs)++tx3 xt.kids).length+([41]:Bs).length≤maxLen∧K ((([58,105,115,40]:Bs)++tx3 xt.kids)++([41]:Bs))))))))))))
theorem aaB {g:ak} (N:Nat) (Uc:R8 N) (MV:R6 N) {g0:Option Addr} {m0:Nat} (xt:TS) (a0:bE g (.slice yP) [.slice g0 xt.kids.length m0] xt.kids) (hG3:mg g 3 (.int .u64) yZ) (K:Bs→Prop)
  (hF:ag0 N xt K):az prog 49 #[.agg (aL xt.lab g0 xt.kids.length m0)] g [] (fun g' H' v=>∃ (r0:Bs),v=sv r0∧H'=[]∧K r0):=by
 refine aP 73 func49 rfl fun w0=>?_;refine ae (ai (cO fun iC=>?_));refine av 1 [(1,pv iC 0)] kr (aa (aF (ae (ag 1 [1] [(3,pv iC 0)] ?_))));refine ai (af.s (v:=iv xt.lab.1) (aS 0 rfl rfl underlying3 rfl kr) rfl rfl (aa (Ok.block (ae (ag 2 [1] [(4,iv xt.lab.1),(5,.bool (xt.lab.1==1))] ?_)))));refine aa (aJ hF (fun hc2 hF=>?_) (fun hc2 hF=>?_))
 ·refine ae (av 1 [(2,sv ([42]:Bs))] kr (aa (Ok.ret (aV (aC ?_)))));exact gV (sv ([42]:Bs)) ⟨([42]:Bs),rfl,rfl,hF⟩
 refine ae (ag 2 [1,4] [(7,.bool (xt.lab.1==2))] ?_);refine aa (aJ hF (fun hc3 hF=>?_) (fun hc3 hF=>?_))
 ·refine ae (aj 3 [.e 0] [] [(2,sv xt.lab.2.1)] ?_);refine aa (Ok.ret (aV (aC ?_)));exact gV (sv xt.lab.2.1) ⟨xt.lab.2.1,rfl,rfl,hF⟩
 refine ae (ag 2 [1,4] [(11,.bool (xt.lab.1==3))] ?_);refine aa (aJ hF (fun hc4 hF=>?_) (fun hc4 hF=>?_))
 ·refine ae (av 1 [(13,pv iC 1)] kr (ai (af.s (v:=sv xt.lab.2.1) (aS 0 rfl rfl underlying9 rfl kr) rfl rfl ?_)));obtain ⟨hv,hF⟩:=hF;refine ai (af.s (v:=sv (([35]:Bs)++xt.lab.2.1)) (dz rfl rfl hv) rfl rfl (av 1 [(2,sv (([35]:Bs)++xt.lab.2.1))] kr (aa (Ok.ret (aV (aC ?_))))));exact gV (sv (([35]:Bs)++xt.lab.2.1)) ⟨(([35]:Bs)++xt.lab.2.1),rfl,rfl,hF⟩
 refine ae (ag 2 [1,4] [(16,.bool (xt.lab.1==4))] ?_);refine aa (aJ hF (fun jy hF=>?_) (fun jy hF=>?_))
 ·refine ae (av 1 [(18,pv iC 1)] kr (ai (af.s (v:=sv xt.lab.2.1) (aS 0 rfl rfl underlying9 rfl kr) rfl rfl ?_)));obtain ⟨hv,hF⟩:=hF;refine ai (af.s (v:=sv (([46]:Bs)++xt.lab.2.1)) (dz rfl rfl hv) rfl rfl (av 1 [(2,sv (([46]:Bs)++xt.lab.2.1))] kr (aa (Ok.ret (aV (aC ?_))))));exact gV (sv (([46]:Bs)++xt.lab.2.1)) ⟨(([46]:Bs)++xt.lab.2.1),rfl,rfl,hF⟩
 refine ae (ag 2 [1,4] [(21,.bool (xt.lab.1==5))] ?_);refine aa (aJ hF (fun hc6 hF=>?_) (fun hc6 hF=>?_))
 ·refine aF (ae (aj 3 [.e 0] [1] [(25,.bool (xt.lab.2.2.1==0))] ?_));refine aa (aJ hF (fun iB hF=>?_) (fun iB hF=>?_))
  ·refine ae (av 1 [(26,pv iC 1)] kr (ai (af.s (v:=sv xt.lab.2.1) (aS 0 rfl rfl underlying9 rfl kr) rfl rfl ?_)));obtain ⟨hv,hF⟩:=hF;refine ai (af.s (v:=sv (([91]:Bs)++xt.lab.2.1)) (dz rfl rfl hv) rfl rfl ?_);obtain ⟨hv,hF⟩:=hF;refine ai (af.s (v:=sv ((([91]:Bs)++xt.lab.2.1)++([93]:Bs))) (dz rfl rfl hv) rfl rfl (av 1 [(2,sv ((([91]:Bs)++xt.lab.2.1)++([93]:Bs)))] kr (aa (Ok.ret (aC (aV (aC ?_)))))));exact gV (sv ((([91]:Bs)++xt.lab.2.1)++([93]:Bs))) ⟨((([91]:Bs)++xt.lab.2.1)++([93]:Bs)),rfl,rfl,hF⟩
  refine Ok.k (Ok.t (aF (wH [] [] [1] [(0,true),(1,true),(2,true),(3,true),(4,true),(10,true),(11,true),(5,false),(6,false),(7,false),(8,true),(9,true),(12,true),(13,true),(14,true),(15,true)] ?_)));refine iJ 1 [1] [(30,pv iC 1)] ?_;refine eH.hd (fK.s (v:=sv xt.lab.2.1) (aS 0 rfl rfl underlying9 rfl kr) rfl rfl ?_);obtain ⟨hv,hF⟩:=hF;refine eH.hd (fK.s (v:=sv (([91]:Bs)++xt.lab.2.1)) (dz rfl rfl hv) rfl rfl ?_);refine iJ 1 [1] [(32,sv (([91]:Bs)++xt.lab.2.1)),(33,pv iC 2)] ?_;refine eH.hd (fK.s (v:=.int .u8 xt.lab.2.2.1) (aS 0 rfl rfl underlying5 rfl kr) rfl rfl ?_);refine iJ 1 [32] [(34,.int .u8 xt.lab.2.2.1),(40,pv iC 3)] ?_;refine eH.hd (fK.s (v:=sv xt.lab.2.2.2.1) (aS 0 rfl rfl underlying9 rfl kr) rfl rfl ?_);have ZQ:aW g yb ([.int .u8 xt.lab.2.2.1]:List Value) ([xt.lab.2.2.1]:List Int):=(dx (c:=[.int .u8 xt.lab.2.2.1]) rfl rfl);refine eH.t rfl rfl (gz ZQ fun b8=>?_);refine h_ (lG.refl _) (eH.t rfl rfl (af.s (v:=sv (bytesOf ([xt.lab.2.2.1]:List Int))) (j4 0 kr rfl rfl ZQ underlying26 underlying9 underlying5) rfl rfl (h_ (lG.refl _) (eH.t rfl rfl (bO (args:=#[sv (bytesOf ([xt.lab.2.2.1]:List Int)),sv ([61]:Bs)]) 8 [(0,sv (bytesOf ([xt.lab.2.2.1]:List Int))),(1,sv ([61]:Bs))] gU func81 rfl rfl rfl rfl (ae (av 1 [(0,sv (bytesOf ([xt.lab.2.2.1]:List Int))),(1,sv ([61]:Bs))] kr (aa (ae (av 2 [(5,sv (bytesOf ([xt.lab.2.2.1]:List Int))),(6,sv ([61]:Bs))] kr (ai (af.cut (fun a W=>∃ o1:ak,bf w0 g o1∧fC 8 [(7,sv (sttV1 xt))] a∧dm w0 [.blk iC (.cells (aL xt.lab g0 xt.kids.length m0) 60)] o1 W∧tY xt K) ?_ ?_))))))))))))
  ·
   refine bO (args:=#[sv (bytesOf ([xt.lab.2.2.1]:List Int)),sv ([61]:Bs)]) 16 [(0,sv (bytesOf ([xt.lab.2.2.1]:List Int))),(1,sv ([61]:Bs))] gU func124 rfl rfl rfl rfl (ae (av 1 [(0,sv (bytesOf ([xt.lab.2.2.1]:List Int))),(1,sv ([61]:Bs))] kr (aa (aF (ae (ag 2 [0,1] [(5,sv (bytesOf ([xt.lab.2.2.1]:List Int))),(6,sv ([61]:Bs))] ?_))))));refine ai (bO (args:=#[sv (bytesOf ([xt.lab.2.2.1]:List Int)),sv ([61]:Bs)]) 21 [(0,sv (bytesOf ([xt.lab.2.2.1]:List Int))),(1,sv ([61]:Bs))] gU func172 rfl rfl rfl rfl (ae (ag 1 [0,1] [] ?_)));refine aa (iK g [(4,.bool (vV xt))] [.blk iC (.cells (aL xt.lab g0 xt.kids.length m0) 60)] (oz xt K) ?_ (fun O0 J0 hF=>?_))
   ·
    refine aR (ag 6 [0,1] [(10,.bool (decide (((bytesOf ([xt.lab.2.2.1]:List Int)).length:Int)≥(([61]:Bs).length:Int))))] ?_);refine bP 10 hF (fun r1 hF=>?_) (fun r1 hF=>?_)
    ·refine ag 6 [1] [(10,.bool true),(11,sv (bytesOf ([xt.lab.2.2.1]:List Int))),(16,iv (w6 (((bytesOf ([xt.lab.2.2.1]:List Int)).length:Int) - (([61]:Bs).length:Int))))] ?_;obtain ⟨Nt,IJ,aqW,hF⟩:=hF;refine dZ (af.s (b_ (s:=bytesOf ([xt.lab.2.2.1]:List Int)) (l:=(w6 (((bytesOf ([xt.lab.2.2.1]:List Int)).length:Int) - (([61]:Bs).length:Int)))) (h:=((bytesOf ([xt.lab.2.2.1]:List Int)).length:Int)) kr underlying9 (.inl ⟨_,_,rfl,rfl⟩) (.inr ⟨rfl,rfl⟩) Nt IJ aqW ((bytesOf ([xt.lab.2.2.1]:List Int)).drop (Int.toNat (w6 (((bytesOf ([xt.lab.2.2.1]:List Int)).length:Int) - (([61]:Bs).length:Int))))) (by rw [show ((bytesOf ([xt.lab.2.2.1]:List Int)).length:Int).toNat=(bytesOf ([xt.lab.2.2.1]:List Int)).length from dR _,iX])) rfl rfl (aj 4 [] [] [(4,.bool (((bytesOf ([xt.lab.2.2.1]:List Int)).drop (Int.toNat (w6 (((bytesOf ([xt.lab.2.2.1]:List Int)).length:Int) - (([61]:Bs).length:Int)))))==([61]:Bs)))] ?_));refine aa (aB 4 (vV xt) (bn r1) ?_);exact fg hF
    refine av 11 [(4,.bool false)] kr (aa (aB 4 (vV xt) (bZ r1) ?_));exact fg hF
   replace a0:=a0.mono J0.1;replace hG3:=hG3.mono J0.1;refine Ok.ret (bA (vs:=[.bool (vV xt)]) (.inl rfl) rfl (.cons (.tmp rfl) .nil) rfl (aa (aJ hF (fun X1 hF=>?_) (fun X1 hF=>?_))))
   ·refine ae (av 6 [(8,sv (bytesOf ([xt.lab.2.2.1]:List Int))),(13,iv (w6 (((bytesOf ([xt.lab.2.2.1]:List Int)).length:Int) - (([61]:Bs).length:Int))))] kr ?_);obtain ⟨S1,B1,adY,hF⟩:=hF;refine ai (af.s (b_ (s:=bytesOf ([xt.lab.2.2.1]:List Int)) (l:=0) (h:=(w6 (((bytesOf ([xt.lab.2.2.1]:List Int)).length:Int) - (([61]:Bs).length:Int)))) kr underlying9 (.inr ⟨rfl,rfl⟩) (.inl ⟨_,_,rfl,rfl⟩) S1 B1 adY ((bytesOf ([xt.lab.2.2.1]:List Int)).take (Int.toNat (w6 (((bytesOf ([xt.lab.2.2.1]:List Int)).length:Int) - (([61]:Bs).length:Int))))) (by simp)) rfl rfl (av 1 [(4,sv ((bytesOf ([xt.lab.2.2.1]:List Int)).take (Int.toNat (w6 (((bytesOf ([xt.lab.2.2.1]:List Int)).length:Int) - (([61]:Bs).length:Int))))))] kr (aa (Ok.ret (aC (bA (vs:=[sv ((bytesOf ([xt.lab.2.2.1]:List Int)).take (Int.toNat (w6 (((bytesOf ([xt.lab.2.2.1]:List Int)).length:Int) - (([61]:Bs).length:Int)))))]) (.inl rfl) rfl (.cons (.tmp rfl) .nil) rfl (gX 7 rfl (show (sv ((bytesOf ([xt.lab.2.2.1]:List Int)).take (Int.toNat (w6 (((bytesOf ([xt.lab.2.2.1]:List Int)).length:Int) - (([61]:Bs).length:Int))))):Value)=sv (sttV1 xt) from aA (fun s:Bs=>Value.string ⟨⟨s⟩⟩) ((aU X1).symm)) ?_)))))));exact fun _ _ u v=>⟨O0,J0,fA u v hF⟩
   refine Ok.k (Ok.t (ae (av 2 [(4,sv (bytesOf ([xt.lab.2.2.1]:List Int)))] kr (aa (Ok.ret (bA (vs:=[sv (bytesOf ([xt.lab.2.2.1]:List Int))]) (.inl rfl) rfl (.cons (.tmp rfl) .nil) rfl (gX 7 rfl (show (sv (bytesOf ([xt.lab.2.2.1]:List Int)):Value)=sv (sttV1 xt) from aA (fun s:Bs=>Value.string ⟨⟨s⟩⟩) ((aG X1).symm)) ?_)))))));exact fun _ _ u v=>⟨O0,J0,fA u v hF⟩
  clear hF;rintro _ _ ⟨o1,N0,q⟩;refine jn (fun hF=>?_) _ _ q;replace a0:=a0.mono N0.1;replace hG3:=hG3.mono N0.1;refine av 1 [(4,sv (sttV1 xt))] kr (aa (Ok.ret (bA (vs:=[sv (sttV1 xt)]) (.inl rfl) rfl (.cons (.tmp rfl) .nil) rfl (h_ N0.1 ?_))));obtain ⟨hv,hF⟩:=hF;refine eH.hd (fK.s (v:=sv ((([91]:Bs)++xt.lab.2.1)++sttV1 xt)) (dz rfl rfl hv) rfl rfl ?_);obtain ⟨hv,hF⟩:=hF;refine eH.hd (fK.s (v:=sv (((([91]:Bs)++xt.lab.2.1)++sttV1 xt)++([61,34]:Bs))) (dz rfl rfl hv) rfl rfl ?_);obtain ⟨Il,hF⟩:=hF;refine eH.hd (fK.f gU (fun W hW=>ah0 xt.lab.2.2.2.1 Il) rfl ?_);obtain ⟨hv,hF⟩:=hF;refine eH.hd (fK.s (v:=sv ((((([91]:Bs)++xt.lab.2.1)++sttV1 xt)++([61,34]:Bs))++quoteS xt.lab.2.2.2.1)) (dz rfl rfl hv) rfl rfl ?_);obtain ⟨hv,hF⟩:=hF;refine eH.hd (fK.s (v:=sv (((((([91]:Bs)++xt.lab.2.1)++sttV1 xt)++([61,34]:Bs))++quoteS xt.lab.2.2.2.1)++([34,93]:Bs))) (dz rfl rfl hv) rfl rfl ?_);refine Qb 1 [(2,sv (((((([91]:Bs)++xt.lab.2.1)++sttV1 xt)++([61,34]:Bs))++quoteS xt.lab.2.2.2.1)++([34,93]:Bs)))] kr (eH.nil (Ok.t (Ok.ret (aV (aC ?_)))));exact jg (sv (((((([91]:Bs)++xt.lab.2.1)++sttV1 xt)++([61,34]:Bs))++quoteS xt.lab.2.2.2.1)++([34,93]:Bs))) N0 ⟨(((((([91]:Bs)++xt.lab.2.1)++sttV1 xt)++([61,34]:Bs))++quoteS xt.lab.2.2.2.1)++([34,93]:Bs)),rfl,rfl,hF⟩
 refine ae (ag 2 [1,4] [(45,.bool (xt.lab.1==6))] ?_);refine aa (aJ hF (fun Nb hF=>?_) (fun Nb hF=>?_))
 ·refine ae (av 1 [(2,sv ([58,114,111,111,116]:Bs))] kr (aa (Ok.ret (aV (aC ?_)))));exact gV (sv ([58,114,111,111,116]:Bs)) ⟨([58,114,111,111,116]:Bs),rfl,rfl,hF⟩
 refine ae (ag 2 [1,4] [(47,.bool (xt.lab.1==7))] ?_);refine aa (aJ hF (fun Ir hF=>?_) (fun Ir hF=>?_))
 ·refine ae (av 1 [(2,sv ([58,101,109,112,116,121]:Bs))] kr (aa (Ok.ret (aV (aC ?_)))));exact gV (sv ([58,101,109,112,116,121]:Bs)) ⟨([58,101,109,112,116,121]:Bs),rfl,rfl,hF⟩
 refine ae (ag 2 [1,4] [(49,.bool (xt.lab.1==8))] ?_);refine aa (aJ hF (fun hc16 hF=>?_) (fun hc16 hF=>?_))
 ·refine ae (ai (af.s (v:=.agg (aL xt.lab g0 xt.kids.length m0)) (aZ 0 7 (aL xt.lab g0 xt.kids.length m0) rfl rfl underlying60 rfl kr kr kr) rfl rfl ?_));obtain ⟨C1,hF⟩:=hF;refine ai (af.f gU (fun W hW=>ZC xt (a0.mono hW.sees) (hG3.mono hW.sees) C1) rfl ?_);obtain ⟨hv,hF⟩:=hF;refine ai (af.s (v:=sv (([58,110,116,104,45,99,104,105,108,100,40]:Bs)++nthT xt)) (dz rfl rfl hv) rfl rfl ?_);obtain ⟨hv,hF⟩:=hF;refine ai (af.s (v:=sv ((([58,110,116,104,45,99,104,105,108,100,40]:Bs)++nthT xt)++([41]:Bs))) (dz rfl rfl hv) rfl rfl (av 1 [(2,sv ((([58,110,116,104,45,99,104,105,108,100,40]:Bs)++nthT xt)++([41]:Bs)))] kr (aa (Ok.ret (aV (aC ?_))))));exact gV (sv ((([58,110,116,104,45,99,104,105,108,100,40]:Bs)++nthT xt)++([41]:Bs))) ⟨((([58,110,116,104,45,99,104,105,108,100,40]:Bs)++nthT xt)++([41]:Bs)),rfl,rfl,hF⟩
 refine ae (ag 2 [1,4] [(55,.bool (xt.lab.1==9))] ?_);refine aa (aJ hF (fun hc18 hF=>?_) (fun hc18 hF=>?_))
 ·refine ae (ai (af.s (v:=.agg (aL xt.lab g0 xt.kids.length m0)) (aZ 0 7 (aL xt.lab g0 xt.kids.length m0) rfl rfl underlying60 rfl kr kr kr) rfl rfl ?_));obtain ⟨M5,hF⟩:=hF;refine ai (af.f gU (fun W hW=>ZC xt (a0.mono hW.sees) (hG3.mono hW.sees) M5) rfl ?_);obtain ⟨hv,hF⟩:=hF;refine ai (af.s (v:=sv (([58,110,116,104,45,108,97,115,116,45,99,104,105,108,100,40]:Bs)++nthT xt)) (dz rfl rfl hv) rfl rfl ?_);obtain ⟨hv,hF⟩:=hF;refine ai (af.s (v:=sv ((([58,110,116,104,45,108,97,115,116,45,99,104,105,108,100,40]:Bs)++nthT xt)++([41]:Bs))) (dz rfl rfl hv) rfl rfl (av 1 [(2,sv ((([58,110,116,104,45,108,97,115,116,45,99,104,105,108,100,40]:Bs)++nthT xt)++([41]:Bs)))] kr (aa (Ok.ret (aV (aC ?_))))));exact gV (sv ((([58,110,116,104,45,108,97,115,116,45,99,104,105,108,100,40]:Bs)++nthT xt)++([41]:Bs))) ⟨((([58,110,116,104,45,108,97,115,116,45,99,104,105,108,100,40]:Bs)++nthT xt)++([41]:Bs)),rfl,rfl,hF⟩
 refine ae (ag 2 [1] [(61,.bool (xt.lab.1==10))] ?_);refine aa (aJ hF (fun Na hF=>?_) (fun Na hF=>?_))
 ·refine ae (av 1 [(63,pv iC 6)] kr (ai (af.s (v:=.slice g0 xt.kids.length m0) (aS 0 rfl rfl underlying33 rfl kr) rfl rfl ?_)));obtain ⟨Uz,hF⟩:=hF;refine ai (af.f gU (fun W hW=>MV _ xt.kids (a0.mono hW.sees) (hG3.mono hW.sees) Uz) rfl ?_);obtain ⟨hv,hF⟩:=hF;refine ai (af.s (v:=sv (([58,110,111,116,40]:Bs)++tx3 xt.kids)) (dz rfl rfl hv) rfl rfl ?_);obtain ⟨hv,hF⟩:=hF;refine ai (af.s (v:=sv ((([58,110,111,116,40]:Bs)++tx3 xt.kids)++([41]:Bs))) (dz rfl rfl hv) rfl rfl (av 1 [(2,sv ((([58,110,111,116,40]:Bs)++tx3 xt.kids)++([41]:Bs)))] kr (aa (Ok.ret (aV (aC ?_))))));exact gV (sv ((([58,110,111,116,40]:Bs)++tx3 xt.kids)++([41]:Bs))) ⟨((([58,110,111,116,40]:Bs)++tx3 xt.kids)++([41]:Bs)),rfl,rfl,hF⟩
 refine Ok.k (bG (Ok.t (ae (av 1 [(68,pv iC 6)] kr (ai (af.s (v:=.slice g0 xt.kids.length m0) (aS 0 rfl rfl underlying33 rfl kr) rfl rfl ?_))))));obtain ⟨acC,hF⟩:=hF;refine ai (af.f gU (fun W hW=>MV _ xt.kids (a0.mono hW.sees) (hG3.mono hW.sees) acC) rfl ?_);obtain ⟨hv,hF⟩:=hF;refine ai (af.s (v:=sv (([58,105,115,40]:Bs)++tx3 xt.kids)) (dz rfl rfl hv) rfl rfl ?_);obtain ⟨hv,hF⟩:=hF;refine ai (af.s (v:=sv ((([58,105,115,40]:Bs)++tx3 xt.kids)++([41]:Bs))) (dz rfl rfl hv) rfl rfl (av 1 [(2,sv ((([58,105,115,40]:Bs)++tx3 xt.kids)++([41]:Bs)))] kr (aa (Ok.ret ?_))));exact gV (sv ((([58,105,115,40]:Bs)++tx3 xt.kids)++([41]:Bs))) ⟨((([58,105,115,40]:Bs)++tx3 xt.kids)++([41]:Bs)),rfl,rfl,hF⟩
def nI (e4:PH) (q0:Int) (z0:List Int):List Int :=
 (if (decide (q0>0))=true then (if ((e4.2.getD (Int.toNat (w6 (q0 - 1))) default) != 32)=true then (Zc (jN.sU z0 32).2 ([(e4.2.getD (Int.toNat (w6 (q0 - 1))) default),32]:List Int)).2.2 else (jN.sU z0 32).2) else z0)
def Wq (N:Nat) (e11:List TS) (q0:Int) (V8:Int→List Int→Prop) (f0:Int) (u0:List Int) (C54:Int→List Int→Prop):Prop :=
 ((decide (f0<(e11.length:Int)))=true→0≤f0∧f0.toNat<e11.length∧JE N (e11.getD f0.toNat default)∧jN.wsP u0 (Jl (e11.getD f0.toNat default))∧C54 (w6 (f0+1)) (jN.V9 u0 (Jl (e11.getD f0.toNat default))).2.2)∧((decide (f0<(e11.length:Int)))=false→V8 (w6 (q0+1)) u0)
def Cg (N:Nat) (e11:List TS) (q0:Int) (V8:Int→List Int→Prop):Nat→Int→List Int→Prop
 | 0,_,_=>False
 | k+1,f0,u0=>Wq N e11 q0 V8 f0 u0 (Cg N e11 q0 V8 k)
def Ch (N:Nat) (e4:PH) (e11:List TS) (q0:Int) (z0:List Int) (V8:Int→List Int→Prop):Prop :=
 ∃ k,Cg N e11 q0 V8 k 0 (nI e4 q0 z0)
def Ws (N:Nat) (e4:PH) (b0:Int) (v0:List Bs) (C9:Int→List Bs→Prop) (q0:Int) (z0:List Int) (V8:Int→List Int→Prop):Prop :=
 ((decide (q0<(e4.1.length:Int)))=true→0≤q0∧q0.toNat<e4.1.length∧(decide (q0>0)=true→jN.VW z0 32∧0≤w6 (q0 - 1)∧Int.toNat (w6 (q0 - 1))<e4.2.length∧(((e4.2.getD (Int.toNat (w6 (q0 - 1))) default) != 32)=true→wrP (jN.sU z0 32).2 ([(e4.2.getD (Int.toNat (w6 (q0 - 1))) default),32]:List Int)∧Ch N e4 (e4.1.getD q0.toNat default) q0 z0 V8)∧(((e4.2.getD (Int.toNat (w6 (q0 - 1))) default) != 32)=false→Ch N e4 (e4.1.getD q0.toNat default) q0 z0 V8))∧(decide (q0>0)=false→Ch N e4 (e4.1.getD q0.toNat default) q0 z0 V8))∧((decide (q0<(e4.1.length:Int)))=false→jN.stP z0∧(v0++([bytesOf z0]:List Bs)).length≤8796093022208∧C9 (w6 (b0+1)) (v0++([bytesOf z0]:List Bs)))
def wI (N:Nat) (e4:PH) (b0:Int) (v0:List Bs) (C9:Int→List Bs→Prop):Nat→Int→List Int→Prop
 | 0,_,_=>False
 | k+1,q0,z0=>Ws N e4 b0 v0 C9 q0 z0 (wI N e4 b0 v0 C9 k)
def aax (N:Nat) (xl:List PH) (K:Bs→Prop) (b0:Int) (v0:List Bs) (C9:Int→List Bs→Prop):Prop :=
 ((decide (b0<(xl.length:Int)))=true→0≤b0∧b0.toNat<xl.length∧∃ k,wI N (xl.getD b0.toNat default) b0 v0 C9 k 0 ([]:List Int))∧((decide (b0<(xl.length:Int)))=false→ZK v0 ([44,32]:Bs)∧K (KN v0 ([44,32]:Bs)))
def Cf (N:Nat) (xl:List PH) (K:Bs→Prop):Nat→Int→List Bs→Prop
 | 0,_,_=>False
 | k+1,b0,v0=>aax N xl K b0 v0 (Cf N xl K k)
def agV (N:Nat) (xl:List PH) (K:Bs→Prop):Prop :=
 ∃ k,Cf N xl K k 0 ([]:List Bs)
theorem aay {g:ak} (N:Nat) (Uc:R8 N) (MV:R6 N) {i0:Option Addr} {Z0:Nat} (xl:List PH) (s0:bE g (.slice yP) [.slice i0 xl.length Z0] xl) (hG3:mg g 3 (.int .u64) yZ) (K:Bs→Prop)
  (hF:agV N xl K):az prog 26 #[.slice i0 xl.length Z0] g [] (fun g' H' v=>∃ (r0:Bs),v=sv r0∧H'=[]∧K r0):=by
 refine aP 58 func26 rfl fun w0=>?_;refine ae (av 1 [(0,.slice i0 xl.length Z0)] kr (aa (ae (ag 1 [0] [(3,.slice none 0 0)] ?_))));have hL1:aW g (.str) [] []:=rfl;refine fT 9 1 (aa (aF (ae (av 3 [(3,.slice none ([]:List Bs).length 0),(12,.slice i0 xl.length Z0),(13,iv (xl.length:Int)),(14,iv 0)] kr (aa (Ok.block ?_))))));obtain ⟨k,hF⟩:=hF;refine fQ (fun k a W=>∃ jP:ak,bf w0 g jP∧∃ (b0:Int) (j0:Option Addr) (x0:Nat) (v0:List Bs) (d0:List Value),aW jP (.str) d0 v0∧fC 58 [(3,.slice j0 v0.length x0),(12,.slice i0 xl.length Z0),(13,iv (xl.length:Int)),(14,iv b0)] a∧dm w0 [.own (.slice j0 v0.length x0) 9 1 v0.length d0] jP W∧Cf N xl K k b0 v0) k ?_ ?_
 ·
  exact fun _ _ u v=>⟨g,bu w0 g,0,none,0,([]:List Bs),[],hL1,fA u v hF⟩
 clear hF;rintro (_ | k9) _ _ ⟨jP,W1,b0,j0,x0,v0,d0,y0,q⟩;exact (q.2.2:False).elim;refine jn (fun hF=>?_) _ _ q;replace s0:=s0.mono W1.1;replace hG3:=hG3.mono W1.1;refine ae (ag 1 [3,12,13,14] [(15,.bool (decide (b0<(xl.length:Int))))] ?_);refine aa (aF (aJ hF (fun hc2 hF=>?_) (fun hc2 hF=>?_)))
 ·refine Ok.k (Ok.t (aF (Ok.block (aF (aR ?_)))));obtain ⟨oo,pg,hF⟩:=hF;have ny:=aT (l:=xl) default pg;generalize hg4:(xl.getD b0.toNat default)=e4 at ny hF ⊢;refine ai (af.aX (e:=yP) rfl rfl underlying33 kr s0 oo ny rfl fun q3 o3 Rz _ D1 hr3=>?_);obtain ⟨_,_,rfl,⟨D0,E0,rfl,KX,KU⟩,⟨H0,M0,rfl,KW,KS⟩⟩:=hr3;have Q0:bE jP (.slice (.slice yS)) [.slice D0 e4.1.length E0] e4.1:=⟨D0,E0,rfl,KX,KU⟩;have K0:bE jP (.slice yb) [.slice H0 e4.2.length M0] e4.2:=⟨H0,M0,rfl,KW,KS⟩;replace D1:At jP q3 o3 [.slice D0 e4.1.length E0,.slice H0 e4.2.length M0]:=D1;refine ai (af.s (v:=.agg #[.slice D0 e4.1.length E0,.slice H0 e4.2.length M0]) (bL 0 2 #[.slice D0 e4.1.length E0,.slice H0 e4.2.length M0] D1 kr underlying28 rfl kr kr kr) rfl rfl ?_);have hL5:aW jP yb [] []:=rfl;refine fT 5 1 (ai (bI #[.slice none 0 0,.slice none ([]:List Int).length 0] fun iF=>?_));refine ai (af.w 0 ?_);refine aa (aF (aR ?_));have hL7:aW jP yb [] []:=rfl;refine fT 5 1 (ai (bI #[.pointer none,.slice none 0 0] fun b8=>?_));refine Ok.qJ (aa (aF (ae (aj 4 [.e 2] [] [(3,.slice j0 v0.length x0),(5,pv iF 0),(6,pv b8 0),(12,.slice i0 xl.length Z0),(13,iv (xl.length:Int)),(14,iv b0),(19,.slice D0 e4.1.length E0),(20,iv (e4.1.length:Int)),(21,iv 0)] ?_))));refine aa (Ok.block ?_);obtain ⟨k,hF⟩:=hF;refine fQ (fun k a W=>∃ u1:ak,bf w0 jP u1∧∃ (q0:Int) (n0:Option Addr) (o0:Nat) (z0:List Int) (t0:List Value),aW u1 yb t0 z0∧fC 58 [(3,.slice j0 v0.length x0),(5,pv iF 0),(6,pv b8 0),(12,.slice i0 xl.length Z0),(13,iv (xl.length:Int)),(14,iv b0),(19,.slice D0 e4.1.length E0),(20,iv (e4.1.length:Int)),(21,iv q0)] a∧dm w0 [.qJ b8 87 (.slice n0 z0.length o0),.own (.slice n0 z0.length o0) 5 1 z0.length t0,.blk iF (.cells #[.slice D0 e4.1.length E0,.slice H0 e4.2.length M0] 28),.own (.slice j0 v0.length x0) 9 1 v0.length d0] u1 W∧wI N e4 b0 v0 (Cf N xl K k9) k q0 z0) k ?_ ?_
  ·
   exact fun _ _ u v=>⟨jP,bu w0 jP,0,none,0,([]:List Int),[],hL7,fA u v hF⟩
  clear hF;rintro (_ | k26) _ _ ⟨u1,P0,q0,n0,o0,z0,t0,C0,q⟩;exact (q.2.2:False).elim;refine jn (fun hF=>?_) _ _ q;replace y0:=y0.mono P0.1;replace Q0:=Q0.mono P0.1;replace K0:=K0.mono P0.1;replace hG3:=hG3.mono P0.1;refine ae (ag 1 [3,5,6,12,13,14,19,20,21] [(22,.bool (decide (q0<(e4.1.length:Int))))] ?_);refine aa (aF (dW hF rfl (fun mq=>?_) (fun mq=>?_)))
  ·replace hF:=hF.1 mq;refine Ok.k (Ok.t (aF (Ok.block (ae (ag 1 [3,5,6,12,13,14,19,20,21] [(23,iv q0)] ?_)))));obtain ⟨S1,B1,hF⟩:=hF;have E1:=aT (l:=e4.1) default B1;generalize Ip:(e4.1.getD q0.toNat default)=e11 at E1 hF ⊢;refine ai (af.aX (e:=.slice yS) rfl rfl underlying25 kr Q0 S1 E1 rfl fun q10 o10 Rb _ UM Ik=>?_);obtain ⟨V1,Q1,rfl,V0⟩:=oS Ik;refine aj 3 [.a 0 UM] [3,5,6,12,13,14,19,20,21] [(7,iv q0),(8,.slice V1 e11.length Q1)] ?_;refine aa (Ok.cut (fun a W=>∃ t1:ak,bf w0 u1 t1∧∃ (W0:Option Addr) (X0:Nat) (Y0:List Value),aW t1 yb Y0 (nI e4 q0 z0)∧fC 58 [(3,.slice j0 v0.length x0),(5,pv iF 0),(6,pv b8 0),(8,.slice V1 e11.length Q1),(12,.slice i0 xl.length Z0),(13,iv (xl.length:Int)),(14,iv b0),(19,.slice D0 e4.1.length E0),(20,iv (e4.1.length:Int)),(21,iv q0)] a∧dm w0 [.qJ b8 87 (.slice W0 (nI e4 q0 z0).length X0),.own (.slice W0 (nI e4 q0 z0).length X0) 5 1 (nI e4 q0 z0).length Y0,.blk iF (.cells #[.slice D0 e4.1.length E0,.slice H0 e4.2.length M0] 28),.own (.slice j0 v0.length x0) 9 1 v0.length d0] t1 W∧Ch N e4 e11 q0 z0 (wI N e4 b0 v0 (Cf N xl K k9) k26)) ?_ ?_)
   ·
    refine ae (ag 2 [3,5,6,7,8,12,13,14,19,20,21] [(27,.bool (decide (q0>0)))] ?_);refine aa (aJ hF (fun A0 hF=>?_) (fun A0 hF=>?_))
    ·refine aF (aR ?_);obtain ⟨acD,hF⟩:=hF;refine ai (bS (jN.RN z0 32 C0 acD) fun g21 _ _ j1 apN=>?_);obtain ⟨x1,b1,I0,rfl,z1,rfl⟩:=apN;replace y0:=y0.mono j1.1;replace V0:=V0.mono j1.1;replace K0:=K0.mono j1.1;replace hG3:=hG3.mono j1.1;refine aa (ae (aj 4 [.e 2] [3,5,6,8,12,13,14,19,20,21] [(30,.slice H0 e4.2.length M0),(32,iv (w6 (q0 - 1)))] ?_));obtain ⟨Nq,II,hF⟩:=hF;have F1:=aT (l:=e4.2) default II;generalize G1:(e4.2.getD (Int.toNat (w6 (q0 - 1))) default)=e23 at F1 hF ⊢;refine ai (af.aX (e:=.int .u8) rfl rfl underlying26 kr K0 Nq F1 rfl fun q22 o22 ala _ Y1 Ut=>?_);obtain rfl:=Ut;replace Y1:At g21 q22 o22 [.int .u8 e23]:=Y1;refine aj 2 [.a 0 Y1] [3,5,6,8,12,13,14,19,20,21] [(9,.int .u8 e23)] ?_;refine aa (ae (ag 2 [3,5,6,8,9,12,13,14,19,20,21] [(36,.bool (e23 != 32))] ?_));refine aa (dW hF rfl (fun v1=>?_) (fun v1=>?_))
     ·replace hF:=hF.1 v1;refine aR (ag 1 [3,5,6,8,12,13,14,19,20,21] [(37,.int .u8 e23)] ?_);have H1:aW g21 yb ([.int .u8 e23,.int .u8 32]:List Value) ([e23,32]:List Int):=(dx (c:=[.int .u8 e23]) rfl (dx (c:=[.int .u8 32]) rfl rfl));refine ai (gz H1 fun b25=>?_);refine sQ 0 rfl H1 fun g26 d1 U1=>?_;replace y0:=y0.mono d1.1;replace V0:=V0.mono d1.1;replace z1:=z1.mono d1.1;replace hG3:=hG3.mono d1.1;obtain ⟨aos,hF⟩:=hF;refine ai (bS (anj (jN.sU z0 32).2 ([e23,32]:List Int) z1 U1 aos) fun g28 _ _ f1 apL=>?_);obtain ⟨g1,m1,y1,rfl,adK,rfl⟩:=apL;replace y0:=y0.mono f1.1;replace V0:=V0.mono f1.1;replace hG3:=hG3.mono f1.1;refine bV (Ok.t ?_);subst G1;refine nE (H':=[.qJ b8 87 (.slice g1 (nI e4 q0 z0).length m1),.own (.slice g1 (nI e4 q0 z0).length m1) 5 1 (nI e4 q0 z0).length y1,.blk iF (.cells #[.slice D0 e4.1.length E0,.slice H0 e4.2.length M0] 28),.own (.slice j0 v0.length x0) 9 1 v0.length d0]) (ib (aA (fun l:Value=>cu.qJ b8 87 l) (aA (fun l:List Int=>Value.slice g1 l.length m1) (au ((aU v1).symm) ((aU A0).symm)))) (ib (aA (fun l:List Int=>cu.own (.slice g1 l.length m1) 5 1 l.length y1) (au ((aU v1).symm) ((aU A0).symm))) (ib (rfl) (ib (rfl) rfl)))) ?_;exact fun _ _ u v=>⟨g28,((j1.trans d1).trans f1),g1,m1,y1,(Eq.mp (aA (fun l:List Int=>aW g28 yb y1 l) (au ((aU v1).symm) ((aU A0).symm))) adK),fA u v hF⟩
     replace hF:=hF.2 v1;refine Ok.k (Ok.t ?_);subst G1;refine nE (H':=[.qJ b8 87 (.slice x1 (nI e4 q0 z0).length b1),.own (.slice x1 (nI e4 q0 z0).length b1) 5 1 (nI e4 q0 z0).length I0,.blk iF (.cells #[.slice D0 e4.1.length E0,.slice H0 e4.2.length M0] 28),.own (.slice j0 v0.length x0) 9 1 v0.length d0]) (ib (aA (fun l:Value=>cu.qJ b8 87 l) (aA (fun l:List Int=>Value.slice x1 l.length b1) (au ((aG v1).symm) ((aU A0).symm)))) (ib (aA (fun l:List Int=>cu.own (.slice x1 l.length b1) 5 1 l.length I0) (au ((aG v1).symm) ((aU A0).symm))) (ib (rfl) (ib (rfl) rfl)))) ?_;exact fun _ _ u v=>⟨g21,j1,x1,b1,I0,(Eq.mp (aA (fun l:List Int=>aW g21 yb I0 l) (au ((aG v1).symm) ((aU A0).symm))) z1),fA u v hF⟩
    refine Ok.k (Ok.t (nE (H':=[.qJ b8 87 (.slice n0 (nI e4 q0 z0).length o0),.own (.slice n0 (nI e4 q0 z0).length o0) 5 1 (nI e4 q0 z0).length t0,.blk iF (.cells #[.slice D0 e4.1.length E0,.slice H0 e4.2.length M0] 28),.own (.slice j0 v0.length x0) 9 1 v0.length d0]) (ib (aA (fun l:Value=>cu.qJ b8 87 l) (aA (fun l:List Int=>Value.slice n0 l.length o0) ((aG A0).symm))) (ib (aA (fun l:List Int=>cu.own (.slice n0 l.length o0) 5 1 l.length t0) ((aG A0).symm)) (ib (rfl) (ib (rfl) rfl)))) ?_));exact fun _ _ u v=>⟨u1,bu w0 u1,n0,o0,t0,(Eq.mp (aA (fun l:List Int=>aW u1 yb t0 l) ((aG A0).symm)) C0),fA u v hF⟩
   clear hF;rintro _ _ ⟨t1,R0,W0,X0,Y0,Iy,q⟩;refine jn (fun hF=>?_) _ _ q;replace y0:=y0.mono R0.1;replace V0:=V0.mono R0.1;replace hG3:=hG3.mono R0.1;refine ae (ag 3 [3,5,6,12,13,14,19,20,21] [(40,.slice V1 e11.length Q1),(41,iv (e11.length:Int)),(42,iv 0)] ?_);refine aa (Ok.block ?_);obtain ⟨k,hF⟩:=hF;refine fQ (fun k a W=>∃ a1:ak,bf w0 t1 a1∧∃ (f0:Int) (S0:Option Addr) (B0:Nat) (u0:List Int) (U0:List Value),aW a1 yb U0 u0∧fC 58 [(3,.slice j0 v0.length x0),(5,pv iF 0),(6,pv b8 0),(12,.slice i0 xl.length Z0),(13,iv (xl.length:Int)),(14,iv b0),(19,.slice D0 e4.1.length E0),(20,iv (e4.1.length:Int)),(21,iv q0),(40,.slice V1 e11.length Q1),(41,iv (e11.length:Int)),(42,iv f0)] a∧dm w0 [.qJ b8 87 (.slice S0 u0.length B0),.own (.slice S0 u0.length B0) 5 1 u0.length U0,.blk iF (.cells #[.slice D0 e4.1.length E0,.slice H0 e4.2.length M0] 28),.own (.slice j0 v0.length x0) 9 1 v0.length d0] a1 W∧Cg N e11 q0 (wI N e4 b0 v0 (Cf N xl K k9) k26) k f0 u0) k ?_ ?_
   ·
    exact fun _ _ u v=>⟨t1,bu w0 t1,0,W0,X0,nI e4 q0 z0,Y0,Iy,fA u v hF⟩
   clear hF;rintro (_ | k54) _ _ ⟨a1,G0,f0,S0,B0,u0,U0,F0,q⟩;exact (q.2.2:False).elim;refine jn (fun hF=>?_) _ _ q;replace y0:=y0.mono G0.1;replace V0:=V0.mono G0.1;replace hG3:=hG3.mono G0.1;refine ae (ag 1 [3,5,6,12,13,14,19,20,21,40,41,42] [(43,.bool (decide (f0<(e11.length:Int))))] ?_);refine aa (aF (dW hF rfl (fun r1=>?_) (fun r1=>?_)))
   ·replace hF:=hF.1 r1;refine Ok.k (Ok.t (aF (Ok.block (aF (aR ?_)))));obtain ⟨arv,arc,hF⟩:=hF;have M1:=aT (l:=e11) default arc;generalize aoQ:(e11.getD f0.toNat default)=e14 at M1 hF ⊢;refine ai (af.aX (e:=yS) rfl rfl underlying54 kr V0 arv M1 rfl fun q13 o13 arQ _ J1 acu=>?_);have i1:=acu;replace i1:=bE.tst.1 i1;obtain ⟨_,_,rfl,⟨_,_,rfl,rfl,⟨_,_,rfl,rfl,⟨_,_,rfl,rfl,⟨_,_,rfl,rfl,⟨_,_,rfl,rfl,rfl⟩⟩⟩⟩⟩,⟨T0,L0,rfl,acL,acs⟩⟩:=i1;have Z1:bE a1 (.slice yP) [.slice T0 e14.kids.length L0] e14.kids:=⟨T0,L0,rfl,acL,acs⟩;replace J1:At a1 q13 o13 (vL e14.lab T0 e14.kids.length L0):=J1;refine ai (af.s (v:=.agg (aL e14.lab T0 e14.kids.length L0)) (bL 0 7 (aL e14.lab T0 e14.kids.length L0) J1 kr underlying60 rfl kr kr kr) rfl rfl (ai (bI #[iv 0,sv ([]:Bs),.int .u8 0,sv ([]:Bs),iv 0,iv 0,.slice none 0 0] fun alV=>?_)));refine ai (af.w 0 ?_);refine aa (aR (ai (af.s (v:=.agg (aL e14.lab T0 e14.kids.length L0)) (aZ 0 7 (aL e14.lab T0 e14.kids.length L0) rfl rfl underlying60 rfl kr kr kr) rfl rfl ?_)));obtain ⟨M6,hF⟩:=hF;refine ai (af.f gU (fun W hW=>Uc _ e14 (Z1.mono hW.sees) (hG3.mono hW.sees) M6) rfl ?_);obtain ⟨C1,hF⟩:=hF;refine jE [1,2,0,3,4] ?_;refine ai (bS (jN.ani u0 (Jl e14) F0 C1) fun g18 _ _ n1 UN=>?_);obtain ⟨amq,alK,RF,rfl,Nh,rfl⟩:=UN;replace y0:=y0.mono n1.1;refine bV (bG (Ok.t (aR (ag 2 [3,5,6,12,13,14,19,20,21,40,41] [(42,iv (w6 (f0+1)))] ?_))));refine bV (Ok.t ?_);subst aoQ;exact fun _ _ u v=>⟨k54,nl,g18,G0.trans n1,w6 (f0+1),amq,alK,(jN.V9 u0 (Jl (e11.getD f0.toNat default))).2.2,RF,Nh,fA u v hF⟩
   replace hF:=hF.2 r1;refine fw (ay (ay (aM (bG (Ok.t (aR (ag 2 [3,5,6,12,13,14,19,20] [(21,iv (w6 (q0+1)))] ?_)))))));refine bV (Ok.t ?_);subst Ip;exact fun _ _ u v=>⟨k26,nl,a1,((P0.trans R0).trans G0),w6 (q0+1),S0,B0,u0,U0,F0,fA u v hF⟩
  replace hF:=hF.2 mq;refine fw (ay (ay (aM (Ok.t (aR (ag 1 [6,12,13,14] [(51,.slice j0 v0.length x0)] ?_))))));obtain ⟨acB,hF⟩:=hF;refine ai (bS (jN.Ww z0 C0 acB) fun g30 _ _ K1 apK=>?_);obtain ⟨rfl,rfl⟩:=apK;replace y0:=y0.mono K1.1;have N1:aW g30 (.str) ([sv (bytesOf z0)]:List Value) ([bytesOf z0]:List Bs):=(dx (c:=[sv (bytesOf z0)]) rfl rfl);refine ai (gz N1 fun b31=>?_);obtain ⟨apj,hF⟩:=hF;refine ai (fu (e:=.str) 16 8796093022208 2 0 rfl rfl rfl rfl y0 N1 underlying84 kr kr kr apj rfl fun a32 c32 am6 hL32=>?_);refine ag 1 [12,13,14] [(3,.slice a32 (v0++([bytesOf z0]:List Bs)).length c32)] ?_;refine bV (bG (Ok.t (aR (ag 2 [3,12,13] [(14,iv (w6 (b0+1)))] ?_))));refine bV (Ok.t ?_);subst hg4;exact fun _ _ u v=>⟨k9,nl,g30,((W1.trans P0).trans K1),w6 (b0+1),a32,c32,(v0++([bytesOf z0]:List Bs)),am6,hL32,fA u v hF⟩
 refine fw (ay (ay (aM (Ok.t (aF (aR ?_))))));obtain ⟨acz,hF⟩:=hF;refine aj 3 [.c (fun W hW=>ab1 v0 ([44,32]:Bs) (hW.Sm 0 rfl y0) acz)] [] [(2,sv (KN v0 ([44,32]:Bs)))] ?_;refine aa (Ok.ret ?_);exact jg (sv (KN v0 ([44,32]:Bs))) W1 ⟨KN v0 ([44,32]:Bs),rfl,rfl,hF⟩
theorem agZ (t:Ts):¬ JE 0 t:=fun h=>absurd h.1 (iN _)
theorem agU (l:List Ph):¬ JD 0 l:=fun h=>absurd h.1 (iN _)
theorem oO (z:Int):bytesOf ([z]:List Int)=[oq z]:=rfl
theorem VB {z:Int} (h:VD z):(([oq z]:Bs)==[61])=(z==61):=by
 obtain ⟨h1,h2⟩:=h;obtain ⟨n,rfl⟩:∃ n:Nat,z=n:=⟨z.toNat,om⟩;have:=Rp.uJ (p:=fun c=>(([c]:Bs)==[61])==(((c.toNat:Nat):Int)==61)) dk (oq (n:Int));rw [eq_of_beq this]
 have e:(oq (n:Int)).toNat=n:=by
  unfold oq;rw [dR];exact UInt8.toNat_ofNat_of_lt (show n<256 by omega)
 rw [e]
theorem aaA {t:Ts} (h:VD t.lab.2.2.1):vV t=(t.lab.2.2.1==61)∧sttV1 t=Rt t.lab.2.2.1:=by
 have e0:vV t=(t.lab.2.2.1==61):=by
  unfold vV;rw [oO];exact VB h
 refine ⟨e0,?_⟩;unfold sttV1 Rt;rw [e0,oO];rfl
theorem w10 (z:Int):w6 ((([oq z]:Bs).length:Int) - (([61]:Bs).length:Int))=0:=rfl
theorem agY (N:Nat) (t:Ts) (h:JE (N+1) t):ag0 N t (fun r=>r=Jl t):=by
 have hk:=fun hx=>Qp h hx;obtain ⟨_,hb,ho,i,hi⟩:=h;rw [lW,aH] at hi;obtain ⟨hab,hl1,hl2⟩:=H7 hi.1;have hkb:=kE t;have e:maxLen=9223372036854775807:=rfl;have hop:=aaA (yj ho).1
 have hq:mG t.lab.2.2.2.1:=by unfold mG; omega
 have hql:=oK t.lab.2.2.2.1;have hT:=LW t
 have ho1:(Rt t.lab.2.2.1).length≤1:=by unfold Rt; split <;> simp
 have hlen:∀ hx,(tx3 t.kids).length≤400 * 1048600:=fun hx=>by
  have h1:=F8 (fun q _ s _ y _=>aap y) (hk hx).2.2.2;have h2:=mO t.kids;omega
 have hn:=G5 hab;unfold nthT at hn;have k1:∀ {n:Int} {P:Prop},((t.lab.1==n)=true→t.lab.1=n):=fun h=>eq_of_beq h
 have k0:∀ {n:Int},(t.lab.1==n)=false→t.lab.1≠n:=fun h=>by simpa using h
 refine ⟨fun c1=>?_,fun c1=>⟨fun c2=>?_,fun c2=>⟨fun c3=>⟨sl,?_⟩,fun c3=>⟨fun c4=>⟨sl,?_⟩,fun c4=>⟨fun c5=>?_,fun c5=>?_⟩⟩⟩⟩⟩
 ·rw [hT,kL,aU c1]
 ·rw [hT,kL,aG c1,aU c2]
 ·rw [hT,kL,aG c1,aG c2,aU c3]; rfl
 ·rw [hT,kL,aG c1,aG c2,aG c3,aU c4]; rfl
 ·rw [kL,aG c1,aG c2,aG c3,aG c4,aU c5] at hT;refine ⟨fun c0=>⟨sl,sl,?_⟩,fun c0=>?_⟩
  ·rw [hT,aU c0]; simp
  rw [aG c0] at hT
  have j5:tY t (fun r=>r=Jl t):=by
   unfold tY;rw [hop.2];refine ⟨sl,sl,hq,sl,sl,?_⟩;rw [hT,Er]; simp
  have j7:oz t (fun r=>r=Jl t):=⟨fun _=>⟨by decide,by rw [oO,w10]; exact lv 0,by rw [oO,w10]; exact Int.natCast_nonneg _,j5⟩,fun _=>j5⟩;exact ⟨sl,fun _=>⟨by rw [oO,w10]; exact lv 0,by rw [oO,w10]; exact Int.natCast_nonneg _,om,j7⟩,fun _=>j7⟩
 rw [kL,aG c1,aG c2,aG c3,aG c4,aG c5] at hT;have hN:(nthT t).length≤2006:=G5 hab;refine ⟨fun c6=>?_,fun c6=>⟨fun c7=>?_,fun c7=>⟨fun c8=>⟨hab,?_,?_,?_⟩,fun c8=>⟨fun c9=>⟨hab,?_,?_,?_⟩,fun c9=>⟨fun c10=>?_,fun c10=>?_⟩⟩⟩⟩⟩
 ·show _=_; rw [hT,aU c6]
 ·show _=_; rw [hT,aG c6,aU c7]
 ·simp only [di,jW]; omega
 ·simp only [bD,di,jW]; omega
 ·show _=_; rw [hT,aG c6,aG c7,aU c8,dM]; rfl
 ·simp only [di,jW]; omega
 ·simp only [bD,di,jW]; omega
 ·show _=_; rw [hT,aG c6,aG c7,aG c8,aU c9,dM]; rfl
 ·have h3:=hlen (.inl (k1 (P:=True) c10));refine ⟨hk (.inl (k1 (P:=True) c10)),sl,sl,?_⟩;show _=_; rw [hT,aG c6,aG c7,aG c8,aG c9,aU c10,dM]
 have h11:t.lab.1=11:=by
  have:=k0 c1; have:=k0 c2; have:=k0 c3; have:=k0 c4; have:=k0 c5; have:=k0 c6; have:=k0 c7; have:=k0 c8; have:=k0 c9; have:=k0 c10;omega
 have h3:=hlen (.inr h11);refine ⟨hk (.inr h11),sl,sl,?_⟩;show _=_; rw [hT,aG c6,aG c7,aG c8,aG c9,aG c10,dM]
theorem Dr (a b:Bs):intsOf (a++b)=intsOf a++intsOf b:=uT ..
theorem Dq (a:Bs):(intsOf a).length=a.length:=iY ..
theorem agW {N:Nat} (s:List Ts) (hs:∀ i,i<s.length→JE N (s.getD i default)) (hl:s.length≤1048600) (j:Int) (C:Int→List Int→Prop) (Z:Bs) (hZ:(Z++tx1 s).length≤140737488355328) (hC:C (w6 (j+1)) (intsOf (Z++tx1 s))) :
  ∀ (m i:Nat) (Y:Bs),i+m=s.length→Y++tx1 (s.drop i)=Z++tx1 s→Cg N s j C (m+1) (i:Int) (intsOf Y):=by
 intro m
 induction m with
 | zero =>
  intro i Y hi he;rw [eD om,tx1,gK] at he;exact ⟨fun hc=>absurd (df hc) om,fun _=>by rw [he]; exact hC⟩
 | succ m ih =>
  intro i Y hi he;have hi':i<s.length:=om;rw [bX (l:=s) default hi',tx1,← dM] at he;have hle:=aA List.length he;rw [bD,bD] at hle;refine ⟨fun _=>⟨om,by rw [dR]; omega,?_⟩,fun hc=>absurd (fq hc) om⟩;rw [dR];refine ⟨hs i hi',?_,?_⟩
  ·show (intsOf Y).length+_≤_;rw [Dq]; omega
  show Cg N s j C (m+1) _ (intsOf Y++intsOf _);rw [← Dr,fU om,show (i:Int)+1=((i+1:Nat):Int) by omega];exact ih (i+1) _ om he
def restS (q:Ph) (i:Nat):Bs:=if i=0 then BS q.1 q.2 else tr2 (q.1.drop i) (q.2.drop (i - 1))
def sepS (q:Ph) (i:Nat):Bs:=if i=0 then [] else Jm (q.2.getD (i - 1) default)
theorem rest_step (q:Ph) {i:Nat} (hi:i<q.1.length) (hj:q.2.length+1=q.1.length):restS q i=sepS q i++(tx1 (q.1.getD i default)++restS q (i+1)):=by
 unfold restS sepS;rw [aQ (by omega:¬ i+1=0)]
 by_cases h0:i=0
 ·subst h0;rw [bB rfl,bB rfl];obtain ⟨p,js⟩:=q
  match p,hi with
  | s::p,_=>rw [BS]; rfl
 rw [aQ h0,aQ h0];obtain ⟨k,rfl⟩:∃ k,i=k+1:=⟨i - 1,om⟩;rw [bX (l:=q.1) default hi,Nat.add_sub_cancel,Nat.add_sub_cancel,bX (l:=q.2) default om,tr2];rfl
theorem rest_end (q:Ph) (h0:q.1≠[]):restS q q.1.length=[]:=by
 unfold restS;have:q.1.length≠0:=fun h=>h0 (iO h);rw [aQ this,eD (fP _),tr2]
theorem XN {z:Int} (hz:VD z):intsOf (Jm z)=if (z != 32)=true then [32,z,32] else [32]:=by
 obtain ⟨h1,h2⟩:=hz;obtain ⟨n,rfl⟩:∃ n:Nat,z=n:=⟨z.toNat,om⟩
 have e:(oq (n:Int)).toNat=n:=by
  unfold oq;rw [dR];exact UInt8.toNat_ofNat_of_lt (show n<256 by omega)
 unfold Jm
 by_cases h:(n:Int)=32
 ·rw [h]; rfl
 rw [aQ (by simpa using h),bB (by simpa using h)];show [_,(((oq (n:Int)).toNat:Nat):Int),_]=_;rw [e]; rfl
theorem agX {N:Nat} (q:Ph) (hj:∀ z ∈ q.2,VD z) (hs:∀ s ∈ q.1,∀ i,i<s.length→JE N (s.getD i default)) (hw:w2 q.1≤1048600) (h0:q.1≠[]) (hjl:q.2.length+1=q.1.length) (hL:(BS q.1 q.2).length≤140737488355328) (j:Int) (outs:List Bs) (ho:outs.length+1≤8796093022208) (C:Int→List Bs→Prop) (hC:C (w6 (j+1)) (outs++[BS q.1 q.2])) :
  ∀ (m i:Nat) (Z:Bs),i+m=q.1.length→Z++restS q i=BS q.1 q.2→wI N q j outs C (m+1) (i:Int) (intsOf Z):=by
 have hl2:=rM q.1;intro m
 induction m with
 | zero =>
  intro i Z hi he;have:i=q.1.length:=om;subst this;rw [rest_end q h0,gK] at he;refine ⟨fun hc=>absurd (df hc) om,fun _=>⟨by unfold stP; rw [kN],by rw [bD]; simpa using ho,?_⟩⟩;rw [kN,he]; exact hC
 | succ m ih =>
  intro i Z hi he;have hi':i<q.1.length:=om;have hin:=jR (l:=q.1) default hi';have hw1:=tQ hin;have hw3:=rO (q.1.getD i default);rw [rest_step q hi' hjl,← dM,← dM] at he;have hle:=aA List.length he;rw [bD,bD,bD] at hle
  have hV:nI q (i:Int) (intsOf Z)=intsOf (Z++sepS q i):=by
   unfold nI sepS
   by_cases h:i=0
   ·subst h; rw [aQ (by simp),bB rfl,gK]
   obtain ⟨k,rfl⟩:∃ k,i=k+1:=⟨i - 1,om⟩;rw [bB (by apply gu; omega),aQ h,fU om,show ((k+1:Nat):Int) - 1=(k:Int) by omega,dR,Nat.add_sub_cancel,Dr,XN (hj _ (jR (l:=q.2) default om))]
   split
   ·show intsOf Z++[32]++[_,32]=_;rw [dM]; rfl
   rfl
  have j37:Ch N q (q.1.getD i default) (i:Int) (intsOf Z) (wI N q j outs C (m+1)):=by
   refine ⟨(q.1.getD i default).length+1,?_⟩;rw [hV];refine agW (q.1.getD i default) (hs _ hin) om (i:Int) _ (Z++sepS q i) (by rw [bD,bD]; omega) ?_ (q.1.getD i default).length 0 _ om (by rw [gm]);rw [fU om,show (i:Int)+1=((i+1:Nat):Int) by omega];exact ih (i+1) _ om he
  refine ⟨fun _=>⟨om,by rw [dR]; exact hi',?_⟩,fun hc=>absurd (fq hc) om⟩;rw [dR];refine ⟨fun hc=>?_,fun _=>j37⟩;have hc:=df hc;obtain ⟨k,rfl⟩:∃ k,i=k+1:=⟨i - 1,om⟩
  have e1:w6 (((k+1:Nat):Int) - 1)=(k:Int):=by rw [fU om]; omega
  have hsl:(sepS q (k+1)).length=(Jm (q.2.getD k default)).length:=by
   unfold sepS; rw [aQ om]; rfl
  have hz:=hj _ (jR (l:=q.2) (i:=k) default om)
  have hb:1≤(Jm (q.2.getD k default)).length:=by unfold Jm; split <;> simp
  refine ⟨by show (intsOf Z).length+1≤_; rw [Dq]; omega,by rw [e1]; omega,by rw [e1,dR]; omega,?_⟩;rw [e1,dR];refine ⟨fun h32=>⟨⟨by simp,?_⟩,j37⟩,fun _=>j37⟩
  have h3:(Jm (q.2.getD k default)).length=3:=by
   unfold Jm;rw [aQ (by simpa using h32)]; rfl
  show (intsOf Z++[32]).length+2≤_;rw [bD,Dq];show Z.length+1+2≤_;omega
theorem agT (N:Nat) (l:List Ph) (h:JD (N+1) l):agV N l (fun r=>r=tx3 l):=by
 have hin:=fun q hq s hs i hi=>Wt h (q:=q) hq (s:=s) hs (i:=i) hi;obtain ⟨_,hb,ho,hk⟩:=h;have h5:=mO l;have hlen:=qo l;have hL:=F8 (fun q _ s _ y _=>aap y) hk
 have loop:∀ (m i:Nat),i+m=l.length→Cf N l (fun r=>r=tx3 l) (m+1) (i:Int) ((l.take i).map fun q=>BS q.1 q.2):=by
  intro m
  induction m with
  | zero =>
   intro i hi;refine ⟨fun hc=>absurd (df hc) om,fun _=>?_⟩;rw [jU om];refine ⟨⟨by rw [iY]; omega,by rw [Oe]; omega⟩,Oe l⟩
  | succ m ih =>
   intro i hi;have hi':i<l.length:=om;have hq:=jR (l:=l) default hi';have hwq:=sW hq;obtain ⟨⟨q1,q2⟩,q3,q4⟩:=kI hk hq;have hql:=F9 (p:=(l.getD i default).1) (js:=(l.getD i default).2) (fun s _ y _=>aap y) q3;refine ⟨fun _=>⟨om,by rw [dR]; exact hi',(l.getD i default).1.length+1,?_⟩,fun hc=>absurd (fq hc) om⟩;rw [dR];refine agX (l.getD i default) (ho _ hq).1 (hin _ hq) om q1 q2 om (i:Int) _ (by rw [iY,gG]; omega) _ ?_ (l.getD i default).1.length 0 [] om rfl;rw [fU om,show (i:Int)+1=((i+1:Nat):Int) by omega];have:=ih (i+1) om;rw [List.take_add_one,gH hi',Option.toList_some,uT] at this;rw [gT,gH hi'];exact this
 exact ⟨_,loop l.length 0 om⟩
theorem OC:∀ N,R8 N∧R6 N
 | 0=>⟨(by intro g g0 m0 xt a0 hG3 hp; exact (agZ xt hp).elim),(by intro g i0 Z0 xl s0 hG3 hp; exact (agU xl hp).elim)⟩
 | N+1 =>
  have ih:=OC N
  ⟨(by intro g g0 m0 xt a0 hG3 hp; exact (aaB N ih.1 ih.2 xt a0 hG3 _ (agY N xt hp)).gv),(by intro g i0 Z0 xl s0 hG3 hp; exact (aay N ih.1 ih.2 xl s0 hG3 _ (agT N xl hp)).gv)⟩
def R7 (xl:List PH):Prop:=∃ N,JD N xl
theorem agS {g:ak} {i0:Option Addr} {Z0:Nat} (xl:List PH) (s0:bE g (.slice yP) [.slice i0 xl.length Z0] xl) (hG3:mg g 3 (.int .u64) yZ)  (hp:R7 xl):bC prog 26 #[.slice i0 xl.length Z0] g (sv (tx3 xl)):=by
 obtain ⟨N,hp⟩:=hp;exact (OC N).2 _ xl s0 hG3 hp
end Go.Proofs.YtdapgmigogpdcaaGreatDoor.Se
