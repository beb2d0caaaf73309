/- selector: the text of paths. -/
import Derived.Test.YtdapgmigogpdcaaGreatDoorSeh
import Derived.Test.YtdapgmigogpdcaaGreatDoorMta
import Derived.Test.YtdapgmigogpdcaaGreatDoorQud
import Derived.Test.YtdapgmigogpdcaaGreatDoorTrd
import Derived.Test.YtdapgmigogpdcaaGreatDoorSfa
import Derived.Test.YtdapgmigogpdcaaGreatDoorBlw
namespace Go.Proofs.YtdapgmigogpdcaaGreatDoor.Se
open Go Go.iQ Go.RowKit jL BF tF Tk Ti Me Rp Qu
set_option linter.unusedVariables false
def lW (a b:Int):Bs:=if b<0 then Lib.itoa a++110::Lib.itoa b else Lib.itoa a++110::43::Lib.itoa b
def oq (z:Int):UInt8:=UInt8.ofNat z.toNat
def IQ (z:Int):Bs:=if (z==32)=true then [32] else [32,oq z,32]
def QB (z:Int):Bs:=if (z==61)=true then [] else [oq z]
def kH (x:Lb) (s:Bs):Bs :=
 if (x.1==1)=true then [42] else if (x.1==2)=true then x.2.1 else if (x.1==3)=true then 35::x.2.1 else if (x.1==4)=true then 46::x.2.1
 else if (x.1==5)=true then (if (x.2.2.1==0)=true then 91::(x.2.1++[93]) else 91::(x.2.1++(QB x.2.2.1++61::(Ej x.2.2.2.1++[93]))))
 else if (x.1==6)=true then [58,114,111,111,116] else if (x.1==7)=true then [58,101,109,112,116,121]
 else if (x.1==8)=true then [58,110,116,104,45,99,104,105,108,100,40]++(lW x.2.2.2.2.1 x.2.2.2.2.2++[41])
 else if (x.1==9)=true then [58,110,116,104,45,108,97,115,116,45,99,104,105,108,100,40]++(lW x.2.2.2.2.1 x.2.2.2.2.2++[41])
 else if (x.1==10)=true then [58,110,111,116,40]++(s++[41]) else [58,105,115,40]++(s++[41])
mutual
def IP:Ts→Bs
 | .mk x l=>kH x (tx3 l)
def tx3:List Ph→Bs
 | []=>[]
 | (p,js)::l=>BN p js++tr3 l
def tr3:List Ph→Bs
 | []=>[]
 | (p,js)::l=>44::32::(BN p js++tr3 l)
def BN:List (List Ts)→List Int→Bs
 | [],_=>[]
 | s::p,js=>tx1 s++tr2 p js
def tr2:List (List Ts)→List Int→Bs
 | [],_=>[]
 | s::p,js=>IQ (js.headD 0)++(tx1 s++tr2 p js.tail)
def tx1:List Ts→Bs
 | []=>[]
 | t::s=>IP t++tx1 s
end
theorem K7 (t:Ts):IP t=kH t.lab (tx3 t.kids):=by obtain ⟨x,l⟩:=t; rw [IP]; rfl
def nthT (t:Ts):Bs:=lW t.lab.2.2.2.2.1 t.lab.2.2.2.2.2
def z_ (t:Ts):Prop:=(-1000≤t.lab.2.2.2.2.1∧t.lab.2.2.2.2.1≤1000)∧(-1000≤t.lab.2.2.2.2.2∧t.lab.2.2.2.2.2≤1000)
theorem vv {x:Int} (h : -1000≤x∧x≤1000):P7 x∧(Lib.itoa x).length≤1002:=by
 have:=LY x
 exact ⟨⟨om,om⟩,om⟩
theorem Gt {t:Ts} (h:z_ t):(nthT t).length≤2006:=by
 obtain ⟨h1,h2⟩:=vv h.1
 obtain ⟨h3,h4⟩:=vv h.2
 unfold nthT lW
 split <;> simp only [bC,cK] <;> omega
theorem G9 {t:Ts} {i:Int} (h:Az t.lab i=true):(z_ t)∧(1≤t.lab.1∧t.lab.1≤11):=by
 unfold Az at h
 simp only [aG,dA] at h
 obtain ⟨h0,-,-,h3⟩:=h
 unfold l0 at h0
 simp only [dC,eQ] at h0
 refine ⟨?_,om,om⟩
 unfold l3 at h3
 unfold z_
 generalize t.lab.2.2.2.2.1=a at *
 generalize t.lab.2.2.2.2.2=b at *
 have key:((decide ((if b<a then b else a)<(-1000)))||(decide ((if a<b then b else a)>1000)))=false:=by
  split at h3
  ·simp only [dC] at h3 ⊢; exact h3.2.2
  exact h3
 simp only [dC,eQ] at key
 obtain ⟨k1,k2⟩:=key
 split at k1 <;> split at k2 <;> omega
theorem aav {i:Nat}:∀ {s:List Ts} {k:Int},ok1 s k=true→i<s.length→xZ (s.getD i default) (k+i)=true:=by
 induction i with
 | zero =>
  intro s k h hi
  match s,h with
  | t::s,h =>
   rw [ok1,aG] at h
   simpa using h.1
 | succ i ih =>
  intro s k h hi
  match s,h with
  | t::s,h =>
   rw [ok1,aG] at h
   have:=ih h.2 (by simpa using hi)
   rw [show k+((i+1:Nat):Int)=k+1+(i:Int) by omega]
   simpa using this
theorem rQ {s:List Ts}:∀ {p:List (List Ts)},t_ p=true→s ∈ p→ok1 s 0=true
 | y::p,h,hs=>by
  rw [t_,aG,aG] at h
  rcases eG.1 hs with rfl | hs
  ·exact h.1
  exact rQ h.2.2 hs
theorem kV {q:Ph}:∀ {l:List Ph},tZ l=true→q ∈ l→(q.1≠[]∧q.2.length+1=q.1.length)∧t_ q.1=true∧q.2.all zn=true
 | y::l,h,hs=>by
  rw [mE] at h
  simp only [aG,dA,dC,dR] at h
  rcases eG.1 hs with rfl | hs
  ·obtain ⟨⟨h1,h2⟩,h3,h4,h5⟩:=h
   have h2:(q.2.length:Int)=(q.1.length:Int) - 1:=by simpa using h2
   refine ⟨⟨fun e=>?_,om⟩,h3,h4⟩
   rw [e] at h1; exact h1 rfl
  exact kV h.2.2.2 hs
theorem Su (t:Ts) (s:Bs) (h:z_ t):(kH t.lab s).length≤400 * (6+t.lab.2.1.length+t.lab.2.2.2.1.length)+s.length:=by
 have h1:=Gt h
 have h2:=oJ t.lab.2.2.2.1
 unfold nthT at h1
 have h3:(QB t.lab.2.2.1).length≤1:=by unfold QB; split <;> simp
 have h4:(Ej t.lab.2.2.2.1).length≤2 * t.lab.2.2.2.1.length+2:=by unfold Ej; simp; omega
 unfold kH
 repeat' split
 all_goals try simp only [bC,cK,jT]
 all_goals omega
theorem WK (z:Int):(IQ z).length≤3:=by unfold IQ; split <;> simp
def Qt (t:Ts):Prop:=∀ i,xZ t i=true→(IP t).length≤400 * bT t
theorem FN:∀ {s:List Ts} {k:Int} (h:∀ t ∈ s,Qt t) (hk:ok1 s k=true),(tx1 s).length≤400 * w1 s
 | [],_,_,_=>by rw [tx1,w1]; simp
 | t::s,k,h,hk=>by
  rw [ok1,aG] at hk
  have h1:=h t (cO ..) k hk.1
  have h2:=FN (fun y hy=>h y (dS _ hy)) hk.2
  rw [tx1,w1,bC]; omega
theorem Ny:∀ {p:List (List Ts)} {js:List Int} (h:∀ s ∈ p,∀ t ∈ s,Qt t) (hk:t_ p=true),(tr2 p js).length≤400 * w2 p
 | [],_,_,_=>by rw [tr2,w2]; simp
 | s::p,js,h,hk=>by
  have h1:=FN (h s (cO ..)) (rQ hk (cO ..))
  rw [t_,aG,aG] at hk
  have h2:=Ny (js:=js.tail) (fun y hy=>h y (dS _ hy)) hk.2.2
  have h3:=WK (js.headD 0)
  rw [tr2,w2,bC,bC]; omega
theorem FM {p:List (List Ts)} {js:List Int} (h:∀ s ∈ p,∀ t ∈ s,Qt t) (hk:t_ p=true):(BN p js).length≤400 * w2 p:=by
 match p,h,hk with
 | [],_,_=>rw [BN,w2]; simp
 | s::p,h,hk =>
  have h1:=FN (h s (cO ..)) (rQ hk (cO ..))
  rw [t_,aG,aG] at hk
  have h2:=Ny (js:=js) (fun y hy=>h y (dS _ hy)) hk.2.2
  rw [BN,w2,bC]; omega
theorem Nv:∀ {l:List Ph} (h:∀ q ∈ l,∀ s ∈ q.1,∀ t ∈ s,Qt t) (hk:tZ l=true),(tr3 l).length≤400 * w3 l
 | [],_,_=>by rw [tr3,w3]; simp
 | (p,js)::l,h,hk=>by
  have h0:=(kV hk (cO ..)).2.1
  have h1:(BN p js).length≤400 * w2 p:=FM (js:=js) (h (p,js) (cO ..)) h0
  rw [mE,aG,aG,aG] at hk
  have h2:=Nv (fun y hy=>h y (dS _ hy)) hk.2.2.2
  rw [tr3,w3,cK,cK,bC]
  show _≤400 * (w2 p+js.length+2+w3 l)
  omega
theorem FL {l:List Ph} (h:∀ q ∈ l,∀ s ∈ q.1,∀ t ∈ s,Qt t) (hk:tZ l=true):(tx3 l).length≤400 * w3 l:=by
 match l,h,hk with
 | [],_,_=>rw [tx3,w3]; simp
 | (p,js)::l,h,hk =>
  have h0:=(kV hk (cO ..)).2.1
  have h1:(BN p js).length≤400 * w2 p:=FM (js:=js) (h (p,js) (cO ..)) h0
  rw [mE,aG,aG,aG] at hk
  have h2:=Nv (fun y hy=>h y (dS _ hy)) hk.2.2.2
  rw [tx3,w3,bC]
  show _≤400 * (w2 p+js.length+2+w3 l)
  omega
theorem Zl:∀ t:Ts,Qt t:=gL.ind fun x l ih i hi=>by
 rw [lU,aG] at hi
 obtain ⟨hl,hs⟩:=hi
 have h1:=Su (.mk x l) (tx3 l) (G9 hl).1
 rw [Y7,uE,IP]
 have h2:(tx3 l).length≤400 * w3 l:=by
  split at hs
  ·simp only [nV,aG] at hs
   exact FL ih hs.1
  have:l=[]:=by
   have:(l.length:Int)=0:=eq_of_beq hs
   exact iL om
  subst this
  rw [tx3]; simp
 show (kH x (tx3 l)).length≤_
 have h3:(kH x (tx3 l)).length≤400 * (6+x.2.1.length+x.2.2.2.1.length)+(tx3 l).length:=h1
 omega
def Jc (N:Nat) (t:Ts):Prop:=bT t<N∧bT t≤1048600∧okB t∧∃ i,xZ t i=true
def Jb (N:Nat) (l:List Ph):Prop:=b3 l<N∧b3 l≤1048600∧PM l∧tZ l=true
theorem Vr {N:Nat} {l:List Ph} (h:Jb (N+1) l) {q:Ph} (hq:q ∈ l) {s:List Ts} (hs:s ∈ q.1) {i:Nat} (hi:i<s.length):Jc N (s.getD i default):=by
 obtain ⟨a,b,c,d⟩:=h
 have ht:=nk (l:=s) default hi
 obtain ⟨h1,h2,h3⟩:=Od (N:=N) ⟨a,b,c⟩ hq hs ht 0
 exact ⟨h1,h2,h3,_,aav (rQ (kV d hq).2.1 hs) hi⟩
theorem Pt {N:Nat} {t:Ts} (h:Jc (N+1) t) (hk:t.lab.1=10∨t.lab.1=11):Jb N t.kids:=by
 obtain ⟨a,b,c,i,d⟩:=h
 obtain ⟨h1,h2,h3⟩:=EG (N:=N) (i:=i) ⟨a,b,c⟩
 rw [lU,aG] at d
 refine ⟨h1,h2,h3,?_⟩
 have e:((t.lab.1==10)||(t.lab.1==11))=true:=by
  rcases hk with h | h <;> rw [h] <;> rfl
 have:=d.2
 rw [bn e] at this
 simp only [nV,aG] at this
 exact this.1
theorem Nq (l:List Ph):Lib.join (l.map fun q=>BN q.1 q.2) [44,32]=tx3 l:=by
 cases l with
 | nil=>rw [tx3]; rfl
 | cons q l =>
  obtain ⟨p,js⟩:=q
  rw [jJ,Lib.join_cons,tx3]
  congr 1
  induction l with
  | nil=>rw [tr3]; rfl
  | cons q l ih =>
   obtain ⟨p,js⟩:=q
   rw [tr3,← ih]
   simp [Lib.joinTail]
end Go.Proofs.YtdapgmigogpdcaaGreatDoor.Se
namespace Go.Proofs.YtdapgmigogpdcaaGreatDoor.tF
open Go Go.iQ jL BF
set_option linter.unusedVariables false
theorem yt (c:UInt8) (r:List UInt8):(c::r).getD (Int.toNat 0) 0=c:=rfl
theorem pV {c d:UInt8} {r p:List UInt8} (h:(c==d)=false):kE (c::r) (d::p)=false:=by
 unfold kE rM
 simp only [cK,eB,List.take_succ_cons]
 rw [fw]
 right
 simp only [List.cons_beq_cons,h,gZ]
theorem Jg {d:UInt8} {p:List UInt8}:kE [] (d::p)=false:=by
 unfold kE rM
 rw [fw]
 left
 simp
theorem Jf {d:UInt8} {p:List UInt8}:kE (d::p) [d]=true:=by
 unfold kE rM
 rw [aG]
 refine ⟨by simp; omega,?_⟩
 show ((d::p).take (Int.toNat ((1:Nat):Int))==[d])=true
 simp
theorem ou {c:UInt8} {r cut:List UInt8} (h:cut.contains c=false):mZ (c::r) cut=c::r:=by
 unfold mZ
 rw [Eb (by rw [h]; simp)]
def P9 (c:UInt8):Bool:=!(([32,9,10,12,13,47,39,34,35,64]:List UInt8).contains c)
theorem qy {c d:UInt8} (h:(c==d)=false):((c.toNat:Int)==(d.toNat:Int))=false:=by
 simp only [dR,fV] at h ⊢
 intro e
 exact h (UInt8.toNat_inj.1 (om))
theorem vX {c:UInt8} (h:P9 c=true) {d:UInt8} (hd:d ∈ ([32,9,10,12,13,47,39,34,35,64]:List UInt8)):(c==d)=false:=by
 rw [dR]
 rintro rfl
 unfold P9 at h
 rw [List.contains_iff_mem.2 hd] at h
 cases h
theorem DT {c:UInt8} {r:List UInt8} (hc:P9 c=true) :
  firstM (c::r)=if (decide ((iY (c::r)).2>0))=true then ky (c::r) (iY (c::r)).1 (iY (c::r)).2 else if mJ (c::r)=true then l_ (c::r) else jf (c::r) c:=by
 have h1:mZ (c::r) ([32,9,10,12,13]:List UInt8)=c::r:=ou (by
  simp only [List.contains_cons,List.contains_nil,oo,vX hc (d:=32) (by decide),vX hc (d:=9) (by decide),vX hc (d:=10) (by decide),vX hc (d:=12) (by decide),vX hc (d:=13) (by decide)])
 have h2:(pO (c::r) ([47,42]:List UInt8)).2=false:=by
  unfold pO ku
  rw [pV (vX hc (d:=47) (by decide))]; rfl
 unfold firstM
 rw [h1,show w6 (((c::r).length:Int) - ((c::r).length:Int))=0 by rw [Int.sub_self]; rfl,aF (show decide ((0:Int)>0)=false from rfl),h2,aF rfl,yt]
 have e39:((c.toNat:Int)==39)=false:=qy (vX hc (d:=39) (by decide))
 have e34:((c.toNat:Int)==34)=false:=qy (vX hc (d:=34) (by decide))
 have e35:((c.toNat:Int)==35)=false:=qy (vX hc (d:=35) (by decide))
 have e64:((c.toNat:Int)==64)=false:=qy (vX hc (d:=64) (by decide))
 rw [e39,e34,aF (show (false||false)=false from rfl)]
 unfold nu mI
 rw [e35,gZ,aF rfl]
 unfold oK rZ
 rw [e64,gZ,aF rfl]
def XB (c:UInt8):Bool:=([48,49,50,51,52,53,54,55,56,57]:List UInt8).contains c
def agV:List UInt8→Bool
 | []=>true
 | e::_=>!(XB e)
def Ew:List UInt8→Bool
 | []=>true
 | d::u=>!(XB d)&&(!(d==46)||agV u)
def Qr:List UInt8→List UInt8
 | []=>[]
 | c::r=>if (c==43||c==45)=true then r else c::r
theorem uV (c:UInt8) (r:List UInt8):Qr (c::r)=if (c==43||c==45)=true then r else c::r:=rfl
def JD (s:List UInt8):Bool:=Ew (Qr s)
theorem Hl {c d:UInt8}:((c.toNat:Int)==(d.toNat:Int))=(c==d):=by
 by_cases h:c=d
 ·subst h; simp
 rw [dR.2 h]
 exact qy (dR.2 h)
theorem ajk {s:List UInt8} (h:Ew s=true):bS s=0:=by
 unfold bS
 match s,h with
 | [],_=>rfl
 | d::u,h =>
  rw [Ew,aG,dA] at h
  rw [ou h.1,Int.sub_self]; rfl
theorem ajj {e:UInt8} {u:List UInt8} (h:XB e=false):bS (e::u)=0:=by
 unfold bS
 rw [ou h,Int.sub_self]; rfl
theorem YE {c:UInt8} {r:List UInt8} (h:JD (c::r)=true):iY (c::r)=(0,0):=by
 unfold JD at h
 have v0:oU (c::r)=(c==43||c==45):=by
  unfold oU
  rw [yt,show ((c.toNat:Int)==43)=(c==43) from Hl (d:=43),show ((c.toNat:Int)==45)=(c==45) from Hl (d:=45)]
  rfl
 have hd:(c::r).drop (Int.toNat (aX (c::r)))=Qr (c::r):=by
  unfold aX
  rw [v0,uV]
  split <;> rfl
 have v1:aX (c::r)=1∨aX (c::r)=0:=by unfold aX; split <;> simp
 have dg:=ajk h
 have w1:w6 (aX (c::r)+0)=aX (c::r):=by rcases v1 with e | e <;> rw [e] <;> rfl
 have v2:numbV2 (c::r)=0:=by
  unfold numbV2
  rw [hd,dg,w1,hd]
  generalize Qr (c::r)=t at h
  match t,h with
  | [],_=>rw [show zw ([]:List UInt8) [46]=false from Jg,aF rfl]
  | d::u,h =>
   rw [Ew,aG] at h
   by_cases h46:d=46
   ·subst h46
    have h2:=h.2
    rw [show zw ((46:UInt8)::u) [46]=true from Jf,aT rfl]
    show bS u=0
    match u,h2 with
    | [],_=>rfl
    | e::u,h2=>exact ajj (by simpa [agV] using h2)
   rw [show zw (d::u) [46]=false from pV (by simpa using h46),aF rfl]
 unfold iY
 rw [hd,dg,v2]
 rfl
theorem Qc {c:UInt8} {r:List UInt8} (hc:P9 c=true) (hn:JD (c::r)=true) (hs:dE (c.toNat:Int)=false) (h45:(c==45)=false) (QE:(c==92)=false) :
  firstM (c::r)=(if (c.toNat=40∨c.toNat=91∨c.toNat=123) then 10 else if (c.toNat=41∨c.toNat=93∨c.toNat=125) then 11 else 12,[c],[],0):=by
 have e92:((c.toNat:Int)==92)=false:=qy (d:=92) QE
 have e45:((c.toNat:Int)==45)=false:=qy (d:=45) h45
 have hb:mJ (c::r)=false:=by
  unfold mJ
  rw [aF (show (c::r==([]:List UInt8))=false from rfl),yt,e45,gZ,aF rfl]
  unfold qa jG zB
  rw [hs,yt,e92]; simp
 rw [DT hc,YE hn,aF (show decide ((0:Int)>0)=false from rfl),hb,aF rfl]
 unfold jf kI oC oz
 rw [e92]
 have h5:((((c.toNat:Int)==40)||(((c.toNat:Int)==91)||((c.toNat:Int)==123)))=true)↔(c.toNat=40∨c.toNat=91∨c.toNat=123):=by simp; omega
 have h6:((((c.toNat:Int)==41)||(((c.toNat:Int)==93)||((c.toNat:Int)==125)))=true)↔(c.toNat=41∨c.toNat=93∨c.toNat=125):=by simp; omega
 by_cases a:c.toNat=40∨c.toNat=91∨c.toNat=123
 ·rw [bn (h5.2 a),bn a]; rfl
 rw [aQ (fun h=>a (h5.1 h)),aQ a]
 by_cases b:c.toNat=41∨c.toNat=93∨c.toNat=125
 ·rw [bn (h6.2 b),bn b]; rfl
 rw [aQ (fun h=>b (h6.1 h)),aQ b]; rfl
def Av (c:UInt8):Bool:=kv (c.toNat:Int)
def Vv (c:UInt8):Bool:=dE (c.toNat:Int)
theorem pF {p:UInt8→Bool} (h:(List.range 256).all (fun n=>p (UInt8.ofNat n))=true) (c:UInt8):p c=true:=by
 have h1:=l5.1 h c.toNat (by simpa using c.toNat_lt)
 simpa using h1
theorem Ri (c:UInt8):(!(Av c)||(P9 c&&!(c==92)&&!(c==46)&&!(c==43)&&!(c==40)&&!(c==37)))=true :=
 pF (p:=fun c=>(!(Av c)||(P9 c&&!(c==92)&&!(c==46)&&!(c==43)&&!(c==40)&&!(c==37)))) (by decide +kernel) c
theorem Ra (c:UInt8):(!(Vv c)||(Av c&&!(XB c)&&!(c==45)))=true :=
 pF (p:=fun c=>(!(Vv c)||(Av c&&!(XB c)&&!(c==45)))) (by decide +kernel) c
theorem EN {c:UInt8} (h:Av c=true):P9 c=true∧(c==92)=false∧(c==46)=false∧(c==43)=false:=by
 have:=Ri c
 rw [h] at this
 simp only [Bool.not_true,lq,aG,dA] at this
 exact ⟨this.1.1.1.1.1,this.1.1.1.1.2,this.1.1.1.2,this.1.1.2⟩
theorem NN {c:UInt8} (h:Vv c=true):Av c=true∧XB c=false∧(c==45)=false:=by
 have:=Ra c
 rw [h] at this
 simp only [Bool.not_true,lq,aG,dA] at this
 exact ⟨this.1.1,this.1.2,this.2⟩
def vQ:List UInt8→Bool
 | []=>true
 | c::_=>!(Av c)&&!(c==92)
def aqo:List UInt8→Bool
 | []=>false
 | d::_=>d==45||Vv d
def Ex:List UInt8→Bool
 | []=>false
 | c::v=>Vv c||(c==45&&aqo v)
def nM (w:List UInt8):Bool:=Ex w&&w.all Av
theorem uz {c:UInt8} {r:List UInt8} (h:(c==92)=false):jG (c::r)=false:=by
 unfold jG zB
 rw [yt,show ((c.toNat:Int)==92)=false from qy (d:=92) h]; simp
theorem CU:∀ (w r:List UInt8) (k:Nat),w.length≤k→w.all Av=true→vQ r=true→xu k (w++r)=(w,w.length)
 | [],[],k,_,_,_=>by cases k <;> rfl
 | [],c::r,0,_,_,_=>rfl
 | [],c::r,k+1,_,_,h=>by
  rw [vQ,aG,dA,dA] at h
  rw [jS,mG k c r (uz h.2),show kv (c.toNat:Int)=false from h.1]; rfl
 | c::w,r,0,h,_,_=>by simp at h
 | c::w,r,k+1,h,hw,hr=>by
  rw [sH,aG] at hw
  have ih:=CU w r k (by simp at h; omega) hw.2 hr
  rw [iM,mG k c _ (uz (EN hw.1).2.1),aT (show kv (c.toNat:Int)=true from hw.1),ih]; rfl
theorem PR {w r:List UInt8} (h:Ex w=true):JD (w++r)=true:=by
 match w,h with
 | c::v,h =>
  rw [Ex,dU] at h
  rcases h with h | h
  ·obtain ⟨h1,h2,h3⟩:=NN h
   obtain ⟨-,-,h46,h43⟩:=EN h1
   show Ew (Qr (c::(v++r)))=true
   rw [uV,h43,h3,aQ (by decide),Ew,h2,h46]; rfl
  rw [aG] at h
  match v,h with
  | d::u,h =>
   have hc:c=45:=eq_of_beq h.1
   subst hc
   show Ew (Qr ((45:UInt8)::d::(u++r)))=true
   rw [uV,bn (by decide),Ew]
   have h2:(d==45||Vv d)=true:=h.2
   rw [dU] at h2
   rcases h2 with h2 | h2
   ·rw [eq_of_beq h2]; rfl
   obtain ⟨h1,h3,h4⟩:=NN h2
   rw [h3,(EN h1).2.2.1]; rfl
theorem R6 {w r:List UInt8} (h:Ex w=true):mJ (w++r)=true:=by
 match w,h with
 | c::v,h =>
  rw [Ex,dU] at h
  unfold mJ
  rw [iM,aF (show (c::(v++r)==([]:List UInt8))=false from rfl),yt]
  rcases h with h | h
  ·have e45:((c.toNat:Int)==45)=false:=qy (d:=45) (NN h).2.2
   rw [e45,gZ,aF rfl]
   unfold qa
   rw [show dE (c.toNat:Int)=true from h]; rfl
  rw [aG] at h
  match v,h with
  | d::u,h =>
   have hc:c=45:=eq_of_beq h.1
   subst hc
   rw [aT (by simp; omega)]
   unfold vG
   have h2:(d==45||Vv d)=true:=h.2
   show (((d.toNat:Int)==45)||(dE (d.toNat:Int)||_))=true
   rw [show ((d.toNat:Int)==45)=(d==45) from Hl (d:=45),← Bool.or_assoc,show (d==45||dE (d.toNat:Int))=true from h2]; rfl
theorem Gy {w r:List UInt8} (h:nM w=true):∃ c v,w=c::v∧P9 c=true:=by
 unfold nM at h
 rw [aG] at h
 match w,h with
 | c::v,h =>
  have:=h.2
  rw [sH,aG] at this
  exact ⟨c,v,rfl,(EN this.1).1⟩
theorem DR {w r:List UInt8} (hl:(w++r).length≤1000) (h:nM w=true) (hr:vQ r=true) :
  firstM (w++r)=if zw r ([40]:List UInt8)=true then (2,(w++r).take (w.length+1),w,0) else (1,w,w,0):=by
 obtain ⟨c,v,hw,hc⟩:=Gy (r:=r) h
 have hb:Ex w=true:=by unfold nM at h; rw [aG] at h; exact h.1
 have ha:w.all Av=true:=by unfold nM at h; rw [aG] at h; exact h.2
 have hl':w.length+r.length≤1000:=by rw [bC] at hl; exact hl
 have hn:d_ (w++r)=(w,(w.length:Int)):=by
  unfold d_
  rw [CU w r _ (by simp) ha hr]
 have hN:cz 1 (w++r) 0=(1,w,w,0):=by
  unfold cz
  rw [show (w++r).drop (Int.toNat 0)=w++r from rfl,hn]
  simp only
  rw [gp (om),Int.zero_add,eB,List.take_left]
 have e1:firstM (w++r)=l_ (w++r):=by
  have h1:=PR (r:=r) hb
  have h2:=R6 (r:=r) hb
  rw [hw,iM] at h1 h2 ⊢
  rw [DT hc,YE h1,aF (show decide ((0:Int)>0)=false from rfl),aT h2]
 rw [e1]
 unfold l_ nD kP
 rw [hN]
 simp only
 rw [eB,List.drop_left,gp (om)]
 split
 ·rw [show (w.length:Int)+1=((w.length+1:Nat):Int) by omega,eB]
 rfl
def Ce (r:List UInt8):Bool:=vQ r&&(match r with | []=>true | c::_=>!(c==40))
theorem MR {w r:List UInt8} (hl:(w++r).length≤1000) (h:nM w=true) (hr:Ce r=true):firstM (w++r)=(1,w,w,0):=by
 unfold Ce at hr
 rw [aG] at hr
 have e:zw r ([40]:List UInt8)=false:=by
  match r,hr with
  | [],_=>exact Jg
  | c::r,hr=>exact pV (by simpa using hr.2)
 rw [DR hl h hr.1,aF e]
theorem MU {w r:List UInt8} (hl:(w++40::r).length≤1000) (h:nM w=true):firstM (w++40::r)=(2,w++[40],w,0):=by
 rw [DR hl h (by rw [vQ]; decide),aT (show zw ((40:UInt8)::r) [40]=true from Jf)]
 congr 2
 rw [show w++40::r=(w++[40])++r by simp,List.take_left' (by simp)]
theorem MS {w r:List UInt8} (hl:(35::(w++r)).length≤1000) (hne:w≠[]) (ha:w.all Av=true) (hr:vQ r=true):firstM (35::(w++r))=(4,35::w,w,0):=by
 have hl':w.length+r.length+1≤1000:=by simpa using hl
 have h1:mZ (35::(w++r)) ([32,9,10,12,13]:List UInt8)=35::(w++r):=ou (by decide)
 have h2:(pO (35::(w++r)) ([47,42]:List UInt8)).2=false:=by
  unfold pO ku
  rw [pV (by decide)]; rfl
 unfold firstM
 rw [h1,show w6 (((35::(w++r)).length:Int) - ((35::(w++r)).length:Int))=0 by rw [Int.sub_self]; rfl,aF (show decide ((0:Int)>0)=false from rfl),h2,aF rfl,yt]
 rw [aF (by decide)]
 have hv:mI (35::(w++r)) 35=true:=by
  unfold mI
  match w,hne with
  | c::v,_ =>
   rw [sH,aG] at ha
   rw [aG]
   refine ⟨by decide,?_⟩
   rw [aG]
   refine ⟨by simp; omega,?_⟩
   show (kv (c.toNat:Int)||_)=true
   rw [show kv (c.toNat:Int)=true from ha.1]; rfl
 unfold nu
 rw [aT hv]
 have hn:d_ (w++r)=(w,(w.length:Int)):=by
  unfold d_
  rw [CU w r _ (by simp) ha hr]
 unfold cz
 rw [show (35::(w++r)).drop (Int.toNat 1)=w++r from rfl,hn]
 simp only
 rw [gp (om),show (1:Int)+(w.length:Int)=((w.length+1:Nat):Int) by omega,eB,List.take_succ_cons,List.take_left]
theorem Kt {r:List UInt8} (hl:(32::r).length≤1000) (hr:mZ r ([32,9,10,12,13]:List UInt8)=r):firstM (32::r)=(8,[32],[],0):=by
 have h1:mZ (32::r) ([32,9,10,12,13]:List UInt8)=r:=by
  unfold mZ at hr ⊢
  rw [List.dropWhile_cons_of_pos (by decide)]; exact hr
 unfold firstM
 rw [h1,cK,show w6 (((r.length+1:Nat):Int) - (r.length:Int))=1 by rw [gp (by simp at hl; omega)]; omega,aT (show decide ((1:Int)>0)=true from rfl)]
 rfl
end Go.Proofs.YtdapgmigogpdcaaGreatDoor.tF
namespace Go.Proofs.YtdapgmigogpdcaaGreatDoor.tF
open Go Go.iQ jL BF Rp Qu Se Tk
set_option linter.unusedVariables false
theorem Om:∀ (k:Nat) (s:List UInt8),s.length≤k→(xu k s).1=s→s.all Av=true
 | _,[],_,_=>rfl
 | 0,c::r,h,_=>by simp at h
 | k+1,c::r,h,he=>by
  by_cases hx:jG (c::r)=true
  ·have h1:=Bo hx
   match r,h1 with
   | d::r',_ =>
    rw [Bc k c d r' hx] at he
    have h2:=ay List.length he
    have h3:=yc k r'
    simp only [cK] at h2
    omega
  have hx:jG (c::r)=false:=by simpa using hx
  rw [mG k c r hx] at he
  by_cases hs:kv (c.toNat:Int)=true
  ·rw [aT hs] at he
   have h2:(xu k r).1=r:=by
    have:=ay List.tail he
    exact this
   rw [sH,aG]
   exact ⟨hs,Om k r (by simp at h; omega) h2⟩
  rw [aQ hs] at he
  cases he
theorem UK {w:List UInt8} (ha:w.all Av=true) (hb:mJ w=true):Ex w=true:=by
 match w,ha,hb with
 | [],_,hb=>cases hb
 | c::v,ha,hb =>
  rw [sH,aG] at ha
  unfold mJ at hb
  rw [aF (show (c::v==([]:List UInt8))=false from rfl),yt] at hb
  rw [Ex,dU]
  by_cases h45:c=45
  ·subst h45
   match v,ha,hb with
   | [],_,hb=>exact absurd hb (by decide)
   | d::u,ha,hb =>
    rw [aT (by simp; omega)] at hb
    unfold vG at hb
    have ha2:=ha.2
    rw [sH,aG] at ha2
    refine .inr ?_
    rw [aG]
    refine ⟨rfl,?_⟩
    have e:jG ((45::d::u:List UInt8).drop (Int.toNat 1))=false:=uz (EN ha2.1).2.1
    rw [e,oo] at hb
    have hb:(((d.toNat:Int)==45)||dE (d.toNat:Int))=true:=hb
    rw [show ((d.toNat:Int)==45)=(d==45) from Hl (d:=45)] at hb
    exact hb
  have e45:((c.toNat:Int)==45)=false:=qy (d:=45) (by simpa using h45)
  rw [e45,gZ,aF rfl] at hb
  unfold qa at hb
  rw [uz (EN ha.1).2.1,oo] at hb
  exact .inl hb
theorem Kr {w:List UInt8} (h:(firstM w).1=1):mJ w=true∧(firstM w).2.2.1=(d_ w).1:=by
 unfold firstM at h ⊢
 split at h
 ·exact absurd h (by simp)
 split at h
 ·exact absurd h (by unfold rz; simp)
 split at h
 ·refine absurd h ?_
  show (qJ w).1≠1
  unfold qJ Vh
  simp only
  split <;> (try split) <;> simp
 rename_i h1 h2 h3
 rw [aQ h1,aQ h2,aQ h3]
 unfold nu at h ⊢
 split at h
 ·exact absurd h (by unfold cz; simp)
 rename_i h4
 rw [aQ h4]
 unfold oK at h ⊢
 split at h
 ·exact absurd h (by unfold cz; simp)
 rename_i h5
 rw [aQ h5]
 split at h
 ·exact absurd h (by unfold ky m_; simp)
 rename_i h6
 rw [aQ h6]
 split at h
 ·rename_i h7
  rw [bn h7]
  exact ⟨h7,rfl⟩
 refine absurd h ?_
 unfold jf kI
 repeat' split
 all_goals simp
theorem CK {w:List UInt8} (h:eu w=true):nM w=true:=by
 unfold eu at h
 have key:w≠[]∧(firstM w).1=1∧(firstM w).2.2.1=w:=by
  unfold iZ at h
  match w,h with
  | [],h=>cases h
  | c::r,h =>
   rw [show (c::r).length=r.length+1 from rfl,cutN,aQ (by simp)] at h
   split at h
   ·rename_i t he
    have e1:=(xh he).1
    rw [e1]
    simp only [aG,dI] at h
    exact ⟨by simp,h.1.1,h.2⟩
   cases h
 obtain ⟨h1,h2,h3⟩:=key
 obtain ⟨h4,h5⟩:=Kr h2
 have ha:w.all Av=true:=Om w.length w (fK _) (by
  rw [h3] at h5
  unfold d_ at h5
  exact h5.symm)
 unfold nM
 rw [aG]
 exact ⟨UK ha h4,ha⟩
theorem EE:∀ (v r:List UInt8) (k:Nat),(quoteS v).length<k→xD k 34 (quoteS v++34::r)=(v,(quoteS v).length,0)
 | [],r,k,h=>by
  obtain ⟨k,rfl⟩:∃ j,k=j+1:=⟨k - 1,om⟩
  exact Yn k 34 r
 | c::v,r,k,h=>by
  obtain ⟨k,rfl⟩:∃ j,k=j+1:=⟨k - 1,om⟩
  rw [quoteS,bC] at h
  have ih:=EE v r k
  rw [quoteS,dL]
  unfold rp1 at h ⊢
  by_cases hs:Em c=true
  ·rw [bn hs] at h ⊢
   simp only [cK,jT] at h
   show xD (k+1) 34 (92::c::(quoteS v++34::r))=_
   rw [Yo k 34 92 c _ (by decide) (by decide) rfl,ih (om)]
   simp only [bC,cK,jT]
   congr 2; omega
  rw [aQ hs] at h ⊢
  simp only [cK,jT] at h
  have hs:Em c=false:=by simpa using hs
  unfold Em at hs
  simp only [dC,dR] at hs
  show xD (k+1) 34 (c::(quoteS v++34::r))=_
  rw [Yp k 34 c _ hs.1.2 hs.1.1 (.inl hs.2),ih (om)]
  simp only [bC,cK,jT]
  congr 2; omega
theorem MQ {v r:List UInt8}:firstM (Ej v++r)=(5,Ej v,v,0):=by
 have e:Ej v++r=34::(quoteS v++34::r):=by unfold Ej; simp
 rw [e]
 have h1:mZ (34::(quoteS v++34::r)) ([32,9,10,12,13]:List UInt8)=34::(quoteS v++34::r):=ou (by decide)
 have h2:(pO (34::(quoteS v++34::r)) ([47,42]:List UInt8)).2=false:=by
  unfold pO ku
  rw [pV (by decide)]; rfl
 unfold firstM
 rw [h1,Int.sub_self,aF (show decide (w6 0>0)=false from rfl),h2,aF rfl,yt,aT (by decide)]
 have ht:qJ (34::(quoteS v++34::r))=(5,Ej v,v,0):=by
  unfold qJ
  rw [show ((34::(quoteS v++34::r)):List UInt8).getD 0 0=34 from rfl,List.drop_one,List.tail_cons,EE v r _ (by simp; omega)]
  unfold Vh
  rw [bn rfl]
  congr 2
  rw [List.take_succ_cons,show (quoteS v).length+1=(quoteS v++[34]).length by simp,show quoteS v++34::r=(quoteS v++[34])++r by simp,List.take_left]
  rfl
 rw [ht]
end Go.Proofs.YtdapgmigogpdcaaGreatDoor.tF
namespace Go.Proofs.YtdapgmigogpdcaaGreatDoor.tF
open Go Go.iQ jL BF Rp Qu Se Tk
set_option linter.unusedVariables false
inductive gX:List UInt8→List Tok→Prop
 | nil:gX [] []
 | cons {w r:List UInt8} {t:Tok} {ts:List Tok} (hw:w≠[]) (h:firstM (w++r)=t) (ht:t.2.1=w) (hr:gX r ts):gX (w++r) (t::ts)
theorem Uy {s:List UInt8} {ts:List Tok} (h:gX s ts):∀ k,s.length≤k→cutN k s=ts:=by
 induction h with
 | nil=>exact fun k _=>by cases k <;> rfl
 | @cons w r t ts hw h ht hr ih =>
  have hl:1≤w.length:=by
   cases w with
   | nil=>exact absurd rfl hw
   | cons _ _=>simp
  intro k hk
  rw [bC] at hk
  cases k with
  | zero=>omega
  | succ k =>
   have ih:=ih k (om)
   have hne:w++r≠[]:=by
    cases w with
    | nil=>exact absurd rfl hw
    | cons _ _=>simp
   have e:(w++r).drop (firstM (w++r)).2.1.length=r:=by rw [h,ht,List.drop_left]
   rw [cutN,aQ hne,e,ih,h]
def nX (c:UInt8):Bool:=XB c||c==110||c==43||c==45
theorem PQ (c:UInt8):(!(nX c)||(P9 c&&!(c==92)&&!(c==46)&&!(c==40)&&!(c==41)&&!(c==37)&&(Av c||c==43)))=true :=
 pF (p:=fun c=>(!(nX c)||(P9 c&&!(c==92)&&!(c==46)&&!(c==40)&&!(c==41)&&!(c==37)&&(Av c||c==43)))) (by decide +kernel) c
structure aqx (c:UInt8):Prop where
 hd:P9 c=true
 n92:(c==92)=false
 n46:(c==46)=false
 n40:(c==40)=false
 n41:(c==41)=false
 n37:(c==37)=false
 sg:Av c=true∨c=43
theorem Gs {c:UInt8} (h:nX c=true):aqx c:=by
 have:=PQ c
 rw [h] at this
 simp only [Bool.not_true,lq,aG,dA,dU,dI] at this
 obtain ⟨⟨⟨⟨⟨⟨a,b⟩,c⟩,d⟩,e⟩,f⟩,g⟩:=this
 exact ⟨a,b,c,d,e,f,g⟩
theorem dw_stop {p:UInt8→Bool} {b:UInt8} (hb:p b=false):∀ (x r:List UInt8),(x++b::r).dropWhile p=x.dropWhile p++b::r
 | [],r=>by rw [jS,Eb (by rw [hb]; simp)]; rfl
 | c::x,r=>by
  rw [iM,List.dropWhile_cons,List.dropWhile_cons]
  split
  ·exact dw_stop hb x r
  rfl
theorem Xw (x r:List UInt8) (hl:(x++41::r).length≤1000):0≤bS (x++41::r)∧bS (x++41::r)≤x.length:=by
 have h1:mZ (x++41::r) ([48,49,50,51,52,53,54,55,56,57]:List UInt8)=x.dropWhile (fun c=>([48,49,50,51,52,53,54,55,56,57]:List UInt8).contains c)++41::r:=dw_stop (by decide) x r
 have h2:(x.dropWhile (fun c=>([48,49,50,51,52,53,54,55,56,57]:List UInt8).contains c)).length≤x.length:=(List.dropWhile_sublist _).length_le
 simp only [bC,cK] at hl
 unfold bS
 rw [h1,gp (by simp only [bC,cK]; omega)]
 simp only [bC,cK]
 omega
theorem YG:∀ (x r:List UInt8) (k:Nat),(x.all fun c=>!(c==92))=true→(xu k (x++41::r)).2≤x.length
 | [],r,0,_=>fK _
 | [],r,k+1,_=>by
  rw [jS,mG k 41 r (uz (by decide)),aQ (by decide)]; exact fK _
 | c::x,r,0,_=>ik _
 | c::x,r,k+1,h=>by
  rw [sH,aG,dA] at h
  have ih:=YG x r k h.2
  rw [iM,mG k c _ (uz h.1)]
  split
  ·simp only [cK]; omega
  simp
theorem Hz {u r:List UInt8} (hu:∀ c ∈ u,nX c=true) (k:Nat) (hk:k≤u.length):∃ d q,(u++41::r).drop k=d::q∧(nX d=true∨d=41):=by
 rw [IJ hk]
 cases h:u.drop k with
 | nil=>exact ⟨41,r,rfl,.inr rfl⟩
 | cons d q=>exact ⟨d,q++41::r,rfl,.inl (hu d (List.mem_of_mem_drop (h ▸ cO ..)))⟩
theorem Dw {d:UInt8} (h:nX d=true∨d=41):(d==46)=false∧(d==40)=false∧(d==37)=false:=by
 rcases h with h | rfl
 ·have:=Gs h
  exact ⟨this.n46,this.n40,this.n37⟩
 exact ⟨by decide,by decide,by decide⟩
theorem alM {c:UInt8} {v r:List UInt8} (hu:∀ d ∈ c::v,nX d=true) (hl:((c::v)++41::r).length≤1000) :
  ∃ k t,1≤k∧k≤(c::v).length∧firstM ((c::v)++41::r)=t∧t.2.1=(c::v).take k∧t.1≠0:=by
 have hc:=Gs (hu c (cO ..))
 have QE:∀ k,(((c::v).drop k).all fun c=>!(c==92))=true:=fun k=>l5.2 fun d hd=>by
  rw [(Gs (hu d (List.mem_of_mem_drop hd))).n92]; rfl
 have hlen:(c::v).length+(r.length+1)≤1000:=by rw [bC] at hl; exact hl
 have tk:∀ k,k≤(c::v).length→((c::v)++41::r).take k=(c::v).take k:=fun k hk=>List.take_append_of_le_length hk
 have dr:∀ k,k≤(c::v).length→((c::v)++41::r).drop k=(c::v).drop k++41::r:=fun k hk=>IJ hk
 have hnm:∀ k,k≤(c::v).length→0≤(d_ (((c::v)++41::r).drop k)).2∧(d_ (((c::v)++41::r).drop k)).2≤((c::v).length - k:Nat):=fun k hk=>by
  rw [dr k hk]
  unfold d_
  have:=YG ((c::v).drop k) r ((c::v).drop k++41::r).length (QE k)
  rw [gJ] at this
  simp only
  omega
 have Mj:=DT (r:=v++41::r) hc.hd
 rw [show c::(v++41::r)=(c::v)++41::r from rfl] at Mj
 by_cases abD:decide ((iY ((c::v)++41::r)).2>0)=true
 ·have hn0:=dn abD
  have v1:aX ((c::v)++41::r)=1∨aX ((c::v)++41::r)=0:=by unfold aX; split <;> simp
  have key:∃ k:Nat,(iY ((c::v)++41::r)).2=(k:Int)∧k≤(c::v).length:=by
   have hl1:1≤(c::v).length:=by simp
   obtain ⟨j,hj,hjl⟩:∃ j:Nat,aX ((c::v)++41::r)=(j:Int)∧j≤(c::v).length:=by
    rcases v1 with e | e
    ·exact ⟨1,e,hl1⟩
    exact ⟨0,e,ik _⟩
   have hdg:=Xw ((c::v).drop j) r (by rw [← dr j hjl,gJ]; omega)
   rw [← dr j hjl,gJ] at hdg
   obtain ⟨g,hg⟩:∃ g:Nat,bS (((c::v)++41::r).drop j)=(g:Int):=⟨(bS (((c::v)++41::r).drop j)).toNat,om⟩
   have hw:w6 ((j:Int)+(g:Int))=((j+g:Nat):Int):=by rw [gp (om)]; omega
   have hV2:numbV2 ((c::v)++41::r)=0:=by
    unfold numbV2
    rw [hj,eB,hg,hw,eB]
    obtain ⟨d,q,e1,e2⟩:=Hz (r:=r) hu (j+g) (om)
    rw [e1,aF (show zw (d::q) [46]=false from pV (Dw e2).1)]
   have OI:kX ((c::v)++41::r)=((j+g:Nat):Int):=by
    unfold kX
    rw [hV2,aF (by decide),hj,eB,hg,hw]
   unfold iY
   split
   ·exact ⟨0,rfl,ik _⟩
   exact ⟨j+g,OI,om⟩
  obtain ⟨k,hk,hkl⟩:=key
  rw [Mj,bn abD,hk]
  have hk1:1≤k:=om
  have h37:zw (((c::v)++41::r).drop k) ([37]:List UInt8)=false:=by
   obtain ⟨d,q,e1,e2⟩:=Hz (r:=r) hu k hkl
   rw [e1]
   exact pV (Dw e2).2.2
  have hm:=hnm k hkl
  by_cases hb:mJ (((c::v)++41::r).drop k)=true
  ·obtain ⟨m,hm1⟩:∃ m:Nat,(d_ (((c::v)++41::r).drop k)).2=(m:Int):=⟨(d_ (((c::v)++41::r).drop k)).2.toNat,om⟩
   refine ⟨k+m,_,om,om,rfl,?_,by unfold ky m_; simp⟩
   show jm _ _=_
   unfold jm
   rw [eB,h37,aF rfl,bn hb,hm1,gp (om),show (k:Int)+(m:Int)=((k+m:Nat):Int) by omega,eB,tk _ (om)]
  refine ⟨k,_,hk1,hkl,rfl,?_,by unfold ky m_; simp⟩
  show jm _ _=_
  unfold jm
  rw [eB,h37,aF rfl,aQ hb,tk _ hkl]
 rw [Mj,aQ abD]
 by_cases hb:mJ ((c::v)++41::r)=true
 ·rw [bn hb]
  have hm:=hnm 0 (ik _)
  rw [iG] at hm
  have hsg:Av c=true:=by
   rcases hc.sg with h | h
   ·exact h
   subst h; exact absurd hb (by
    unfold mJ qa
    rw [show (((43:UInt8)::v)++41::r).getD (Int.toNat 0) 0=43 from rfl,show jG (((43:UInt8)::v)++41::r)=false from uz (by decide)]
    simp; decide)
  obtain ⟨m,hm1⟩:∃ m:Nat,(d_ ((c::v)++41::r)).2=(m:Int):=⟨(d_ ((c::v)++41::r)).2.toNat,om⟩
  have hm0:1≤m:=by
   have:(d_ ((c::v)++41::r)).2=((xu ((v++41::r).length+1) (c::(v++41::r))).2:Int):=rfl
   rw [mG _ c _ (uz hc.n92),aT (show kv (c.toNat:Int)=true from hsg)] at this
   simp only at this
   omega
  have hN:(cz 1 ((c::v)++41::r) 0).2.1=(c::v).take m:=by
   unfold cz
   simp only
   rw [show ((c::v)++41::r).drop (Int.toNat 0)=(c::v)++41::r from rfl,hm1,Int.zero_add,gp (om),eB,tk _ (om)]
  have h40:zw (((c::v)++41::r).drop (Int.toNat (((c::v).take m).length:Int))) ([40]:List UInt8)=false:=by
   rw [eB,gz,og (om)]
   obtain ⟨d,q,e1,e2⟩:=Hz (r:=r) hu m (om)
   rw [e1]
   exact pV (Dw e2).2.1
  refine ⟨m,_,hm0,om,rfl,?_,?_⟩
  ·unfold l_ kP
   simp only
   rw [hN,h40,aF rfl]
  unfold l_ nD
  simp only
  rw [hN,h40,aF rfl]
  unfold cz; simp
 rw [aQ hb]
 refine ⟨1,_,fK _,by simp,rfl,?_,?_⟩
 ·unfold jf kI
  repeat' split
  all_goals rfl
 unfold jf kI
 repeat' split
 all_goals simp
theorem Cn:∀ (n:Nat) (u r:List UInt8) (rs:List Tok),u.length≤n→(∀ d ∈ u,nX d=true)→(u++41::r).length≤1000→gX (41::r) rs →
  ∃ us:List Tok,(us.map fun t=>t.2.1).flatten=u∧(∀ t ∈ us,t.1≠0∧t.2.1≠[41])∧gX (u++41::r) (us++rs)
 | _,[],r,rs,_,_,_,h=>⟨[],rfl,(fun t ht=>by cases ht),h⟩
 | 0,c::v,r,rs,h,_,_,_=>by simp at h
 | n+1,c::v,r,rs,hn,hu,hl,h=>by
  obtain ⟨k,t,h1,h2,h3,h4,h5⟩:=alM (r:=r) hu hl
  have e:(c::v)++41::r=(c::v).take k++((c::v).drop k++41::r):=by rw [← dL,uL]
  obtain ⟨us,g1,g2,g3⟩:=Cn n ((c::v).drop k) r rs (by rw [gJ]; omega) (fun d hd=>hu d (List.mem_of_mem_drop hd)) (by
   rw [bC,gJ]
   rw [bC] at hl
   omega) h
  refine ⟨t::us,?_,fun y hy=>?_,?_⟩
  ·rw [jJ,zO,g1,h4,uL]
  ·rcases eG.1 hy with rfl | hy
   ·refine ⟨h5,?_⟩
    rw [h4]
    intro he
    have:(41:UInt8) ∈ c::v:=D9 (he ▸ il.2 rfl)
    have:=(Gs (hu 41 this)).n41
    exact absurd this (by decide)
   exact g2 y hy
  rw [e,iM]
  refine .cons ?_ (by rw [← e]; exact h3) h4 g3
  intro he
  have:=ay List.length he
  rw [gz,og h2] at this
  simp at this
  omega
end Go.Proofs.YtdapgmigogpdcaaGreatDoor.tF
namespace Go.Proofs.YtdapgmigogpdcaaGreatDoor.Se
open Go Go.iQ jL BF Rp Qu Tk tF Me
set_option linter.unusedVariables false
abbrev bl:Tok:=(8,[32],[],0)
abbrev sg (c:UInt8):Tok:=(12,[c],[],0)
abbrev wd (w:List UInt8):Tok:=(1,w,w,0)
abbrev Ai (w:List UInt8):Tok:=(2,w++[40],w,0)
abbrev clT:Tok:=(11,[41],[],0)
abbrev Nl:List UInt8:=[110,116,104,45,99,104,105,108,100]
abbrev Nk:List UInt8:=[110,116,104,45,108,97,115,116,45,99,104,105,108,100]
abbrev xB:List UInt8:=[110,111,116]
abbrev Po:List UInt8:=[105,115]
abbrev sP:List UInt8:=[114,111,111,116]
abbrev nR:List UInt8:=[101,109,112,116,121]
def RunT (u:List UInt8) (us:List Tok):Prop:=(us.map fun t=>t.2.1).flatten=u∧∀ t ∈ us,t.1≠0∧t.2.1≠[41]
def RJ (z:Int):List Tok:=if (z==61)=true then [sg 61] else [sg (oq z),sg 61]
def He (z:Int):List Tok:=if (z==32)=true then [bl] else [bl,sg (oq z),bl]
def BG (x:Lb) (K:List Tok→Prop) (ts:List Tok):Prop :=
 if (x.1==1)=true then ts=[sg 42] else if (x.1==2)=true then ts=[wd x.2.1] else if (x.1==3)=true then ts=[(4,35::x.2.1,x.2.1,0)] else if (x.1==4)=true then ts=[sg 46,wd x.2.1]
 else if (x.1==5)=true then (if (x.2.2.1==0)=true then ts=[(10,[91],[],0),wd x.2.1,(11,[93],[],0)] else ts=(10,[91],[],0)::wd x.2.1::(RJ x.2.2.1++[(5,Ej x.2.2.2.1,x.2.2.2.1,0),(11,[93],[],0)]))
 else if (x.1==6)=true then ts=[sg 58,wd sP] else if (x.1==7)=true then ts=[sg 58,wd nR]
 else if (x.1==8)=true then (∃ us,RunT (lW x.2.2.2.2.1 x.2.2.2.2.2) us∧ts=sg 58::Ai Nl::(us++[clT]))
 else if (x.1==9)=true then (∃ us,RunT (lW x.2.2.2.2.1 x.2.2.2.2.2) us∧ts=sg 58::Ai Nk::(us++[clT]))
 else if (x.1==10)=true then (∃ us,K us∧ts=sg 58::Ai xB::(us++[clT])) else (∃ us,K us∧ts=sg 58::Ai Po::(us++[clT]))
mutual
def QI:Ts→List Tok→Prop
 | .mk x l,ts=>BG x (fun us=>Qs l us) ts
def Qs:List Ph→List Tok→Prop
 | [],ts=>ts=[]
 | (p,js)::l,ts=>∃ a b,IU p js a∧KO l b∧ts=a++b
def KO:List Ph→List Tok→Prop
 | [],ts=>ts=[]
 | (p,js)::l,ts=>∃ a b,IU p js a∧KO l b∧ts=sg 44::bl::(a++b)
def IU:List (List Ts)→List Int→List Tok→Prop
 | [],_,ts=>ts=[]
 | s::p,js,ts=>∃ a b,KP s a∧K6 p js b∧ts=a++b
def K6:List (List Ts)→List Int→List Tok→Prop
 | [],_,ts=>ts=[]
 | s::p,js,ts=>∃ a b,KP s a∧K6 p js.tail b∧ts=He (js.headD 0)++(a++b)
def KP:List Ts→List Tok→Prop
 | [],ts=>ts=[]
 | t::s,ts=>∃ a b,QI t a∧KP s b∧ts=a++b
end
theorem lu (t:Ts) (ts:List Tok):QI t ts=BG t.lab (fun us=>Qs t.kids us) ts:=by obtain ⟨x,l⟩:=t; rw [QI]; rfl
theorem MZ {c:UInt8} {r:List UInt8} {rs:List Tok} (k:Int) (hc:P9 c=true) (hn:JD (c::r)=true) (hs:Vv c=false) (h45:(c==45)=false) (QE:(c==92)=false) (hk:(if (c.toNat=40∨c.toNat=91∨c.toNat=123) then (10:Int) else if (c.toNat=41∨c.toNat=93∨c.toNat=125) then 11 else 12)=k) (h:gX r rs):gX (c::r) ((k,[c],[],0)::rs) :=
 gX.cons (w:=[c]) (by simp) ((Qc hc hn hs h45 QE).trans (by rw [hk])) rfl h
def afM (c:UInt8):Bool:=P9 c&&!(Vv c)&&!(c==45)&&!(c==92)&&!(c==43)&&!(c==46)&&!(XB c)
theorem jD {c:UInt8} {r:List UInt8} {rs:List Tok} (k:Int) (hc:afM c=true) (hk:(if (c.toNat=40∨c.toNat=91∨c.toNat=123) then (10:Int) else if (c.toNat=41∨c.toNat=93∨c.toNat=125) then 11 else 12)=k) (h:gX r rs):gX (c::r) ((k,[c],[],0)::rs):=by
 unfold afM at hc
 simp only [aG,dA] at hc
 obtain ⟨⟨⟨⟨⟨⟨a,b⟩,c1⟩,d⟩,e⟩,f⟩,g⟩:=hc
 refine MZ k a ?_ b c1 d hk h
 unfold JD
 rw [uV,e,c1,aQ (by decide),Ew,g,f]; rfl
theorem pz {w r:List UInt8} {rs:List Tok} (hl:(w++r).length≤1000) (hw:nM w=true) (hr:Ce r=true) (h:gX r rs):gX (w++r) (wd w::rs):=by
 obtain ⟨c,v,e,-⟩:=Gy (r:=r) hw
 exact gX.cons (by rw [e]; simp) (MR hl hw hr) rfl h
theorem ad1 {w r:List UInt8} {rs:List Tok} (hl:(w++40::r).length≤1000) (hw:nM w=true) (h:gX r rs):gX (w++40::r) (Ai w::rs):=by
 have e:w++40::r=(w++[40])++r:=by simp
 have:=MU hl hw
 rw [e] at this ⊢
 exact gX.cons (by simp) this rfl h
theorem uB {r:List UInt8} {rs:List Tok} (hl:(32::r).length≤1000) (hr:mZ r ([32,9,10,12,13]:List UInt8)=r) (h:gX r rs):gX (32::r) (bl::rs) :=
 gX.cons (w:=[32]) (by simp) (Kt hl hr) rfl h
structure Ye (t:Ts) (i:Int):Prop where
 lo:1≤t.lab.1
 hi:t.lab.1≤11
 at0:t.lab.1≤2→¬ i>0
 name:2≤t.lab.1→t.lab.1≤5→eu t.lab.2.1=true
 low:t.lab.1=2∨t.lab.1=5→aJ t.lab.2.1=t.lab.2.1
 op:t.lab.2.2.1≠0→t.lab.1=5∧Dy ([61,126,124,94,36,42]:List UInt8) t.lab.2.2.1=true
 val:t.lab.2.2.1=0→t.lab.2.2.2.1=[]
 un:¬ (2≤t.lab.1∧t.lab.1≤5)→t.lab.2.1=[]
 ab:¬ (t.lab.1=8∨t.lab.1=9)→t.lab.2.2.2.2.1=0∧t.lab.2.2.2.2.2=0
theorem ni {t:Ts} {i:Int} (h:Az t.lab i=true):Ye t i:=by
 unfold Az at h
 simp only [aG,dA] at h
 obtain ⟨h0,h1,h2,h3⟩:=h
 unfold l0 at h0
 unfold l1 at h1
 unfold l2 at h2
 unfold l3 at h3
 simp only [dC] at h0
 obtain ⟨a1,a2,a3,a4,a5⟩:=h0
 refine ⟨by have:=fZ a1; omega,by have:=fZ a2; omega,fun h hi=>?_,fun h5 h6=>?_,fun h=>?_,fun h=>?_,fun h=>?_,fun h=>?_,fun h=>?_⟩
 ·rw [f_ h,f_ hi] at a3; cases a3
 ·rw [show decide (t.lab.1≥2)=true from f_ h5,f_ h6] at a5
  simpa using a5
 ·rcases h with h | h
  ·rw [aT (by rw [h]; rfl)] at h1
   exact (eq_of_beq (by simpa using h1)).symm
  rw [aF (by rw [h]; rfl),show (t.lab.1==5)=true by rw [h]; rfl,fu] at h1
  exact (eq_of_beq (by simpa using h1)).symm
 ·rw [aT (by simpa using h),dC,dC] at h2
  exact ⟨by simpa using h2.1,by simpa using h2.2.1⟩
 ·rw [aF (by rw [h]; rfl),show (t.lab.2.2.1==0)=true by rw [h]; rfl,fu] at h2
  exact eq_of_beq (by simpa using h2)
 ·have e:(decide (t.lab.1≥2)&&decide (t.lab.1≤5))=false:=by
   by_cases c1:t.lab.1≥2
   ·rw [lZ (fun c2=>h ⟨c1,c2⟩),uS]
   rw [lZ c1,gZ]
  rw [e] at a4
  have a4:(!(false==!(t.lab.2.1==([]:List UInt8))))=false:=a4
  exact eq_of_beq (by
   cases hb:(t.lab.2.1==([]:List UInt8)) with
   | true=>rfl
   | false=>rw [hb] at a4; cases a4)
 have e:(!((t.lab.1==8)||(t.lab.1==9)))=true:=by
  rw [dA,dC]
  exact ⟨by simpa using fun e=>h (.inl e),by simpa using fun e=>h (.inr e)⟩
 rw [aT e,dC,dC] at h3
 exact ⟨by simpa using h3.1,by simpa using h3.2.1⟩
def pU:List UInt8→Bool
 | []=>true
 | c::_=>([35,46,91,58,32,41,44]:List UInt8).contains c
def nbS:List UInt8→Bool
 | []=>true
 | c::_=>!(([32,9,10,12,13]:List UInt8).contains c)
theorem La (c:UInt8):(!(([35,46,91,58,32,41,44]:List UInt8).contains c)||(!(Av c)&&!(c==92)&&!(c==40)))=true :=
 pF (p:=fun c=>(!(([35,46,91,58,32,41,44]:List UInt8).contains c)||(!(Av c)&&!(c==92)&&!(c==40)))) (by decide +kernel) c
theorem ZA {r:List UInt8} (h:pU r=true):Ce r=true∧vQ r=true:=by
 match r,h with
 | [],_=>exact ⟨rfl,rfl⟩
 | c::r,h =>
  have:=La c
  rw [show ([35,46,91,58,32,41,44]:List UInt8).contains c=true from h] at this
  simp only [Bool.not_true,lq,aG] at this
  have e:vQ (c::r)=true:=by rw [vQ,this.1.1,this.1.2]; rfl
  refine ⟨?_,e⟩
  unfold Ce
  rw [e,fu]
  exact this.2
theorem JG {r:List UInt8} (h:nbS r=true):mZ r ([32,9,10,12,13]:List UInt8)=r:=by
 match r,h with
 | [],_=>rfl
 | c::r,h=>exact ou (by simpa [nbS] using h)
theorem afN {c:UInt8} (h:Av c=true):(!(([32,9,10,12,13]:List UInt8).contains c))=true:=by
 have:(!(Av c)||!(([32,9,10,12,13]:List UInt8).contains c))=true:=pF (p:=fun c=>(!(Av c)||!(([32,9,10,12,13]:List UInt8).contains c))) (by decide +kernel) c
 rw [h] at this
 simpa using this
theorem Lv {w:List UInt8} (h:eu w=true):∃ c v,w=c::v∧Av c=true:=by
 have:=CK h
 unfold nM at this
 rw [aG] at this
 match w,this with
 | c::v,this =>
  have h2:=this.2
  rw [sH,aG] at h2
  exact ⟨c,v,rfl,h2.1⟩
theorem SF {x:Lb} {s:List UInt8} (h:x.1=1):kH x s=[42]:=by unfold kH; rw [h]; rfl
theorem NG {x:Lb} {K:List Tok→Prop} {ts:List Tok} (h:x.1=1):BG x K ts=(ts=[sg 42]):=by unfold BG; rw [h]; rfl
theorem SE {x:Lb} {s:List UInt8} (h:x.1=2):kH x s=x.2.1:=by unfold kH; rw [h]; rfl
theorem NF {x:Lb} {K:List Tok→Prop} {ts:List Tok} (h:x.1=2):BG x K ts=(ts=[wd x.2.1]):=by unfold BG; rw [h]; rfl
theorem SC {x:Lb} {s:List UInt8} (h:x.1=3):kH x s=35::x.2.1:=by unfold kH; rw [h]; rfl
theorem NC {x:Lb} {K:List Tok→Prop} {ts:List Tok} (h:x.1=3):BG x K ts=(ts=[(4,35::x.2.1,x.2.1,0)]):=by unfold BG; rw [h]; rfl
theorem SB {x:Lb} {s:List UInt8} (h:x.1=4):kH x s=46::x.2.1:=by unfold kH; rw [h]; rfl
theorem NB {x:Lb} {K:List Tok→Prop} {ts:List Tok} (h:x.1=4):BG x K ts=(ts=[sg 46,wd x.2.1]):=by unfold BG; rw [h]; rfl
theorem SA {x:Lb} {s:List UInt8} (h:x.1=5):kH x s=(if (x.2.2.1==0)=true then 91::(x.2.1++[93]) else 91::(x.2.1++(QB x.2.2.1++61::(Ej x.2.2.2.1++[93])))):=by unfold kH; rw [h]; rfl
theorem Ja {x:Lb} {K:List Tok→Prop} {ts:List Tok} (h:x.1=5):BG x K ts=((if (x.2.2.1==0)=true then ts=[(10,[91],[],0),wd x.2.1,(11,[93],[],0)] else ts=(10,[91],[],0)::wd x.2.1::(RJ x.2.2.1++[(5,Ej x.2.2.2.1,x.2.2.2.1,0),(11,[93],[],0)]))):=by unfold BG; rw [h]; rfl
theorem Sz {x:Lb} {s:List UInt8} (h:x.1=6):kH x s=[58,114,111,111,116]:=by unfold kH; rw [h]; rfl
theorem I_ {x:Lb} {K:List Tok→Prop} {ts:List Tok} (h:x.1=6):BG x K ts=(ts=[sg 58,wd sP]):=by unfold BG; rw [h]; rfl
theorem Sy {x:Lb} {s:List UInt8} (h:x.1=7):kH x s=[58,101,109,112,116,121]:=by unfold kH; rw [h]; rfl
theorem I9 {x:Lb} {K:List Tok→Prop} {ts:List Tok} (h:x.1=7):BG x K ts=(ts=[sg 58,wd nR]):=by unfold BG; rw [h]; rfl
theorem Sw {x:Lb} {s:List UInt8} (h:x.1=8):kH x s=58::(Nl++40::(lW x.2.2.2.2.1 x.2.2.2.2.2++[41])):=by unfold kH; rw [h]; rfl
theorem I8 {x:Lb} {K:List Tok→Prop} {ts:List Tok} (h:x.1=8):BG x K ts=(∃ us,RunT (lW x.2.2.2.2.1 x.2.2.2.2.2) us∧ts=sg 58::Ai Nl::(us++[clT])):=by unfold BG; rw [h]; rfl
theorem Sv {x:Lb} {s:List UInt8} (h:x.1=9):kH x s=58::(Nk++40::(lW x.2.2.2.2.1 x.2.2.2.2.2++[41])):=by unfold kH; rw [h]; rfl
theorem I7 {x:Lb} {K:List Tok→Prop} {ts:List Tok} (h:x.1=9):BG x K ts=(∃ us,RunT (lW x.2.2.2.2.1 x.2.2.2.2.2) us∧ts=sg 58::Ai Nk::(us++[clT])):=by unfold BG; rw [h]; rfl
theorem OB {x:Lb} {s:List UInt8} (h:x.1=10):kH x s=58::(xB++40::(s++[41])):=by unfold kH; rw [h]; rfl
theorem BV {x:Lb} {K:List Tok→Prop} {ts:List Tok} (h:x.1=10):BG x K ts=(∃ us,K us∧ts=sg 58::Ai xB::(us++[clT])):=by unfold BG; rw [h]; rfl
theorem OA {x:Lb} {s:List UInt8} (h:x.1=11):kH x s=58::(Po++40::(s++[41])):=by unfold kH; rw [h]; rfl
theorem BU {x:Lb} {K:List Tok→Prop} {ts:List Tok} (h:x.1=11):BG x K ts=(∃ us,K us∧ts=sg 58::Ai Po::(us++[clT])):=by unfold BG; rw [h]; rfl
theorem kinds {t:Ts} {i:Int} (h:Ye t i):t.lab.1=1∨t.lab.1=2∨t.lab.1=3∨t.lab.1=4∨t.lab.1=5∨t.lab.1=6∨t.lab.1=7∨t.lab.1=8∨t.lab.1=9∨t.lab.1=10∨t.lab.1=11:=by
 have:=h.lo
 have:=h.hi
 omega
theorem Sq {t:Ts} {i:Int} {s:List UInt8} (h:Ye t i):∃ c q,kH t.lab s=c::q∧(!(([32,9,10,12,13]:List UInt8).contains c))=true∧(i>0→([35,46,91,58,32,41,44]:List UInt8).contains c=true):=by
 have h12:t.lab.1≤2→¬ i>0:=h.at0
 rcases kinds h with hk | hk | hk | hk | hk | hk | hk | hk | hk | hk | hk
 ·rw [SF hk]; exact ⟨42,[],rfl,by decide,fun hi=>absurd hi (h12 (om))⟩
 ·rw [SE hk]
  obtain ⟨c,v,e,hc⟩:=Lv (h.name (om) (om))
  exact ⟨c,v,e,afN hc,fun hi=>absurd hi (h12 (om))⟩
 ·rw [SC hk]; exact ⟨35,_,rfl,by decide,fun _=>by decide⟩
 ·rw [SB hk]; exact ⟨46,_,rfl,by decide,fun _=>by decide⟩
 ·rw [SA hk]
  by_cases h0:(t.lab.2.2.1==0)=true
  ·rw [bn h0]; exact ⟨91,_,rfl,by decide,fun _=>by decide⟩
  rw [aQ h0]; exact ⟨91,_,rfl,by decide,fun _=>by decide⟩
 ·rw [Sz hk]; exact ⟨58,_,rfl,by decide,fun _=>by decide⟩
 ·rw [Sy hk]; exact ⟨58,_,rfl,by decide,fun _=>by decide⟩
 ·rw [Sw hk]; exact ⟨58,_,rfl,by decide,fun _=>by decide⟩
 ·rw [Sv hk]; exact ⟨58,_,rfl,by decide,fun _=>by decide⟩
 ·rw [OB hk]; exact ⟨58,_,rfl,by decide,fun _=>by decide⟩
 rw [OA hk]; exact ⟨58,_,rfl,by decide,fun _=>by decide⟩
end Go.Proofs.YtdapgmigogpdcaaGreatDoor.Se
namespace Go.Proofs.YtdapgmigogpdcaaGreatDoor.Se
open Go Go.iQ jL BF Rp Qu Tk tF Me
set_option linter.unusedVariables false
theorem lS {c:UInt8} {r:List UInt8} (h:(!(Av c)&&!(c==92)&&!(c==40))=true):Ce (c::r)=true:=by
 simp only [aG] at h
 unfold Ce
 rw [vQ,h.1.1,h.1.2]
 exact h.2
theorem Ut (u:Nat):∀ c ∈ Lib.decDigits u,nX c=true:=by
 induction u using Nat.strongRecOn with
 | _ u ih =>
  have dig:∀ n:Nat,n<10→nX (UInt8.ofNat (48+n))=true:=fun n hn=>by
   have:∀ k:Fin 10,nX (UInt8.ofNat (48+k.val))=true:=by decide +kernel
   exact this ⟨n,hn⟩
  intro c hc
  rw [Lib.decDigits] at hc
  split at hc
  ·rw [il] at hc
   subst hc
   exact dig u (om)
  rcases lh.1 hc with hc | hc
  ·exact ih (u / 10) (om) c hc
  rw [il] at hc
  subst hc
  exact dig (u % 10) (om)
theorem ym (n:Int):∀ c ∈ Lib.itoa n,nX c=true:=by
 intro c hc
 unfold Lib.itoa at hc
 split at hc
 ·rcases eG.1 hc with rfl | hc
  ·decide
  exact Ut _ c hc
 exact Ut _ c hc
theorem JE (a b:Int):∀ c ∈ lW a b,nX c=true:=by
 intro c hc
 unfold lW at hc
 split at hc
 ·rcases lh.1 hc with hc | hc
  ·exact ym a c hc
  rcases eG.1 hc with rfl | hc
  ·decide
  exact ym b c hc
 rcases lh.1 hc with hc | hc
 ·exact ym a c hc
 rcases eG.1 hc with rfl | hc
 ·decide
 rcases eG.1 hc with rfl | hc
 ·decide
 exact ym b c hc
theorem Iy {r:List UInt8} {rs:List Tok} (h:gX r rs):gX (41::r) (clT::rs):=jD 11 (by decide) (by decide) h
theorem M3 {r:List UInt8} {rs:List Tok} (h:gX r rs):gX (58::r) (sg 58::rs):=jD 12 (by decide) (by decide) h
theorem Iz {w r:List UInt8} {rs:List Tok} (hl:(58::(w++40::r)).length≤1000) (hw:nM w=true) (h:gX r rs):gX (58::(w++40::r)) (sg 58::Ai w::rs) :=
 M3 (ad1 (by simp only [cK] at hl ⊢; omega) hw h)
theorem ad2 {n r:List UInt8} {rs:List Tok} (z:Int) (hz:z=61∨z=126∨z=124∨z=94∨z=36∨z=42) (hl:(n++(QB z++61::r)).length≤1000) (hw:nM n=true) (h:gX r rs):gX (n++(QB z++61::r)) (wd n::(RJ z++rs)):=by
 have h61:gX (61::r) (sg 61::rs):=jD 12 (by decide) (by decide) h
 rcases hz with rfl | rfl | rfl | rfl | rfl | rfl
 ·exact pz hl hw (lS (by decide)) h61
 ·exact pz hl hw (lS (c:=126) (by decide)) (jD (c:=126) 12 (by decide) (by decide) h61)
 ·exact pz hl hw (lS (c:=124) (by decide)) (jD (c:=124) 12 (by decide) (by decide) h61)
 ·exact pz hl hw (lS (c:=94) (by decide)) (jD (c:=94) 12 (by decide) (by decide) h61)
 ·exact pz hl hw (lS (c:=36) (by decide)) (jD (c:=36) 12 (by decide) (by decide) h61)
 exact pz hl hw (lS (c:=42) (by decide)) (jD (c:=42) 12 (by decide) (by decide) h61)
theorem Gm {z:Int} (h:Dy ([61,126,124,94,36,42]:List UInt8) z=true):z=61∨z=126∨z=124∨z=94∨z=36∨z=42:=by
 unfold Dy at h
 simp only [jK,xk,oo,dU,dI] at h
 rcases h with h | h | h | h | h | h
 ·exact .inl h.symm
 ·exact .inr (.inl h.symm)
 ·exact .inr (.inr (.inl h.symm))
 ·exact .inr (.inr (.inr (.inl h.symm)))
 ·exact .inr (.inr (.inr (.inr (.inl h.symm))))
 exact .inr (.inr (.inr (.inr (.inr h.symm))))
theorem UA {t:Ts} {i:Int} (hf:Ye t i)
  (hk:t.lab.1=10∨t.lab.1=11→∀ r rs,(tx3 t.kids++41::r).length≤1000→gX (41::r) rs→∃ us,Qs t.kids us∧gX (tx3 t.kids++41::r) (us++rs)) :
  ∀ r rs,pU r=true→(IP t++r).length≤1000→gX r rs→∃ ts,QI t ts∧gX (IP t++r) (ts++rs):=by
 intro r rs hr hl h
 have hB:=ZA hr
 rw [K7] at hl ⊢
 have hpl:2≤t.lab.1→t.lab.1≤5→nM t.lab.2.1=true:=fun a b=>CK (hf.name a b)
 rcases kinds hf with e | e | e | e | e | e | e | e | e | e | e
 ·rw [SF e] at hl ⊢
  exact ⟨[sg 42],by rw [lu,NG e],jD (c:=42) 12 (by decide) (by decide) h⟩
 ·rw [SE e] at hl ⊢
  exact ⟨_,by rw [lu,NF e],pz hl (hpl (om) (om)) hB.1 h⟩
 ·rw [SC e] at hl ⊢
  have hw:=hpl (om) (om)
  obtain ⟨c,v,ew,-⟩:=Gy (r:=r) hw
  unfold nM at hw
  rw [aG] at hw
  exact ⟨_,by rw [lu,NC e],gX.cons (w:=35::t.lab.2.1) (by simp) (MS hl (by rw [ew]; simp) hw.2 hB.2) rfl h⟩
 ·rw [SB e] at hl ⊢
  have hw:=hpl (om) (om)
  refine ⟨_,by rw [lu,NB e],?_⟩
  have hz:JD (46::(t.lab.2.1++r))=true:=by
   have hb:Ex t.lab.2.1=true:=by unfold nM at hw; rw [aG] at hw; exact hw.1
   unfold JD
   rw [uV,aQ (by decide),Ew]
   generalize t.lab.2.1=w at hb
   match w,hb with
   | c::v,hb =>
    show (_&&(_||!(XB c)))=true
    rw [Ex,dU] at hb
    rcases hb with hb | hb
    ·rw [(NN hb).2.1]; decide
    rw [aG] at hb
    rw [eq_of_beq hb.1]; decide
  exact MZ (c:=46) 12 (by decide) hz (by decide) (by decide) (by decide) (by decide) (pz (by simp at hl ⊢; omega) hw hB.1 h)
 ·rw [SA e] at hl ⊢
  have hw:=hpl (om) (om)
  by_cases h0:(t.lab.2.2.1==0)=true
  ·rw [bn h0] at hl ⊢
   refine ⟨_,by rw [lu,Ja e,bn h0],?_⟩
   have e2:(91::(t.lab.2.1++[93]))++r=91::(t.lab.2.1++93::r):=by simp
   rw [e2] at hl ⊢
   exact jD 10 (by decide) (by decide) (pz (by simp at hl ⊢; omega) hw (lS (by decide)) (jD 11 (by decide) (by decide) h))
  rw [aQ h0] at hl ⊢
  refine ⟨_,by rw [lu,Ja e,aQ h0],?_⟩
  have e2:(91::(t.lab.2.1++(QB t.lab.2.2.1++61::(Ej t.lab.2.2.2.1++[93]))))++r=91::(t.lab.2.1++(QB t.lab.2.2.1++61::(Ej t.lab.2.2.2.1++93::r))):=by simp
  have e3:((10,[91],[],0)::wd t.lab.2.1::(RJ t.lab.2.2.1++[(5,Ej t.lab.2.2.2.1,t.lab.2.2.2.1,0),(11,[93],[],0)]):List Tok)++rs=(10,[91],[],0)::wd t.lab.2.1::(RJ t.lab.2.2.1++((5,Ej t.lab.2.2.2.1,t.lab.2.2.2.1,0)::(11,[93],[],0)::rs)):=by simp
  rw [e2] at hl ⊢
  rw [e3]
  have hz:=Gm (hf.op (by simpa using h0)).2
  have h93:gX (93::r) ((11,[93],[],0)::rs):=jD 11 (by decide) (by decide) h
  have hq:gX (Ej t.lab.2.2.2.1++93::r) ((5,Ej t.lab.2.2.2.1,t.lab.2.2.2.1,0)::(11,[93],[],0)::rs):=gX.cons (by unfold Ej; simp) MQ rfl h93
  exact jD 10 (by decide) (by decide) (ad2 _ hz (by rw [cK] at hl; omega) hw hq)
 ·rw [Sz e] at hl ⊢
  refine ⟨[sg 58,wd sP],by rw [lu,I_ e],?_⟩
  show gX (58::(sP++r)) (sg 58::wd sP::rs)
  exact M3 (pz (w:=sP) (by simp at hl ⊢; omega) (by decide) hB.1 h)
 ·rw [Sy e] at hl ⊢
  refine ⟨[sg 58,wd nR],by rw [lu,I9 e],?_⟩
  show gX (58::(nR++r)) (sg 58::wd nR::rs)
  exact M3 (pz (w:=nR) (by simp at hl ⊢; omega) (by decide) hB.1 h)
 ·rw [Sw e] at hl ⊢
  have e2:(58::(Nl++40::(lW t.lab.2.2.2.2.1 t.lab.2.2.2.2.2++[41])))++r=58::(Nl++40::(lW t.lab.2.2.2.2.1 t.lab.2.2.2.2.2++41::r)):=by simp
  rw [e2] at hl ⊢
  obtain ⟨us,g1,g2,g3⟩:=Cn _ (lW t.lab.2.2.2.2.1 t.lab.2.2.2.2.2) r (clT::rs) (fK _) (JE _ _) (by simp at hl ⊢; omega) (Iy h)
  refine ⟨sg 58::Ai Nl::(us++[clT]),by rw [lu,I8 e]; exact ⟨us,⟨g1,g2⟩,rfl⟩,?_⟩
  rw [show (sg 58::Ai Nl::(us++[clT]))++rs=sg 58::Ai Nl::(us++clT::rs) by simp]
  exact Iz hl (by decide) g3
 ·rw [Sv e] at hl ⊢
  have e2:(58::(Nk++40::(lW t.lab.2.2.2.2.1 t.lab.2.2.2.2.2++[41])))++r=58::(Nk++40::(lW t.lab.2.2.2.2.1 t.lab.2.2.2.2.2++41::r)):=by simp
  rw [e2] at hl ⊢
  obtain ⟨us,g1,g2,g3⟩:=Cn _ (lW t.lab.2.2.2.2.1 t.lab.2.2.2.2.2) r (clT::rs) (fK _) (JE _ _) (by simp at hl ⊢; omega) (Iy h)
  refine ⟨sg 58::Ai Nk::(us++[clT]),by rw [lu,I7 e]; exact ⟨us,⟨g1,g2⟩,rfl⟩,?_⟩
  rw [show (sg 58::Ai Nk::(us++[clT]))++rs=sg 58::Ai Nk::(us++clT::rs) by simp]
  exact Iz hl (by decide) g3
 ·rw [OB e] at hl ⊢
  have e2:(58::(xB++40::(tx3 t.kids++[41])))++r=58::(xB++40::(tx3 t.kids++41::r)):=by simp
  rw [e2] at hl ⊢
  obtain ⟨us,g1,g3⟩:=hk (.inl e) r (clT::rs) (by simp at hl ⊢; omega) (Iy h)
  refine ⟨sg 58::Ai xB::(us++[clT]),by rw [lu,BV e]; exact ⟨us,g1,rfl⟩,?_⟩
  rw [show (sg 58::Ai xB::(us++[clT]))++rs=sg 58::Ai xB::(us++clT::rs) by simp]
  exact Iz hl (by decide) g3
 rw [OA e] at hl ⊢
 have e2:(58::(Po++40::(tx3 t.kids++[41])))++r=58::(Po++40::(tx3 t.kids++41::r)):=by simp
 rw [e2] at hl ⊢
 obtain ⟨us,g1,g3⟩:=hk (.inr e) r (clT::rs) (by simp at hl ⊢; omega) (Iy h)
 refine ⟨sg 58::Ai Po::(us++[clT]),by rw [lu,BU e]; exact ⟨us,g1,rfl⟩,?_⟩
 rw [show (sg 58::Ai Po::(us++[clT]))++rs=sg 58::Ai Po::(us++clT::rs) by simp]
 exact Iz hl (by decide) g3
theorem IZ {t:Ts} {i:Int} (h:xZ t i=true):∃ c q,IP t=c::q∧(!(([32,9,10,12,13]:List UInt8).contains c))=true∧(i>0→([35,46,91,58,32,41,44]:List UInt8).contains c=true):=by
 rw [lU,aG] at h
 rw [K7]
 exact Sq (ni h.1)
def CT (t:Ts):Prop:=∀ i,xZ t i=true→okB t→∀ r rs,pU r=true→(IP t++r).length≤1000→gX r rs→∃ ts,QI t ts∧gX (IP t++r) (ts++rs)
theorem ad4:∀ {s:List Ts} {k:Int},0≤k→(∀ t ∈ s,CT t)→ok1 s k=true→(∀ t ∈ s,okB t)→∀ r rs,pU r=true→(tx1 s++r).length≤1000→gX r rs→∃ ts,KP s ts∧gX (tx1 s++r) (ts++rs)
 | [],_,_,_,_,_,r,rs,_,_,h=>⟨[],by rw [KP],by rw [tx1]; exact h⟩
 | t::s,k,hk,hC,ho,hB,r,rs,hr,hl,h=>by
  rw [ok1,aG] at ho
  rw [tx1,dL] at hl ⊢
  have hl2:(tx1 s++r).length≤1000:=by rw [bC] at hl; omega
  obtain ⟨b,hb,hcb⟩:=ad4 (k:=k+1) (om) (fun y hy=>hC y (dS _ hy)) ho.2 (fun y hy=>hB y (dS _ hy)) r rs hr hl2 h
  have hst:pU (tx1 s++r)=true:=by
   match s,ho.2 with
   | [],_=>rw [tx1]; exact hr
   | y::s,ho2 =>
    rw [ok1,aG] at ho2
    obtain ⟨c,q,e1,-,e3⟩:=IZ ho2.1
    rw [tx1,e1]
    exact e3 (om)
  obtain ⟨a,ha,Xa⟩:=hC t (cO ..) k ho.1 (hB t (cO ..)) (tx1 s++r) (b++rs) hst hl hcb
  exact ⟨a++b,by rw [KP]; exact ⟨a,b,ha,hb,rfl⟩,by rw [dL]; exact Xa⟩
theorem QP {s:List Ts} (hne:s≠[]) {k:Int} (ho:ok1 s k=true) (r:List UInt8):nbS (tx1 s++r)=true:=by
 match s,hne with
 | t::s,_ =>
  rw [ok1,aG] at ho
  obtain ⟨c,q,e1,e2,-⟩:=IZ ho.1
  rw [tx1,e1]
  exact e2
theorem Hd {z:Int} (h:zn z=true):z=32∨z=62∨z=43∨z=126:=by
 unfold zn Dy at h
 simp only [jK,xk,oo,dU,dI] at h
 rcases h with h | h | h | h
 ·exact .inl h.symm
 ·exact .inr (.inl h.symm)
 ·exact .inr (.inr (.inl h.symm))
 exact .inr (.inr (.inr h.symm))
theorem adZ {z:Int} (hz:zn z=true) {r:List UInt8} {rs:List Tok} (hl:(IQ z++r).length≤1000) (hr:nbS r=true) (h:gX r rs):gX (IQ z++r) (He z++rs):=by
 rcases Hd hz with rfl | rfl | rfl | rfl
 ·exact uB hl (JG hr) h
 ·have h1:gX (62::32::r) (sg 62::bl::rs):=jD (c:=62) 12 (by decide) (by decide) (uB (by simp [IQ] at hl ⊢; omega) (JG hr) h)
  exact uB hl (ou (by decide)) h1
 ·have h1:gX (43::32::r) (sg 43::bl::rs):=MZ (c:=43) 12 (by decide) rfl (by decide) (by decide) (by decide) (by decide) (uB (by simp [IQ] at hl ⊢; omega) (JG hr) h)
  exact uB hl (ou (by decide)) h1
 have h1:gX (126::32::r) (sg 126::bl::rs):=jD (c:=126) 12 (by decide) (by decide) (uB (by simp [IQ] at hl ⊢; omega) (JG hr) h)
 exact uB hl (ou (by decide)) h1
theorem OG {z:Int} (r:List UInt8):pU (IQ z++r)=true:=by
 unfold IQ
 split <;> rfl
theorem YY:∀ {p:List (List Ts)} {js:List Int},(∀ s ∈ p,∀ t ∈ s,CT t)→t_ p=true→(∀ s ∈ p,∀ t ∈ s,okB t)→(∀ z ∈ js,zn z=true)→p.length≤js.length→∀ r rs,pU r=true→(tr2 p js++r).length≤1000→gX r rs→∃ ts,K6 p js ts∧gX (tr2 p js++r) (ts++rs)
 | [],js,_,_,_,_,_,r,rs,_,_,h=>⟨[],by rw [K6],by rw [tr2]; exact h⟩
 | s::p,js,hC,ho,hB,hj,hjl,r,rs,hr,hl,h=>by
  match js,hj,hjl with
  | z::js,hj,hjl =>
   rw [t_,aG,aG] at ho
   obtain ⟨ho1,ho2,ho3⟩:=ho
   have hne:s≠[]:=fun e=>by rw [e] at ho2; cases ho2
   rw [tr2,dL,dL] at hl ⊢
   have hl2:(tx1 s++(tr2 p js++r)).length≤1000:=by rw [bC] at hl; exact gV (Nat.le_add_left ..) hl
   have hl3:(tr2 p js++r).length≤1000:=by rw [bC] at hl2; omega
   obtain ⟨b,hb,hcb⟩:=YY (p:=p) (js:=js) (fun y hy=>hC y (dS _ hy)) ho3 (fun y hy=>hB y (dS _ hy)) (fun y hy=>hj y (dS _ hy)) (by simpa using hjl) r rs hr hl3 h
   have hst:pU (tr2 p js++r)=true:=by
    match p with
    | []=>rw [tr2]; exact hr
    | y::p=>rw [tr2,dL]; exact OG _
   obtain ⟨a,ha,Xa⟩:=ad4 (ll 0) (hC s (cO ..)) ho1 (hB s (cO ..)) _ _ hst hl2 hcb
   refine ⟨He z++(a++b),by rw [K6]; exact ⟨a,b,ha,hb,rfl⟩,?_⟩
   rw [dL,dL]
   exact adZ (hj z (cO ..)) hl (QP hne ho1 _) Xa
theorem ajr {p:List (List Ts)} {js:List Int} (hC:∀ s ∈ p,∀ t ∈ s,CT t) (ho:t_ p=true) (hB:∀ s ∈ p,∀ t ∈ s,okB t) (hj:∀ z ∈ js,zn z=true) (hjl:p.length≤js.length+1) (r:List UInt8) (rs:List Tok) (hr:pU r=true) (hl:(BN p js++r).length≤1000) (h:gX r rs):∃ ts,IU p js ts∧gX (BN p js++r) (ts++rs):=by
 match p,hC,ho,hB,hjl with
 | [],_,_,_,_=>exact ⟨[],by rw [IU],by rw [BN]; exact h⟩
 | s::p,hC,ho,hB,hjl =>
  rw [t_,aG,aG] at ho
  obtain ⟨ho1,ho2,ho3⟩:=ho
  rw [BN,dL] at hl ⊢
  have hl3:(tr2 p js++r).length≤1000:=by rw [bC] at hl; omega
  obtain ⟨b,hb,hcb⟩:=YY (p:=p) (js:=js) (fun y hy=>hC y (dS _ hy)) ho3 (fun y hy=>hB y (dS _ hy)) hj (by simpa using hjl) r rs hr hl3 h
  have hst:pU (tr2 p js++r)=true:=by
   match p with
   | []=>rw [tr2]; exact hr
   | y::p=>rw [tr2,dL]; exact OG _
  obtain ⟨a,ha,Xa⟩:=ad4 (ll 0) (hC s (cO ..)) ho1 (hB s (cO ..)) _ _ hst hl hcb
  exact ⟨a++b,by rw [IU]; exact ⟨a,b,ha,hb,rfl⟩,by rw [dL]; exact Xa⟩
theorem Zh {p:List (List Ts)} {js:List Int} (hne:p≠[]) (ho:t_ p=true) (r:List UInt8):nbS (BN p js++r)=true:=by
 match p,hne with
 | s::p,_ =>
  rw [t_,aG,aG] at ho
  have hs:s≠[]:=fun e=>by have:=ho.2.1; rw [e] at this; cases this
  rw [BN,dL]
  exact QP hs ho.1 _
theorem I5 {l:List Ph} {r:List UInt8} (hr:pU r=true):pU (tr3 l++r)=true:=by
 match l with
 | []=>rw [tr3]; exact hr
 | (p,js)::l=>rw [tr3]; rfl
theorem YX:∀ {l:List Ph},(∀ q ∈ l,∀ s ∈ q.1,∀ t ∈ s,CT t)→tZ l=true→(∀ q ∈ l,∀ s ∈ q.1,∀ t ∈ s,okB t)→∀ r rs,pU r=true→(tr3 l++r).length≤1000→gX r rs→∃ ts,KO l ts∧gX (tr3 l++r) (ts++rs)
 | [],_,_,_,r,rs,_,_,h=>⟨[],by rw [KO],by rw [tr3]; exact h⟩
 | (p,js)::l,hC,ho,hB,r,rs,hr,hl,h=>by
  obtain ⟨⟨q1,q2⟩,q3,q4⟩:=kV ho (cO ..)
  rw [mE,aG,aG,aG] at ho
  have e:tr3 ((p,js)::l)++r=44::32::(BN p js++(tr3 l++r)):=by rw [tr3]; simp
  rw [e] at hl ⊢
  have hl1:(32::(BN p js++(tr3 l++r))).length≤1000:=by rw [cK] at hl; omega
  have hl2:(BN p js++(tr3 l++r)).length≤1000:=by rw [cK] at hl1; omega
  have hl3:(tr3 l++r).length≤1000:=by rw [bC] at hl2; omega
  obtain ⟨b,hb,hcb⟩:=YX (l:=l) (fun y hy=>hC y (dS _ hy)) ho.2.2.2 (fun y hy=>hB y (dS _ hy)) r rs hr hl3 h
  obtain ⟨a,ha,Xa⟩:=ajr (hC (p,js) (cO ..)) q3 (hB (p,js) (cO ..)) (fun z hz=>l5.1 q4 z hz) (Nat.le_of_eq q2.symm) _ _ (I5 hr) hl2 hcb
  refine ⟨sg 44::bl::(a++b),by rw [KO]; exact ⟨a,b,ha,hb,rfl⟩,?_⟩
  have e2:(sg 44::bl::(a++b))++rs=sg 44::bl::(a++(b++rs)):=by simp
  rw [e2]
  exact jD (c:=44) 12 (by decide) (by decide) (uB hl1 (JG (Zh q1 q3 _)) Xa)
theorem ajq {l:List Ph} (hC:∀ q ∈ l,∀ s ∈ q.1,∀ t ∈ s,CT t) (ho:tZ l=true) (hB:∀ q ∈ l,∀ s ∈ q.1,∀ t ∈ s,okB t) (r:List UInt8) (rs:List Tok) (hr:pU r=true) (hl:(tx3 l++r).length≤1000) (h:gX r rs):∃ ts,Qs l ts∧gX (tx3 l++r) (ts++rs):=by
 match l,hC,ho,hB with
 | [],_,_,_=>exact ⟨[],by rw [Qs],by rw [tx3]; exact h⟩
 | (p,js)::l,hC,ho,hB =>
  obtain ⟨⟨q1,q2⟩,q3,q4⟩:=kV ho (cO ..)
  rw [mE,aG,aG,aG] at ho
  rw [tx3,dL] at hl ⊢
  have hl3:(tr3 l++r).length≤1000:=by rw [bC] at hl; omega
  obtain ⟨b,hb,hcb⟩:=YX (l:=l) (fun y hy=>hC y (dS _ hy)) ho.2.2.2 (fun y hy=>hB y (dS _ hy)) r rs hr hl3 h
  obtain ⟨a,ha,Xa⟩:=ajr (hC (p,js) (cO ..)) q3 (hB (p,js) (cO ..)) (fun z hz=>l5.1 q4 z hz) (Nat.le_of_eq q2.symm) _ _ (I5 hr) hl hcb
  exact ⟨a++b,by rw [Qs]; exact ⟨a,b,ha,hb,rfl⟩,by rw [dL]; exact Xa⟩
theorem ad3:∀ t:Ts,CT t:=gL.ind fun x l ih i hi hB=>by
 have hi':=hi
 rw [lU,aG] at hi
 refine UA (ni hi.1) (fun hk r rs hl h=>?_)
 have e:((x.1==10)||(x.1==11))=true:=by
  rcases hk with h | h
  ·rw [show x.1=10 from h]; rfl
  rw [show x.1=11 from h]; rfl
 have h2:=hi.2
 rw [bn (show (((gL.mk x l).lab.1==10)||((gL.mk x l).lab.1==11))=true from e)] at h2
 simp only [nV,aG] at h2
 exact ajq ih h2.1 (fun q hq s hs t ht=>((x8 hB).2 q hq).2 s hs t ht) (41::r) rs rfl hl h
theorem Pq {l:List Ph} (ho:tZ l=true) (hB:PM l) (hl:(tx3 l).length≤1000):Qs l (iZ (tx3 l))∧gX (tx3 l) (iZ (tx3 l)):=by
 obtain ⟨ts,h1,h2⟩:=ajq (fun q _ s _ t _=>ad3 t) ho (fun q hq s hs t ht=>(hB q hq).2 s hs t ht) [] [] rfl (by rw [gK]; exact hl) .nil
 rw [gK,gK] at h2
 have:iZ (tx3 l)=ts:=Uy h2 _ (fK _)
 rw [this]; exact ⟨h1,h2⟩
end Go.Proofs.YtdapgmigogpdcaaGreatDoor.Se
namespace Go.Proofs.YtdapgmigogpdcaaGreatDoor.Se
open _root_.Go.Proofs.Tryz Go Go.iQ Go.RowKit jL BF tF Tk Ti Me Rp Qu
set_option linter.unusedVariables false
set_option linter.unusedSimpArgs false
set_option maxHeartbeats 4000000
set_option maxRecDepth 100000
def agU (xt:TS) (K:Bs→Prop):Prop :=
 (decide (xt.lab.2.2.2.2.2<0)=true→P7 xt.lab.2.2.2.2.1∧(Lib.itoa xt.lab.2.2.2.2.1).length+([110]:Bs).length≤maxLen∧P7 xt.lab.2.2.2.2.2∧(Lib.itoa xt.lab.2.2.2.2.1++([110]:Bs)).length+(Lib.itoa xt.lab.2.2.2.2.2).length≤maxLen∧K ((Lib.itoa xt.lab.2.2.2.2.1++([110]:Bs))++Lib.itoa xt.lab.2.2.2.2.2))∧(decide (xt.lab.2.2.2.2.2<0)=false→P7 xt.lab.2.2.2.2.1∧(Lib.itoa xt.lab.2.2.2.2.1).length+([110,43]:Bs).length≤maxLen∧P7 xt.lab.2.2.2.2.2∧(Lib.itoa xt.lab.2.2.2.2.1++([110,43]:Bs)).length+(Lib.itoa xt.lab.2.2.2.2.2).length≤maxLen∧K ((Lib.itoa xt.lab.2.2.2.2.1++([110,43]:Bs))++Lib.itoa xt.lab.2.2.2.2.2))
theorem aaB {g:ak} {g0:Option Addr} {m0:Nat} (xt:TS) (a0:bG g (.slice yP) [.slice g0 xt.kids.length m0] xt.kids) (hG3:ma g 3 (.int .u64) yR) (K:Bs→Prop)
  (hF:agU xt K):az prog 83 #[.agg (aL xt.lab g0 xt.kids.length m0)] g [] (fun g' H' v=>∃ (r0:Bs),v=sv r0∧H'=[]∧K r0):=by
 refine aP 22 func83 rfl fun w0=>?_
 refine ae (ai (di fun jg=>?_))
 refine av 1 [(1,pv jg 0)] kr (aa (aH (ae (aj 3 [.e 0] [1] [(5,.bool (decide (xt.lab.2.2.2.2.2<0)))] ?_))))
 refine aa (aM hF (fun hc2 hF=>?_) (fun hc2 hF=>?_))
 ·refine aH (gu kr kr (fe 1 [1] [(6,pv jg 4)] ?_))
  refine dX.op rfl (fM.s (v:=iv xt.lab.2.2.2.2.1) (aR 0 rfl rfl underlying3 rfl kr) rfl rfl ?_)
  obtain ⟨hp3,hF⟩:=hF
  refine dX.op rfl (fM.f gT (fun W hW=>Hg xt.lab.2.2.2.2.1 (hG3.mono hW.sees) hp3) rfl ?_)
  obtain ⟨hv,hF⟩:=hF
  let D:=Lib.itoa xt.lab.2.2.2.2.1++([110]:Bs)
  refine dX.op rfl (fM.s (v:=sv D) (dx rfl rfl hv) rfl rfl (yO 1 [(9,sv D),(10,pv jg 5)] kr (dX.op rfl (fM.s (v:=iv xt.lab.2.2.2.2.2) (aR 0 rfl rfl underlying3 rfl kr) rfl rfl ?_))))
  obtain ⟨Tp,hF⟩:=hF
  refine dX.op rfl (fM.f gT (fun W hW=>Hg xt.lab.2.2.2.2.2 (hG3.mono hW.sees) Tp) rfl ?_)
  obtain ⟨hv,hF⟩:=hF
  let B:=D++Lib.itoa xt.lab.2.2.2.2.2
  refine dX.op rfl (fM.s (v:=sv B) (dx rfl rfl hv) rfl rfl (yO 1 [(2,sv B)] kr (kU (Ok.t (Ok.ret (aC ?_))))))
  exact jr (sv B) ⟨B,rfl,rfl,hF⟩
 refine Ok.k (Ok.t (aH (gu kr kr (fe 1 [1] [(14,pv jg 4)] ?_))))
 refine dX.op rfl (fM.s (v:=iv xt.lab.2.2.2.2.1) (aR 0 rfl rfl underlying3 rfl kr) rfl rfl ?_)
 obtain ⟨Kj,hF⟩:=hF
 refine dX.op rfl (fM.f gT (fun W hW=>Hg xt.lab.2.2.2.2.1 (hG3.mono hW.sees) Kj) rfl ?_)
 obtain ⟨hv,hF⟩:=hF
 let C:=Lib.itoa xt.lab.2.2.2.2.1++([110,43]:Bs)
 refine dX.op rfl (fM.s (v:=sv C) (dx rfl rfl hv) rfl rfl (yO 1 [(17,sv C),(18,pv jg 5)] kr (dX.op rfl (fM.s (v:=iv xt.lab.2.2.2.2.2) (aR 0 rfl rfl underlying3 rfl kr) rfl rfl ?_))))
 obtain ⟨hp6,hF⟩:=hF
 refine dX.op rfl (fM.f gT (fun W hW=>Hg xt.lab.2.2.2.2.2 (hG3.mono hW.sees) hp6) rfl ?_)
 obtain ⟨hv,hF⟩:=hF
 let A:=C++Lib.itoa xt.lab.2.2.2.2.2
 refine dX.op rfl (fM.s (v:=sv A) (dx rfl rfl hv) rfl rfl (yO 1 [(2,sv A)] kr (kU (Ok.t (Ok.ret ?_)))))
 exact jr (sv A) ⟨A,rfl,rfl,hF⟩
theorem agT (t:Ts) (hp:z_ t):agU t (fun r=>r=nthT t):=by
 obtain ⟨h1,h2⟩:=vv hp.1
 obtain ⟨h3,h4⟩:=vv hp.2
 have e:maxLen=9223372036854775807:=rfl
 refine ⟨fun hb=>⟨h1,sl,h3,sl,?_⟩,fun hb=>⟨h1,sl,h3,sl,?_⟩⟩
 ·unfold nthT lW; rw [bn (dn hb)]; simp
 unfold nthT lW; rw [aQ (fZ hb)]; simp
theorem YF {g:ak} {g0:Option Addr} {m0:Nat} (xt:TS) (a0:bG g (.slice yP) [.slice g0 xt.kids.length m0] xt.kids) (hG3:ma g 3 (.int .u64) yR)  (hp:z_ xt):bE prog 83 #[.agg (aL xt.lab g0 xt.kids.length m0)] g (sv (nthT xt)) :=
 (aaB xt a0 hG3 _ (agT xt hp)).gv
def Q6 (N:Nat):Prop:=∀ (g:ak) {g0:Option Addr} {m0:Nat} (xt:TS) (a0:bG g (.slice yP) [.slice g0 xt.kids.length m0] xt.kids) (hG3:ma g 3 (.int .u64) yR)  (hp:Jc N xt),bE prog 49 #[.agg (aL xt.lab g0 xt.kids.length m0)] g (sv (IP xt))
def Q4 (N:Nat):Prop:=∀ (g:ak) {i0:Option Addr} {Z0:Nat} (xl:List PH) (s0:bG g (.slice yP) [.slice i0 xl.length Z0] xl) (hG3:ma g 3 (.int .u64) yR)  (hp:Jb N xl),bE prog 26 #[.slice i0 xl.length Z0] g (sv (tx3 xl))
def vP (xt:TS):Bool :=
 ((decide (((bytesOf ([xt.lab.2.2.1]:List Int)).length:Int)≥(([61]:Bs).length:Int)))&&(((bytesOf ([xt.lab.2.2.1]:List Int)).drop (Int.toNat (w6 (((bytesOf ([xt.lab.2.2.1]:List Int)).length:Int) - (([61]:Bs).length:Int)))))==([61]:Bs)))
def sttV1 (xt:TS):Bs :=
 (if (vP xt)=true then (bytesOf ([xt.lab.2.2.1]:List Int)).take (Int.toNat (w6 (((bytesOf ([xt.lab.2.2.1]:List Int)).length:Int) - (([61]:Bs).length:Int)))) else (bytesOf ([xt.lab.2.2.1]:List Int)))
def tL (xt:TS) (K:Bs→Prop):Prop :=
 (([91]:Bs)++xt.lab.2.1).length+(sttV1 xt).length≤maxLen∧((([91]:Bs)++xt.lab.2.1)++sttV1 xt).length+([61,34]:Bs).length≤maxLen∧mD xt.lab.2.2.2.1∧(((([91]:Bs)++xt.lab.2.1)++sttV1 xt)++([61,34]:Bs)).length+(quoteS xt.lab.2.2.2.1).length≤maxLen∧((((([91]:Bs)++xt.lab.2.1)++sttV1 xt)++([61,34]:Bs))++quoteS xt.lab.2.2.2.1).length+([34,93]:Bs).length≤maxLen∧K (((((([91]:Bs)++xt.lab.2.1)++sttV1 xt)++([61,34]:Bs))++quoteS xt.lab.2.2.2.1)++([34,93]:Bs))
def ow (xt:TS) (K:Bs→Prop):Prop :=
 (vP xt=true→(0:Int)≤0∧0≤(w6 (((bytesOf ([xt.lab.2.2.1]:List Int)).length:Int) - (([61]:Bs).length:Int)))∧(w6 (((bytesOf ([xt.lab.2.2.1]:List Int)).length:Int) - (([61]:Bs).length:Int)))≤((bytesOf ([xt.lab.2.2.1]:List Int)).length:Int)∧tL xt K)∧(vP xt=false→tL xt K)
def afA (N:Nat) (xt:TS) (K:Bs→Prop):Prop :=
 ((xt.lab.1==1)=true→K ([42]:Bs))∧((xt.lab.1==1)=false→((xt.lab.1==2)=true→K xt.lab.2.1)∧((xt.lab.1==2)=false→((xt.lab.1==3)=true→([35]:Bs).length+xt.lab.2.1.length≤maxLen∧K (([35]:Bs)++xt.lab.2.1))∧((xt.lab.1==3)=false→((xt.lab.1==4)=true→([46]:Bs).length+xt.lab.2.1.length≤maxLen∧K (([46]:Bs)++xt.lab.2.1))∧((xt.lab.1==4)=false→((xt.lab.1==5)=true→((xt.lab.2.2.1==0)=true→([91]:Bs).length+xt.lab.2.1.length≤maxLen∧(([91]:Bs)++xt.lab.2.1).length+([93]:Bs).length≤maxLen∧K ((([91]:Bs)++xt.lab.2.1)++([93]:Bs)))∧((xt.lab.2.2.1==0)=false→([91]:Bs).length+xt.lab.2.1.length≤maxLen∧((decide (((bytesOf ([xt.lab.2.2.1]:List Int)).length:Int)≥(([61]:Bs).length:Int)))=true→0≤(w6 (((bytesOf ([xt.lab.2.2.1]:List Int)).length:Int) - (([61]:Bs).length:Int)))∧((w6 (((bytesOf ([xt.lab.2.2.1]:List Int)).length:Int) - (([61]:Bs).length:Int))):Int)≤((bytesOf ([xt.lab.2.2.1]:List Int)).length:Int)∧((bytesOf ([xt.lab.2.2.1]:List Int)).length:Int)≤((bytesOf ([xt.lab.2.2.1]:List Int)).length:Int)∧ow xt K)∧((decide (((bytesOf ([xt.lab.2.2.1]:List Int)).length:Int)≥(([61]:Bs).length:Int)))=false→ow xt K)))∧((xt.lab.1==5)=false→((xt.lab.1==6)=true→K ([58,114,111,111,116]:Bs))∧((xt.lab.1==6)=false→((xt.lab.1==7)=true→K ([58,101,109,112,116,121]:Bs))∧((xt.lab.1==7)=false→((xt.lab.1==8)=true→z_ xt∧([58,110,116,104,45,99,104,105,108,100,40]:Bs).length+(nthT xt).length≤maxLen∧(([58,110,116,104,45,99,104,105,108,100,40]:Bs)++nthT xt).length+([41]:Bs).length≤maxLen∧K ((([58,110,116,104,45,99,104,105,108,100,40]:Bs)++nthT xt)++([41]:Bs)))∧((xt.lab.1==8)=false→((xt.lab.1==9)=true→z_ xt∧([58,110,116,104,45,108,97,115,116,45,99,104,105,108,100,40]:Bs).length+(nthT xt).length≤maxLen∧(([58,110,116,104,45,108,97,115,116,45,99,104,105,108,100,40]:Bs)++nthT xt).length+([41]:Bs).length≤maxLen∧K ((([58,110,116,104,45,108,97,115,116,45,99,104,105,108,100,40]:Bs)++nthT xt)++([41]:Bs)))∧((xt.lab.1==9)=false→((xt.lab.1==10)=true→Jb N xt.kids∧([58,110,111,116,40]:Bs).length+(tx3 xt.kids).length≤maxLen∧(([58,110,111,116,40]:Bs)++tx3 xt.kids).length+([41]:Bs).length≤maxLen∧K ((([58,110,111,116,40]:Bs)++tx3 xt.kids)++([41]:Bs)))∧((xt.lab.1==10)=false→Jb N xt.kids∧([58,105,115,40]:Bs).length+(tx3 xt.kids).length≤maxLen∧(([58,105,115,40]:Bs)++tx3 xt.kids).length+([41]:Bs).length≤maxLen∧K ((([58,105,115,40]:Bs)++tx3 xt.kids)++([41]:Bs))))))))))))
theorem Zy {g:ak} (N:Nat) (SN:Q6 N) (L9:Q4 N) {g0:Option Addr} {m0:Nat} (xt:TS) (a0:bG g (.slice yP) [.slice g0 xt.kids.length m0] xt.kids) (hG3:ma g 3 (.int .u64) yR) (K:Bs→Prop)
  (hF:afA N xt K):az prog 49 #[.agg (aL xt.lab g0 xt.kids.length m0)] g [] (fun g' H' v=>∃ (r0:Bs),v=sv r0∧H'=[]∧K r0):=by
 refine aP 73 func49 rfl fun w0=>?_
 refine ae (ai (di fun jg=>?_))
 refine av 1 [(1,pv jg 0)] kr (aa (aH (ae (ag 1 [1] [(3,pv jg 0)] ?_))))
 refine ai (af.s (v:=iv xt.lab.1) (aR 0 rfl rfl underlying3 rfl kr) rfl rfl (aa (Ok.block (ae (ag 2 [1] [(4,iv xt.lab.1),(5,.bool (xt.lab.1==1))] ?_)))))
 refine aa (aM hF (fun hc2 hF=>?_) (fun hc2 hF=>?_))
 ·refine ae (av 1 [(2,sv ([42]:Bs))] kr (aa (Ok.ret (aU (aC ?_)))))
  exact jr (sv ([42]:Bs)) ⟨([42]:Bs),rfl,rfl,hF⟩
 refine ae (ag 2 [1,4] [(7,.bool (xt.lab.1==2))] ?_)
 refine aa (aM hF (fun hc3 hF=>?_) (fun hc3 hF=>?_))
 ·refine ae (aj 3 [.e 0] [] [(2,sv xt.lab.2.1)] ?_)
  refine aa (Ok.ret (aU (aC ?_)))
  exact jr (sv xt.lab.2.1) ⟨xt.lab.2.1,rfl,rfl,hF⟩
 refine ae (ag 2 [1,4] [(11,.bool (xt.lab.1==3))] ?_)
 refine aa (aM hF (fun hc4 hF=>?_) (fun hc4 hF=>?_))
 ·refine ae (av 1 [(13,pv jg 1)] kr (ai (af.s (v:=sv xt.lab.2.1) (aR 0 rfl rfl underlying9 rfl kr) rfl rfl ?_)))
  obtain ⟨hv,hF⟩:=hF
  refine ai (af.s (v:=sv (([35]:Bs)++xt.lab.2.1)) (dx rfl rfl hv) rfl rfl (av 1 [(2,sv (([35]:Bs)++xt.lab.2.1))] kr (aa (Ok.ret (aU (aC ?_))))))
  exact jr (sv (([35]:Bs)++xt.lab.2.1)) ⟨(([35]:Bs)++xt.lab.2.1),rfl,rfl,hF⟩
 refine ae (ag 2 [1,4] [(16,.bool (xt.lab.1==4))] ?_)
 refine aa (aM hF (fun j4 hF=>?_) (fun j4 hF=>?_))
 ·refine ae (av 1 [(18,pv jg 1)] kr (ai (af.s (v:=sv xt.lab.2.1) (aR 0 rfl rfl underlying9 rfl kr) rfl rfl ?_)))
  obtain ⟨hv,hF⟩:=hF
  refine ai (af.s (v:=sv (([46]:Bs)++xt.lab.2.1)) (dx rfl rfl hv) rfl rfl (av 1 [(2,sv (([46]:Bs)++xt.lab.2.1))] kr (aa (Ok.ret (aU (aC ?_))))))
  exact jr (sv (([46]:Bs)++xt.lab.2.1)) ⟨(([46]:Bs)++xt.lab.2.1),rfl,rfl,hF⟩
 refine ae (ag 2 [1,4] [(21,.bool (xt.lab.1==5))] ?_)
 refine aa (aM hF (fun hc6 hF=>?_) (fun hc6 hF=>?_))
 ·refine aH (ae (aj 3 [.e 0] [1] [(25,.bool (xt.lab.2.2.1==0))] ?_))
  refine aa (aM hF (fun iC hF=>?_) (fun iC hF=>?_))
  ·refine ae (av 1 [(26,pv jg 1)] kr (ai (af.s (v:=sv xt.lab.2.1) (aR 0 rfl rfl underlying9 rfl kr) rfl rfl ?_)))
   obtain ⟨hv,hF⟩:=hF
   refine ai (af.s (v:=sv (([91]:Bs)++xt.lab.2.1)) (dx rfl rfl hv) rfl rfl ?_)
   obtain ⟨hv,hF⟩:=hF
   refine ai (af.s (v:=sv ((([91]:Bs)++xt.lab.2.1)++([93]:Bs))) (dx rfl rfl hv) rfl rfl (av 1 [(2,sv ((([91]:Bs)++xt.lab.2.1)++([93]:Bs)))] kr (aa (Ok.ret (aC (aU (aC ?_)))))))
   exact jr (sv ((([91]:Bs)++xt.lab.2.1)++([93]:Bs))) ⟨((([91]:Bs)++xt.lab.2.1)++([93]:Bs)),rfl,rfl,hF⟩
  refine Ok.k (Ok.t (aH (wz [] [] [1] [(0,true),(1,true),(2,true),(3,true),(4,true),(10,true),(11,true),(5,false),(6,false),(7,false),(8,true),(9,true),(12,true),(13,true),(14,true),(15,true)] ?_)))
  refine iI 1 [1] [(30,pv jg 1)] ?_
  refine eF.hd (fM.s (v:=sv xt.lab.2.1) (aR 0 rfl rfl underlying9 rfl kr) rfl rfl ?_)
  obtain ⟨hv,hF⟩:=hF
  refine eF.hd (fM.s (v:=sv (([91]:Bs)++xt.lab.2.1)) (dx rfl rfl hv) rfl rfl ?_)
  refine iI 1 [1] [(32,sv (([91]:Bs)++xt.lab.2.1)),(33,pv jg 2)] ?_
  refine eF.hd (fM.s (v:=.int .u8 xt.lab.2.2.1) (aR 0 rfl rfl underlying5 rfl kr) rfl rfl ?_)
  refine iI 1 [32] [(34,.int .u8 xt.lab.2.2.1),(40,pv jg 3)] ?_
  refine eF.hd (fM.s (v:=sv xt.lab.2.2.2.1) (aR 0 rfl rfl underlying9 rfl kr) rfl rfl ?_)
  have YV:aW g yb ([.int .u8 xt.lab.2.2.1]:List Value) ([xt.lab.2.2.1]:List Int):=(dB (c:=[.int .u8 xt.lab.2.2.1]) rfl rfl)
  refine eF.t rfl rfl (gG YV fun b8=>?_)
  refine g_ (lC.refl _) (eF.t rfl rfl (af.s (v:=sv (bytesOf ([xt.lab.2.2.1]:List Int))) (jX 0 kr rfl rfl YV underlying26 underlying9 underlying5) rfl rfl (g_ (lC.refl _) (eF.t rfl rfl (bM (args:=#[sv (bytesOf ([xt.lab.2.2.1]:List Int)),sv ([61]:Bs)]) 8 [(0,sv (bytesOf ([xt.lab.2.2.1]:List Int))),(1,sv ([61]:Bs))] gT func81 rfl rfl rfl rfl (ae (av 1 [(0,sv (bytesOf ([xt.lab.2.2.1]:List Int))),(1,sv ([61]:Bs))] kr (aa (ae (av 2 [(5,sv (bytesOf ([xt.lab.2.2.1]:List Int))),(6,sv ([61]:Bs))] kr (ai (af.cut (fun a W=>∃ o1:ak,aY w0 g o1∧fJ 8 [(7,sv (sttV1 xt))] a∧dh w0 [.blk jg (.cells (aL xt.lab g0 xt.kids.length m0) 60)] o1 W∧tL xt K) ?_ ?_))))))))))))
  ·
   refine bM (args:=#[sv (bytesOf ([xt.lab.2.2.1]:List Int)),sv ([61]:Bs)]) 16 [(0,sv (bytesOf ([xt.lab.2.2.1]:List Int))),(1,sv ([61]:Bs))] gT func124 rfl rfl rfl rfl (ae (av 1 [(0,sv (bytesOf ([xt.lab.2.2.1]:List Int))),(1,sv ([61]:Bs))] kr (aa (aH (ae (ag 2 [0,1] [(5,sv (bytesOf ([xt.lab.2.2.1]:List Int))),(6,sv ([61]:Bs))] ?_))))))
   refine ai (bM (args:=#[sv (bytesOf ([xt.lab.2.2.1]:List Int)),sv ([61]:Bs)]) 21 [(0,sv (bytesOf ([xt.lab.2.2.1]:List Int))),(1,sv ([61]:Bs))] gT func172 rfl rfl rfl rfl (ae (ag 1 [0,1] [] ?_)))
   refine aa (iO g [(4,.bool (vP xt))] [.blk jg (.cells (aL xt.lab g0 xt.kids.length m0) 60)] (ow xt K) ?_ (fun O0 J0 hF=>?_))
   ·
    refine aS (ag 6 [0,1] [(10,.bool (decide (((bytesOf ([xt.lab.2.2.1]:List Int)).length:Int)≥(([61]:Bs).length:Int))))] ?_)
    refine bN 10 hF (fun r1 hF=>?_) (fun r1 hF=>?_)
    ·refine ag 6 [1] [(10,.bool true),(11,sv (bytesOf ([xt.lab.2.2.1]:List Int))),(16,iv (w6 (((bytesOf ([xt.lab.2.2.1]:List Int)).length:Int) - (([61]:Bs).length:Int))))] ?_
     obtain ⟨ML,Ic,apl,hF⟩:=hF
     refine dW (af.s (bZ (s:=bytesOf ([xt.lab.2.2.1]:List Int)) (l:=(w6 (((bytesOf ([xt.lab.2.2.1]:List Int)).length:Int) - (([61]:Bs).length:Int)))) (h:=((bytesOf ([xt.lab.2.2.1]:List Int)).length:Int)) kr underlying9 (.inl ⟨_,_,rfl,rfl⟩) (.inr ⟨rfl,rfl⟩) ML Ic apl ((bytesOf ([xt.lab.2.2.1]:List Int)).drop (Int.toNat (w6 (((bytesOf ([xt.lab.2.2.1]:List Int)).length:Int) - (([61]:Bs).length:Int))))) (by rw [show ((bytesOf ([xt.lab.2.2.1]:List Int)).length:Int).toNat=(bytesOf ([xt.lab.2.2.1]:List Int)).length from eB _,iV])) rfl rfl (aj 4 [] [] [(4,.bool (((bytesOf ([xt.lab.2.2.1]:List Int)).drop (Int.toNat (w6 (((bytesOf ([xt.lab.2.2.1]:List Int)).length:Int) - (([61]:Bs).length:Int)))))==([61]:Bs)))] ?_))
     refine aa (aB 4 (vP xt) (aZ r1) ?_)
     exact fg hF
    refine av 11 [(4,.bool false)] kr (aa (aB 4 (vP xt) (bW r1) ?_))
    exact fg hF
   replace a0:=a0.mono J0.1
   replace hG3:=hG3.mono J0.1
   refine Ok.ret (bu (vs:=[.bool (vP xt)]) (.inl rfl) rfl (.cons (.tmp rfl) .nil) rfl (aa (aM hF (fun X1 hF=>?_) (fun X1 hF=>?_))))
   ·refine ae (av 6 [(8,sv (bytesOf ([xt.lab.2.2.1]:List Int))),(13,iv (w6 (((bytesOf ([xt.lab.2.2.1]:List Int)).length:Int) - (([61]:Bs).length:Int))))] kr ?_)
    obtain ⟨S1,B1,acW,hF⟩:=hF
    refine ai (af.s (bZ (s:=bytesOf ([xt.lab.2.2.1]:List Int)) (l:=0) (h:=(w6 (((bytesOf ([xt.lab.2.2.1]:List Int)).length:Int) - (([61]:Bs).length:Int)))) kr underlying9 (.inr ⟨rfl,rfl⟩) (.inl ⟨_,_,rfl,rfl⟩) S1 B1 acW ((bytesOf ([xt.lab.2.2.1]:List Int)).take (Int.toNat (w6 (((bytesOf ([xt.lab.2.2.1]:List Int)).length:Int) - (([61]:Bs).length:Int))))) (by simp)) rfl rfl (av 1 [(4,sv ((bytesOf ([xt.lab.2.2.1]:List Int)).take (Int.toNat (w6 (((bytesOf ([xt.lab.2.2.1]:List Int)).length:Int) - (([61]:Bs).length:Int))))))] kr (aa (Ok.ret (aC (bu (vs:=[sv ((bytesOf ([xt.lab.2.2.1]:List Int)).take (Int.toNat (w6 (((bytesOf ([xt.lab.2.2.1]:List Int)).length:Int) - (([61]:Bs).length:Int)))))]) (.inl rfl) rfl (.cons (.tmp rfl) .nil) rfl (gW 7 rfl (show (sv ((bytesOf ([xt.lab.2.2.1]:List Int)).take (Int.toNat (w6 (((bytesOf ([xt.lab.2.2.1]:List Int)).length:Int) - (([61]:Bs).length:Int))))):Value)=sv (sttV1 xt) from ay (fun s:Bs=>Value.string ⟨⟨s⟩⟩) ((aT X1).symm)) ?_)))))))
    exact fun _ _ u v=>⟨O0,J0,fA u v hF⟩
   refine Ok.k (Ok.t (ae (av 2 [(4,sv (bytesOf ([xt.lab.2.2.1]:List Int)))] kr (aa (Ok.ret (bu (vs:=[sv (bytesOf ([xt.lab.2.2.1]:List Int))]) (.inl rfl) rfl (.cons (.tmp rfl) .nil) rfl (gW 7 rfl (show (sv (bytesOf ([xt.lab.2.2.1]:List Int)):Value)=sv (sttV1 xt) from ay (fun s:Bs=>Value.string ⟨⟨s⟩⟩) ((aF X1).symm)) ?_)))))))
   exact fun _ _ u v=>⟨O0,J0,fA u v hF⟩
  clear hF
  rintro _ _ ⟨o1,N0,q⟩
  refine jn (fun hF=>?_) _ _ q
  replace a0:=a0.mono N0.1
  replace hG3:=hG3.mono N0.1
  refine av 1 [(4,sv (sttV1 xt))] kr (aa (Ok.ret (bu (vs:=[sv (sttV1 xt)]) (.inl rfl) rfl (.cons (.tmp rfl) .nil) rfl (g_ N0.1 ?_))))
  obtain ⟨hv,hF⟩:=hF
  refine eF.hd (fM.s (v:=sv ((([91]:Bs)++xt.lab.2.1)++sttV1 xt)) (dx rfl rfl hv) rfl rfl ?_)
  obtain ⟨hv,hF⟩:=hF
  refine eF.hd (fM.s (v:=sv (((([91]:Bs)++xt.lab.2.1)++sttV1 xt)++([61,34]:Bs))) (dx rfl rfl hv) rfl rfl ?_)
  obtain ⟨Tn,hF⟩:=hF
  refine eF.hd (fM.f gT (fun W hW=>agt xt.lab.2.2.2.1 Tn) rfl ?_)
  obtain ⟨hv,hF⟩:=hF
  refine eF.hd (fM.s (v:=sv ((((([91]:Bs)++xt.lab.2.1)++sttV1 xt)++([61,34]:Bs))++quoteS xt.lab.2.2.2.1)) (dx rfl rfl hv) rfl rfl ?_)
  obtain ⟨hv,hF⟩:=hF
  refine eF.hd (fM.s (v:=sv (((((([91]:Bs)++xt.lab.2.1)++sttV1 xt)++([61,34]:Bs))++quoteS xt.lab.2.2.2.1)++([34,93]:Bs))) (dx rfl rfl hv) rfl rfl ?_)
  refine Pf 1 [(2,sv (((((([91]:Bs)++xt.lab.2.1)++sttV1 xt)++([61,34]:Bs))++quoteS xt.lab.2.2.2.1)++([34,93]:Bs)))] kr (eF.nil (Ok.t (Ok.ret (aU (aC ?_)))))
  exact jd (sv (((((([91]:Bs)++xt.lab.2.1)++sttV1 xt)++([61,34]:Bs))++quoteS xt.lab.2.2.2.1)++([34,93]:Bs))) N0 ⟨(((((([91]:Bs)++xt.lab.2.1)++sttV1 xt)++([61,34]:Bs))++quoteS xt.lab.2.2.2.1)++([34,93]:Bs)),rfl,rfl,hF⟩
 refine ae (ag 2 [1,4] [(45,.bool (xt.lab.1==6))] ?_)
 refine aa (aM hF (fun Mr hF=>?_) (fun Mr hF=>?_))
 ·refine ae (av 1 [(2,sv ([58,114,111,111,116]:Bs))] kr (aa (Ok.ret (aU (aC ?_)))))
  exact jr (sv ([58,114,111,111,116]:Bs)) ⟨([58,114,111,111,116]:Bs),rfl,rfl,hF⟩
 refine ae (ag 2 [1,4] [(47,.bool (xt.lab.1==7))] ?_)
 refine aa (aM hF (fun HV hF=>?_) (fun HV hF=>?_))
 ·refine ae (av 1 [(2,sv ([58,101,109,112,116,121]:Bs))] kr (aa (Ok.ret (aU (aC ?_)))))
  exact jr (sv ([58,101,109,112,116,121]:Bs)) ⟨([58,101,109,112,116,121]:Bs),rfl,rfl,hF⟩
 refine ae (ag 2 [1,4] [(49,.bool (xt.lab.1==8))] ?_)
 refine aa (aM hF (fun hc16 hF=>?_) (fun hc16 hF=>?_))
 ·refine ae (ai (af.s (v:=.agg (aL xt.lab g0 xt.kids.length m0)) (a_ 0 7 (aL xt.lab g0 xt.kids.length m0) rfl rfl underlying60 rfl kr kr kr) rfl rfl ?_))
  obtain ⟨C1,hF⟩:=hF
  refine ai (af.f gT (fun W hW=>YF xt (a0.mono hW.sees) (hG3.mono hW.sees) C1) rfl ?_)
  obtain ⟨hv,hF⟩:=hF
  refine ai (af.s (v:=sv (([58,110,116,104,45,99,104,105,108,100,40]:Bs)++nthT xt)) (dx rfl rfl hv) rfl rfl ?_)
  obtain ⟨hv,hF⟩:=hF
  refine ai (af.s (v:=sv ((([58,110,116,104,45,99,104,105,108,100,40]:Bs)++nthT xt)++([41]:Bs))) (dx rfl rfl hv) rfl rfl (av 1 [(2,sv ((([58,110,116,104,45,99,104,105,108,100,40]:Bs)++nthT xt)++([41]:Bs)))] kr (aa (Ok.ret (aU (aC ?_))))))
  exact jr (sv ((([58,110,116,104,45,99,104,105,108,100,40]:Bs)++nthT xt)++([41]:Bs))) ⟨((([58,110,116,104,45,99,104,105,108,100,40]:Bs)++nthT xt)++([41]:Bs)),rfl,rfl,hF⟩
 refine ae (ag 2 [1,4] [(55,.bool (xt.lab.1==9))] ?_)
 refine aa (aM hF (fun hc18 hF=>?_) (fun hc18 hF=>?_))
 ·refine ae (ai (af.s (v:=.agg (aL xt.lab g0 xt.kids.length m0)) (a_ 0 7 (aL xt.lab g0 xt.kids.length m0) rfl rfl underlying60 rfl kr kr kr) rfl rfl ?_))
  obtain ⟨Tv,hF⟩:=hF
  refine ai (af.f gT (fun W hW=>YF xt (a0.mono hW.sees) (hG3.mono hW.sees) Tv) rfl ?_)
  obtain ⟨hv,hF⟩:=hF
  refine ai (af.s (v:=sv (([58,110,116,104,45,108,97,115,116,45,99,104,105,108,100,40]:Bs)++nthT xt)) (dx rfl rfl hv) rfl rfl ?_)
  obtain ⟨hv,hF⟩:=hF
  refine ai (af.s (v:=sv ((([58,110,116,104,45,108,97,115,116,45,99,104,105,108,100,40]:Bs)++nthT xt)++([41]:Bs))) (dx rfl rfl hv) rfl rfl (av 1 [(2,sv ((([58,110,116,104,45,108,97,115,116,45,99,104,105,108,100,40]:Bs)++nthT xt)++([41]:Bs)))] kr (aa (Ok.ret (aU (aC ?_))))))
  exact jr (sv ((([58,110,116,104,45,108,97,115,116,45,99,104,105,108,100,40]:Bs)++nthT xt)++([41]:Bs))) ⟨((([58,110,116,104,45,108,97,115,116,45,99,104,105,108,100,40]:Bs)++nthT xt)++([41]:Bs)),rfl,rfl,hF⟩
 refine ae (ag 2 [1] [(61,.bool (xt.lab.1==10))] ?_)
 refine aa (aM hF (fun Mq hF=>?_) (fun Mq hF=>?_))
 ·refine ae (av 1 [(63,pv jg 6)] kr (ai (af.s (v:=.slice g0 xt.kids.length m0) (aR 0 rfl rfl underlying33 rfl kr) rfl rfl ?_)))
  obtain ⟨Tu,hF⟩:=hF
  refine ai (af.f gT (fun W hW=>L9 _ xt.kids (a0.mono hW.sees) (hG3.mono hW.sees) Tu) rfl ?_)
  obtain ⟨hv,hF⟩:=hF
  refine ai (af.s (v:=sv (([58,110,111,116,40]:Bs)++tx3 xt.kids)) (dx rfl rfl hv) rfl rfl ?_)
  obtain ⟨hv,hF⟩:=hF
  refine ai (af.s (v:=sv ((([58,110,111,116,40]:Bs)++tx3 xt.kids)++([41]:Bs))) (dx rfl rfl hv) rfl rfl (av 1 [(2,sv ((([58,110,111,116,40]:Bs)++tx3 xt.kids)++([41]:Bs)))] kr (aa (Ok.ret (aU (aC ?_))))))
  exact jr (sv ((([58,110,111,116,40]:Bs)++tx3 xt.kids)++([41]:Bs))) ⟨((([58,110,111,116,40]:Bs)++tx3 xt.kids)++([41]:Bs)),rfl,rfl,hF⟩
 refine Ok.k (bJ (Ok.t (ae (av 1 [(68,pv jg 6)] kr (ai (af.s (v:=.slice g0 xt.kids.length m0) (aR 0 rfl rfl underlying33 rfl kr) rfl rfl ?_))))))
 obtain ⟨abz,hF⟩:=hF
 refine ai (af.f gT (fun W hW=>L9 _ xt.kids (a0.mono hW.sees) (hG3.mono hW.sees) abz) rfl ?_)
 obtain ⟨hv,hF⟩:=hF
 refine ai (af.s (v:=sv (([58,105,115,40]:Bs)++tx3 xt.kids)) (dx rfl rfl hv) rfl rfl ?_)
 obtain ⟨hv,hF⟩:=hF
 refine ai (af.s (v:=sv ((([58,105,115,40]:Bs)++tx3 xt.kids)++([41]:Bs))) (dx rfl rfl hv) rfl rfl (av 1 [(2,sv ((([58,105,115,40]:Bs)++tx3 xt.kids)++([41]:Bs)))] kr (aa (Ok.ret ?_))))
 exact jr (sv ((([58,105,115,40]:Bs)++tx3 xt.kids)++([41]:Bs))) ⟨((([58,105,115,40]:Bs)++tx3 xt.kids)++([41]:Bs)),rfl,rfl,hF⟩
def nG (e4:PH) (q0:Int) (z0:List Int):List Int :=
 (if (decide (q0>0))=true then (if ((e4.2.getD (Int.toNat (w6 (q0 - 1))) default) != 32)=true then (Yj (jL.sO z0 32).2 ([(e4.2.getD (Int.toNat (w6 (q0 - 1))) default),32]:List Int)).2.2 else (jL.sO z0 32).2) else z0)
def Vp (N:Nat) (e11:List TS) (q0:Int) (Vf:Int→List Int→Prop) (f0:Int) (u0:List Int) (C54:Int→List Int→Prop):Prop :=
 ((decide (f0<(e11.length:Int)))=true→0≤f0∧f0.toNat<e11.length∧Jc N (e11.getD f0.toNat default)∧jL.wsP u0 (IP (e11.getD f0.toNat default))∧C54 (w6 (f0+1)) (jL.Vg u0 (IP (e11.getD f0.toNat default))).2.2)∧((decide (f0<(e11.length:Int)))=false→Vf (w6 (q0+1)) u0)
def Ca (N:Nat) (e11:List TS) (q0:Int) (Vf:Int→List Int→Prop):Nat→Int→List Int→Prop
 | 0,_,_=>False
 | k+1,f0,u0=>Vp N e11 q0 Vf f0 u0 (Ca N e11 q0 Vf k)
def Cb (N:Nat) (e4:PH) (e11:List TS) (q0:Int) (z0:List Int) (Vf:Int→List Int→Prop):Prop :=
 ∃ k,Ca N e11 q0 Vf k 0 (nG e4 q0 z0)
def Vq (N:Nat) (e4:PH) (b0:Int) (v0:List Bs) (C9:Int→List Bs→Prop) (q0:Int) (z0:List Int) (Vf:Int→List Int→Prop):Prop :=
 ((decide (q0<(e4.1.length:Int)))=true→0≤q0∧q0.toNat<e4.1.length∧(decide (q0>0)=true→jL.U8 z0 32∧0≤w6 (q0 - 1)∧Int.toNat (w6 (q0 - 1))<e4.2.length∧(((e4.2.getD (Int.toNat (w6 (q0 - 1))) default) != 32)=true→wrP (jL.sO z0 32).2 ([(e4.2.getD (Int.toNat (w6 (q0 - 1))) default),32]:List Int)∧Cb N e4 (e4.1.getD q0.toNat default) q0 z0 Vf)∧(((e4.2.getD (Int.toNat (w6 (q0 - 1))) default) != 32)=false→Cb N e4 (e4.1.getD q0.toNat default) q0 z0 Vf))∧(decide (q0>0)=false→Cb N e4 (e4.1.getD q0.toNat default) q0 z0 Vf))∧((decide (q0<(e4.1.length:Int)))=false→jL.stP z0∧(v0++([bytesOf z0]:List Bs)).length≤8796093022208∧C9 (w6 (b0+1)) (v0++([bytesOf z0]:List Bs)))
def wD (N:Nat) (e4:PH) (b0:Int) (v0:List Bs) (C9:Int→List Bs→Prop):Nat→Int→List Int→Prop
 | 0,_,_=>False
 | k+1,q0,z0=>Vq N e4 b0 v0 C9 q0 z0 (wD N e4 b0 v0 C9 k)
def Zu (N:Nat) (xl:List PH) (K:Bs→Prop) (b0:Int) (v0:List Bs) (C9:Int→List Bs→Prop):Prop :=
 ((decide (b0<(xl.length:Int)))=true→0≤b0∧b0.toNat<xl.length∧∃ k,wD N (xl.getD b0.toNat default) b0 v0 C9 k 0 ([]:List Int))∧((decide (b0<(xl.length:Int)))=false→YL v0 ([44,32]:Bs)∧K (Ke v0 ([44,32]:Bs)))
def B_ (N:Nat) (xl:List PH) (K:Bs→Prop):Nat→Int→List Bs→Prop
 | 0,_,_=>False
 | k+1,b0,v0=>Zu N xl K b0 v0 (B_ N xl K k)
def afv (N:Nat) (xl:List PH) (K:Bs→Prop):Prop :=
 ∃ k,B_ N xl K k 0 ([]:List Bs)
theorem Zv {g:ak} (N:Nat) (SN:Q6 N) (L9:Q4 N) {i0:Option Addr} {Z0:Nat} (xl:List PH) (s0:bG g (.slice yP) [.slice i0 xl.length Z0] xl) (hG3:ma g 3 (.int .u64) yR) (K:Bs→Prop)
  (hF:afv N xl K):az prog 26 #[.slice i0 xl.length Z0] g [] (fun g' H' v=>∃ (r0:Bs),v=sv r0∧H'=[]∧K r0):=by
 refine aP 58 func26 rfl fun w0=>?_
 refine ae (av 1 [(0,.slice i0 xl.length Z0)] kr (aa (ae (ag 1 [0] [(3,.slice none 0 0)] ?_))))
 have hL1:aW g (.str) [] []:=rfl
 refine fO 9 1 (aa (aH (ae (av 3 [(3,.slice none ([]:List Bs).length 0),(12,.slice i0 xl.length Z0),(13,iv (xl.length:Int)),(14,iv 0)] kr (aa (Ok.block ?_))))))
 obtain ⟨k,hF⟩:=hF
 refine gF (fun k a W=>∃ kC:ak,aY w0 g kC∧∃ (b0:Int) (j0:Option Addr) (x0:Nat) (v0:List Bs) (d0:List Value),aW kC (.str) d0 v0∧fJ 58 [(3,.slice j0 v0.length x0),(12,.slice i0 xl.length Z0),(13,iv (xl.length:Int)),(14,iv b0)] a∧dh w0 [.own (.slice j0 v0.length x0) 9 1 v0.length d0] kC W∧B_ N xl K k b0 v0) k ?_ ?_
 ·
  exact fun _ _ u v=>⟨g,bq w0 g,0,none,0,([]:List Bs),[],hL1,fA u v hF⟩
 clear hF
 rintro (_ | k9) _ _ ⟨kC,W1,b0,j0,x0,v0,d0,y0,q⟩
 exact (q.2.2:False).elim
 refine jn (fun hF=>?_) _ _ q
 replace s0:=s0.mono W1.1
 replace hG3:=hG3.mono W1.1
 refine ae (ag 1 [3,12,13,14] [(15,.bool (decide (b0<(xl.length:Int))))] ?_)
 refine aa (aH (aM hF (fun hc2 hF=>?_) (fun hc2 hF=>?_)))
 ·refine Ok.k (Ok.t (aH (Ok.block (aH (aS ?_)))))
  obtain ⟨qA,ru,hF⟩:=hF
  have pR:=aV (l:=xl) default ru
  generalize hg4:(xl.getD b0.toNat default)=e4 at pR hF ⊢
  refine ai (af.bf (e:=yP) rfl rfl underlying33 kr s0 qA pR rfl fun q3 o3 XQ _ D1 hr3=>?_)
  obtain ⟨_,_,rfl,⟨D0,E0,rfl,TB,Ta⟩,⟨H0,M0,rfl,TA,S_⟩⟩:=hr3
  have Q0:bG kC (.slice (.slice yS)) [.slice D0 e4.1.length E0] e4.1:=⟨D0,E0,rfl,TB,Ta⟩
  have K0:bG kC (.slice yb) [.slice H0 e4.2.length M0] e4.2:=⟨H0,M0,rfl,TA,S_⟩
  replace D1:At kC q3 o3 [.slice D0 e4.1.length E0,.slice H0 e4.2.length M0]:=D1
  refine ai (af.s (v:=.agg #[.slice D0 e4.1.length E0,.slice H0 e4.2.length M0]) (bU 0 2 #[.slice D0 e4.1.length E0,.slice H0 e4.2.length M0] D1 kr underlying28 rfl kr kr kr) rfl rfl ?_)
  have hL5:aW kC yb [] []:=rfl
  refine fO 5 1 (ai (bK #[.slice none 0 0,.slice none ([]:List Int).length 0] fun iD=>?_))
  refine ai (af.w 0 ?_)
  refine aa (aH (aS ?_))
  have hL7:aW kC yb [] []:=rfl
  refine fO 5 1 (ai (bK #[.pointer none,.slice none 0 0] fun b8=>?_))
  refine Ok.qH (aa (aH (ae (aj 4 [.e 2] [] [(3,.slice j0 v0.length x0),(5,pv iD 0),(6,pv b8 0),(12,.slice i0 xl.length Z0),(13,iv (xl.length:Int)),(14,iv b0),(19,.slice D0 e4.1.length E0),(20,iv (e4.1.length:Int)),(21,iv 0)] ?_))))
  refine aa (Ok.block ?_)
  obtain ⟨k,hF⟩:=hF
  refine gF (fun k a W=>∃ u1:ak,aY w0 kC u1∧∃ (q0:Int) (n0:Option Addr) (o0:Nat) (z0:List Int) (t0:List Value),aW u1 yb t0 z0∧fJ 58 [(3,.slice j0 v0.length x0),(5,pv iD 0),(6,pv b8 0),(12,.slice i0 xl.length Z0),(13,iv (xl.length:Int)),(14,iv b0),(19,.slice D0 e4.1.length E0),(20,iv (e4.1.length:Int)),(21,iv q0)] a∧dh w0 [.qH b8 87 (.slice n0 z0.length o0),.own (.slice n0 z0.length o0) 5 1 z0.length t0,.blk iD (.cells #[.slice D0 e4.1.length E0,.slice H0 e4.2.length M0] 28),.own (.slice j0 v0.length x0) 9 1 v0.length d0] u1 W∧wD N e4 b0 v0 (B_ N xl K k9) k q0 z0) k ?_ ?_
  ·
   exact fun _ _ u v=>⟨kC,bq w0 kC,0,none,0,([]:List Int),[],hL7,fA u v hF⟩
  clear hF
  rintro (_ | k26) _ _ ⟨u1,P0,q0,n0,o0,z0,t0,C0,q⟩
  exact (q.2.2:False).elim
  refine jn (fun hF=>?_) _ _ q
  replace y0:=y0.mono P0.1
  replace Q0:=Q0.mono P0.1
  replace K0:=K0.mono P0.1
  replace hG3:=hG3.mono P0.1
  refine ae (ag 1 [3,5,6,12,13,14,19,20,21] [(22,.bool (decide (q0<(e4.1.length:Int))))] ?_)
  refine aa (aH (ed hF rfl (fun mW=>?_) (fun mW=>?_)))
  ·replace hF:=hF.1 mW
   refine Ok.k (Ok.t (aH (Ok.block (ae (ag 1 [3,5,6,12,13,14,19,20,21] [(23,iv q0)] ?_)))))
   obtain ⟨S1,B1,hF⟩:=hF
   have E1:=aV (l:=e4.1) default B1
   generalize Hy:(e4.1.getD q0.toNat default)=e11 at E1 hF ⊢
   refine ai (af.bf (e:=.slice yS) rfl rfl underlying25 kr Q0 S1 E1 rfl fun q10 o10 Qj _ TI Hu=>?_)
   obtain ⟨V1,Q1,rfl,V0⟩:=oS Hu
   refine aj 3 [.a 0 TI] [3,5,6,12,13,14,19,20,21] [(7,iv q0),(8,.slice V1 e11.length Q1)] ?_
   refine aa (Ok.cut (fun a W=>∃ t1:ak,aY w0 u1 t1∧∃ (W0:Option Addr) (X0:Nat) (Y0:List Value),aW t1 yb Y0 (nG e4 q0 z0)∧fJ 58 [(3,.slice j0 v0.length x0),(5,pv iD 0),(6,pv b8 0),(8,.slice V1 e11.length Q1),(12,.slice i0 xl.length Z0),(13,iv (xl.length:Int)),(14,iv b0),(19,.slice D0 e4.1.length E0),(20,iv (e4.1.length:Int)),(21,iv q0)] a∧dh w0 [.qH b8 87 (.slice W0 (nG e4 q0 z0).length X0),.own (.slice W0 (nG e4 q0 z0).length X0) 5 1 (nG e4 q0 z0).length Y0,.blk iD (.cells #[.slice D0 e4.1.length E0,.slice H0 e4.2.length M0] 28),.own (.slice j0 v0.length x0) 9 1 v0.length d0] t1 W∧Cb N e4 e11 q0 z0 (wD N e4 b0 v0 (B_ N xl K k9) k26)) ?_ ?_)
   ·
    refine ae (ag 2 [3,5,6,7,8,12,13,14,19,20,21] [(27,.bool (decide (q0>0)))] ?_)
    refine aa (aM hF (fun A0 hF=>?_) (fun A0 hF=>?_))
    ·refine aH (aS ?_)
     obtain ⟨abA,hF⟩:=hF
     refine ai (bQ (jL.QM z0 32 C0 abA) fun g21 _ _ j1 aod=>?_)
     obtain ⟨x1,b1,I0,rfl,z1,rfl⟩:=aod
     replace y0:=y0.mono j1.1
     replace V0:=V0.mono j1.1
     replace K0:=K0.mono j1.1
     replace hG3:=hG3.mono j1.1
     refine aa (ae (aj 4 [.e 2] [3,5,6,8,12,13,14,19,20,21] [(30,.slice H0 e4.2.length M0),(32,iv (w6 (q0 - 1)))] ?_))
     obtain ⟨MI,Ib,hF⟩:=hF
     have F1:=aV (l:=e4.2) default Ib
     generalize G1:(e4.2.getD (Int.toNat (w6 (q0 - 1))) default)=e23 at F1 hF ⊢
     refine ai (af.bf (e:=.int .u8) rfl rfl underlying26 kr K0 MI F1 rfl fun q22 o22 ajz _ Y1 Tf=>?_)
     obtain rfl:=Tf
     replace Y1:At g21 q22 o22 [.int .u8 e23]:=Y1
     refine aj 2 [.a 0 Y1] [3,5,6,8,12,13,14,19,20,21] [(9,.int .u8 e23)] ?_
     refine aa (ae (ag 2 [3,5,6,8,9,12,13,14,19,20,21] [(36,.bool (e23 != 32))] ?_))
     refine aa (ed hF rfl (fun v1=>?_) (fun v1=>?_))
     ·replace hF:=hF.1 v1
      refine aS (ag 1 [3,5,6,8,12,13,14,19,20,21] [(37,.int .u8 e23)] ?_)
      have H1:aW g21 yb ([.int .u8 e23,.int .u8 32]:List Value) ([e23,32]:List Int):=(dB (c:=[.int .u8 e23]) rfl (dB (c:=[.int .u8 32]) rfl rfl))
      refine ai (gG H1 fun b25=>?_)
      refine sM 0 rfl H1 fun g26 d1 U1=>?_
      replace y0:=y0.mono d1.1
      replace V0:=V0.mono d1.1
      replace z1:=z1.mono d1.1
      replace hG3:=hG3.mono d1.1
      obtain ⟨amQ,hF⟩:=hF
      refine ai (bQ (alG (jL.sO z0 32).2 ([e23,32]:List Int) z1 U1 amQ) fun g28 _ _ f1 aob=>?_)
      obtain ⟨g1,m1,y1,rfl,acI,rfl⟩:=aob
      replace y0:=y0.mono f1.1
      replace V0:=V0.mono f1.1
      replace hG3:=hG3.mono f1.1
      refine bY (Ok.t ?_)
      subst G1
      refine nA (H':=[.qH b8 87 (.slice g1 (nG e4 q0 z0).length m1),.own (.slice g1 (nG e4 q0 z0).length m1) 5 1 (nG e4 q0 z0).length y1,.blk iD (.cells #[.slice D0 e4.1.length E0,.slice H0 e4.2.length M0] 28),.own (.slice j0 v0.length x0) 9 1 v0.length d0]) (ib (ay (fun l:Value=>b_.qH b8 87 l) (ay (fun l:List Int=>Value.slice g1 l.length m1) (au ((aT v1).symm) ((aT A0).symm)))) (ib (ay (fun l:List Int=>b_.own (.slice g1 l.length m1) 5 1 l.length y1) (au ((aT v1).symm) ((aT A0).symm))) (ib (rfl) (ib (rfl) rfl)))) ?_
      exact fun _ _ u v=>⟨g28,((j1.trans d1).trans f1),g1,m1,y1,(Eq.mp (ay (fun l:List Int=>aW g28 yb y1 l) (au ((aT v1).symm) ((aT A0).symm))) acI),fA u v hF⟩
     replace hF:=hF.2 v1
     refine Ok.k (Ok.t ?_)
     subst G1
     refine nA (H':=[.qH b8 87 (.slice x1 (nG e4 q0 z0).length b1),.own (.slice x1 (nG e4 q0 z0).length b1) 5 1 (nG e4 q0 z0).length I0,.blk iD (.cells #[.slice D0 e4.1.length E0,.slice H0 e4.2.length M0] 28),.own (.slice j0 v0.length x0) 9 1 v0.length d0]) (ib (ay (fun l:Value=>b_.qH b8 87 l) (ay (fun l:List Int=>Value.slice x1 l.length b1) (au ((aF v1).symm) ((aT A0).symm)))) (ib (ay (fun l:List Int=>b_.own (.slice x1 l.length b1) 5 1 l.length I0) (au ((aF v1).symm) ((aT A0).symm))) (ib (rfl) (ib (rfl) rfl)))) ?_
     exact fun _ _ u v=>⟨g21,j1,x1,b1,I0,(Eq.mp (ay (fun l:List Int=>aW g21 yb I0 l) (au ((aF v1).symm) ((aT A0).symm))) z1),fA u v hF⟩
    refine Ok.k (Ok.t (nA (H':=[.qH b8 87 (.slice n0 (nG e4 q0 z0).length o0),.own (.slice n0 (nG e4 q0 z0).length o0) 5 1 (nG e4 q0 z0).length t0,.blk iD (.cells #[.slice D0 e4.1.length E0,.slice H0 e4.2.length M0] 28),.own (.slice j0 v0.length x0) 9 1 v0.length d0]) (ib (ay (fun l:Value=>b_.qH b8 87 l) (ay (fun l:List Int=>Value.slice n0 l.length o0) ((aF A0).symm))) (ib (ay (fun l:List Int=>b_.own (.slice n0 l.length o0) 5 1 l.length t0) ((aF A0).symm)) (ib (rfl) (ib (rfl) rfl)))) ?_))
    exact fun _ _ u v=>⟨u1,bq w0 u1,n0,o0,t0,(Eq.mp (ay (fun l:List Int=>aW u1 yb t0 l) ((aF A0).symm)) C0),fA u v hF⟩
   clear hF
   rintro _ _ ⟨t1,R0,W0,X0,Y0,H5,q⟩
   refine jn (fun hF=>?_) _ _ q
   replace y0:=y0.mono R0.1
   replace V0:=V0.mono R0.1
   replace hG3:=hG3.mono R0.1
   refine ae (ag 3 [3,5,6,12,13,14,19,20,21] [(40,.slice V1 e11.length Q1),(41,iv (e11.length:Int)),(42,iv 0)] ?_)
   refine aa (Ok.block ?_)
   obtain ⟨k,hF⟩:=hF
   refine gF (fun k a W=>∃ a1:ak,aY w0 t1 a1∧∃ (f0:Int) (S0:Option Addr) (B0:Nat) (u0:List Int) (U0:List Value),aW a1 yb U0 u0∧fJ 58 [(3,.slice j0 v0.length x0),(5,pv iD 0),(6,pv b8 0),(12,.slice i0 xl.length Z0),(13,iv (xl.length:Int)),(14,iv b0),(19,.slice D0 e4.1.length E0),(20,iv (e4.1.length:Int)),(21,iv q0),(40,.slice V1 e11.length Q1),(41,iv (e11.length:Int)),(42,iv f0)] a∧dh w0 [.qH b8 87 (.slice S0 u0.length B0),.own (.slice S0 u0.length B0) 5 1 u0.length U0,.blk iD (.cells #[.slice D0 e4.1.length E0,.slice H0 e4.2.length M0] 28),.own (.slice j0 v0.length x0) 9 1 v0.length d0] a1 W∧Ca N e11 q0 (wD N e4 b0 v0 (B_ N xl K k9) k26) k f0 u0) k ?_ ?_
   ·
    exact fun _ _ u v=>⟨t1,bq w0 t1,0,W0,X0,nG e4 q0 z0,Y0,H5,fA u v hF⟩
   clear hF
   rintro (_ | k54) _ _ ⟨a1,G0,f0,S0,B0,u0,U0,F0,q⟩
   exact (q.2.2:False).elim
   refine jn (fun hF=>?_) _ _ q
   replace y0:=y0.mono G0.1
   replace V0:=V0.mono G0.1
   replace hG3:=hG3.mono G0.1
   refine ae (ag 1 [3,5,6,12,13,14,19,20,21,40,41,42] [(43,.bool (decide (f0<(e11.length:Int))))] ?_)
   refine aa (aH (ed hF rfl (fun r1=>?_) (fun r1=>?_)))
   ·replace hF:=hF.1 r1
    refine Ok.k (Ok.t (aH (Ok.block (aH (aS ?_)))))
    obtain ⟨apR,apC,hF⟩:=hF
    have M1:=aV (l:=e11) default apC
    generalize anf:(e11.getD f0.toNat default)=e14 at M1 hF ⊢
    refine ai (af.bf (e:=yS) rfl rfl underlying54 kr V0 apR M1 rfl fun q13 o13 aqb _ J1 abq=>?_)
    have i1:=abq
    replace i1:=bG.tst.1 i1
    obtain ⟨_,_,rfl,⟨_,_,rfl,rfl,⟨_,_,rfl,rfl,⟨_,_,rfl,rfl,⟨_,_,rfl,rfl,⟨_,_,rfl,rfl,rfl⟩⟩⟩⟩⟩,⟨T0,L0,rfl,abH,abp⟩⟩:=i1
    have Z1:bG a1 (.slice yP) [.slice T0 e14.kids.length L0] e14.kids:=⟨T0,L0,rfl,abH,abp⟩
    replace J1:At a1 q13 o13 (vL e14.lab T0 e14.kids.length L0):=J1
    refine ai (af.s (v:=.agg (aL e14.lab T0 e14.kids.length L0)) (bU 0 7 (aL e14.lab T0 e14.kids.length L0) J1 kr underlying60 rfl kr kr kr) rfl rfl (ai (bK #[iv 0,sv ([]:Bs),.int .u8 0,sv ([]:Bs),iv 0,iv 0,.slice none 0 0] fun auF=>?_)))
    refine ai (af.w 0 ?_)
    refine aa (aS (ai (af.s (v:=.agg (aL e14.lab T0 e14.kids.length L0)) (a_ 0 7 (aL e14.lab T0 e14.kids.length L0) rfl rfl underlying60 rfl kr kr kr) rfl rfl ?_)))
    obtain ⟨Mg,hF⟩:=hF
    refine ai (af.f gT (fun W hW=>SN _ e14 (Z1.mono hW.sees) (hG3.mono hW.sees) Mg) rfl ?_)
    obtain ⟨C1,hF⟩:=hF
    refine jB [1,2,0,3,4] ?_
    refine ai (bQ (jL.alF u0 (IP e14) F0 C1) fun g18 _ _ n1 TJ=>?_)
    obtain ⟨akK,aj6,QK,rfl,Mw,rfl⟩:=TJ
    replace y0:=y0.mono n1.1
    refine bY (bJ (Ok.t (aS (ag 2 [3,5,6,12,13,14,19,20,21,40,41] [(42,iv (w6 (f0+1)))] ?_))))
    refine bY (Ok.t ?_)
    subst anf
    exact fun _ _ u v=>⟨k54,nl,g18,G0.trans n1,w6 (f0+1),akK,aj6,(jL.Vg u0 (IP (e11.getD f0.toNat default))).2.2,QK,Mw,fA u v hF⟩
   replace hF:=hF.2 r1
   refine fU (aA (aA (aO (bJ (Ok.t (aS (ag 2 [3,5,6,12,13,14,19,20] [(21,iv (w6 (q0+1)))] ?_)))))))
   refine bY (Ok.t ?_)
   subst Hy
   exact fun _ _ u v=>⟨k26,nl,a1,((P0.trans R0).trans G0),w6 (q0+1),S0,B0,u0,U0,F0,fA u v hF⟩
  replace hF:=hF.2 mW
  refine fU (aA (aA (aO (Ok.t (aS (ag 1 [6,12,13,14] [(51,.slice j0 v0.length x0)] ?_))))))
  obtain ⟨aby,hF⟩:=hF
  refine ai (bQ (jL.Vu z0 C0 aby) fun g30 _ _ K1 aoa=>?_)
  obtain ⟨rfl,rfl⟩:=aoa
  replace y0:=y0.mono K1.1
  have N1:aW g30 (.str) ([sv (bytesOf z0)]:List Value) ([bytesOf z0]:List Bs):=(dB (c:=[sv (bytesOf z0)]) rfl rfl)
  refine ai (gG N1 fun b31=>?_)
  obtain ⟨anK,hF⟩:=hF
  refine ai (eZ (e:=.str) 16 8796093022208 2 0 rfl rfl rfl rfl y0 N1 underlying84 kr kr kr anK rfl fun a32 c32 als hL32=>?_)
  refine ag 1 [12,13,14] [(3,.slice a32 (v0++([bytesOf z0]:List Bs)).length c32)] ?_
  refine bY (bJ (Ok.t (aS (ag 2 [3,12,13] [(14,iv (w6 (b0+1)))] ?_))))
  refine bY (Ok.t ?_)
  subst hg4
  exact fun _ _ u v=>⟨k9,nl,g30,((W1.trans P0).trans K1),w6 (b0+1),a32,c32,(v0++([bytesOf z0]:List Bs)),als,hL32,fA u v hF⟩
 refine fU (aA (aA (aO (Ok.t (aH (aS ?_))))))
 obtain ⟨abw,hF⟩:=hF
 refine aj 3 [.c (fun W hW=>aaZ v0 ([44,32]:Bs) (hW.ZM 0 rfl y0) abw)] [] [(2,sv (Ke v0 ([44,32]:Bs)))] ?_
 refine aa (Ok.ret ?_)
 exact jd (sv (Ke v0 ([44,32]:Bs))) W1 ⟨Ke v0 ([44,32]:Bs),rfl,rfl,hF⟩
theorem afz (t:Ts):¬ Jc 0 t:=fun h=>absurd h.1 (jQ _)
theorem afu (l:List Ph):¬ Jb 0 l:=fun h=>absurd h.1 (jQ _)
theorem oM (z:Int):bytesOf ([z]:List Int)=[oq z]:=rfl
theorem UF {z:Int} (h:UH z):(([oq z]:Bs)==[61])=(z==61):=by
 obtain ⟨h1,h2⟩:=h
 obtain ⟨n,rfl⟩:∃ n:Nat,z=n:=⟨z.toNat,om⟩
 have:=Rp.uC (p:=fun c=>(([c]:Bs)==[61])==(((c.toNat:Nat):Int)==61)) dk (oq (n:Int))
 rw [eq_of_beq this]
 have e:(oq (n:Int)).toNat=n:=by
  unfold oq
  rw [eB]
  exact UInt8.toNat_ofNat_of_lt (show n<256 by omega)
 rw [e]
theorem Zx {t:Ts} (h:UH t.lab.2.2.1):vP t=(t.lab.2.2.1==61)∧sttV1 t=QB t.lab.2.2.1:=by
 have e0:vP t=(t.lab.2.2.1==61):=by
  unfold vP
  rw [oM]
  exact UF h
 refine ⟨e0,?_⟩
 unfold sttV1 QB
 rw [e0,oM]
 rfl
theorem w10 (z:Int):w6 ((([oq z]:Bs).length:Int) - (([61]:Bs).length:Int))=0:=rfl
theorem afy (N:Nat) (t:Ts) (h:Jc (N+1) t):afA N t (fun r=>r=IP t):=by
 have hk:=fun hx=>Pt h hx
 obtain ⟨_,hb,ho,i,hi⟩:=h
 rw [lU,aG] at hi
 obtain ⟨hab,hl1,hl2⟩:=G9 hi.1
 have hkb:=lQ t
 have e:maxLen=9223372036854775807:=rfl
 have hop:=Zx (x8 ho).1
 have hq:mD t.lab.2.2.2.1:=by unfold mD; omega
 have hql:=oJ t.lab.2.2.2.1
 have hT:=K7 t
 have ho1:(QB t.lab.2.2.1).length≤1:=by unfold QB; split <;> simp
 have hlen:∀ hx,(tx3 t.kids).length≤400 * 1048600:=fun hx=>by
  have h1:=FL (fun q _ s _ y _=>Zl y) (hk hx).2.2.2
  have h2:=uE t.kids
  omega
 have hn:=Gt hab
 unfold nthT at hn
 have k1:∀ {n:Int} {P:Prop},((t.lab.1==n)=true→t.lab.1=n):=fun h=>eq_of_beq h
 have k0:∀ {n:Int},(t.lab.1==n)=false→t.lab.1≠n:=fun h=>by simpa using h
 refine ⟨fun c1=>?_,fun c1=>⟨fun c2=>?_,fun c2=>⟨fun c3=>⟨sl,?_⟩,fun c3=>⟨fun c4=>⟨sl,?_⟩,fun c4=>⟨fun c5=>?_,fun c5=>?_⟩⟩⟩⟩⟩
 ·rw [hT,kH,aT c1]
 ·rw [hT,kH,aF c1,aT c2]
 ·rw [hT,kH,aF c1,aF c2,aT c3]; rfl
 ·rw [hT,kH,aF c1,aF c2,aF c3,aT c4]; rfl
 ·rw [kH,aF c1,aF c2,aF c3,aF c4,aT c5] at hT
  refine ⟨fun c0=>⟨sl,sl,?_⟩,fun c0=>?_⟩
  ·rw [hT,aT c0]; simp
  rw [aF c0] at hT
  have j5:tL t (fun r=>r=IP t):=by
   unfold tL
   rw [hop.2]
   refine ⟨sl,sl,hq,sl,sl,?_⟩
   rw [hT,Ej]; simp
  have j7:ow t (fun r=>r=IP t):=⟨fun _=>⟨by decide,by rw [oM,w10]; exact ll 0,by rw [oM,w10]; exact Int.natCast_nonneg _,j5⟩,fun _=>j5⟩
  exact ⟨sl,fun _=>⟨by rw [oM,w10]; exact ll 0,by rw [oM,w10]; exact Int.natCast_nonneg _,om,j7⟩,fun _=>j7⟩
 rw [kH,aF c1,aF c2,aF c3,aF c4,aF c5] at hT
 have hN:(nthT t).length≤2006:=Gt hab
 refine ⟨fun c6=>?_,fun c6=>⟨fun c7=>?_,fun c7=>⟨fun c8=>⟨hab,?_,?_,?_⟩,fun c8=>⟨fun c9=>⟨hab,?_,?_,?_⟩,fun c9=>⟨fun c10=>?_,fun c10=>?_⟩⟩⟩⟩⟩
 ·show _=_; rw [hT,aT c6]
 ·show _=_; rw [hT,aF c6,aT c7]
 ·simp only [cK,jT]; omega
 ·simp only [bC,cK,jT]; omega
 ·show _=_; rw [hT,aF c6,aF c7,aT c8,dL]; rfl
 ·simp only [cK,jT]; omega
 ·simp only [bC,cK,jT]; omega
 ·show _=_; rw [hT,aF c6,aF c7,aF c8,aT c9,dL]; rfl
 ·have h3:=hlen (.inl (k1 (P:=True) c10))
  refine ⟨hk (.inl (k1 (P:=True) c10)),sl,sl,?_⟩
  show _=_; rw [hT,aF c6,aF c7,aF c8,aF c9,aT c10,dL]
 have h11:t.lab.1=11:=by
  have:=k0 c1; have:=k0 c2; have:=k0 c3; have:=k0 c4; have:=k0 c5; have:=k0 c6; have:=k0 c7; have:=k0 c8; have:=k0 c9; have:=k0 c10
  omega
 have h3:=hlen (.inr h11)
 refine ⟨hk (.inr h11),sl,sl,?_⟩
 show _=_; rw [hT,aF c6,aF c7,aF c8,aF c9,aF c10,dL]
theorem Dp (a b:Bs):intsOf (a++b)=intsOf a++intsOf b:=uN ..
theorem Dn (a:Bs):(intsOf a).length=a.length:=iW ..
theorem afw {N:Nat} (s:List Ts) (hs:∀ i,i<s.length→Jc N (s.getD i default)) (hl:s.length≤1048600) (j:Int) (C:Int→List Int→Prop) (Z:Bs) (hZ:(Z++tx1 s).length≤140737488355328) (hC:C (w6 (j+1)) (intsOf (Z++tx1 s))) :
  ∀ (m i:Nat) (Y:Bs),i+m=s.length→Y++tx1 (s.drop i)=Z++tx1 s→Ca N s j C (m+1) (i:Int) (intsOf Y):=by
 intro m
 induction m with
 | zero =>
  intro i Y hi he
  rw [fF om,tx1,gK] at he
  exact ⟨fun hc=>absurd (dn hc) om,fun _=>by rw [he]; exact hC⟩
 | succ m ih =>
  intro i Y hi he
  have hi':i<s.length:=om
  rw [dm (l:=s) default hi',tx1,← dL] at he
  have hle:=ay List.length he
  rw [bC,bC] at hle
  refine ⟨fun _=>⟨om,by rw [eB]; omega,?_⟩,fun hc=>absurd (fZ hc) om⟩
  rw [eB]
  refine ⟨hs i hi',?_,?_⟩
  ·show (intsOf Y).length+_≤_
   rw [Dn]; omega
  show Ca N s j C (m+1) _ (intsOf Y++intsOf _)
  rw [← Dp,gp om,show (i:Int)+1=((i+1:Nat):Int) by omega]
  exact ih (i+1) _ om he
def restS (q:Ph) (i:Nat):Bs:=if i=0 then BN q.1 q.2 else tr2 (q.1.drop i) (q.2.drop (i - 1))
def sepS (q:Ph) (i:Nat):Bs:=if i=0 then [] else IQ (q.2.getD (i - 1) default)
theorem rest_step (q:Ph) {i:Nat} (hi:i<q.1.length) (hj:q.2.length+1=q.1.length):restS q i=sepS q i++(tx1 (q.1.getD i default)++restS q (i+1)):=by
 unfold restS sepS
 rw [aQ (by omega:¬ i+1=0)]
 by_cases h0:i=0
 ·subst h0
  rw [bn rfl,bn rfl]
  obtain ⟨p,js⟩:=q
  match p,hi with
  | s::p,_=>rw [BN]; rfl
 rw [aQ h0,aQ h0]
 obtain ⟨k,rfl⟩:∃ k,i=k+1:=⟨i - 1,om⟩
 rw [dm (l:=q.1) default hi,Nat.add_sub_cancel,Nat.add_sub_cancel,dm (l:=q.2) default om,tr2]
 rfl
theorem rest_end (q:Ph) (h0:q.1≠[]):restS q q.1.length=[]:=by
 unfold restS
 have:q.1.length≠0:=fun h=>h0 (iL h)
 rw [aQ this,fF (fK _),tr2]
theorem WL {z:Int} (hz:UH z):intsOf (IQ z)=if (z != 32)=true then [32,z,32] else [32]:=by
 obtain ⟨h1,h2⟩:=hz
 obtain ⟨n,rfl⟩:∃ n:Nat,z=n:=⟨z.toNat,om⟩
 have e:(oq (n:Int)).toNat=n:=by
  unfold oq
  rw [eB]
  exact UInt8.toNat_ofNat_of_lt (show n<256 by omega)
 unfold IQ
 by_cases h:(n:Int)=32
 ·rw [h]; rfl
 rw [aQ (by simpa using h),bn (by simpa using h)]
 show [_,(((oq (n:Int)).toNat:Nat):Int),_]=_
 rw [e]; rfl
theorem afx {N:Nat} (q:Ph) (hj:∀ z ∈ q.2,UH z) (hs:∀ s ∈ q.1,∀ i,i<s.length→Jc N (s.getD i default)) (hw:w2 q.1≤1048600) (h0:q.1≠[]) (hjl:q.2.length+1=q.1.length) (hL:(BN q.1 q.2).length≤140737488355328) (j:Int) (outs:List Bs) (ho:outs.length+1≤8796093022208) (C:Int→List Bs→Prop) (hC:C (w6 (j+1)) (outs++[BN q.1 q.2])) :
  ∀ (m i:Nat) (Z:Bs),i+m=q.1.length→Z++restS q i=BN q.1 q.2→wD N q j outs C (m+1) (i:Int) (intsOf Z):=by
 have hl2:=wB q.1
 intro m
 induction m with
 | zero =>
  intro i Z hi he
  have:i=q.1.length:=om
  subst this
  rw [rest_end q h0,gK] at he
  refine ⟨fun hc=>absurd (dn hc) om,fun _=>⟨by unfold stP; rw [kJ],by rw [bC]; simpa using ho,?_⟩⟩
  rw [kJ,he]; exact hC
 | succ m ih =>
  intro i Z hi he
  have hi':i<q.1.length:=om
  have hin:=nk (l:=q.1) default hi'
  have hw1:=xC hin
  have hw3:=wC (q.1.getD i default)
  rw [rest_step q hi' hjl,← dL,← dL] at he
  have hle:=ay List.length he
  rw [bC,bC,bC] at hle
  have hV:nG q (i:Int) (intsOf Z)=intsOf (Z++sepS q i):=by
   unfold nG sepS
   by_cases h:i=0
   ·subst h; rw [aQ (by simp),bn rfl,gK]
   obtain ⟨k,rfl⟩:∃ k,i=k+1:=⟨i - 1,om⟩
   rw [bn (by apply f_; omega),aQ h,gp om,show ((k+1:Nat):Int) - 1=(k:Int) by omega,eB,Nat.add_sub_cancel,Dp,WL (hj _ (nk (l:=q.2) default om))]
   split
   ·show intsOf Z++[32]++[_,32]=_
    rw [dL]; rfl
   rfl
  have j37:Cb N q (q.1.getD i default) (i:Int) (intsOf Z) (wD N q j outs C (m+1)):=by
   refine ⟨(q.1.getD i default).length+1,?_⟩
   rw [hV]
   refine afw (q.1.getD i default) (hs _ hin) om (i:Int) _ (Z++sepS q i) (by rw [bC,bC]; omega) ?_ (q.1.getD i default).length 0 _ om (by rw [iG])
   rw [gp om,show (i:Int)+1=((i+1:Nat):Int) by omega]
   exact ih (i+1) _ om he
  refine ⟨fun _=>⟨om,by rw [eB]; exact hi',?_⟩,fun hc=>absurd (fZ hc) om⟩
  rw [eB]
  refine ⟨fun hc=>?_,fun _=>j37⟩
  have hc:=dn hc
  obtain ⟨k,rfl⟩:∃ k,i=k+1:=⟨i - 1,om⟩
  have e1:w6 (((k+1:Nat):Int) - 1)=(k:Int):=by rw [gp om]; omega
  have hsl:(sepS q (k+1)).length=(IQ (q.2.getD k default)).length:=by
   unfold sepS; rw [aQ om]; rfl
  have hz:=hj _ (nk (l:=q.2) (i:=k) default om)
  have hb:1≤(IQ (q.2.getD k default)).length:=by unfold IQ; split <;> simp
  refine ⟨by show (intsOf Z).length+1≤_; rw [Dn]; omega,by rw [e1]; omega,by rw [e1,eB]; omega,?_⟩
  rw [e1,eB]
  refine ⟨fun h32=>⟨⟨by simp,?_⟩,j37⟩,fun _=>j37⟩
  have h3:(IQ (q.2.getD k default)).length=3:=by
   unfold IQ
   rw [aQ (by simpa using h32)]; rfl
  show (intsOf Z++[32]).length+2≤_
  rw [bC,Dn]
  show Z.length+1+2≤_
  omega
theorem aft (N:Nat) (l:List Ph) (h:Jb (N+1) l):afv N l (fun r=>r=tx3 l):=by
 have hin:=fun q hq s hs i hi=>Vr h (q:=q) hq (s:=s) hs (i:=i) hi
 obtain ⟨_,hb,ho,hk⟩:=h
 have h5:=uE l
 have hlen:=yU l
 have hL:=FL (fun q _ s _ y _=>Zl y) hk
 have loop:∀ (m i:Nat),i+m=l.length→B_ N l (fun r=>r=tx3 l) (m+1) (i:Int) ((l.take i).map fun q=>BN q.1 q.2):=by
  intro m
  induction m with
  | zero =>
   intro i hi
   refine ⟨fun hc=>absurd (dn hc) om,fun _=>?_⟩
   rw [jR om]
   refine ⟨⟨by rw [iW]; omega,by rw [Nq]; omega⟩,Nq l⟩
  | succ m ih =>
   intro i hi
   have hi':i<l.length:=om
   have hq:=nk (l:=l) default hi'
   have hwq:=zU hq
   obtain ⟨⟨q1,q2⟩,q3,q4⟩:=kV hk hq
   have hql:=FM (p:=(l.getD i default).1) (js:=(l.getD i default).2) (fun s _ y _=>Zl y) q3
   refine ⟨fun _=>⟨om,by rw [eB]; exact hi',(l.getD i default).1.length+1,?_⟩,fun hc=>absurd (fZ hc) om⟩
   rw [eB]
   refine afx (l.getD i default) (ho _ hq).1 (hin _ hq) om q1 q2 om (i:Int) _ (by rw [iW,gz]; omega) _ ?_ (l.getD i default).1.length 0 [] om rfl
   rw [gp om,show (i:Int)+1=((i+1:Nat):Int) by omega]
   have:=ih (i+1) om
   rw [List.take_add_one,gB hi',Option.toList_some,uN] at this
   rw [gN,gB hi']
   exact this
 exact ⟨_,loop l.length 0 om⟩
theorem NL:∀ N,Q6 N∧Q4 N
 | 0=>⟨(by intro g g0 m0 xt a0 hG3 hp; exact (afz xt hp).elim),(by intro g i0 Z0 xl s0 hG3 hp; exact (afu xl hp).elim)⟩
 | N+1 =>
  have ih:=NL N
  ⟨(by intro g g0 m0 xt a0 hG3 hp; exact (Zy N ih.1 ih.2 xt a0 hG3 _ (afy N xt hp)).gv),(by intro g i0 Z0 xl s0 hG3 hp; exact (Zv N ih.1 ih.2 xl s0 hG3 _ (aft N xl hp)).gv)⟩
def Q5 (xl:List PH):Prop:=∃ N,Jb N xl
theorem afs {g:ak} {i0:Option Addr} {Z0:Nat} (xl:List PH) (s0:bG g (.slice yP) [.slice i0 xl.length Z0] xl) (hG3:ma g 3 (.int .u64) yR)  (hp:Q5 xl):bE prog 26 #[.slice i0 xl.length Z0] g (sv (tx3 xl)):=by
 obtain ⟨N,hp⟩:=hp
 exact (NL N).2 _ xl s0 hG3 hp
end Go.Proofs.YtdapgmigogpdcaaGreatDoor.Se
