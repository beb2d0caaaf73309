/- Selectors: how many tests there are, by the program and by the document. No program in sight. -/
import Derived.Test.YtdapgmigogpdcaaGreatDoorExi
import Derived.Test.YtdapgmigogpdcaaGreatDoorTsu
namespace Go.Proofs.YtdapgmigogpdcaaGreatDoor.Se
open Go Go.iQ
set_option linter.unusedVariables false
abbrev Lb:=Int×Bs×Int×Bs×Int×Int
abbrev Ts:=gL Lb
abbrev Ph:=List (List Ts)×List Int
mutual
def Qz:Ts→Int→Int×Bool
 | .mk _ l,d=>K4 l d 0
def K4:List Ph→Int→Int→Int×Bool
 | [],_,n=>(n,decide (n≤40))
 | (p,_)::l,d,n=>if (EH p d n).2=true then K4 l d (EH p d n).1 else ((EH p d n).1,false)
def EH:List (List Ts)→Int→Int→Int×Bool
 | [],_,n=>(n,true)
 | s::l,d,n=>if (El s d (n+s.length)).2=true then EH l d (El s d (n+s.length)).1 else ((El s d (n+s.length)).1,false)
def El:List Ts→Int→Int→Int×Bool
 | [],_,n=>(n,true)
 | t::l,d,n=>if t.kids.length=0 then El l d n else if (!((Qz t (d+1)).2)||(decide (d≥3)||decide (n+(Qz t (d+1)).1>40)))=true then (n+(Qz t (d+1)).1,false) else El l d (n+(Qz t (d+1)).1)
end
mutual
def Yx:Ts→Int→Int
 | .mk _ l,d=>Yy l d 0
def Yy:List Ph→Int→Int→Int
 | [],_,n=>n
 | (p,_)::l,d,n=>if Yz p d n<0 then -1 else Yy l d (Yz p d n)
def Yz:List (List Ts)→Int→Int→Int
 | [],_,n=>n
 | s::l,d,n=>if VV s d n<0 then -1 else Yz l d (VV s d n)
def VV:List Ts→Int→Int→Int
 | [],_,n=>n
 | t::l,d,n=>if t.kids.length=0 then VV l d (n+1) else if (if (decide (d<3)&&decide (n+1≤40))=true then Yx t (d+1) else -1)<0 then -1 else VV l d (n+1+(if (decide (d<3)&&decide (n+1≤40))=true then Yx t (d+1) else -1))
end
mutual
def ctT:Ts→Int
 | .mk _ l=>ct3 l
def ct3:List Ph→Int
 | []=>0
 | (p,_)::l=>ct2 p+ct3 l
def ct2:List (List Ts)→Int
 | []=>0
 | s::l=>(s.length+ns1 s)+ct2 l
def ns1:List Ts→Int
 | []=>0
 | t::l=>ctT t+ns1 l
end
mutual
def dpT:Ts→Int→Bool
 | .mk _ l,d=>dp3 l d
def dp3:List Ph→Int→Bool
 | [],_=>true
 | (p,_)::l,d=>dp2 p d&&dp3 l d
def dp2:List (List Ts)→Int→Bool
 | [],_=>true
 | s::l,d=>dp1 s d&&dp2 l d
def dp1:List Ts→Int→Bool
 | [],_=>true
 | t::l,d=>(decide (t.kids.length=0)||(decide (d<3)&&dpT t (d+1)))&&dp1 l d
end
end Go.Proofs.YtdapgmigogpdcaaGreatDoor.Se
namespace Go.Proofs.YtdapgmigogpdcaaGreatDoor.Se
open Go Go.iQ
set_option linter.unusedVariables false
def bT (t:Ts):Nat:=bulkT (.tst (.pair (.int .i64) (.pair (.str) (.pair (.int .u8) (.pair (.str) (.pair (.int .i64) (.int .i64))))))) t
def b3 (l:List Ph):Nat:=bulkT (.slice (.pair (.slice (.slice (.tst (.pair (.int .i64) (.pair (.str) (.pair (.int .u8) (.pair (.str) (.pair (.int .i64) (.int .i64))))))))) (.slice (.int .u8)))) l
def w1:List Ts→Nat
 | []=>0
 | t::s=>bT t+w1 s
def w2:List (List Ts)→Nat
 | []=>0
 | s::p=>w1 s+1+w2 p
def w3:List Ph→Nat
 | []=>0
 | q::l=>w2 q.1+q.2.length+2+w3 l
theorem Yl:∀ s:List Ts,(s.map bT).sum=w1 s
 | []=>rfl
 | t::s=>by rw [jJ,List.sum_cons,Yl s,w1]
theorem Yk:∀ p:List (List Ts),(p.map fun s=>(s.map bT).sum+1).sum=w2 p
 | []=>rfl
 | s::p=>by rw [jJ,List.sum_cons,Yk p,w2,Yl]
theorem QN:∀ l:List Ph,(l.map fun q=>((q.1.map fun s=>(s.map bT).sum+1).sum+1)+((q.2.map fun _=>1).sum+1)).sum=w3 l
 | []=>rfl
 | q::l=>by
  have e:(q.2.map fun _=>1).sum=q.2.length:=by rw [List.map_const']; simp
  rw [jJ,List.sum_cons,QN l,w3,Yk,e]; omega
theorem uE (l:List Ph):b3 l=w3 l+1:=by
 show (l.map fun q=>((q.1.map fun s=>(s.map bT).sum+1).sum+1)+((q.2.map fun _=>1).sum+1)).sum+1=_
 rw [QN]
theorem Y7 (x:Lb) (l:List Ph):bT (.mk x l)=6+x.2.1.length+x.2.2.2.1.length+b3 l:=by
 rw [uE,← QN]
 show gL.sum _ (gL.mk x l)=_
 rw [gL.sum,gL.FR]
 show 1+((x.2.1.length+1)+(1+((x.2.2.2.1.length+1)+(1+1))))+((l.map fun q=>((q.1.map fun s=>(s.map bT).sum+1).sum+1)+((q.2.map fun _=>1).sum+1)).sum+1)=_
 omega
theorem lQ (t:Ts):b3 t.kids+6+t.lab.2.1.length+t.lab.2.2.2.1.length=bT t:=by
 obtain ⟨x,l⟩:=t
 rw [Y7]
 show b3 l+6+x.2.1.length+x.2.2.2.1.length=_
 omega
theorem wC:∀ s:List Ts,6 * s.length≤w1 s
 | []=>ik _
 | t::s=>by
  have:=wC s
  have:=lQ t
  rw [w1,cK]; omega
theorem wB:∀ p:List (List Ts),p.length≤w2 p
 | []=>ik _
 | s::p=>by
  have:=wB p
  rw [w2,cK]; omega
theorem yU:∀ l:List Ph,2 * l.length≤w3 l
 | []=>ik _
 | q::l=>by
  have:=yU l
  rw [w3,cK]; omega
theorem IY {t:Ts}:∀ {s:List Ts},t ∈ s→bT t≤w1 s
 | y::s,h=>by
  rw [w1]
  rcases eG.1 h with rfl | h
  ·omega
  have:=IY h; omega
theorem xC {s:List Ts}:∀ {p:List (List Ts)},s ∈ p→w1 s+1≤w2 p
 | y::p,h=>by
  rw [w2]
  rcases eG.1 h with rfl | h
  ·omega
  have:=xC h; omega
theorem zU {q:Ph}:∀ {l:List Ph},q ∈ l→w2 q.1+q.2.length+2≤w3 l
 | y::l,h=>by
  rw [w3]
  rcases eG.1 h with rfl | h
  ·omega
  have:=zU h; omega
theorem nk {α:Type} {l:List α} {i:Nat} (d:α) (h:i<l.length):l.getD i d ∈ l:=by
 rw [gN,gB h]
 exact zN h
theorem QS (t:Ts) (d:Int):Qz t d=K4 t.kids d 0:=by obtain ⟨x,l⟩:=t; rw [Qz]; rfl
def BdT (t:Ts):Prop:=∀ d,(0≤(Qz t d).1∧(Qz t d).1≤b3 t.kids)∧(-1≤Yx t d∧Yx t d≤b3 t.kids)
theorem bd1:∀ {s:List Ts} (h:∀ t ∈ s,BdT t) (d n:Int),(n≤(El s d n).1∧(El s d n).1+s.length≤n+w1 s)∧(0≤n→-1≤VV s d n∧VV s d n≤n+w1 s)
 | [],_,d,n=>by rw [El,VV,w1]; exact ⟨⟨om,by simp⟩,fun h=>⟨om,om⟩⟩
 | t::s,h,d,n=>by
  have ht:=h t (cO ..) (d+1)
  have ih:=fun n=>bd1 (fun k hk=>h k (dS _ hk)) d n
  have hb:=lQ t
  have hl:((t::s).length:Int)=s.length+1:=by simp
  rw [El,VV,w1,hl]
  constructor
  ·split
   ·have:=(ih n).1; omega
   split
   ·have hw:=wC s
    show n≤n+(Qz t (d+1)).1∧n+(Qz t (d+1)).1+(s.length+1)≤_
    omega
   have:=(ih (n+(Qz t (d+1)).1)).1; omega
  intro hn
  have hm : -1≤(if (decide (d<3)&&decide (n+1≤40))=true then Yx t (d+1) else -1)∧(if (decide (d<3)&&decide (n+1≤40))=true then Yx t (d+1) else -1)≤b3 t.kids:=by
   by_cases hc:(decide (d<3)&&decide (n+1≤40))=true
   ·rw [bn hc]; exact ht.2
   rw [aQ hc]; omega
  generalize (if (decide (d<3)&&decide (n+1≤40))=true then Yx t (d+1) else -1)=mo at hm ⊢
  by_cases hk:t.kids.length=0
  ·rw [bn hk]
   have:=(ih (n+1)).2 om; omega
  rw [aQ hk]
  by_cases h0:mo<0
  ·rw [bn h0]; omega
  rw [aQ h0]
  have:=(ih (n+1+mo)).2 om; omega
theorem bd2:∀ {p:List (List Ts)} (h:∀ s ∈ p,∀ t ∈ s,BdT t) (d n:Int),(n≤(EH p d n).1∧(EH p d n).1≤n+w2 p)∧(0≤n→-1≤Yz p d n∧Yz p d n≤n+w2 p)
 | [],_,d,n=>by rw [EH,Yz,w2]; exact ⟨⟨om,by simp⟩,fun h=>⟨om,om⟩⟩
 | s::p,h,d,n=>by
  have hs:=fun n=>bd1 (h s (cO ..)) d n
  have ih:=fun n=>bd2 (fun k hk=>h k (dS _ hk)) d n
  rw [EH,Yz,w2]
  have h1:=(hs (n+s.length)).1
  constructor
  ·split
   ·have:=(ih (El s d (n+s.length)).1).1; omega
   show n≤(El s d (n+s.length)).1∧(El s d (n+s.length)).1≤_
   omega
  intro hn
  have h2:=(hs n).2 hn
  split
  ·omega
  have:=(ih (VV s d n)).2 om; omega
theorem bd3:∀ {l:List Ph} (h:∀ q ∈ l,∀ s ∈ q.1,∀ t ∈ s,BdT t) (d n:Int),(n≤(K4 l d n).1∧(K4 l d n).1≤n+w3 l)∧(0≤n→-1≤Yy l d n∧Yy l d n≤n+w3 l)
 | [],_,d,n=>by rw [K4,Yy,w3]; exact ⟨⟨by show n≤n; omega,by show n≤n+((0:Nat):Int); omega⟩,fun h=>⟨om,om⟩⟩
 | (p,js)::l,h,d,n=>by
  have hs:=fun n=>bd2 (p:=p) (h (p,js) (cO ..)) d n
  have ih:=fun n=>bd3 (fun k hk=>h k (dS _ hk)) d n
  rw [K4,Yy,w3]
  have h1:=(hs n).1
  show (_∧_≤n+((w2 p+js.length+2+w3 l:Nat):Int))∧(_→_∧_≤n+((w2 p+js.length+2+w3 l:Nat):Int))
  constructor
  ·split
   ·have:=(ih (EH p d n).1).1; omega
   show n≤(EH p d n).1∧(EH p d n).1≤_
   omega
  intro hn
  have h2:=(hs n).2 hn
  split
  ·omega
  have:=(ih (Yz p d n)).2 om; omega
theorem bdT:∀ t:Ts,BdT t:=gL.ind fun x l ih d=>by
 have:=bd3 ih d 0
 rw [Qz,Yx]
 show (0≤(K4 l d 0).1∧(K4 l d 0).1≤b3 l)∧(-1≤Yy l d 0∧Yy l d 0≤b3 l)
 rw [uE]
 have h2:=this.2 om
 omega
def UH (c:Int):Prop:=0≤c∧c≤255
def okB (t:Ts):Prop:=t.All fun y l=>UH y.2.2.1∧∀ q ∈ l,∀ z ∈ q.2,UH z
def PM (l:List Ph):Prop:=∀ q ∈ l,(∀ z ∈ q.2,UH z)∧∀ s ∈ q.1,∀ t ∈ s,okB t
theorem x8 {t:Ts} (h:okB t):UH t.lab.2.2.1∧PM t.kids:=by
 obtain ⟨x,l⟩:=t
 have h:=gL.all_mk.1 h
 exact ⟨h.1.1,fun q hq=>⟨h.1.2 q hq,h.2 q hq⟩⟩
end Go.Proofs.YtdapgmigogpdcaaGreatDoor.Se
