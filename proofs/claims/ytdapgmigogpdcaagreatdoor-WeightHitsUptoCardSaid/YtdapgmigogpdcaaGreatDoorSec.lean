/- Selectors: how many tests there are, by the program and by the document. No program in sight. -/
import Derived.Test.YtdapgmigogpdcaaGreatDoorExi
import Derived.Test.YtdapgmigogpdcaaGreatDoorTsu
set_option linter.unusedVariables false
namespace Go.Proofs.YtdapgmigogpdcaaGreatDoor.Se
open Go Go.iT
abbrev Lb:=Int×Bs×Int×Bs×Int×Int
abbrev Ts:=gL Lb
abbrev Ph:=List (List Ts)×List Int
mutual
def Rq:Ts→Int→Int×Bool
 | .mk _ l,d=>LJ l d 0
def LJ:List Ph→Int→Int→Int×Bool
 | [],_,n=>(n,decide (n≤40))
 | (p,_)::l,d,n=>if (ES p d n).2=true then LJ l d (ES p d n).1 else ((ES p d n).1,false)
def ES:List (List Ts)→Int→Int→Int×Bool
 | [],_,n=>(n,true)
 | s::l,d,n=>if (Et s d (n+s.length)).2=true then ES l d (Et s d (n+s.length)).1 else ((Et s d (n+s.length)).1,false)
def Et:List Ts→Int→Int→Int×Bool
 | [],_,n=>(n,true)
 | t::l,d,n=>if t.kids.length=0 then Et l d n else if (!((Rq t (d+1)).2)||(decide (d≥3)||decide (n+(Rq t (d+1)).1>40)))=true then (n+(Rq t (d+1)).1,false) else Et l d (n+(Rq t (d+1)).1)
end
mutual
def Zu:Ts→Int→Int
 | .mk _ l,d=>Zv l d 0
def Zv:List Ph→Int→Int→Int
 | [],_,n=>n
 | (p,_)::l,d,n=>if Zw p d n<0 then -1 else Zv l d (Zw p d n)
def Zw:List (List Ts)→Int→Int→Int
 | [],_,n=>n
 | s::l,d,n=>if W_ s d n<0 then -1 else Zw l d (W_ s d n)
def W_:List Ts→Int→Int→Int
 | [],_,n=>n
 | t::l,d,n=>if t.kids.length=0 then W_ l d (n+1) else if (if (decide (d<3)&&decide (n+1≤40))=true then Zu t (d+1) else -1)<0 then -1 else W_ l d (n+1+(if (decide (d<3)&&decide (n+1≤40))=true then Zu t (d+1) else -1))
end
mutual
def ctT:Ts→Int
 | .mk _ l=>ct3 l
def ct3:List Ph→Int
 | []=>0
 | (p,_)::l=>ct2 p+ct3 l
def ct2:List (List Ts)→Int
 | []=>0
 | s::l=>(s.length+ns1 s)+ct2 l
def ns1:List Ts→Int
 | []=>0
 | t::l=>ctT t+ns1 l
end
mutual
def dpT:Ts→Int→Bool
 | .mk _ l,d=>dp3 l d
def dp3:List Ph→Int→Bool
 | [],_=>true
 | (p,_)::l,d=>dp2 p d&&dp3 l d
def dp2:List (List Ts)→Int→Bool
 | [],_=>true
 | s::l,d=>dp1 s d&&dp2 l d
def dp1:List Ts→Int→Bool
 | [],_=>true
 | t::l,d=>(decide (t.kids.length=0)||(decide (d<3)&&dpT t (d+1)))&&dp1 l d
end
end Go.Proofs.YtdapgmigogpdcaaGreatDoor.Se
namespace Go.Proofs.YtdapgmigogpdcaaGreatDoor.Se
open Go Go.iT
def bT (t:Ts):Nat:=bulkT (.tst (.pair (.int .i64) (.pair (.str) (.pair (.int .u8) (.pair (.str) (.pair (.int .i64) (.int .i64))))))) t
def b3 (l:List Ph):Nat:=bulkT (.slice (.pair (.slice (.slice (.tst (.pair (.int .i64) (.pair (.str) (.pair (.int .u8) (.pair (.str) (.pair (.int .i64) (.int .i64))))))))) (.slice (.int .u8)))) l
def w1:List Ts→Nat
 | []=>0
 | t::s=>bT t+w1 s
def w2:List (List Ts)→Nat
 | []=>0
 | s::p=>w1 s+1+w2 p
def w3:List Ph→Nat
 | []=>0
 | q::l=>w2 q.1+q.2.length+2+w3 l
theorem Zg:∀ s:List Ts,(s.map bT).sum=w1 s
 | []=>rfl
 | t::s=>by rw [jL,List.sum_cons,Zg s,w1]
theorem Zf:∀ p:List (List Ts),(p.map fun s=>(s.map bT).sum+1).sum=w2 p
 | []=>rfl
 | s::p=>by rw [jL,List.sum_cons,Zf p,w2,Zg]
theorem RO:∀ l:List Ph,(l.map fun q=>((q.1.map fun s=>(s.map bT).sum+1).sum+1)+((q.2.map fun _=>1).sum+1)).sum=w3 l
 | []=>rfl
 | q::l=>by
  have e:(q.2.map fun _=>1).sum=q.2.length:=by rw [List.map_const']; simp
  rw [jL,List.sum_cons,RO l,w3,Zf,e]; omega
theorem mO (l:List Ph):b3 l=w3 l+1:=by
 show (l.map fun q=>((q.1.map fun s=>(s.map bT).sum+1).sum+1)+((q.2.map fun _=>1).sum+1)).sum+1=_;rw [RO]
theorem VK (x:Lb) (l:List Ph):bT (.mk x l)=6+x.2.1.length+x.2.2.2.1.length+b3 l:=by
 rw [mO,← RO];show gL.sum _ (gL.mk x l)=_;rw [gL.sum,gL.Gd];show 1+((x.2.1.length+1)+(1+((x.2.2.2.1.length+1)+(1+1))))+((l.map fun q=>((q.1.map fun s=>(s.map bT).sum+1).sum+1)+((q.2.map fun _=>1).sum+1)).sum+1)=_;omega
theorem kE (t:Ts):b3 t.kids+6+t.lab.2.1.length+t.lab.2.2.2.1.length=bT t:=by
 obtain ⟨x,l⟩:=t;rw [VK];show b3 l+6+x.2.1.length+x.2.2.2.1.length=_;omega
theorem rO:∀ s:List Ts,6 * s.length≤w1 s
 | []=>ik _
 | t::s=>by
  have:=rO s;have:=kE t;rw [w1,di]; omega
theorem rM:∀ p:List (List Ts),p.length≤w2 p
 | []=>ik _
 | s::p=>by
  have:=rM p;rw [w2,di]; omega
theorem qo:∀ l:List Ph,2 * l.length≤w3 l
 | []=>ik _
 | q::l=>by
  have:=qo l;rw [w3,di]; omega
theorem xK {t:Ts}:∀ {s:List Ts},t ∈ s→bT t≤w1 s
 | y::s,h=>by
  rw [w1]
  rcases eO.1 h with rfl | h
  ·omega
  have:=xK h; omega
theorem tQ {s:List Ts}:∀ {p:List (List Ts)},s ∈ p→w1 s+1≤w2 p
 | y::p,h=>by
  rw [w2]
  rcases eO.1 h with rfl | h
  ·omega
  have:=tQ h; omega
theorem sW {q:Ph}:∀ {l:List Ph},q ∈ l→w2 q.1+q.2.length+2≤w3 l
 | y::l,h=>by
  rw [w3]
  rcases eO.1 h with rfl | h
  ·omega
  have:=sW h; omega
theorem jR {α:Type} {l:List α} {i:Nat} (d:α) (h:i<l.length):l.getD i d ∈ l:=by
 rw [gT,gH h];exact zU h
theorem RV (t:Ts) (d:Int):Rq t d=LJ t.kids d 0:=by obtain ⟨x,l⟩:=t; rw [Rq]; rfl
def BdT (t:Ts):Prop:=∀ d,(0≤(Rq t d).1∧(Rq t d).1≤b3 t.kids)∧(-1≤Zu t d∧Zu t d≤b3 t.kids)
theorem bd1:∀ {s:List Ts} (h:∀ t ∈ s,BdT t) (d n:Int),(n≤(Et s d n).1∧(Et s d n).1+s.length≤n+w1 s)∧(0≤n→-1≤W_ s d n∧W_ s d n≤n+w1 s)
 | [],_,d,n=>by rw [Et,W_,w1]; exact ⟨⟨om,by simp⟩,fun h=>⟨om,om⟩⟩
 | t::s,h,d,n=>by
  have ht:=h t (cz ..) (d+1);have ih:=fun n=>bd1 (fun k hk=>h k (dK _ hk)) d n;have hb:=kE t
  have hl:((t::s).length:Int)=s.length+1:=by simp
  rw [Et,W_,w1,hl];constructor
  ·split
   ·have:=(ih n).1; omega
   split
   ·have hw:=rO s;show n≤n+(Rq t (d+1)).1∧n+(Rq t (d+1)).1+(s.length+1)≤_;omega
   have:=(ih (n+(Rq t (d+1)).1)).1; omega
  intro hn
  have hm : -1≤(if (decide (d<3)&&decide (n+1≤40))=true then Zu t (d+1) else -1)∧(if (decide (d<3)&&decide (n+1≤40))=true then Zu t (d+1) else -1)≤b3 t.kids:=by
   by_cases hc:(decide (d<3)&&decide (n+1≤40))=true
   ·rw [bB hc]; exact ht.2
   rw [aQ hc]; omega
  generalize (if (decide (d<3)&&decide (n+1≤40))=true then Zu t (d+1) else -1)=mo at hm ⊢
  by_cases hk:t.kids.length=0
  ·rw [bB hk];have:=(ih (n+1)).2 om; omega
  rw [aQ hk]
  by_cases h0:mo<0
  ·rw [bB h0]; omega
  rw [aQ h0];have:=(ih (n+1+mo)).2 om; omega
theorem bd2:∀ {p:List (List Ts)} (h:∀ s ∈ p,∀ t ∈ s,BdT t) (d n:Int),(n≤(ES p d n).1∧(ES p d n).1≤n+w2 p)∧(0≤n→-1≤Zw p d n∧Zw p d n≤n+w2 p)
 | [],_,d,n=>by rw [ES,Zw,w2]; exact ⟨⟨om,by simp⟩,fun h=>⟨om,om⟩⟩
 | s::p,h,d,n=>by
  have hs:=fun n=>bd1 (h s (cz ..)) d n;have ih:=fun n=>bd2 (fun k hk=>h k (dK _ hk)) d n;rw [ES,Zw,w2];have h1:=(hs (n+s.length)).1;constructor
  ·split
   ·have:=(ih (Et s d (n+s.length)).1).1; omega
   show n≤(Et s d (n+s.length)).1∧(Et s d (n+s.length)).1≤_;omega
  intro hn;have h2:=(hs n).2 hn
  split
  ·omega
  have:=(ih (W_ s d n)).2 om; omega
theorem bd3:∀ {l:List Ph} (h:∀ q ∈ l,∀ s ∈ q.1,∀ t ∈ s,BdT t) (d n:Int),(n≤(LJ l d n).1∧(LJ l d n).1≤n+w3 l)∧(0≤n→-1≤Zv l d n∧Zv l d n≤n+w3 l)
 | [],_,d,n=>by rw [LJ,Zv,w3]; exact ⟨⟨by show n≤n; omega,by show n≤n+((0:Nat):Int); omega⟩,fun h=>⟨om,om⟩⟩
 | (p,js)::l,h,d,n=>by
  have hs:=fun n=>bd2 (p:=p) (h (p,js) (cz ..)) d n;have ih:=fun n=>bd3 (fun k hk=>h k (dK _ hk)) d n;rw [LJ,Zv,w3];have h1:=(hs n).1;show (_∧_≤n+((w2 p+js.length+2+w3 l:Nat):Int))∧(_→_∧_≤n+((w2 p+js.length+2+w3 l:Nat):Int));constructor
  ·split
   ·have:=(ih (ES p d n).1).1; omega
   show n≤(ES p d n).1∧(ES p d n).1≤_;omega
  intro hn;have h2:=(hs n).2 hn
  split
  ·omega
  have:=(ih (Zw p d n)).2 om; omega
theorem bdT:∀ t:Ts,BdT t:=gL.ind fun x l ih d=>by
 have:=bd3 ih d 0;rw [Rq,Zu];show (0≤(LJ l d 0).1∧(LJ l d 0).1≤b3 l)∧(-1≤Zv l d 0∧Zv l d 0≤b3 l);rw [mO];have h2:=this.2 om;omega
def VD (c:Int):Prop:=0≤c∧c≤255
def okB (t:Ts):Prop:=t.All fun y l=>VD y.2.2.1∧∀ q ∈ l,∀ z ∈ q.2,VD z
def QF (l:List Ph):Prop:=∀ q ∈ l,(∀ z ∈ q.2,VD z)∧∀ s ∈ q.1,∀ t ∈ s,okB t
theorem yj {t:Ts} (h:okB t):VD t.lab.2.2.1∧QF t.kids:=by
 obtain ⟨x,l⟩:=t;have h:=gL.all_mk.1 h;exact ⟨h.1.1,fun q hq=>⟨h.1.2 q hq,h.2 q hq⟩⟩
end Go.Proofs.YtdapgmigogpdcaaGreatDoor.Se
