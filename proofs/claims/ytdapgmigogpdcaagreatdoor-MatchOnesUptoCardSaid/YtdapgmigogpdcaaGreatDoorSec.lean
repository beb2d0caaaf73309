/- Selectors: how many tests there are, by the program and by the document. No program in sight. -/
import Derived.Test.YtdapgmigogpdcaaGreatDoorPl
import Derived.Test.YtdapgmigogpdcaaGreatDoorUp
namespace Go.Proofs.YtdapgmigogpdcaaGreatDoor.Se
open Go Go.Eng
set_option linter.unusedVariables false
abbrev Lb:=Int×Bs×Int×Bs×Int×Int
abbrev Ts:=Tst Lb
abbrev Ph:=List (List Ts)×List Int
mutual
def tsT:Ts→Int→Int×Bool
 | .mk _ l,d=>ts3 l d 0
def ts3:List Ph→Int→Int→Int×Bool
 | [],_,n=>(n,decide (n≤40))
 | (p,_)::l,d,n=>if (ts2 p d n).2=true then ts3 l d (ts2 p d n).1 else ((ts2 p d n).1,false)
def ts2:List (List Ts)→Int→Int→Int×Bool
 | [],_,n=>(n,true)
 | s::l,d,n=>if (ts1 s d (n+s.length)).2=true then ts2 l d (ts1 s d (n+s.length)).1 else ((ts1 s d (n+s.length)).1,false)
def ts1:List Ts→Int→Int→Int×Bool
 | [],_,n=>(n,true)
 | t::l,d,n=>if t.kids.length=0 then ts1 l d n else if (!((tsT t (d+1)).2)||(decide (d≥3)||decide (n+(tsT t (d+1)).1>40)))=true then (n+(tsT t (d+1)).1,false) else ts1 l d (n+(tsT t (d+1)).1)
end
mutual
def riT:Ts→Int→Int
 | .mk _ l,d=>ri3 l d 0
def ri3:List Ph→Int→Int→Int
 | [],_,n=>n
 | (p,_)::l,d,n=>if ri2 p d n<0 then -1 else ri3 l d (ri2 p d n)
def ri2:List (List Ts)→Int→Int→Int
 | [],_,n=>n
 | s::l,d,n=>if ri1 s d n<0 then -1 else ri2 l d (ri1 s d n)
def ri1:List Ts→Int→Int→Int
 | [],_,n=>n
 | t::l,d,n=>if t.kids.length=0 then ri1 l d (n+1) else if (if (decide (d<3)&&decide (n+1≤40))=true then riT t (d+1) else -1)<0 then -1 else ri1 l d (n+1+(if (decide (d<3)&&decide (n+1≤40))=true then riT t (d+1) else -1))
end
mutual
def ctT:Ts→Int
 | .mk _ l=>ct3 l
def ct3:List Ph→Int
 | []=>0
 | (p,_)::l=>ct2 p+ct3 l
def ct2:List (List Ts)→Int
 | []=>0
 | s::l=>(s.length+ns1 s)+ct2 l
def ns1:List Ts→Int
 | []=>0
 | t::l=>ctT t+ns1 l
end
mutual
def dpT:Ts→Int→Bool
 | .mk _ l,d=>dp3 l d
def dp3:List Ph→Int→Bool
 | [],_=>true
 | (p,_)::l,d=>dp2 p d&&dp3 l d
def dp2:List (List Ts)→Int→Bool
 | [],_=>true
 | s::l,d=>dp1 s d&&dp2 l d
def dp1:List Ts→Int→Bool
 | [],_=>true
 | t::l,d=>(decide (t.kids.length=0)||(decide (d<3)&&dpT t (d+1)))&&dp1 l d
end
theorem ns1_pos {s:List Ts} (h:∀ t ∈ s,0≤ctT t):0≤ns1 s:=by
 induction s with
 | nil=>rw [ns1]; omega
 | cons t s ih =>
  have:=h t (List.mem_cons_self ..)
  have:=ih fun k hk=>h k (List.mem_cons_of_mem _ hk)
  rw [ns1]; omega
theorem ct2_pos {l:List (List Ts)} (h:∀ s ∈ l,∀ t ∈ s,0≤ctT t):0≤ct2 l:=by
 induction l with
 | nil=>rw [ct2]; omega
 | cons s l ih =>
  have:=ns1_pos (h s (List.mem_cons_self ..))
  have:=ih fun k hk=>h k (List.mem_cons_of_mem _ hk)
  rw [ct2]; omega
theorem ct3_pos {l:List Ph} (h:∀ p ∈ l,∀ s ∈ p.1,∀ t ∈ s,0≤ctT t):0≤ct3 l:=by
 induction l with
 | nil=>rw [ct3]; omega
 | cons p l ih =>
  obtain ⟨p,js⟩:=p
  have:0≤ct2 p:=ct2_pos (h (p,js) (List.mem_cons_self ..))
  have:=ih fun k hk=>h k (List.mem_cons_of_mem _ hk)
  rw [ct3]; omega
theorem ct_pos:∀ t:Ts,0≤ctT t:=Tst.ind fun x l ih=>by rw [ctT]; exact ct3_pos ih
theorem ns1_ge (s:List Ts):0≤ns1 s:=ns1_pos fun t _=>ct_pos t
theorem ct2_ge (l:List (List Ts)):0≤ct2 l:=ct2_pos fun _ _ t _=>ct_pos t
theorem ct3_ge (l:List Ph):0≤ct3 l:=ct3_pos fun _ _ _ _ t _=>ct_pos t
theorem ct_none {t:Ts} (h:t.kids.length=0):ctT t=0:=by
 obtain ⟨x,l⟩:=t
 have:l=[]:=List.eq_nil_of_length_eq_zero h
 subst this
 rw [ctT,ct3]
/-! the program's count -/
def TsL (t:Ts):Prop:=∀ d:Int,(dpT t d=true∧ctT t≤40→tsT t d=(ctT t,true))∧((tsT t d).2=true→dpT t d=true∧(tsT t d).1=ctT t∧ctT t≤40)
theorem ts1_law {s:List Ts} (h:∀ t ∈ s,TsL t):∀ (d n:Int),0≤n→(dp1 s d=true∧n+ns1 s≤40→ts1 s d n=(n+ns1 s,true))∧((ts1 s d n).2=true→dp1 s d=true∧(ts1 s d n).1=n+ns1 s):=by
 induction s with
 | nil=>intro d n _; rw [ts1,ns1,dp1]; exact ⟨fun _=>by rw [Int.add_zero],fun _=>⟨rfl,by simp⟩⟩
 | cons t s ih =>
  intro d n hn
  have ht:=h t (List.mem_cons_self ..) (d+1)
  have ih:=ih (fun k hk=>h k (List.mem_cons_of_mem _ hk)) d
  have hp:=ns1_ge s
  have hc:=ct_pos t
  rw [ts1,ns1,dp1]
  by_cases hk:t.kids.length=0
  ·rw [if_pos hk,ct_none hk,decide_eq_true hk,Bool.true_or,Bool.true_and,Int.zero_add]
   exact ih n hn
  rw [if_neg hk,decide_eq_false hk,Bool.false_or]
  constructor
  ·rintro ⟨h1,h2⟩
   rw [Bool.and_eq_true,Bool.and_eq_true,decide_eq_true_eq] at h1
   have e:=ht.1 ⟨h1.1.2,by omega⟩
   rw [e]
   have:(!true||(decide (d≥3)||decide (n+ctT t>40)))=false:=by
    rw [decide_eq_false om,decide_eq_false om]; rfl
   show (if (!true||(decide (d≥3)||decide (n+ctT t>40)))=true then _ else _)=_
   rw [this,if_neg (by simp),(ih (n+ctT t) om).1 ⟨h1.2,by omega⟩,Int.add_assoc]
  intro h1
  cases hb:(!((tsT t (d+1)).2)||(decide (d≥3)||decide (n+(tsT t (d+1)).1>40)))
  ·rw [hb,if_neg (by simp)] at h1; rw [if_neg (by simp)]
   rw [Bool.or_eq_false_iff,Bool.or_eq_false_iff] at hb
   obtain ⟨a1,a2,a3⟩:=hb
   obtain ⟨b1,b2,b3⟩:=ht.2 (by simpa using a1)
   have:=of_decide_eq_false a2
   obtain ⟨c1,c2⟩:=(ih _ om).2 h1
   rw [b1,c1,decide_eq_true om]
   exact ⟨rfl,by rw [c2,b2,Int.add_assoc]⟩
  rw [hb,if_pos rfl] at h1; cases h1
theorem ts2_law {l:List (List Ts)} (h:∀ s ∈ l,∀ t ∈ s,TsL t):∀ (d n:Int),0≤n→(dp2 l d=true∧n+ct2 l≤40→ts2 l d n=(n+ct2 l,true))∧((ts2 l d n).2=true→dp2 l d=true∧(ts2 l d n).1=n+ct2 l):=by
 induction l with
 | nil=>intro d n _; rw [ts2,ct2,dp2]; exact ⟨fun _=>by rw [Int.add_zero],fun _=>⟨rfl,by simp⟩⟩
 | cons s l ih =>
  intro d n hn
  have hs:=ts1_law (h s (List.mem_cons_self ..)) d (n+s.length) om
  have ih:=ih (fun k hk=>h k (List.mem_cons_of_mem _ hk)) d
  have hp:=ct2_ge l
  have hc:=ns1_ge s
  rw [ts2,ct2,dp2]
  constructor
  ·rintro ⟨h1,h2⟩
   rw [Bool.and_eq_true] at h1
   have e:=hs.1 ⟨h1.1,by omega⟩
   rw [e,if_pos rfl]
   show ts2 l d (n+s.length+ns1 s)=_
   rw [(ih _ om).1 ⟨h1.2,by omega⟩]
   congr 1; omega
  intro h1
  cases hb:(ts1 s d (n+s.length)).2
  ·rw [hb,if_neg (by simp)] at h1; cases h1
  rw [hb,if_pos rfl] at h1; rw [if_pos rfl]
  obtain ⟨b1,b2⟩:=hs.2 hb
  obtain ⟨c1,c2⟩:=(ih _ om).2 h1
  rw [b1,c1]
  exact ⟨rfl,by rw [c2,b2]; omega⟩
theorem ts3_law {l:List Ph} (h:∀ p ∈ l,∀ s ∈ p.1,∀ t ∈ s,TsL t):∀ (d n:Int),0≤n→(dp3 l d=true∧n+ct3 l≤40→ts3 l d n=(n+ct3 l,true))∧((ts3 l d n).2=true→dp3 l d=true∧(ts3 l d n).1=n+ct3 l∧n+ct3 l≤40):=by
 induction l with
 | nil =>
  intro d n hn
  rw [ts3,ct3,dp3,Int.add_zero]
  exact ⟨fun h=>by rw [decide_eq_true h.2],fun h=>⟨rfl,rfl,of_decide_eq_true h⟩⟩
 | cons p l ih =>
  obtain ⟨p,js⟩:=p
  intro d n hn
  have hs:=ts2_law (l:=p) (h (p,js) (List.mem_cons_self ..)) d n hn
  have ih:=ih (fun k hk=>h k (List.mem_cons_of_mem _ hk)) d
  have hp:=ct3_ge l
  have hc:=ct2_ge p
  rw [ts3,ct3,dp3]
  constructor
  ·rintro ⟨h1,h2⟩
   rw [Bool.and_eq_true] at h1
   have e:=hs.1 ⟨h1.1,by omega⟩
   rw [e,if_pos rfl]
   show ts3 l d (n+ct2 p)=_
   rw [(ih _ om).1 ⟨h1.2,by omega⟩]
   congr 1; omega
  intro h1
  cases hb:(ts2 p d n).2
  ·rw [hb,if_neg (by simp)] at h1; cases h1
  rw [hb,if_pos rfl] at h1; rw [if_pos rfl]
  obtain ⟨b1,b2⟩:=hs.2 hb
  obtain ⟨c1,c2,c3⟩:=(ih _ om).2 h1
  rw [b1,c1]
  exact ⟨rfl,by rw [c2,b2]; omega,by omega⟩
theorem ts_law:∀ t:Ts,TsL t:=Tst.ind fun x l ih d=>by
 have:=ts3_law ih d 0 om
 rw [Int.zero_add] at this
 rw [tsT,ctT,dpT]
 exact this
/-! the document's count -/
def RiL (t:Ts):Prop:=∀ d:Int,(dpT t d=true∧ctT t≤40→riT t d=ctT t)∧(0≤riT t d→dpT t d=true∧riT t d=ctT t)
theorem ri1_law {s:List Ts} (h:∀ t ∈ s,RiL t):∀ (d n:Int),0≤n→(dp1 s d=true∧n+(s.length+ns1 s)≤40→ri1 s d n=n+(s.length+ns1 s))∧(0≤ri1 s d n→dp1 s d=true∧ri1 s d n=n+(s.length+ns1 s)):=by
 induction s with
 | nil=>intro d n _; rw [ri1,ns1,dp1]; exact ⟨fun _=>by simp,fun _=>⟨rfl,by simp⟩⟩
 | cons t s ih =>
  intro d n hn
  have ht:=h t (List.mem_cons_self ..) (d+1)
  have ih:=ih (fun k hk=>h k (List.mem_cons_of_mem _ hk)) d
  have hp:=ns1_ge s
  have hc:=ct_pos t
  have hl:((t::s).length:Int)=s.length+1:=by simp
  rw [ri1,ns1,dp1,hl]
  by_cases hk:t.kids.length=0
  ·rw [if_pos hk,ct_none hk,decide_eq_true hk,Bool.true_or,Bool.true_and]
   have:=ih (n+1) om
   have e:n+((s.length:Int)+1+(0+ns1 s))=n+1+((s.length:Int)+ns1 s):=by omega
   rw [e]
   exact this
  rw [if_neg hk,decide_eq_false hk,Bool.false_or]
  constructor
  ·rintro ⟨h1,h2⟩
   rw [Bool.and_eq_true,Bool.and_eq_true,decide_eq_true_eq] at h1
   have hb:(decide (d<3)&&decide (n+1≤40))=true:=by rw [decide_eq_true om,decide_eq_true om]; rfl
   rw [hb,if_pos rfl,ht.1 ⟨h1.1.2,by omega⟩,if_neg om,(ih (n+1+ctT t) om).1 ⟨h1.2,by omega⟩]
   omega
  intro h1
  cases hb:(decide (d<3)&&decide (n+1≤40))
  ·rw [hb] at h1; exact absurd (show (0:Int)≤-1 from h1) dc
  rw [hb,if_pos rfl] at h1; rw [if_pos rfl]
  rw [Bool.and_eq_true,decide_eq_true_eq,decide_eq_true_eq] at hb
  by_cases hm:riT t (d+1)<0
  ·rw [if_pos hm] at h1; omega
  rw [if_neg hm] at h1 ⊢
  obtain ⟨b1,b2⟩:=ht.2 om
  obtain ⟨c1,c2⟩:=(ih _ om).2 h1
  rw [b1,c1,decide_eq_true hb.1]
  exact ⟨rfl,by rw [c2,b2]; omega⟩
theorem ri2_law {l:List (List Ts)} (h:∀ s ∈ l,∀ t ∈ s,RiL t):∀ (d n:Int),0≤n→(dp2 l d=true∧n+ct2 l≤40→ri2 l d n=n+ct2 l)∧(0≤ri2 l d n→dp2 l d=true∧ri2 l d n=n+ct2 l):=by
 induction l with
 | nil=>intro d n _; rw [ri2,ct2,dp2]; exact ⟨fun _=>by simp,fun _=>⟨rfl,by simp⟩⟩
 | cons s l ih =>
  intro d n hn
  have hs:=ri1_law (h s (List.mem_cons_self ..)) d n hn
  have ih:=ih (fun k hk=>h k (List.mem_cons_of_mem _ hk)) d
  have hp:=ct2_ge l
  have hc:=ns1_ge s
  rw [ri2,ct2,dp2]
  constructor
  ·rintro ⟨h1,h2⟩
   rw [Bool.and_eq_true] at h1
   rw [hs.1 ⟨h1.1,by omega⟩,if_neg om,(ih _ om).1 ⟨h1.2,by omega⟩]
   omega
  intro h1
  by_cases hm:ri1 s d n<0
  ·rw [if_pos hm] at h1; omega
  rw [if_neg hm] at h1 ⊢
  obtain ⟨b1,b2⟩:=hs.2 om
  obtain ⟨c1,c2⟩:=(ih _ om).2 h1
  rw [b1,c1]
  exact ⟨rfl,by rw [c2,b2]; omega⟩
theorem ri3_law {l:List Ph} (h:∀ p ∈ l,∀ s ∈ p.1,∀ t ∈ s,RiL t):∀ (d n:Int),0≤n→(dp3 l d=true∧n+ct3 l≤40→ri3 l d n=n+ct3 l)∧(0≤ri3 l d n→dp3 l d=true∧ri3 l d n=n+ct3 l):=by
 induction l with
 | nil=>intro d n _; rw [ri3,ct3,dp3]; exact ⟨fun _=>by simp,fun _=>⟨rfl,by simp⟩⟩
 | cons p l ih =>
  obtain ⟨p,js⟩:=p
  intro d n hn
  have hs:=ri2_law (l:=p) (h (p,js) (List.mem_cons_self ..)) d n hn
  have ih:=ih (fun k hk=>h k (List.mem_cons_of_mem _ hk)) d
  have hp:=ct3_ge l
  have hc:=ct2_ge p
  rw [ri3,ct3,dp3]
  constructor
  ·rintro ⟨h1,h2⟩
   rw [Bool.and_eq_true] at h1
   rw [hs.1 ⟨h1.1,by omega⟩,if_neg om,(ih _ om).1 ⟨h1.2,by omega⟩]
   omega
  intro h1
  by_cases hm:ri2 p d n<0
  ·rw [if_pos hm] at h1; omega
  rw [if_neg hm] at h1 ⊢
  obtain ⟨b1,b2⟩:=hs.2 om
  obtain ⟨c1,c2⟩:=(ih _ om).2 h1
  rw [b1,c1]
  exact ⟨rfl,by rw [c2,b2]; omega⟩
theorem ri_law:∀ t:Ts,RiL t:=Tst.ind fun x l ih d=>by
 have:=ri3_law ih d 0 om
 rw [Int.zero_add] at this
 rw [riT,ctT,dpT]
 exact this
/-- both say alike that there are too many -/
theorem many_alike (l:List Ph):(ts3 l 0 0).2=true↔0≤ri3 l 0 0∧ri3 l 0 0≤40:=by
 have a:=ts3_law (l:=l) (fun _ _ _ _ t _=>ts_law t) 0 0 om
 have b:=ri3_law (l:=l) (fun _ _ _ _ t _=>ri_law t) 0 0 om
 rw [Int.zero_add] at a b
 constructor
 ·intro h
  obtain ⟨h1,h2,h3⟩:=a.2 h
  have hc:=ct3_ge l
  rw [b.1 ⟨h1,h3⟩]
  exact ⟨hc,h3⟩
 rintro ⟨h1,h2⟩
 obtain ⟨c1,c2⟩:=b.2 h1
 rw [a.1 ⟨c1,by omega⟩]
end Go.Proofs.YtdapgmigogpdcaaGreatDoor.Se
namespace Go.Proofs.YtdapgmigogpdcaaGreatDoor.Se
open Go Go.Eng
def bT (t:Ts):Nat:=bulkT (.tst (.pair (.int .i64) (.pair (.str) (.pair (.int .u8) (.pair (.str) (.pair (.int .i64) (.int .i64))))))) t
def b3 (l:List Ph):Nat:=bulkT (.slice (.pair (.slice (.slice (.tst (.pair (.int .i64) (.pair (.str) (.pair (.int .u8) (.pair (.str) (.pair (.int .i64) (.int .i64))))))))) (.slice (.int .u8)))) l
def w1:List Ts→Nat
 | []=>0
 | t::s=>bT t+w1 s
def w2:List (List Ts)→Nat
 | []=>0
 | s::p=>w1 s+1+w2 p
def w3:List Ph→Nat
 | []=>0
 | q::l=>w2 q.1+q.2.length+2+w3 l
theorem w1_eq:∀ s:List Ts,(s.map bT).sum=w1 s
 | []=>rfl
 | t::s=>by rw [List.map_cons,List.sum_cons,w1_eq s,w1]
theorem w2_eq:∀ p:List (List Ts),(p.map fun s=>(s.map bT).sum+1).sum=w2 p
 | []=>rfl
 | s::p=>by rw [List.map_cons,List.sum_cons,w2_eq p,w2,w1_eq]
theorem w3_eq:∀ l:List Ph,(l.map fun q=>((q.1.map fun s=>(s.map bT).sum+1).sum+1)+((q.2.map fun _=>1).sum+1)).sum=w3 l
 | []=>rfl
 | q::l=>by
  have e:(q.2.map fun _=>1).sum=q.2.length:=by rw [List.map_const']; simp
  rw [List.map_cons,List.sum_cons,w3_eq l,w3,w2_eq,e]; omega
theorem b3_eq (l:List Ph):b3 l=w3 l+1:=by
 show (l.map fun q=>((q.1.map fun s=>(s.map bT).sum+1).sum+1)+((q.2.map fun _=>1).sum+1)).sum+1=_
 rw [w3_eq]
theorem bT_mk (x:Lb) (l:List Ph):bT (.mk x l)=6+x.2.1.length+x.2.2.2.1.length+b3 l:=by
 rw [b3_eq,← w3_eq]
 show Tst.sum _ (Tst.mk x l)=_
 rw [Tst.sum,Tst.sum3_eq]
 show 1+((x.2.1.length+1)+(1+((x.2.2.2.1.length+1)+(1+1))))+((l.map fun q=>((q.1.map fun s=>(s.map bT).sum+1).sum+1)+((q.2.map fun _=>1).sum+1)).sum+1)=_
 omega
theorem bT_kids (t:Ts):b3 t.kids+6+t.lab.2.1.length+t.lab.2.2.2.1.length=bT t:=by
 obtain ⟨x,l⟩:=t
 rw [bT_mk]
 show b3 l+6+x.2.1.length+x.2.2.2.1.length=_
 omega
theorem w1_len:∀ s:List Ts,6 * s.length≤w1 s
 | []=>Nat.zero_le _
 | t::s=>by
  have:=w1_len s
  have:=bT_kids t
  rw [w1,List.length_cons]; omega
theorem w2_len:∀ p:List (List Ts),p.length≤w2 p
 | []=>Nat.zero_le _
 | s::p=>by
  have:=w2_len p
  rw [w2,List.length_cons]; omega
theorem w3_len:∀ l:List Ph,2 * l.length≤w3 l
 | []=>Nat.zero_le _
 | q::l=>by
  have:=w3_len l
  rw [w3,List.length_cons]; omega
theorem w1_in {t:Ts}:∀ {s:List Ts},t ∈ s→bT t≤w1 s
 | y::s,h=>by
  rw [w1]
  rcases List.mem_cons.1 h with rfl | h
  ·omega
  have:=w1_in h; omega
theorem w2_in {s:List Ts}:∀ {p:List (List Ts)},s ∈ p→w1 s+1≤w2 p
 | y::p,h=>by
  rw [w2]
  rcases List.mem_cons.1 h with rfl | h
  ·omega
  have:=w2_in h; omega
theorem w3_in {q:Ph}:∀ {l:List Ph},q ∈ l→w2 q.1+q.2.length+2≤w3 l
 | y::l,h=>by
  rw [w3]
  rcases List.mem_cons.1 h with rfl | h
  ·omega
  have:=w3_in h; omega
theorem get_in {α:Type} {l:List α} {i:Nat} (d:α) (h:i<l.length):l.getD i d ∈ l:=by
 rw [List.getD_eq_getElem?_getD,List.getElem?_eq_getElem h]
 exact List.getElem_mem h
theorem tsT_eq (t:Ts) (d:Int):tsT t d=ts3 t.kids d 0:=by obtain ⟨x,l⟩:=t; rw [tsT]; rfl
theorem riT_eq (t:Ts) (d:Int):riT t d=ri3 t.kids d 0:=by obtain ⟨x,l⟩:=t; rw [riT]; rfl
/-! the counts are no more than what is handed in -/
def BdT (t:Ts):Prop:=∀ d,(0≤(tsT t d).1∧(tsT t d).1≤b3 t.kids)∧(-1≤riT t d∧riT t d≤b3 t.kids)
theorem bd1:∀ {s:List Ts} (h:∀ t ∈ s,BdT t) (d n:Int),(n≤(ts1 s d n).1∧(ts1 s d n).1+s.length≤n+w1 s)∧(0≤n→-1≤ri1 s d n∧ri1 s d n≤n+w1 s)
 | [],_,d,n=>by rw [ts1,ri1,w1]; exact ⟨⟨by omega,by simp⟩,fun h=>⟨by omega,by omega⟩⟩
 | t::s,h,d,n=>by
  have ht:=h t (List.mem_cons_self ..) (d+1)
  have ih:=fun n=>bd1 (fun k hk=>h k (List.mem_cons_of_mem _ hk)) d n
  have hb:=bT_kids t
  have hl:((t::s).length:Int)=s.length+1:=by simp
  rw [ts1,ri1,w1,hl]
  constructor
  ·split
   ·have:=(ih n).1; omega
   split
   ·have hw:=w1_len s
    show n≤n+(tsT t (d+1)).1∧n+(tsT t (d+1)).1+(s.length+1)≤_
    omega
   have:=(ih (n+(tsT t (d+1)).1)).1; omega
  intro hn
  have hm : -1≤(if (decide (d<3)&&decide (n+1≤40))=true then riT t (d+1) else -1)∧(if (decide (d<3)&&decide (n+1≤40))=true then riT t (d+1) else -1)≤b3 t.kids:=by
   by_cases hc:(decide (d<3)&&decide (n+1≤40))=true
   ·rw [if_pos hc]; exact ht.2
   rw [if_neg hc]; omega
  generalize (if (decide (d<3)&&decide (n+1≤40))=true then riT t (d+1) else -1)=mo at hm ⊢
  by_cases hk:t.kids.length=0
  ·rw [if_pos hk]
   have:=(ih (n+1)).2 om; omega
  rw [if_neg hk]
  by_cases h0:mo<0
  ·rw [if_pos h0]; omega
  rw [if_neg h0]
  have:=(ih (n+1+mo)).2 om; omega
theorem bd2:∀ {p:List (List Ts)} (h:∀ s ∈ p,∀ t ∈ s,BdT t) (d n:Int),(n≤(ts2 p d n).1∧(ts2 p d n).1≤n+w2 p)∧(0≤n→-1≤ri2 p d n∧ri2 p d n≤n+w2 p)
 | [],_,d,n=>by rw [ts2,ri2,w2]; exact ⟨⟨by omega,by simp⟩,fun h=>⟨by omega,by omega⟩⟩
 | s::p,h,d,n=>by
  have hs:=fun n=>bd1 (h s (List.mem_cons_self ..)) d n
  have ih:=fun n=>bd2 (fun k hk=>h k (List.mem_cons_of_mem _ hk)) d n
  rw [ts2,ri2,w2]
  have h1:=(hs (n+s.length)).1
  constructor
  ·split
   ·have:=(ih (ts1 s d (n+s.length)).1).1; omega
   show n≤(ts1 s d (n+s.length)).1∧(ts1 s d (n+s.length)).1≤_
   omega
  intro hn
  have h2:=(hs n).2 hn
  split
  ·omega
  have:=(ih (ri1 s d n)).2 om; omega
theorem bd3:∀ {l:List Ph} (h:∀ q ∈ l,∀ s ∈ q.1,∀ t ∈ s,BdT t) (d n:Int),(n≤(ts3 l d n).1∧(ts3 l d n).1≤n+w3 l)∧(0≤n→-1≤ri3 l d n∧ri3 l d n≤n+w3 l)
 | [],_,d,n=>by rw [ts3,ri3,w3]; exact ⟨⟨by show n≤n; omega,by show n≤n+((0:Nat):Int); omega⟩,fun h=>⟨by omega,by omega⟩⟩
 | (p,js)::l,h,d,n=>by
  have hs:=fun n=>bd2 (p:=p) (h (p,js) (List.mem_cons_self ..)) d n
  have ih:=fun n=>bd3 (fun k hk=>h k (List.mem_cons_of_mem _ hk)) d n
  rw [ts3,ri3,w3]
  have h1:=(hs n).1
  show (_∧_≤n+((w2 p+js.length+2+w3 l:Nat):Int))∧(_→_∧_≤n+((w2 p+js.length+2+w3 l:Nat):Int))
  constructor
  ·split
   ·have:=(ih (ts2 p d n).1).1; omega
   show n≤(ts2 p d n).1∧(ts2 p d n).1≤_
   omega
  intro hn
  have h2:=(hs n).2 hn
  split
  ·omega
  have:=(ih (ri2 p d n)).2 om; omega
theorem bdT:∀ t:Ts,BdT t:=Tst.ind fun x l ih d=>by
 have:=bd3 ih d 0
 rw [tsT,riT]
 show (0≤(ts3 l d 0).1∧(ts3 l d 0).1≤b3 l)∧(-1≤ri3 l d 0∧ri3 l d 0≤b3 l)
 rw [b3_eq]
 have h2:=this.2 om
 omega
/-! bytes -/
def btN (c:Int):Prop:=0≤c∧c≤255
def okB (t:Ts):Prop:=t.All fun y l=>btN y.2.2.1∧∀ q ∈ l,∀ z ∈ q.2,btN z
def okB3 (l:List Ph):Prop:=∀ q ∈ l,(∀ z ∈ q.2,btN z)∧∀ s ∈ q.1,∀ t ∈ s,okB t
theorem okB_kids {t:Ts} (h:okB t):btN t.lab.2.2.1∧okB3 t.kids:=by
 obtain ⟨x,l⟩:=t
 have h:=Tst.all_mk.1 h
 exact ⟨h.1.1,fun q hq=>⟨h.1.2 q hq,h.2 q hq⟩⟩
end Go.Proofs.YtdapgmigogpdcaaGreatDoor.Se
