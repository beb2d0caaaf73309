/- match: nodes by themselves. -/
import Derived.Test.YtdapgmigogpdcaaGreatDoorDob
import Derived.Test.YtdapgmigogpdcaaGreatDoorRnd
import Derived.Test.YtdapgmigogpdcaaGreatDoorTnl
import Derived.Test.YtdapgmigogpdcaaGreatDoorSeh
namespace Go.Proofs.YtdapgmigogpdcaaGreatDoor.Ma
open _root_.Go.Proofs.Tryz Go Go.iQ Go.RowKit Ti Do Se
set_option linter.unusedVariables false
set_option linter.unusedSimpArgs false
set_option maxHeartbeats 4000000
set_option maxRecDepth 100000
noncomputable section
def Ends (l:List ND):Nat→Int→Prop
 | 0,n=>n<0
 | k+1,n=>n<0∨n<(l.length:Int)∧Ends l k (par l n.toNat)
theorem Ends.mono {l:List ND}:∀ {k k':Nat} {n:Int},Ends l k n→k≤k'→Ends l k' n
 | 0,0,_,h,_=>h
 | 0,_+1,_,h,_=>.inl h
 | _+1,0,_,_,h=>by omega
 | k+1,k'+1,n,h,hk=>by
  rcases h with h | ⟨h1,h2⟩
  ·exact .inl h
  exact .inr ⟨h1,h2.mono om⟩
theorem OP {l:List ND} {k:Nat} {n:Int} (h:Ends l (k+1) n) (h0:0≤n):Ends l k (par l n.toNat):=by
 rcases h with h | h
 ·omega
 exact h.2
theorem Uj (l:List ND):∀ (k:Nat) (n m:Int),m≤zC l k n m
 | 0,_,_=>ll _
 | k+1,n,m=>by
  rw [zC]
  split
  ·have:=Uj l k (par l n.toNat) (m+1); omega
  exact ll _
theorem Kv {l:List ND} (hk:pJ l):∀ (k:Nat) (n m:Int),0≤n→n<(l.length:Int)→0≤m→zC l k n m≤(l.length:Int)→(l.length:Int)+2≤m+k→Ends l (Int.toNat (zC l k n m - m)+1) n
 | 0,n,m,h0,h1,h2,h3,h4=>by rw [zC] at h3; omega
 | k+1,n,m,h0,h1,h2,h3,h4=>by
  rw [zC] at h3 ⊢
  split
  ·rename_i hc
   rw [aT hc] at h3
   rw [aG,dH,dH] at hc
   have hg:=Uj l k (par l n.toNat) (m+1)
   have ih:=Kv hk k (par l n.toNat) (m+1) hc.1 (QO hk h0 h1 hc.1) om h3 om
   refine .inr ⟨h1,?_⟩
   rw [show Int.toNat (zC l k (par l n.toNat) (m+1) - m)=Int.toNat (zC l k (par l n.toNat) (m+1) - (m+1))+1 by omega]
   exact ih
  rename_i hc
  rw [aQ hc] at h3
  have hp:par l n.toNat<0:=by
   apply oh
   intro hn
   exact hc (by rw [aG,dH,dH]; exact ⟨om,h3⟩)
  refine .inr ⟨h1,?_⟩
  rw [show Int.toNat (m - m)=0 by omega]
  exact hp
theorem OQ {d:DC} (h:gP d) {n:Nat} (hn:n<d.1.length):Ends d.1 41 n:=by
 have h1:=h.deep n hn
 have h2:=h.ends n hn
 unfold rA at h1 h2
 exact (Kv h.kids (d.1.length+2) n 0 om om om h2 om).mono om
structure vM (l0:List Int) (f:Int→Bool) (i j:Nat) (own:List Int):Prop where
 len:own.length=l0.length
 ij:i≤j
 jl:j≤l0.length
 pre:own.take i=(l0.take j).filter f
 post:own.drop j=l0.drop j
theorem vM.get {l0:List Int} {f:Int→Bool} {i j:Nat} {own:List Int} (h:vM l0 f i j own):own.getD j default=l0.getD j default:=by
 have h1:own[j]? = (own.drop j)[0]?:=by rw [D_,nz]
 have h2:l0[j]? = (l0.drop j)[0]?:=by rw [D_,nz]
 rw [gN,gN,h1,h2,h.post]
theorem yB {a b:List Int} {j:Nat} (h:a.drop j=b.drop j):a.drop (j+1)=b.drop (j+1):=by
 rw [← xg,← xg,h]
theorem vM.skip {l0:List Int} {f:Int→Bool} {i j:Nat} {own:List Int} (h:vM l0 f i j own) (hj:j<l0.length) (hf:f (l0.getD j default)=false):vM l0 f i (j+1) own:=by
 refine ⟨h.len,by have:=h.ij; omega,om,?_,yB h.post⟩
 rw [h.pre,iA default hj,zQ,List.filter_cons_of_neg (by rw [hf]; simp),uP,gK]
theorem vM.keep {l0:List Int} {f:Int→Bool} {i j:Nat} {own:List Int} (h:vM l0 f i j own) (hj:j<l0.length) (hf:f (l0.getD j default)=true):vM l0 f (i+1) (j+1) (own.set i (own.getD j default)):=by
 have hij:=h.ij
 have hl:=h.len
 refine ⟨by rw [kK]; exact hl,om,om,?_,?_⟩
 ·rw [h.get,iA default hj,zQ,List.filter_cons_of_pos hf,uP,← h.pre]
  rw [List.set_eq_take_append_cons_drop,bn om]
  rw [List.take_append,gz,og om,w9,show i+1 - i=1 by omega]
  simp
 rw [List.drop_set,bn om]
 exact yB h.post
theorem vM.start {l0:List Int} {f:Int→Bool} {i:Nat} (hi:i<l0.length) (ha:(l0.take i).filter f=l0.take i) (hf:f (l0.getD i default)=false):vM l0 f i (i+1) l0:=by
 refine ⟨rfl,om,om,?_,rfl⟩
 rw [iA default hi,zQ,ha,List.filter_cons_of_neg (by rw [hf]; simp),uP,gK]
theorem vM.fin {l0:List Int} {f:Int→Bool} {i:Nat} {own:List Int} (h:vM l0 f i l0.length own):(BA own i (0:Int)).take i=l0.filter f:=by
 have hij:=h.ij
 have hl:=h.len
 unfold BA
 rw [List.take_append_of_le_length (by rw [gz]; omega),w9,Nat.min_self,h.pre,iV]
theorem KJ {l:List Int} {f:Int→Bool} {i:Nat} (hi:i<l.length) (ha:(l.take i).filter f=l.take i) (hf:f (l.getD i default)=true):(l.take (i+1)).filter f=l.take (i+1):=by
 rw [iA default hi,zQ,ha,List.filter_cons_of_pos hf,uP]
theorem CS:∀ (L:Nat) (l:List Int),l.Nodup→(∀ x ∈ l,0≤x∧x<(L:Int))→l.length≤L
 | 0,l,_,h=>by
  cases l with
  | nil=>exact fK _
  | cons x l=>have:=h x (cO ..); omega
 | L+1,l,hn,h=>by
  have ih:=CS L (l.erase (L:Int)) (hn.erase _) (fun x hx=>by
   have h1:=(hn.mem_erase_iff).1 hx
   have h2:=h x h1.2
   have h3:=h1.1
   omega)
  rw [List.length_erase] at ih
  split at ih <;> omega
def nC (d:DC) (n:Int):Prop:=0≤n∧n<(d.1.length:Int)
theorem um {d:DC} (h:gP d) {i:Nat} (hi:i<d.1.length):(eY d.1 i).length≤200:=by
 have:=CS d.1.length (eY d.1 i) (h.kids.nodup i hi) (fun x hx=>⟨(h.kids.kid i hi x hx).1,(h.kids.kid i hi x hx).2.1⟩)
 have:=h.few
 omega
def LU (d:DC) (n:Int):Prop:=0≤n∧n.toNat<d.1.length
def ahp (xd:Dc) (xn:Int) (K:Bool→Prop):Prop :=
 0≤xn∧xn.toNat<xd.1.length∧K ((xd.1.getD xn.toNat default).1==2)
theorem aaQ {g:ak} {j0:Option Addr} {x0:Nat} (xd:Dc) (xn:Int) (y0:bG g qh [.slice j0 xd.1.length x0] xd.1) (K:Bool→Prop)
  (hF:ahp xd xn K):az prog 69 #[.agg (aD xd j0 x0),iv xn] g [] (fun g' H' v=>∃ (r0:Bool),v=.bool r0∧H'=[]∧K r0):=by
 refine aP 12 func69 rfl fun w0=>?_
 refine ae (ai (di fun eO=>?_))
 refine av 1 [(1,iv xn),(2,pv eO 0)] kr (aa (ae (aj 3 [.e 0] [] [(6,.slice j0 xd.1.length x0),(7,iv xn)] ?_)))
 obtain ⟨Eu,Et,hF⟩:=hF
 have yu:=aV (l:=xd.1) default Et
 generalize hg3:(xd.1.getD xn.toNat default)=e3 at yu hF ⊢
 refine ai (af.bf (e:=yN) rfl rfl underlying22 kr y0 Eu yu rfl fun q2 o2 cs2 _ V1 hr2=>?_)
 obtain ⟨u2,j2,H0,M0,rfl,E1,Q1⟩:=oN hr2
 refine aj 4 [.a 0 V1] [] [(4,.bool (e3.1==2))] ?_
 refine aa (Ok.ret ?_)
 exact dD (e3.1==2) hF
def eP (d:DC) (n:Int):Bool:=((d.1.getD n.toNat default).1==2)
theorem aho (d:DC) (n:Int) (hp:LU d n):ahp d n (fun r=>r=eP d n):=⟨hp.1,hp.2,rfl⟩
theorem JN {g:ak} {j0:Option Addr} {x0:Nat} (xd:Dc) (xn:Int) (y0:bG g qh [.slice j0 xd.1.length x0] xd.1)  (hp:LU xd xn):bE prog 69 #[.agg (aD xd j0 x0),iv xn] g (.bool (eP xd xn)) :=
 (aaQ xd xn y0 _ (aho xd xn hp)).gv
def SV (K:(List Int)→Prop) (R0:List Int) (a1:Bool):Prop :=
 (a1=true→K ([]:List Int))∧(a1=false→(([]:List Int)++R0).length≤17592186044416∧K (([]:List Int)++R0))
def ahS (xs:List Int) (K:(List Int)→Prop):Prop :=
 (xs=[]→SV K xs true)∧(SV K xs false)
theorem aa4 {g:ak} {axs_0:Option Addr} {cxs_0:Nat} (xs:List Int) (L0:bG g (.slice (.int .i64)) [.slice axs_0 xs.length cxs_0] xs) (K:(List Int)→Prop)
  (hF:ahS xs K):az prog 158 #[.slice axs_0 xs.length cxs_0] g [] (fun g' H' v=>∃ (r0:List Int),∃ (Ap:Option Addr) (Ao:Nat) (E0:List Value),v=.slice Ap r0.length Ao∧aW g' (.int .i64) E0 r0∧H'=[.own (.slice Ap r0.length Ao) 3 1 r0.length E0]∧K r0):=by
 refine aP 8 func158 rfl fun w0=>?_
 refine ae (av 1 [(0,.slice axs_0 xs.length cxs_0)] kr (aa (aH (Ok.cut (fun a W=>∃ gj4:ak,aY w0 g gj4∧∃ (m1:Option Addr) (n1:Nat) (R0:List Int) (a1:Bool),bG gj4 (.slice (.int .i64)) [.slice m1 R0.length n1] R0∧fJ 8 [(0,.slice m1 R0.length n1),(4,.bool a1)] a∧dh w0 [] gj4 W∧SV K R0 a1) ?_ ?_))))
 ·
  refine aS (ag 1 [0] [(3,.slice axs_0 xs.length cxs_0)] ?_)
  rcases RI axs_0 with rfl | ⟨ad5,rfl⟩
  ·have hz5:=IL L0
   replace hF:=hF.1 hz5
   refine ai (af.s (v:=.bool true) (uX rfl rfl underlying46 kr rfl) rfl rfl (bY (Ok.t ?_)))
   exact fun _ _ u v=>⟨g,bq w0 g,none,cxs_0,xs,true,L0,fA u v hF⟩
  replace hF:=hF.2
  refine ai (af.s (v:=.bool false) (uX rfl rfl underlying46 kr rfl) rfl rfl (bY (Ok.t ?_)))
  exact fun _ _ u v=>⟨g,bq w0 g,some ad5,cxs_0,xs,false,L0,fA u v hF⟩
 clear hF
 rintro _ _ ⟨gj4,x2,m1,n1,R0,a1,aca,q⟩
 refine jn (fun hF=>?_) _ _ q
 refine aM hF (fun hc1 hF=>?_) (fun hc1 hF=>?_)
 ·refine ae (av 1 [(2,.slice none 0 0)] kr ?_)
  have hL2:aW gj4 (.int .i64) [] []:=rfl
  refine fO 3 1 (aa (Ok.ret (aC ?_)))
  exact qd (.slice none ([]:List Int).length 0) x2 ⟨([]:List Int),none,0,[],rfl,hL2,rfl,hF⟩
 refine Ok.k (Ok.t (aH (aS ?_)))
 have hL3:aW gj4 (.int .i64) ([]:List Value) ([]:List Int):=rfl
 refine ai (gG hL3 fun b3=>?_)
 refine av 1 [(5,.slice (some ⟨b3,0,none⟩) ([]:List Int).length 0),(6,.slice m1 R0.length n1)] kr ?_
 obtain ⟨hb4,hF⟩:=hF
 refine ai (wy (e:=.int .i64) 8 17592186044416 0 rfl rfl rfl hL3 aca underlying46 kr kr kr hb4 rfl fun a4 c4 xs4 hL4=>?_)
 let A:=([]:List Int)++R0
 refine av 1 [(2,.slice a4 A.length c4)] kr (aa (Ok.ret ?_))
 exact qd (.slice a4 A.length c4) x2 ⟨A,a4,c4,xs4,rfl,hL4,rfl,hF⟩
def jM (l:List Int):List Int:=l
def WO (l:List Int):Prop:=l.length≤100000
theorem ahR (l:List Int) (hp:WO l):ahS l (fun r=>r=jM l):=by
 unfold WO at hp
 refine ⟨fun h=>⟨fun _=>by rw [h]; rfl,(fun h=>by cases h)⟩,⟨(fun h=>by cases h),fun _=>⟨by rw [jS]; omega,by rw [jS]; rfl⟩⟩⟩
theorem ahQ {g:ak} {axs_0:Option Addr} {cxs_0:Nat} (xs:List Int) (L0:bG g (.slice (.int .i64)) [.slice axs_0 xs.length cxs_0] xs)  (hp:WO xs):az prog 158 #[.slice axs_0 xs.length cxs_0] g [] (fun g' H' v=>∃ (Ap:Option Addr) (Ao:Nat) (E0:List Value),v=.slice Ap (jM xs).length Ao∧aW g' (.int .i64) E0 (jM xs)∧H'=[.own (.slice Ap (jM xs).length Ao) 3 1 (jM xs).length E0]) :=
 (aa4 xs L0 _ (ahR xs hp)).mono (by rintro g' H' v _ ⟨r0,Ap,Ao,E0,rfl,G1,rfl,hK⟩; subst hK; exact ⟨Ap,Ao,E0,rfl,G1,rfl⟩)
def dY (d:DC) (n:Int):List Int:=if decide (par d.1 n.toNat<0)=true then [n] else (eY d.1 (par d.1 n.toNat).toNat).filter (eP d)
def cu (d:DC) (n:Int):List Int×Int:=(dY d n,if decide (par d.1 n.toNat<0)=true then 0 else jW (fun x=>n==x) (dY d n) 0)
def Dm (d:DC) (n:Int):Prop:=gP d∧nC d n
theorem CL {d:DC} (h:gP d) {n:Int} (hn:nC d n) (hp:¬ par d.1 n.toNat<0):nC d (par d.1 n.toNat):=⟨om,QO h.kids hn.1 hn.2 om⟩
def rW (xd:Dc) (z0:Int) (v0:Int) (ax:List Int):Int :=
 (if (!(!(eP xd (ax.getD v0.toNat default))))=true then w6 (z0+1) else z0)
def kY (xd:Dc) (z0:Int) (v0:Int) (ax:List Int):List Int :=
 (if (!(!(eP xd (ax.getD v0.toNat default))))=true then (ax.set z0.toNat (ax.getD v0.toNat default)) else ax)
def LX (K:(List Int)→Int→Prop) (bg:List Int) (C0:Int):Prop :=
 K bg C0
def SG (xn:Int) (K:(List Int)→Int→Prop) (bg:List Int) (s0:Int) (Eg:Int→Prop):Prop :=
 ((decide (s0<(bg.length:Int)))=true→0≤s0∧s0.toNat<bg.length∧((xn==bg.getD s0.toNat default)=true→LX K bg s0)∧((xn==bg.getD s0.toNat default)=false→Eg (w6 (s0+1))))∧((decide (s0<(bg.length:Int)))=false→LX K bg (-1))
def Bh (xn:Int) (K:(List Int)→Int→Prop) (bg:List Int):Nat→Int→Prop
 | 0,_=>False
 | k+1,s0=>SG xn K bg s0 (Bh xn K bg k)
def G_ (xn:Int) (K:(List Int)→Int→Prop) (bg:List Int):Prop :=
 ∃ k,Bh xn K bg k 0
def rf (xd:Dc) (z0:Int) (v0:Int) (ax:List Int) (Pm:Int→Int→List Int→Prop):Prop :=
 Pm (rW xd z0 v0 ax) (w6 (v0+1)) (kY xd z0 v0 ax)
def PZ (xd:Dc) (xn:Int) (K:(List Int)→Int→Prop) (z0:Int) (v0:Int) (ax:List Int) (Pm:Int→Int→List Int→Prop):Prop :=
 ((decide (v0<(ax.length:Int)))=true→0≤v0∧v0.toNat<ax.length∧LU xd (ax.getD v0.toNat default)∧((!(!(eP xd (ax.getD v0.toNat default))))=true→0≤z0∧z0.toNat<ax.length∧rf xd z0 v0 ax Pm)∧((!(!(eP xd (ax.getD v0.toNat default))))=false→rf xd z0 v0 ax Pm))∧((decide (v0<(ax.length:Int)))=false→0≤z0∧(z0:Int)≤(ax.length:Int)∧(ax.length:Int)≤(ax.length:Int)∧z0.toNat≤Int.toNat (ax.length:Int)∧0≤z0∧z0≤((BA ax z0.toNat (0:Int)).length:Int)∧G_ xn K ((BA ax z0.toNat (0:Int)).take z0.toNat))
def uk (xd:Dc) (xn:Int) (K:(List Int)→Int→Prop):Nat→Int→Int→List Int→Prop
 | 0,_,_,_=>False
 | k+1,z0,v0,ax=>PZ xd xn K z0 v0 ax (uk xd xn K k)
def Dk (xd:Dc) (xn:Int) (K:(List Int)→Int→Prop) (e7:Nd) (n0:Int):Prop :=
 ((n0==(-1))=true→G_ xn K (jM e7.2.2.2.2.2))∧((n0==(-1))=false→∃ k,uk xd xn K k n0 (w6 (n0+1)) (jM e7.2.2.2.2.2))
def Dj (xd:Dc) (xn:Int) (K:(List Int)→Int→Prop) (e7:Nd) (k0:Int) (aqB:Int→Prop):Prop :=
 ((decide (k0<((jM e7.2.2.2.2.2).length:Int)))=true→0≤k0∧k0.toNat<(jM e7.2.2.2.2.2).length∧LU xd ((jM e7.2.2.2.2.2).getD k0.toNat default)∧((!(eP xd ((jM e7.2.2.2.2.2).getD k0.toNat default)))=true→Dk xd xn K e7 k0)∧((!(eP xd ((jM e7.2.2.2.2.2).getD k0.toNat default)))=false→aqB (w6 (k0+1))))∧((decide (k0<((jM e7.2.2.2.2.2).length:Int)))=false→Dk xd xn K e7 (-1))
def vk (xd:Dc) (xn:Int) (K:(List Int)→Int→Prop) (e7:Nd):Nat→Int→Prop
 | 0,_=>False
 | k+1,k0=>Dj xd xn K e7 k0 (vk xd xn K e7 k)
def ahJ (xd:Dc) (xn:Int) (K:(List Int)→Int→Prop):Prop :=
 0≤xn∧xn.toNat<xd.1.length∧((decide ((xd.1.getD xn.toNat default).2.2.2.2.1<0))=true→K ([xn]:List Int) 0)∧((decide ((xd.1.getD xn.toNat default).2.2.2.2.1<0))=false→0≤(xd.1.getD xn.toNat default).2.2.2.2.1∧Int.toNat (xd.1.getD xn.toNat default).2.2.2.2.1<xd.1.length∧WO (xd.1.getD (Int.toNat (xd.1.getD xn.toNat default).2.2.2.2.1) default).2.2.2.2.2∧∃ k,vk xd xn K (xd.1.getD (Int.toNat (xd.1.getD xn.toNat default).2.2.2.2.1) default) k 0)
theorem aaW {g:ak} {j0:Option Addr} {x0:Nat} (xd:Dc) (xn:Int) (y0:bG g qh [.slice j0 xd.1.length x0] xd.1) (K:(List Int)→Int→Prop)
  (hF:ahJ xd xn K):az prog 116 #[.agg (aD xd j0 x0),iv xn] g [] (fun g' H' v=>∃ (r0:List Int),∃ (r1:Int),∃ (Ap:Option Addr) (Ao:Nat) (E0:List Value),v=.tuple #[.slice Ap r0.length Ao,iv r1]∧aW g' (.int .i64) E0 r0∧H'=[.own (.slice Ap r0.length Ao) 3 1 r0.length E0]∧K r0 r1):=by
 refine aP 31 func116 rfl fun w0=>?_
 refine ae (ai (di fun eO=>?_))
 refine av 2 [(1,iv xn),(2,pv eO 0)] kr (aa (ae (aj 3 [.e 0] [1,2] [(9,.slice j0 xd.1.length x0),(10,iv xn)] ?_)))
 obtain ⟨Eu,Et,hF⟩:=hF
 have yu:=aV (l:=xd.1) default Et
 generalize hg3:(xd.1.getD xn.toNat default)=e3 at yu hF ⊢
 refine ai (af.bf (e:=yN) rfl rfl underlying22 kr y0 Eu yu rfl fun q2 o2 cs2 _ V1 hr2=>?_)
 obtain ⟨u2,j2,H0,M0,rfl,E1,Q1⟩:=oN hr2
 refine aj 3 [.a 4 V1] [1,2] [(6,iv e3.2.2.2.2.1)] ?_
 refine aa (aH (ae (ag 2 [1,2,6] [(15,.bool (decide (e3.2.2.2.2.1<0)))] ?_)))
 refine aa (aM hF (fun hc4 hF=>?_) (fun hc4 hF=>?_))
 ·refine ae (av 1 [(16,iv xn)] kr ?_)
  have hL5:aW g (.int .i64) ([iv xn]:List Value) ([xn]:List Int):=(dB (c:=[iv xn]) rfl rfl)
  refine ai (gG hL5 fun b5=>?_)
  refine av 2 [(4,.slice (some ⟨b5,0,none⟩) ([xn]:List Int).length 1),(5,iv 0)] kr (aa (Ok.ret (aC ?_)))
  exact Au [0] (bq w0 g) ⟨([xn]:List Int),0,(some ⟨b5,0,none⟩),1,([iv xn]:List Value),rfl,hL5,rfl,hF⟩
 refine Ok.k (Ok.t (ae (aj 3 [.e 0] [1,2] [(19,.slice j0 xd.1.length x0),(20,iv e3.2.2.2.2.1)] ?_)))
 obtain ⟨QF,TV,hF⟩:=hF
 have Mm:=aV (l:=xd.1) default TV
 generalize YQ:(xd.1.getD (Int.toNat e3.2.2.2.2.1) default)=e7 at Mm hF ⊢
 refine ai (af.bf (e:=yN) rfl rfl underlying22 kr y0 QF Mm rfl fun q6 o6 cs6 _ ab2 WS=>?_)
 obtain ⟨aqt,aqi,akp,ajK,rfl,ai0,K1⟩:=oN WS
 refine ag 1 [1,2] [(22,.pointer (some ⟨q6,o6+5,none⟩))] ?_
 refine ai (af.s (v:=.slice akp e7.2.2.2.2.2.length ajK) (eX 5 ab2 kr underlying46 rfl kr) rfl rfl ?_)
 obtain ⟨Mc,hF⟩:=hF
 refine ai (bQ (ahQ e7.2.2.2.2.2 K1 Mc) fun g9 _ _ hx9 hV9=>?_)
 obtain ⟨S0,B0,j1,rfl,A0,rfl⟩:=hV9
 replace y0:=y0.mono hx9.1
 refine ag 1 [1] [(24,.slice S0 (jM e7.2.2.2.2.2).length B0),(25,.func (.func 159) #[] #[pv eO 0])] ?_
 refine ai (af.cut (fun a W=>∃ x1:ak,aY w0 g9 x1∧∃ (dQ:Option Addr) (dP:Nat) (bg:List Int) (iR:List Value),aW x1 (.int .i64) iR bg∧fJ 31 [(1,iv xn),(26,.slice dQ bg.length dP)] a∧dh w0 [.own (.slice dQ bg.length dP) 3 1 bg.length iR] x1 W∧G_ xn K bg) ?_ ?_)
 ·
  refine bM (args:=#[.slice S0 (jM e7.2.2.2.2.2).length B0,.func (.func 159) #[] #[pv eO 0]]) 42 [(0,.slice S0 (jM e7.2.2.2.2.2).length B0),(1,.func (.func 159) #[] #[pv eO 0])] gT func67 rfl rfl rfl rfl (ae (av 1 [(0,.slice S0 (jM e7.2.2.2.2.2).length B0),(1,.func (.func 159) #[] #[pv eO 0])] kr (aa (ae (ag 2 [0,1] [(8,.slice S0 (jM e7.2.2.2.2.2).length B0),(9,.func (.func 159) #[] #[pv eO 0])] ?_)))))
  refine ai (af.cut (fun a W=>∃ g1:ak,aY w0 g9 g1∧∃ (n0:Int),fJ 42 [(0,.slice S0 (jM e7.2.2.2.2.2).length B0),(1,.func (.func 159) #[] #[pv eO 0]),(10,iv n0)] a∧dh w0 [.own (.slice S0 (jM e7.2.2.2.2.2).length B0) 3 1 (jM e7.2.2.2.2.2).length j1,.blk eO (.cells (aD xd j0 x0) 24)] g1 W∧Dk xd xn K e7 n0) ?_ ?_)
  ·
   refine bM (args:=#[.slice S0 (jM e7.2.2.2.2.2).length B0,.func (.func 159) #[] #[pv eO 0]]) 19 [(0,.slice S0 (jM e7.2.2.2.2.2).length B0),(1,.func (.func 159) #[] #[pv eO 0])] gT func110 rfl rfl rfl rfl (ae (av 1 [(0,.slice S0 (jM e7.2.2.2.2.2).length B0),(1,.func (.func 159) #[] #[pv eO 0])] kr (aa (aH (ae (ag 3 [0,1] [(7,iv ((jM e7.2.2.2.2.2).length:Int)),(8,iv 0)] ?_))))))
   refine aa (Ok.block ?_)
   obtain ⟨k,hF⟩:=hF
   refine gF (fun k a W=>∃ Y0:ak,aY w0 g9 Y0∧∃ (k0:Int),fJ 19 [(0,.slice S0 (jM e7.2.2.2.2.2).length B0),(1,.func (.func 159) #[] #[pv eO 0]),(7,iv ((jM e7.2.2.2.2.2).length:Int)),(8,iv k0)] a∧dh w0 [.own (.slice S0 (jM e7.2.2.2.2.2).length B0) 3 1 (jM e7.2.2.2.2.2).length j1,.blk eO (.cells (aD xd j0 x0) 24)] Y0 W∧vk xd xn K e7 k k0) k ?_ ?_
   ·
    exact fun _ _ u v=>⟨g9,bq w0 g9,0,fA u v hF⟩
   clear hF
   rintro (_ | al9) _ _ ⟨Y0,U0,k0,q⟩
   exact (q.2.2:False).elim
   refine jn (fun hF=>?_) _ _ q
   replace A0:=A0.mono U0.1
   replace y0:=y0.mono U0.1
   refine ae (ag 1 [0,1,7,8] [(9,.bool (decide (k0<((jM e7.2.2.2.2.2).length:Int))))] ?_)
   refine aa (aH (aM hF (fun Mo hF=>?_) (fun Mo hF=>?_)))
   ·refine Ok.k (Ok.t (aH (Ok.block (ae (ag 2 [0,1,7,8] [(5,iv k0)] ?_)))))
    refine aa (ae (ag 3 [0,1,5,7,8] [(11,.func (.func 159) #[] #[pv eO 0]),(12,.slice S0 (jM e7.2.2.2.2.2).length B0),(13,iv k0)] ?_))
    obtain ⟨adg,h128,hF⟩:=hF
    have s2:=aV (l:=jM e7.2.2.2.2.2) default h128
    generalize b2:((jM e7.2.2.2.2.2).getD k0.toNat default)=e28 at s2 hF ⊢
    refine ai (af.fQ (e:=.int .i64) 0 rfl A0 rfl rfl underlying46 kr kr adg s2 rfl fun ap3 _ abg H1=>?_)
    obtain rfl:=abg
    replace H1:∀ j v,([iv e28]:List Value)[j]? = some v→j1[k0.toNat * 1+j]? = some v:=H1
    refine ai (af.s (v:=iv e28) (dN 0 0 rfl H1 rfl underlying3 rfl kr) rfl rfl (ai (bM (args:=#[iv e28,pv eO 0]) 8 [(0,iv e28),(1,pv eO 0)] gT func159 rfl rfl rfl rfl (ae (av 1 [(0,iv e28),(1,pv eO 0)] kr (aa (aH (aS ?_))))))))
    obtain ⟨aby,hF⟩:=hF
    refine aj 5 [.e 1,.k (JN xd e28 y0 aby)] [] [(3,.bool (!(eP xd e28)))] ?_
    refine aa (Ok.ret (bu (vs:=[.bool (!(eP xd e28))]) (.inl rfl) rfl (.cons (.tmp rfl) .nil) rfl (aa (ed hF rfl (fun M1=>?_) (fun M1=>?_)))))
    ·replace hF:=hF.1 M1
     refine ae (av 2 [(4,iv k0)] kr (aa (Ok.ret (aU (aC (aC (aU (aC (bu (vs:=[iv k0]) (.inl rfl) rfl (.cons (.tmp rfl) .nil) rfl ?_)))))))))
     subst b2
     exact fun _ _ u v=>⟨Y0,U0,k0,fA u v hF⟩
    replace hF:=hF.2 M1
    refine Ok.k (bJ (Ok.t (aS (av 2 [(0,.slice S0 (jM e7.2.2.2.2.2).length B0),(1,.func (.func 159) #[] #[pv eO 0]),(7,iv ((jM e7.2.2.2.2.2).length:Int)),(8,iv (w6 (k0+1)))] kr (bY (Ok.t ?_))))))
    subst b2
    exact fun _ _ u v=>⟨al9,nl,Y0,U0,w6 (k0+1),fA u v hF⟩
   refine fU (aA (aA (aO (Ok.t (ae (av 1 [(4,iv (-1))] kr (aa (Ok.ret (bu (vs:=[iv (-1)]) (.inl rfl) rfl (.cons (.tmp rfl) .nil) rfl ?_)))))))))
   exact fun _ _ u v=>⟨Y0,U0,-1,fA u v hF⟩
  clear hF
  rintro _ _ ⟨g1,o1,n0,q⟩
  refine jn (fun hF=>?_) _ _ q
  replace A0:=A0.mono o1.1
  replace y0:=y0.mono o1.1
  refine ag 1 [0,1] [(5,iv n0)] ?_
  refine aa (aH (ae (ag 2 [0,1,5] [(12,.bool (n0==(-1)))] ?_)))
  refine aa (aM hF (fun Mr hF=>?_) (fun Mr hF=>?_))
  ·refine ae (av 2 [(4,.slice S0 (jM e7.2.2.2.2.2).length B0)] kr (aa (Ok.ret (aC (bu (vs:=[.slice S0 (jM e7.2.2.2.2.2).length B0]) (.inl rfl) rfl (.cons (.tmp rfl) .nil) rfl ?_)))))
   exact fun _ _ u v=>⟨g1,o1,S0,B0,jM e7.2.2.2.2.2,j1,A0,fA u v hF⟩
  refine Ok.k (Ok.t (aH (ae (ag 3 [0,1,5] [(6,iv (w6 (n0+1)))] ?_))))
  refine aa (Ok.block ?_)
  obtain ⟨k,hF⟩:=hF
  refine gF (fun k a W=>∃ m0:ak,aY w0 g1 m0∧∃ (z0:Int) (v0:Int) (bI:Option Addr) (bH:Nat) (ax:List Int) (fG:List Value),aW m0 (.int .i64) fG ax∧fJ 42 [(0,.slice bI ax.length bH),(1,.func (.func 159) #[] #[pv eO 0]),(5,iv z0),(6,iv v0)] a∧dh w0 [.own (.slice bI ax.length bH) 3 1 ax.length fG,.blk eO (.cells (aD xd j0 x0) 24)] m0 W∧uk xd xn K k z0 v0 ax) k ?_ ?_
  ·
   exact fun _ _ u v=>⟨g1,bq w0 g1,n0,w6 (n0+1),S0,B0,jM e7.2.2.2.2.2,j1,A0,fA u v hF⟩
  clear hF
  rintro (_ | YK) _ _ ⟨m0,I0,z0,v0,bI,bH,ax,fG,jq,q⟩
  exact (q.2.2:False).elim
  refine jn (fun hF=>?_) _ _ q
  replace y0:=y0.mono I0.1
  refine aH (ae (ag 4 [0,1,5,6] [(19,.bool (decide (v0<(ax.length:Int))))] ?_))
  refine aa (aM hF (fun HV hF=>?_) (fun HV hF=>?_))
  ·refine Ok.k (Ok.t (Ok.cut (fun a W=>∃ F0:ak,aY w0 m0 F0∧∃ (kR:Option Addr) (kQ:Nat) (ko:List Value),aW F0 (.int .i64) ko (kY xd z0 v0 ax)∧fJ 42 [(0,.slice kR (kY xd z0 v0 ax).length kQ),(1,.func (.func 159) #[] #[pv eO 0]),(5,iv (rW xd z0 v0 ax)),(6,iv v0)] a∧dh w0 [.own (.slice kR (kY xd z0 v0 ax).length kQ) 3 1 (kY xd z0 v0 ax).length ko,.blk eO (.cells (aD xd j0 x0) 24)] F0 W∧rf xd z0 v0 ax (uk xd xn K YK)) ?_ ?_))
   ·
    refine Ok.block (ae (ag 2 [0,1,5,6] [(22,.slice bI ax.length bH),(23,iv v0)] ?_))
    obtain ⟨adk,ac7,hF⟩:=hF
    have c2:=aV (l:=ax) default ac7
    generalize d2:(ax.getD v0.toNat default)=e17 at c2 hF ⊢
    refine ai (af.fQ (e:=.int .i64) 0 rfl jq rfl rfl underlying46 kr kr adk c2 rfl fun ap9 _ abn N1=>?_)
    obtain rfl:=abn
    replace N1:∀ j v,([iv e17]:List Value)[j]? = some v→fG[v0.toNat * 1+j]? = some v:=N1
    refine ai (af.s (v:=iv e17) (dN 0 0 rfl N1 rfl underlying3 rfl kr) rfl rfl (ag 1 [0,1,5,6] [(7,iv e17)] ?_))
    refine aa (ae (ag 2 [0,1,5,6,7] [(26,.func (.func 159) #[] #[pv eO 0]),(27,iv e17)] ?_))
    refine ai (bM (args:=#[iv e17,pv eO 0]) 8 [(0,iv e17),(1,pv eO 0)] gT func159 rfl rfl rfl rfl (ae (av 1 [(0,iv e17),(1,pv eO 0)] kr (aa (aH (aS ?_))))))
    obtain ⟨abB,hF⟩:=hF
    refine aj 5 [.e 1,.k (JN xd e17 y0 abB)] [] [(3,.bool (!(eP xd e17)))] ?_
    refine aa (Ok.ret (bu (vs:=[.bool (!(eP xd e17))]) (.inl rfl) rfl (.cons (.tmp rfl) .nil) rfl (av 1 [(0,.slice bI ax.length bH),(1,.func (.func 159) #[] #[pv eO 0]),(5,iv z0),(6,iv v0),(7,iv e17),(29,.bool (!(!(eP xd e17))))] kr (aa (ed hF rfl (fun z1=>?_) (fun z1=>?_))))))
    ·replace hF:=hF.1 z1
     refine ae (ag 3 [0,1,5,6] [(30,.slice bI ax.length bH),(31,iv z0),(32,iv e17)] ?_)
     obtain ⟨apQ,ac5,hF⟩:=hF
     have f2:=aV (l:=ax) default ac5
     generalize ana:(ax.getD z0.toNat default)=e21 at f2 hF ⊢
     refine ai (af.fQ (e:=.int .i64) 0 rfl jq rfl rfl underlying46 kr kr apQ f2 rfl fun auq _ amA b1=>?_)
     obtain rfl:=amA
     replace b1:∀ j v,([iv e21]:List Value)[j]? = some v→fG[z0.toNat * 1+j]? = some v:=b1
     refine ai (j_ (e:=.int .i64) (q:=z0.toNat) (cells:=[iv e21]) (vs:=[iv e17]) (xy:=e17) 0 0 1 rfl jq b1 kr rfl rfl rfl kr kr kr kr kr (show bG _ _ [iv e17] _ from rfl) fun B1 ao2=>?_)
     rw [show ax.length=(ax.set z0.toNat e17).length from (kK ..).symm]
     refine aa (aS (ag 3 [1,6] [(0,.slice bI (ax.set z0.toNat e17).length bH),(5,iv (w6 (z0+1)))] ?_))
     refine bY (bJ (Ok.t ?_))
     subst ana
     subst d2
     refine gW 0 rfl (show (.slice bI (ax.set z0.toNat (ax.getD v0.toNat default)).length bH:Value)=.slice bI (kY xd z0 v0 ax).length bH from ay (fun l:List Int=>Value.slice bI l.length bH) ((aT z1).symm)) ?_
     refine gW 5 rfl (show (iv (w6 (z0+1)):Value)=iv (rW xd z0 v0 ax) from ay (Value.int .i64) ((aT z1).symm)) (jZ (E':=.own (.slice bI (kY xd z0 v0 ax).length bH) 3 1 (kY xd z0 v0 ax).length B1) 0 (ay (fun l:List Int=>b_.own (.slice bI l.length bH) 3 1 l.length B1) ((aT z1).symm)) ?_)
     exact fun _ _ u v=>⟨m0,bq w0 m0,bI,bH,B1,(Eq.mp (ay (fun l:List Int=>aW m0 (.int .i64) B1 l) ((aT z1).symm)) ao2),fA u v hF⟩
    replace hF:=hF.2 z1
    refine Ok.k (bJ (Ok.t ?_))
    subst d2
    refine gW 0 rfl (show (.slice bI ax.length bH:Value)=.slice bI (kY xd z0 v0 ax).length bH from ay (fun l:List Int=>Value.slice bI l.length bH) ((aF z1).symm)) ?_
    refine gW 5 rfl (show (iv z0:Value)=iv (rW xd z0 v0 ax) from ay (Value.int .i64) ((aF z1).symm)) (jZ (E':=.own (.slice bI (kY xd z0 v0 ax).length bH) 3 1 (kY xd z0 v0 ax).length fG) 0 (ay (fun l:List Int=>b_.own (.slice bI l.length bH) 3 1 l.length fG) ((aF z1).symm)) ?_)
    exact fun _ _ u v=>⟨m0,bq w0 m0,bI,bH,fG,(Eq.mp (ay (fun l:List Int=>aW m0 (.int .i64) fG l) ((aF z1).symm)) jq),fA u v hF⟩
   clear hF
   rintro _ _ ⟨F0,c1,kR,kQ,ko,yw,q⟩
   refine jn (fun hF=>?_) _ _ q
   refine aS (ag 3 [0,1,5] [(6,iv (w6 (v0+1)))] ?_)
   refine bY (Ok.t ?_)
   exact fun _ _ u v=>⟨YK,nl,F0,I0.trans c1,rW xd z0 v0 ax,w6 (v0+1),kR,kQ,kY xd z0 v0 ax,ko,yw,fA u v hF⟩
  refine fU (aA (aA (aO (Ok.t (ae (ag 2 [0,5] [(36,.slice bI ax.length bH),(37,iv z0)] ?_))))))
  refine zT 0 rfl fun aix ars=>?_
  obtain ⟨MI,Ib,acU,hF⟩:=hF
  refine ai (af.s (v:=vw bI 1 bH z0.toNat (Int.toNat (ax.length:Int))) (yZ (size:=1) (l:=z0) (h:=(ax.length:Int)) rfl underlying46 kr (.inl ⟨_,_,rfl,rfl⟩) (.inr ⟨rfl,rfl⟩) MI Ib (Int.le_trans acU (Int.ofNat_le.2 aix))) rfl rfl ?_)
  obtain ⟨O1,hF⟩:=hF
  refine ai (wu (e:=.int .i64) (l:=ax) (lo:=z0.toNat) (y:=(0:Int)) (z:=iv 0) 0 rfl rfl jq underlying46 kr dc rfl O1 (eB _) fun asL ao1=>?_)
  rw [yE ax z0.toNat (0:Int) (by rw [eB] at O1; exact O1)]
  refine aa (ae (av 2 [(39,.slice bI (BA ax z0.toNat (0:Int)).length bH),(40,iv z0)] kr ?_))
  obtain ⟨DD,acT,hF⟩:=hF
  refine ai (qc (e:=.int .i64) (h:=z0) 0 rfl rfl rfl ao1 underlying46 kr DD acT rfl fun alx ao0=>?_)
  refine av 1 [(4,.slice bI ((BA ax z0.toNat (0:Int)).take z0.toNat).length bH)] kr (aa (Ok.ret (bu (vs:=[.slice bI ((BA ax z0.toNat (0:Int)).take z0.toNat).length bH]) (.inl rfl) rfl (.cons (.tmp rfl) .nil) rfl ?_)))
  exact fun _ _ u v=>⟨m0,o1.trans I0,bI,bH,((BA ax z0.toNat (0:Int)).take z0.toNat),alx,ao0,fA u v hF⟩
 clear hF
 rintro _ _ ⟨x1,ahT,dQ,dP,bg,iR,jF,q⟩
 refine jn (fun hF=>?_) _ _ q
 refine ag 1 [1] [(7,.slice dQ bg.length dP)] ?_
 refine aa (ae (av 3 [(27,.slice dQ bg.length dP),(28,.slice dQ bg.length dP),(29,iv xn)] kr (ai (af.cut (fun a W=>∃ P1:ak,aY w0 x1 P1∧∃ (C0:Int),fJ 31 [(27,.slice dQ bg.length dP),(30,iv C0)] a∧dh w0 [.own (.slice dQ bg.length dP) 3 1 bg.length iR] P1 W∧LX K bg C0) ?_ ?_))))
 ·
  refine bM (args:=#[.slice dQ bg.length dP,iv xn]) 19 [(0,.slice dQ bg.length dP),(1,iv xn)] gT func160 rfl rfl rfl rfl (ae (av 1 [(0,.slice dQ bg.length dP),(1,iv xn)] kr (aa (aH (ae (ag 3 [0,1] [(7,iv (bg.length:Int)),(8,iv 0)] ?_))))))
  refine aa (Ok.block ?_)
  obtain ⟨k,hF⟩:=hF
  refine gF (fun k a W=>∃ N0:ak,aY w0 x1 N0∧∃ (s0:Int),fJ 19 [(0,.slice dQ bg.length dP),(1,iv xn),(7,iv (bg.length:Int)),(8,iv s0)] a∧dh w0 [.own (.slice dQ bg.length dP) 3 1 bg.length iR] N0 W∧Bh xn K bg k s0) k ?_ ?_
  ·
   exact fun _ _ u v=>⟨x1,bq w0 x1,0,fA u v hF⟩
  clear hF
  rintro (_ | Kb) _ _ ⟨N0,T0,s0,q⟩
  exact (q.2.2:False).elim
  refine jn (fun hF=>?_) _ _ q
  replace jF:=jF.mono T0.1
  refine ae (ag 1 [0,1,7,8] [(9,.bool (decide (s0<(bg.length:Int))))] ?_)
  refine aa (aH (aM hF (fun y1 hF=>?_) (fun y1 hF=>?_)))
  ·refine Ok.k (Ok.t (aH (Ok.block (ae (ag 2 [0,1,7,8] [(5,iv s0)] ?_)))))
   refine aa (ae (ag 3 [0,1,5,7,8] [(11,iv xn),(12,.slice dQ bg.length dP),(13,iv s0)] ?_))
   obtain ⟨R1,T1,hF⟩:=hF
   have Y1:=aV (l:=bg) default T1
   generalize C1:(bg.getD s0.toNat default)=e12 at Y1 hF ⊢
   refine ai (af.fQ (e:=.int .i64) 0 rfl jF rfl rfl underlying46 kr kr R1 Y1 rfl fun ad6 _ L1 A1=>?_)
   obtain rfl:=L1
   replace A1:∀ j v,([iv e12]:List Value)[j]? = some v→iR[s0.toNat * 1+j]? = some v:=A1
   refine ai (af.s (v:=iv e12) (dN 0 0 rfl A1 rfl underlying3 rfl kr) rfl rfl (ag 1 [0,1,5,7,8] [(16,.bool (xn==e12))] ?_))
   refine aa (ed hF rfl (fun I1=>?_) (fun I1=>?_))
   ·replace hF:=hF.1 I1
    refine ae (av 2 [(4,iv s0)] kr (aa (Ok.ret (aU (aC (aC (aU (aC (bu (vs:=[iv s0]) (.inl rfl) rfl (.cons (.tmp rfl) .nil) rfl ?_)))))))))
    subst C1
    exact fun _ _ u v=>⟨N0,T0,s0,fA u v hF⟩
   replace hF:=hF.2 I1
   refine Ok.k (bJ (Ok.t (aS (ag 2 [0,1,7] [(8,iv (w6 (s0+1)))] ?_))))
   refine bY (Ok.t ?_)
   subst C1
   exact fun _ _ u v=>⟨Kb,nl,N0,T0,w6 (s0+1),fA u v hF⟩
  refine fU (aA (aA (aO (Ok.t (ae (av 1 [(4,iv (-1))] kr (aa (Ok.ret (bu (vs:=[iv (-1)]) (.inl rfl) rfl (.cons (.tmp rfl) .nil) rfl ?_)))))))))
  exact fun _ _ u v=>⟨N0,T0,-1,fA u v hF⟩
 clear hF
 rintro _ _ ⟨P1,F1,C0,q⟩
 refine jn (fun hF=>?_) _ _ q
 replace jF:=jF.mono F1.1
 refine av 2 [(4,.slice dQ bg.length dP),(5,iv C0)] kr (aa (Ok.ret ?_))
 exact gH (vs:=[.slice dQ bg.length dP,iv C0]) (.inl rfl) rfl (.cons (.tmp rfl) (.cons (.tmp rfl) .nil)) ((hx9.trans ahT).trans F1) ⟨bg,C0,dQ,dP,iR,rfl,jF,rfl,hF⟩
theorem ahI (d:DC) (n:Int) (hp:Dm d n):ahJ d n (fun a b=>(a,b)=cu d n):=by
 obtain ⟨hG,h0,h1⟩:=hp
 refine ⟨h0,om,fun hc=>?_,fun hc=>?_⟩
 ·have hc:decide (par d.1 n.toNat<0)=true:=hc
  unfold cu dY
  rw [bn hc,bn hc]
 have hc:decide (par d.1 n.toNat<0)=false:=hc
 have hn:=fZ hc
 obtain ⟨p0,p1⟩:=CL hG ⟨h0,h1⟩ hn
 have hkl:=um hG (i:=(par d.1 n.toNat).toNat) om
 have hin:=fun x hx=>hG.kids.kid (par d.1 n.toNat).toNat om x hx
 have hS:cu d n=((eY d.1 (par d.1 n.toNat).toNat).filter (eP d),jW (fun x=>n==x) ((eY d.1 (par d.1 n.toNat).toNat).filter (eP d)) 0):=by
  unfold cu dY
  rw [aF hc,aF hc]
 rw [hS]
 refine ⟨p0,by show (par d.1 n.toNat).toNat<_; omega,by show (eY d.1 (par d.1 n.toNat).toNat).length≤100000; omega,?_⟩
 generalize hl:eY d.1 (par d.1 n.toNat).toNat=l at hkl hin
 have he:jM (d.1.getD (Int.toNat (d.1.getD n.toNat default).2.2.2.2.1) default).2.2.2.2.2=l:=hl
 have idx:∀ (own:List Int),own.length≤200→own=l.filter (eP d)→G_ n (fun a b=>(a,b)=(l.filter (eP d),jW (fun x=>n==x) (l.filter (eP d)) 0)) own:=by
  intro own ho hown
  have loop:∀ (k i:Nat),i+k=own.length→jW (fun x=>n==x) own 0=jW (fun x=>n==x) (own.drop i) i→Bh n (fun a b=>(a,b)=(l.filter (eP d),jW (fun x=>n==x) (l.filter (eP d)) 0)) own (k+1) (i:Int):=by
   intro k
   induction k with
   | zero =>
    intro i h h2
    rw [fF om,jW] at h2
    refine ⟨fun hc=>od hc,fun _=>?_⟩
    show (own,(-1:Int))=_
    rw [← h2,hown]
   | succ k ih =>
    intro i h h2
    rw [dm (l:=own) default om,jW] at h2
    refine ⟨fun _=>⟨om,om,fun hc=>?_,fun hc=>?_⟩,fun hc=>oe hc⟩
    ·rw [eB] at hc
     rw [aT hc] at h2
     show (own,(i:Int))=_
     rw [← h2,hown]
    rw [eB] at hc
    rw [aF hc] at h2
    rw [gp om]
    exact ih (i+1) om h2
  exact ⟨_,loop own.length 0 om rfl⟩
 have second:∀ (k i j:Nat) (own:List Int),j+k=l.length→vM l (eP d) i j own→uk d n (fun a b=>(a,b)=(l.filter (eP d),jW (fun x=>n==x) (l.filter (eP d)) 0)) (k+1) (i:Int) (j:Int) own:=by
  intro k
  induction k with
  | zero =>
   intro i j own h hI
   have hj:j=l.length:=om
   subst hj
   have hln:=hI.len
   have hij:=hI.ij
   have hfin:=hI.fin
   have hcl:(BA own i (0:Int)).length=own.length:=(yE own i 0 om).symm
   refine ⟨fun hc=>od hc,fun _=>⟨om,om,ll _,om,om,?_,?_⟩⟩
   ·rw [eB]; omega
   rw [eB,hfin]
   exact idx _ (gV (zM ..) hkl) rfl
  | succ k ih =>
   intro i j own h hI
   have hln:=hI.len
   have hij:=hI.ij
   have hg:=hI.get
   have hx:=hin (l.getD j default) (h_ default om)
   refine ⟨fun _=>⟨om,om,?_⟩,fun hc=>oe hc⟩
   rw [eB,hg]
   refine ⟨⟨om,om⟩,fun hc=>⟨om,om,?_⟩,fun hc=>?_⟩
   ·have hc':eP d (l.getD j default)=true:=by simpa using hc
    have e1:rW d (i:Int) (j:Int) own=((i+1:Nat):Int):=by
     unfold rW; rw [eB,hg,aT hc,gp om]; omega
    have e2:kY d (i:Int) (j:Int) own=own.set i (own.getD j default):=by
     unfold kY; rw [eB,eB,hg,aT hc]
    unfold rf
    rw [e1,e2,gp om,show (j:Int)+1=((j+1:Nat):Int) by omega]
    exact ih (i+1) (j+1) _ om (hI.keep om hc')
   have hc':eP d (l.getD j default)=false:=by simpa using hc
   have e1:rW d (i:Int) (j:Int) own=(i:Int):=by
    unfold rW; rw [eB,hg,aF hc]
   have e2:kY d (i:Int) (j:Int) own=own:=by
    unfold kY; rw [eB,eB,hg,aF hc]
   unfold rf
   rw [e1,e2,gp om,show (j:Int)+1=((j+1:Nat):Int) by omega]
   exact ih i (j+1) own om (hI.skip om hc')
 have first:∀ (k i:Nat),i+k=l.length→(l.take i).filter (eP d)=l.take i→vk d n (fun a b=>(a,b)=(l.filter (eP d),jW (fun x=>n==x) (l.filter (eP d)) 0)) (d.1.getD (Int.toNat (d.1.getD n.toNat default).2.2.2.2.1) default) (k+1) (i:Int):=by
  intro k
  induction k with
  | zero =>
   intro i h ha
   rw [vk]
   unfold Dj
   rw [he]
   refine ⟨fun hc=>od hc,fun _=>?_⟩
   unfold Dk
   rw [he]
   refine ⟨fun _=>idx l hkl ?_,fun h=>absurd h dc⟩
   rw [jR om] at ha
   exact ha.symm
  | succ k ih =>
   intro i h ha
   have hx:=hin (l.getD i default) (h_ default om)
   rw [vk]
   unfold Dj
   rw [he,eB]
   refine ⟨fun _=>⟨om,om,⟨om,om⟩,fun hc=>?_,fun hc=>?_⟩,fun hc=>oe hc⟩
   ·unfold Dk
    rw [he]
    refine ⟨fun h=>absurd (eq_of_beq h) om,fun _=>?_⟩
    rw [gp om,show (i:Int)+1=((i+1:Nat):Int) by omega]
    exact ⟨_,second (l.length - (i+1)) i (i+1) l om (vM.start om ha (by simpa using hc))⟩
   rw [gp om,show (i:Int)+1=((i+1:Nat):Int) by omega]
   exact ih (i+1) om (KJ om ha (by simpa using hc))
 exact ⟨_,first l.length 0 om rfl⟩
theorem YJ {g:ak} {j0:Option Addr} {x0:Nat} (xd:Dc) (xn:Int) (y0:bG g qh [.slice j0 xd.1.length x0] xd.1)  (hp:Dm xd xn):az prog 116 #[.agg (aD xd j0 x0),iv xn] g [] (fun g' H' v=>∃ (Ap:Option Addr) (Ao:Nat) (E0:List Value),v=.tuple #[.slice Ap (cu xd xn).1.length Ao,iv (cu xd xn).2]∧aW g' (.int .i64) E0 (cu xd xn).1∧H'=[.own (.slice Ap (cu xd xn).1.length Ao) 3 1 (cu xd xn).1.length E0]) :=
 (aaW xd xn y0 _ (ahI xd xn hp)).mono (by rintro g' H' v _ ⟨r0,r1,Ap,Ao,E0,rfl,G1,rfl,hK⟩; obtain ⟨rfl,rfl⟩:r0=(cu xd xn).1∧r1=(cu xd xn).2:=⟨ay (fun z=>z.1) hK,ay (fun z=>z.2) hK⟩; exact ⟨Ap,Ao,E0,rfl,G1,rfl⟩)
def aa0 (K:(List Int)→Prop) (f0:Int) (g0:Int) (bO:List Int) (C4:Int→Int→List Int→Prop):Prop :=
 (decide (f0<g0)=true→0≤g0∧g0.toNat<bO.length∧0≤f0∧f0.toNat<bO.length∧0≤g0∧g0.toNat<(bO.set f0.toNat (bO.getD g0.toNat default)).length∧C4 (w6 (f0+1)) (w6 (g0 - 1)) ((bO.set f0.toNat (bO.getD g0.toNat default)).set g0.toNat (bO.getD f0.toNat default)))∧(decide (f0<g0)=false→K bO)
def OH (K:(List Int)→Prop):Nat→Int→Int→List Int→Prop
 | 0,_,_,_=>False
 | k+1,f0,g0,bO=>aa0 K f0 g0 bO (OH K k)
def ahP (xs:List Int) (K:(List Int)→Prop):Prop :=
 ∃ k,OH K k 0 (w6 ((xs.length:Int) - 1)) xs
theorem aa1 {g:ak} {M9:Option Addr} {MX:Nat} {Pn:List Value} (xs:List Int) (acG:aW g (.int .i64) Pn xs) (K:(List Int)→Prop)
  (hF:ahP xs K):az prog 118 #[.slice M9 xs.length MX] g [.own (.slice M9 xs.length MX) 3 1 xs.length Pn] (fun g' H' v=>∃ (Xg:List Int),∃ (BI:List Value),v=.tuple #[]∧aW g' (.int .i64) BI Xg∧H'=[.own (.slice M9 Xg.length MX) 3 1 Xg.length BI]∧Xg.length=xs.length∧K Xg):=by
 refine aP 28 func118 rfl fun w0=>?_
 let B:=(xs.length:Int) - 1
 refine ae (av 5 [(0,.slice M9 xs.length MX),(2,iv 0),(3,iv (w6 B))] kr (aa (Ok.block ?_)))
 obtain ⟨k,hF⟩:=hF
 refine gF (fun k a W=>∃ gl4:ak,aY w0 g gl4∧∃ (f0:Int) (g0:Int) (bO:List Int) (jv:List Value),aW gl4 (.int .i64) jv bO∧bO.length=xs.length∧fJ 28 [(0,.slice M9 bO.length MX),(2,iv f0),(3,iv g0)] a∧dh w0 [.own (.slice M9 bO.length MX) 3 1 bO.length jv] gl4 W∧OH K k f0 g0 bO) k ?_ ?_
 ·
  exact fun _ _ u v=>⟨g,bq w0 g,0,w6 B,xs,Pn,acG,rfl,fA u v hF⟩
 clear hF
 rintro (_ | k4) _ _ ⟨gl4,g2,f0,g0,bO,jv,lI,vW,q⟩
 exact (q.2.2:False).elim
 refine jn (fun hF=>?_) _ _ q
 refine aH (ae (ag 3 [0,2,3] [(9,.bool (decide (f0<g0)))] ?_))
 refine aa (aM hF (fun hc1 hF=>?_) (fun hc1 hF=>?_))
 ·refine Ok.k (Ok.t (aH (Ok.block (wz [0,1,4,5,6,7,8,9,10,11,12] [] [0] [(0,true),(1,true),(2,true),(3,true),(4,true),(5,true),(6,true),(7,true),(8,true),(9,true),(10,true),(11,true),(12,true),(13,false),(14,false),(15,false)] ?_))))
  refine iI 6 [0,2,3] [(14,.slice M9 bO.length MX),(15,iv f0),(16,.slice M9 bO.length MX),(17,iv g0),(18,.slice M9 bO.length MX),(19,iv g0)] ?_
  obtain ⟨Eu,Et,hF⟩:=hF
  have yu:=aV (l:=bO) default Et
  generalize hg3:(bO.getD g0.toNat default)=e3 at yu hF ⊢
  refine eF.hd (fM.fQ (e:=.int .i64) 0 rfl lI rfl rfl underlying46 kr kr Eu yu rfl fun cs2 _ hr2 hc2=>?_)
  obtain rfl:=hr2
  replace hc2:∀ j v,([iv e3]:List Value)[j]? = some v→jv[g0.toNat * 1+j]? = some v:=hc2
  refine eF.hd (fM.s (v:=iv e3) (dN 0 0 rfl hc2 rfl underlying3 rfl kr) rfl rfl ?_)
  refine iI 2 [0,2,3,14,15,16,17] [(21,iv e3),(22,.slice M9 bO.length MX),(23,iv f0)] ?_
  obtain ⟨Ei,H_,hF⟩:=hF
  have Dx:=aV (l:=bO) default H_
  generalize hg5:(bO.getD f0.toNat default)=e5 at Dx hF ⊢
  refine eF.hd (fM.fQ (e:=.int .i64) 0 rfl lI rfl rfl underlying46 kr kr Ei Dx rfl fun cs4 _ hr4 hc4=>?_)
  obtain rfl:=hr4
  replace hc4:∀ j v,([iv e5]:List Value)[j]? = some v→jv[f0.toNat * 1+j]? = some v:=hc4
  refine eF.hd (fM.s (v:=iv e5) (dN 0 0 rfl hc4 rfl underlying3 rfl kr) rfl rfl ?_)
  refine eF.hd (fM.fQ (e:=.int .i64) 0 rfl lI rfl rfl underlying46 kr kr Ei Dx rfl fun cs6 _ WS hc6=>?_)
  obtain rfl:=WS
  replace hc6:∀ j v,([iv e5]:List Value)[j]? = some v→jv[f0.toNat * 1+j]? = some v:=hc6
  refine eF.t rfl rfl (j_ (e:=.int .i64) (q:=f0.toNat) (cells:=[iv e5]) (vs:=[iv e3]) (xy:=e3) 0 0 1 rfl lI hc6 kr rfl rfl rfl kr kr kr kr kr (show bG _ _ [iv e3] _ from rfl) fun xs7 hL7=>?_)
  rw [show bO.length=(bO.set f0.toNat e3).length from (kK ..).symm]
  refine g_ (lC.refl _) ?_
  obtain ⟨Eh,h19,hF⟩:=hF
  have QD:=aV (l:=bO.set f0.toNat e3) default h19
  generalize hg9:((bO.set f0.toNat e3).getD g0.toNat default)=e9 at QD hF ⊢
  refine eF.t rfl rfl (af.fQ (e:=.int .i64) 0 rfl hL7 rfl rfl underlying46 kr kr Eh QD rfl fun cs8 _ hr8 hc8=>?_)
  obtain rfl:=hr8
  replace hc8:∀ j v,([iv e9]:List Value)[j]? = some v→xs7[g0.toNat * 1+j]? = some v:=hc8
  refine g_ (lC.refl _) (eF.t rfl rfl (j_ (e:=.int .i64) (q:=g0.toNat) (cells:=[iv e9]) (vs:=[iv e5]) (xy:=e5) 0 0 1 rfl hL7 hc8 kr rfl rfl rfl kr kr kr kr kr (show bG _ _ [iv e5] _ from rfl) fun alD acN=>?_))
  let A:=(bO.set f0.toNat e3).set g0.toNat e5
  rw [show (bO.set f0.toNat e3).length=A.length from (kK ..).symm]
  refine g_ (lC.refl _) (eF.nil (bJ (Ok.t (aS (av 6 [(0,.slice M9 A.length MX),(2,iv (w6 (f0+1))),(3,iv (w6 (g0 - 1)))] kr (bY (Ok.t ?_)))))))
  subst hg9
  subst hg5
  subst hg3
  exact fun _ _ u v=>⟨k4,nl,gl4,g2,w6 (f0+1),w6 (g0 - 1),((bO.set f0.toNat (bO.getD g0.toNat default)).set g0.toNat (bO.getD f0.toNat default)),alD,acN,(by simp only [kK,vW]),fA u v hF⟩
 refine fU (aA (aA (aO ?_)))
 exact gH (vs:=[]) (.inr rfl) rfl .nil g2 ⟨bO,jv,rfl,lI,rfl,vW,hF⟩
def lX (l:List Int):List Int:=l.reverse
def SK (l:List Int):Prop:=l.length≤1000000
theorem ahO (l:List Int) (hp:SK l):ahP l (fun r=>r=lX l):=by
 unfold SK at hp
 unfold lX
 have loop:∀ (k i:Nat) (x:List Int),l.length≤2 * i+k→2 * i≤l.length+1→x.length=l.length→(∀ m,m<l.length→x[m]? = if m<i∨l.length≤m+i then l[l.length - 1 - m]? else l[m]?)→OH (fun r=>r=l.reverse) (k+1) (i:Int) ((l.length:Int) - 1 - (i:Int)) x:=by
  have done:∀ (i:Nat) (x:List Int),¬ (i:Int)<(l.length:Int) - 1 - (i:Int)→x.length=l.length→(∀ m,m<l.length→x[m]? = if m<i∨l.length≤m+i then l[l.length - 1 - m]? else l[m]?)→x=l.reverse:=by
   intro i x hn hx hm
   refine zR fun m=>?_
   by_cases h:m<l.length
   ·rw [List.getElem?_reverse h,hm m h]
    split
    ·rfl
    have:m=l.length - 1 - m:=om
    rw [← this]
   rw [sG om,sG (by rw [List.length_reverse]; omega)]
  intro k
  induction k with
  | zero =>
   intro i x h1 h2 hx hm
   exact ⟨fun h=>od h,fun h=>done i x (fZ h) hx hm⟩
  | succ k ih =>
   intro i x h1 h2 hx hm
   refine ⟨fun h=>?_,fun h=>done i x (fZ h) hx hm⟩
   have h:=dn h
   have e:((l.length:Int) - 1 - (i:Int)).toNat=l.length - 1 - i:=om
   rw [eB,e]
   refine ⟨om,om,om,om,om,by rw [kK]; omega,?_⟩
   rw [gp om,gp om]
   have:=ih (i+1) ((x.set i (x.getD (l.length - 1 - i) default)).set (l.length - 1 - i) (x.getD i default)) om om (by rw [kK,kK]; exact hx) (fun m hml=>?_)
   ·rw [show (l.length:Int) - 1 - ((i+1:Nat):Int)=(l.length:Int) - 1 - (i:Int) - 1 by omega] at this
    exact this
   rw [uO,uO]
   by_cases q1:l.length - 1 - i=m
   ·subst q1
    rw [bn rfl,bn (by rw [kK]; omega),bn om]
    have:=hm i om
    rw [aQ om] at this
    rw [gN,this,show l.length - 1 - (l.length - 1 - i)=i by omega,gB om,uI]
   rw [aQ q1]
   by_cases q2:i=m
   ·subst q2
    rw [bn rfl,bn om,bn om]
    have:=hm (l.length - 1 - i) om
    rw [aQ om] at this
    rw [gN,this,gB om,uI]
   rw [aQ q2,hm m hml]
   by_cases q3:m<i∨l.length≤m+i
   ·rw [bn q3,bn om]
   rw [aQ q3,aQ om]
 refine ⟨l.length+1,?_⟩
 rw [gp om]
 have:=loop l.length 0 l om om rfl (fun m h=>by rw [aQ om])
 rw [show (l.length:Int) - 1 - ((0:Nat):Int)=(l.length:Int) - 1 by omega] at this
 exact this
theorem ahN {g:ak} {M9:Option Addr} {MX:Nat} {Pn:List Value} (xs:List Int) (acG:aW g (.int .i64) Pn xs)  (hp:SK xs):az prog 118 #[.slice M9 xs.length MX] g [.own (.slice M9 xs.length MX) 3 1 xs.length Pn] (fun g' H' v=>∃ (BI:List Value),v=.tuple #[]∧aW g' (.int .i64) BI (lX xs)∧H'=[.own (.slice M9 (lX xs).length MX) 3 1 (lX xs).length BI]∧(lX xs).length=xs.length) :=
 (aa1 xs acG _ (ahO xs hp)).mono (by rintro g' H' v _ ⟨Xg,BI,rfl,ai8,rfl,ais,hK⟩; subst hK; exact ⟨BI,rfl,ai8,rfl,ais⟩)

def ancN (l:List ND):Nat→Int→List Int
 | 0,_=>[]
 | k+1,n=>if decide (n>0)=true then n::ancN l k (par l n.toNat) else []
theorem Pb (l:List ND):∀ (k:Nat) (n:Int),(ancN l k n).length≤k
 | 0,_=>fK _
 | k+1,n=>by
  rw [ancN]
  split
  ·rw [cK]; have:=Pb l k (par l n.toNat); omega
  simp
def upS (d:DC) (n:Int):List Int:=ancN d.1 42 (par d.1 n.toNat)
def mnxS (d:DC) (n:Int) (j:Int):List Int :=
 if ((j==32)||(j==62))=true then (if (j==62)=true then (upS d n).take 1 else upS d n)
 else if (j==43)=true then ((cu d n).1.take (cu d n).2.toNat).reverse.take 1 else ((cu d n).1.take (cu d n).2.toNat).reverse
def aaJ (d:DC) (n:Int) (_:Int):Prop:=gP d∧nC d n∧eP d n=true
theorem WN {l:List Int} {n:Int} (h:n ∈ l):∀ i:Nat,(i:Int)≤jW (fun x=>n==x) l i∧jW (fun x=>n==x) l i<(i:Int)+(l.length:Int):=by
 induction l with
 | nil=>cases h
 | cons x l ih =>
  intro i
  rw [jW,cK]
  by_cases hx:(n==x)=true
  ·rw [bn hx]; omega
  rw [aQ hx]
  have hm:n ∈ l:=by
   rcases eG.1 h with rfl | h
   ·exact absurd (uG n) hx
   exact h
  have:=ih hm (i+1)
  omega
theorem OC {d:DC} (hG:gP d) {n:Int} (hn:nC d n) (he:eP d n=true):n ∈ dY d n:=by
 unfold dY
 split
 ·exact il.2 rfl
 rename_i hc
 have hc:¬ par d.1 n.toNat<0:=by simpa using hc
 refine pG.2 ⟨?_,he⟩
 rcases hG.kids.up n.toNat (by have:=hn.1; have:=hn.2; omega) with h | ⟨i,hi,hp,hm⟩
 ·omega
 rw [hp,eB]
 rw [show ((n.toNat:Nat):Int)=n by have:=hn.1; omega] at hm
 exact hm
theorem yl {d:DC} (hG:gP d) {n:Int} (hn:nC d n):(dY d n).length≤200:=by
 unfold dY
 split
 ·simp
 rename_i hc
 have hc:¬ par d.1 n.toNat<0:=by simpa using hc
 have hp:=CL hG hn hc
 exact gV (zM ..) (um hG (by have:=hp.1; have:=hp.2; omega))
theorem Ha {d:DC} (hG:gP d) {n:Int} (hn:nC d n) (he:eP d n=true):0≤(cu d n).2∧(cu d n).2<((cu d n).1.length:Int):=by
 have hm:=OC hG hn he
 have:=WN hm 0
 unfold cu
 split
 ·rename_i hc
  have:dY d n=[n]:=by unfold dY; rw [bn hc]
  show (0:Int)≤0∧(0:Int)<((dY d n).length:Int)
  rw [this]; exact ⟨ll _,by simp⟩
 show 0≤jW (fun x=>n==x) (dY d n) 0∧jW (fun x=>n==x) (dY d n) 0<((dY d n).length:Int)
 omega
theorem Im {l:List ND}:∀ {k:Nat} {n:Int},Ends l k n→0≤n→n<(l.length:Int)
 | 0,n,h,h0=>by have h:n<0:=h; omega
 | k+1,n,h,h0=>by
  rcases h with h | h
  ·omega
  exact h.1
def JI (K:(List Int)→Prop) (c0:List Int):Prop :=
 K c0
def Wq (xd:Dc) (bX:Int) (K:(List Int)→Prop) (d0:Int) (u0:List Int) (Zc:Int→List Int→Prop):Prop :=
 (decide (d0>0)=true→(u0++([d0]:List Int)).length≤17592186044416∧((bX==62)=true→JI K (u0++([d0]:List Int)))∧((bX==62)=false→0≤d0∧d0.toNat<xd.1.length∧Zc (xd.1.getD d0.toNat default).2.2.2.2.1 (u0++([d0]:List Int))))∧(decide (d0>0)=false→JI K u0)
def GK (xd:Dc) (bX:Int) (K:(List Int)→Prop):Nat→Int→List Int→Prop
 | 0,_,_=>False
 | k+1,d0,u0=>Wq xd bX K d0 u0 (GK xd bX K k)
def Ot (xd:Dc) (xn:Int) (bX:Int) (K:(List Int)→Prop):Prop :=
 (((bX==32)||(bX==62))=true→0≤xn∧xn.toNat<xd.1.length∧∃ k,GK xd bX K k (xd.1.getD xn.toNat default).2.2.2.2.1 ([]:List Int))∧(((bX==32)||(bX==62))=false→Dm xd xn∧0≤(cu xd xn).2∧(cu xd xn).2≤((cu xd xn).1.length:Int)∧SK ((cu xd xn).1.take (Int.toNat (cu xd xn).2))∧((bX==43)=true→0≤(if ((lX ((cu xd xn).1.take (Int.toNat (cu xd xn).2))).length:Int)<1 then ((lX ((cu xd xn).1.take (Int.toNat (cu xd xn).2))).length:Int) else 1)∧(if ((lX ((cu xd xn).1.take (Int.toNat (cu xd xn).2))).length:Int)<1 then ((lX ((cu xd xn).1.take (Int.toNat (cu xd xn).2))).length:Int) else 1)≤((lX ((cu xd xn).1.take (Int.toNat (cu xd xn).2))).length:Int)∧JI K ((lX ((cu xd xn).1.take (Int.toNat (cu xd xn).2))).take (Int.toNat (if ((lX ((cu xd xn).1.take (Int.toNat (cu xd xn).2))).length:Int)<1 then ((lX ((cu xd xn).1.take (Int.toNat (cu xd xn).2))).length:Int) else 1))))∧((bX==43)=false→JI K (lX ((cu xd xn).1.take (Int.toNat (cu xd xn).2)))))
def ag9 (xd:Dc) (xn:Int) (bX:Int) (K:(List Int)→Prop):Prop :=
 ((bX==32)=true→Ot xd xn bX K)∧((bX==32)=false→Ot xd xn bX K)
theorem aaI {g:ak} {j0:Option Addr} {x0:Nat} (xd:Dc) (xn:Int) (bX:Int) (y0:bG g qh [.slice j0 xd.1.length x0] xd.1) (K:(List Int)→Prop)
  (hF:ag9 xd xn bX K):az prog 73 #[.agg (aD xd j0 x0),iv xn,.int .u8 bX] g [] (fun g' H' v=>∃ (r0:List Int),∃ (v1:Option Addr) (k1:Nat),v=.slice v1 r0.length k1∧bG g' (.slice (.int .i64)) [.slice v1 r0.length k1] r0∧H'=[]∧K r0):=by
 refine aP 53 func73 rfl fun w0=>?_
 refine ae (ai (di fun dK=>?_))
 refine av 1 [(1,iv xn),(2,.int .u8 bX),(3,pv dK 0)] kr (aa (ae (ag 1 [1,2,3] [(7,.slice none 0 0)] ?_)))
 have hL2:aW g (.int .i64) [] []:=rfl
 refine fO 3 1 (aa (Ok.cut (fun a W=>∃ Xf:ak,aY w0 g Xf∧∃ (o0:Option Addr) (t0:Nat) (c0:List Int) (D0:List Value),aW Xf (.int .i64) D0 c0∧fJ 53 [(7,.slice o0 c0.length t0)] a∧dh w0 [.own (.slice o0 c0.length t0) 3 1 c0.length D0] Xf W∧JI K c0) ?_ ?_))
 ·
  refine ae (ag 1 [1,2,3] [(7,.slice none ([]:List Int).length 0),(10,.int .u8 bX)] ?_)
  let A:=(bX==32)||(bX==62)
  refine aa (Ok.block (iO g [(1,iv xn),(2,.int .u8 bX),(3,pv dK 0),(7,.slice none ([]:List Int).length 0),(29,.bool A)] [.own (.slice none ([]:List Int).length 0) 3 1 ([]:List Int).length ([]),.blk dK (.cells (aD xd j0 x0) 24)] (Ot xd xn bX K) ?_ (fun gj9 Z1 hF=>?_)))
  ·
   refine ae (ag 2 [1,2,3,7,10] [(29,.bool (bX==32))] ?_)
   refine aa (aM hF (fun b1 hF=>?_) (fun b1 hF=>?_))
   ·refine Ok.k (Ok.t (aB 29 A (au (b1) (df b1)) ?_))
    exact fg hF
   refine aS (ag 2 [1,2,3,7] [(29,.bool (bX==62))] ?_)
   refine aa (aB 29 A (bR b1) ?_)
   exact fg hF
  replace hL2:=hL2.mono Z1.1
  replace y0:=y0.mono Z1.1
  refine aM hF (fun hc4 hF=>?_) (fun hc4 hF=>?_)
  ·refine ae (aj 3 [.e 1] [2,3,7] [(33,.slice j0 xd.1.length x0),(34,iv xn)] ?_)
   obtain ⟨vY,h16,hF⟩:=hF
   have wW:=aV (l:=xd.1) default h16
   generalize Bi:(xd.1.getD xn.toNat default)=e6 at wW hF ⊢
   refine ai (af.bf (e:=yN) rfl rfl underlying22 kr y0 vY wW rfl fun q5 o5 cs5 _ U1 P8=>?_)
   obtain ⟨aks,ajN,auR,auz,rfl,YT,arB⟩:=oN P8
   refine aj 3 [.a 4 U1] [2,3,7] [(1,iv e6.2.2.2.2.1)] ?_
   refine aa (Ok.block ?_)
   obtain ⟨k,hF⟩:=hF
   refine gF (fun k a W=>∃ d1:ak,aY w0 gj9 d1∧∃ (d0:Int) (a0:Option Addr) (Z0:Nat) (u0:List Int) (K0:List Value),aW d1 (.int .i64) K0 u0∧fJ 53 [(1,iv d0),(2,.int .u8 bX),(3,pv dK 0),(7,.slice a0 u0.length Z0)] a∧dh w0 [.own (.slice a0 u0.length Z0) 3 1 u0.length K0,.blk dK (.cells (aD xd j0 x0) 24)] d1 W∧GK xd bX K k d0 u0) k ?_ ?_
   ·
    exact fun _ _ u v=>⟨gj9,bq w0 gj9,e6.2.2.2.2.1,none,0,([]:List Int),[],hL2,fA u v hF⟩
   clear hF
   rintro (_ | k19) _ _ ⟨d1,t1,d0,a0,Z0,u0,K0,G0,q⟩
   exact (q.2.2:False).elim
   refine jn (fun hF=>?_) _ _ q
   replace y0:=y0.mono t1.1
   refine aH (ae (ag 2 [1,2,3,7] [(39,.bool (decide (d0>0)))] ?_))
   refine aa (ed hF rfl (fun iC=>?_) (fun iC=>?_))
   ·replace hF:=hF.1 iC
    refine Ok.k (Ok.t (aH (Ok.block (ae (ag 2 [1,2,3] [(46,.slice a0 u0.length Z0),(47,iv d0)] ?_)))))
    let B:=([d0]:List Int)
    have YV:aW d1 (.int .i64) ([iv d0]:List Value) B:=(dB (c:=[iv d0]) rfl rfl)
    refine ai (gG YV fun b8=>?_)
    obtain ⟨hb9,hF⟩:=hF
    refine ai (eZ (e:=.int .i64) 8 17592186044416 1 0 rfl rfl rfl rfl G0 YV underlying46 kr kr kr hb9 rfl fun a9 c9 Qy hL9=>?_)
    refine ag 1 [1,2,3] [(7,.slice a9 (u0++B).length c9)] ?_
    refine aa (ae (ag 2 [1,2,3,7] [(51,.bool (bX==62))] ?_))
    refine aa (ed hF rfl (fun y1=>?_) (fun y1=>?_))
    ·replace hF:=hF.1 y1
     refine fU (yQ rfl (aA (aA (aO (bJ (Ok.t ?_))))))
     subst Bi
     exact fun _ _ u v=>⟨d1,Z1.trans t1,a9,c9,(u0++B),Qy,hL9,fA u v hF⟩
    replace hF:=hF.2 y1
    refine Ok.k (bJ (Ok.t (aS (aj 3 [.e 2] [2,3,7] [(41,.slice j0 xd.1.length x0),(42,iv d0)] ?_))))
    obtain ⟨R1,T1,hF⟩:=hF
    have Y1:=aV (l:=xd.1) default T1
    generalize C1:(xd.1.getD d0.toNat default)=e12 at Y1 hF ⊢
    refine ai (af.bf (e:=yN) rfl rfl underlying22 kr y0 R1 Y1 rfl fun q11 o11 ad6 _ aiN L1=>?_)
    obtain ⟨asD,ar8,asC,ar7,rfl,aoT,aoS⟩:=oN L1
    refine aj 3 [.a 4 aiN] [2,3,7] [(1,iv e12.2.2.2.2.1)] ?_
    refine bY (Ok.t ?_)
    subst C1
    exact fun _ _ u v=>⟨k19,nl,d1,t1,(xd.1.getD d0.toNat default).2.2.2.2.1,a9,c9,(u0++([d0]:List Int)),Qy,hL9,fA u v hF⟩
   replace hF:=hF.2 iC
   refine fU (aA (aA (aO (bJ (Ok.t ?_)))))
   subst Bi
   exact fun _ _ u v=>⟨d1,Z1.trans t1,a0,Z0,u0,K0,G0,fA u v hF⟩
  refine ae (aj 2 [.e 1] [2] [(12,.agg (aD xd j0 x0)),(13,iv xn)] ?_)
  obtain ⟨zx,hF⟩:=hF
  refine ai (bQ (YJ xd xn y0 zx) fun g14 _ _ D1 ab8=>?_)
  obtain ⟨J0,W0,alB,rfl,acL,rfl⟩:=ab8
  refine ag 5 [2] [(8,.slice J0 (cu xd xn).1.length W0),(9,iv (cu xd xn).2)] ?_
  refine aa (ae (ag 2 [2] [(17,.slice J0 (cu xd xn).1.length W0),(18,iv (cu xd xn).2)] ?_))
  obtain ⟨Ie,Mx,hF⟩:=hF
  refine ai (qc (e:=.int .i64) (h:=(cu xd xn).2) 0 rfl rfl rfl acL underlying46 kr Ie Mx rfl fun asN z2=>?_)
  refine ag 1 [2] [(7,.slice J0 ((cu xd xn).1.take (Int.toNat (cu xd xn).2)).length W0)] ?_
  refine aa (ae (ag 1 [2,7] [(20,.slice J0 ((cu xd xn).1.take (Int.toNat (cu xd xn).2)).length W0)] ?_))
  obtain ⟨Mg,hF⟩:=hF
  refine ai (bQ (ahN ((cu xd xn).1.take (Int.toNat (cu xd xn).2)) z2 Mg) fun g17 _ _ J1 ab6=>?_)
  obtain ⟨Zd,rfl,W1,rfl,f1⟩:=ab6
  refine gW 7 rfl (show (.slice J0 ((cu xd xn).1.take (Int.toNat (cu xd xn).2)).length W0:Value)=.slice J0 (lX ((cu xd xn).1.take (Int.toNat (cu xd xn).2))).length W0 from by rw [f1]) (gW 20 rfl (show (.slice J0 ((cu xd xn).1.take (Int.toNat (cu xd xn).2)).length W0:Value)=.slice J0 (lX ((cu xd xn).1.take (Int.toNat (cu xd xn).2))).length W0 from by rw [f1]) (aa (ae (av 2 [(7,.slice J0 (lX ((cu xd xn).1.take (Int.toNat (cu xd xn).2))).length W0),(23,.bool (bX==43))] kr (aa (aM hF (fun hc18 hF=>?_) (fun hc18 hF=>?_)))))))
  ·refine aS (av 4 [(24,.slice J0 (lX ((cu xd xn).1.take (Int.toNat (cu xd xn).2))).length W0),(27,iv (if ((lX ((cu xd xn).1.take (Int.toNat (cu xd xn).2))).length:Int)<1 then ((lX ((cu xd xn).1.take (Int.toNat (cu xd xn).2))).length:Int) else 1))] kr ?_)
   obtain ⟨adj,apj,hF⟩:=hF
   refine ai (qc (e:=.int .i64) (h:=(if ((lX ((cu xd xn).1.take (Int.toNat (cu xd xn).2))).length:Int)<1 then ((lX ((cu xd xn).1.take (Int.toNat (cu xd xn).2))).length:Int) else 1)) 0 rfl rfl rfl W1 underlying46 kr adj apj rfl fun aly ao4=>?_)
   refine av 1 [(7,.slice J0 ((lX ((cu xd xn).1.take (Int.toNat (cu xd xn).2))).take (Int.toNat (if ((lX ((cu xd xn).1.take (Int.toNat (cu xd xn).2))).length:Int)<1 then ((lX ((cu xd xn).1.take (Int.toNat (cu xd xn).2))).length:Int) else 1))).length W0)] kr (bY (bJ (Ok.t ?_)))
   exact fun _ _ u v=>⟨g17,((Z1.trans D1).trans J1),J0,W0,((lX ((cu xd xn).1.take (Int.toNat (cu xd xn).2))).take (Int.toNat (if ((lX ((cu xd xn).1.take (Int.toNat (cu xd xn).2))).length:Int)<1 then ((lX ((cu xd xn).1.take (Int.toNat (cu xd xn).2))).length:Int) else 1))),aly,ao4,fA u v hF⟩
  refine Ok.k (bJ (Ok.t ?_))
  exact fun _ _ u v=>⟨g17,((Z1.trans D1).trans J1),J0,W0,(lX ((cu xd xn).1.take (Int.toNat (cu xd xn).2))),Zd,W1,fA u v hF⟩
 clear hF
 rintro _ _ ⟨Xf,amh,o0,t0,c0,D0,Kn,q⟩
 refine jn (fun hF=>?_) _ _ q
 refine ae (av 2 [(6,.slice o0 c0.length t0)] kr (aa (Ok.ret (sM 0 rfl Kn fun g3 hx3 aom=>?_))))
 exact qd (.slice o0 c0.length t0) (amh.trans hx3) ⟨c0,o0,t0,rfl,aom,rfl,hF⟩
theorem ag8 (d:DC) (n:Int) (j:Int) (hp:aaJ d n j):ag9 d n j (fun a=>a=mnxS d n j):=by
 obtain ⟨hG,hn,he⟩:=hp
 obtain ⟨i0,i1⟩:=Ha hG hn he
 have hkl:((cu d n).1).length≤200:=yl hG hn
 have e1:Ends d.1 42 (par d.1 n.toNat):=by
  have h2:=OQ hG (n:=n.toNat) (by have:=hn.1; have:=hn.2; omega)
  rw [show ((n.toNat:Nat):Int)=n by have:=hn.1; omega] at h2
  exact (OP (k:=40) h2 hn.1).mono om
 have j9:Ot d n j (fun a=>a=mnxS d n j):=by
  refine ⟨fun hc=>⟨hn.1,by have:=hn.1; have:=hn.2; omega,?_⟩,fun hc=>?_⟩
  ·have loop:∀ (k:Nat) (m:Int) (acc:List Int),Ends d.1 k m→(j==62)=true∧acc=[]∨(j==62)=false→acc.length+k≤1000→mnxS d n j=(if (j==62)=true then (acc++ancN d.1 k m).take 1 else acc++ancN d.1 k m)→GK d j (fun a=>a=mnxS d n j) (k+1) m acc:=by
    intro k
    induction k with
    | zero =>
     intro m acc hE hj hl hS
     have hE:m<0:=hE
     refine ⟨fun h=>od h,fun _=>?_⟩
     show acc=_
     rw [hS,ancN,gK]
     rcases hj with ⟨h1,h2⟩ | h1
     ·rw [aT h1,h2]; rfl
     rw [aF h1]
    | succ k ih =>
     intro m acc hE hj hl hS
     refine ⟨fun h=>?_,fun h=>?_⟩
     ·rw [ancN,aT h] at hS
      have h:=dn h
      refine ⟨by rw [bC,mM]; omega,fun hj1=>?_,fun hj1=>?_⟩
      ·show acc++[m]=_
       rcases hj with ⟨-,h2⟩ | h1
       ·rw [hS,aT hj1,h2]; rfl
       rw [h1] at hj1; cases hj1
      have hm:=Im hE om
      rcases hE with hE | hE
      ·omega
      refine ⟨om,om,ih _ _ hE.2 (.inr hj1) (by rw [bC,mM]; omega) ?_⟩
      rw [hS,aF hj1,aF hj1,dL]; rfl
     rw [ancN,aF h,gK] at hS
     show acc=_
     rw [hS]
     rcases hj with ⟨h1,h2⟩ | h1
     ·rw [aT h1,h2]; rfl
     rw [aF h1]
   refine ⟨_,loop 42 (par d.1 n.toNat) [] e1 ?_ (by simp) ?_⟩
   ·cases hj:(j==62) with
    | true=>exact .inl ⟨rfl,rfl⟩
    | false=>exact .inr rfl
   unfold mnxS; rw [aT hc]; rfl
  have hR:SK ((cu d n).1.take (cu d n).2.toNat):=by
   show ((cu d n).1.take (cu d n).2.toNat).length≤1000000
   rw [gz]; omega
  have hS:mnxS d n j=if (j==43)=true then ((cu d n).1.take (cu d n).2.toNat).reverse.take 1 else ((cu d n).1.take (cu d n).2.toNat).reverse:=by
   unfold mnxS; rw [aF hc]
  rw [hS]
  refine ⟨⟨hG,hn⟩,i0,om,hR,fun hj=>?_,fun hj=>?_⟩
  ·rw [aT hj]
   unfold lX
   generalize ((cu d n).1.take (cu d n).2.toNat).reverse=R
   by_cases h1:((R.length:Nat):Int)<1
   ·rw [bn h1]
    refine ⟨om,ll _,?_⟩
    have:R=[]:=iL om
    subst this; rfl
   rw [aQ h1]
   exact ⟨by decide,om,rfl⟩
  rw [aF hj]; rfl
 exact ⟨fun _=>j9,fun _=>j9⟩
theorem ag7 {g:ak} {j0:Option Addr} {x0:Nat} (xd:Dc) (xn:Int) (bX:Int) (y0:bG g qh [.slice j0 xd.1.length x0] xd.1)  (hp:aaJ xd xn bX):az prog 73 #[.agg (aD xd j0 x0),iv xn,.int .u8 bX] g [] (fun g' H' v=>∃ (v1:Option Addr) (k1:Nat),v=.slice v1 (mnxS xd xn bX).length k1∧bG g' (.slice (.int .i64)) [.slice v1 (mnxS xd xn bX).length k1] (mnxS xd xn bX)∧H'=[]) :=
 (aaI xd xn bX y0 _ (ag8 xd xn bX hp)).mono (by rintro g' H' v _ ⟨r0,v1,k1,rfl,rX,rfl,hK⟩; subst hK; exact ⟨v1,k1,rfl,rX,rfl⟩)
def jI:List (Bs×Bs)→Bs→Bs×Bool
 | [],_=>([],false)
 | a::l,n=>if (a.1==n)=true then (a.2,true) else jI l n
def GV (xx:Nd) (K:Bs→Bool→Prop) (e0:Int):Prop :=
 (decide (e0<0)=true→K ([]:Bs) false)∧(decide (e0<0)=false→0≤e0∧e0.toNat<xx.2.2.1.length∧K (xx.2.2.1.getD e0.toNat default).2 true)
def Sc (xx:Nd) (cZ:Bs) (K:Bs→Bool→Prop) (b0:Int) (Eg:Int→Prop):Prop :=
 ((decide (b0<(xx.2.2.1.length:Int)))=true→0≤b0∧b0.toNat<xx.2.2.1.length∧(((xx.2.2.1.getD b0.toNat default).1==cZ)=true→GV xx K b0)∧(((xx.2.2.1.getD b0.toNat default).1==cZ)=false→Eg (w6 (b0+1))))∧((decide (b0<(xx.2.2.1.length:Int)))=false→GV xx K (-1))
def Bg (xx:Nd) (cZ:Bs) (K:Bs→Bool→Prop):Nat→Int→Prop
 | 0,_=>False
 | k+1,b0=>Sc xx cZ K b0 (Bg xx cZ K k)
def ahr (xx:Nd) (cZ:Bs) (K:Bs→Bool→Prop):Prop :=
 ∃ k,Bg xx cZ K k 0
theorem aaR {g:ak} {V0:Option Addr} {Q0:Nat} {O0:Option Addr} {P0:Nat} (xx:Nd) (cZ:Bs) (u1:bG g (.slice yA) [.slice V0 xx.2.2.1.length Q0] xx.2.2.1) (X1:bG g (.slice (.int .i64)) [.slice O0 xx.2.2.2.2.2.length P0] xx.2.2.2.2.2) (K:Bs→Bool→Prop)
  (hF:ahr xx cZ K):az prog 112 #[.agg (aN xx V0 Q0 O0 P0),sv cZ] g [] (fun g' H' v=>∃ (r0:Bs),∃ (r1:Bool),v=.tuple #[sv r0,.bool r1]∧H'=[]∧K r0 r1):=by
 refine aP 19 func112 rfl fun w0=>?_
 refine ae (ai (di fun eO=>?_))
 refine ai (af.box (v:=sv cZ) (cs:=#[sv cZ]) rfl kr rfl fun dK=>?_)
 refine av 2 [(2,pv eO 0),(3,pv dK 0)] kr (aa (ae (aj 3 [.e 1] [2] [(8,.slice V0 xx.2.2.1.length Q0),(9,.func (.func 149) #[] #[pv dK 0])] ?_)))
 let C:=(.cells (aN xx V0 Q0 O0 P0) 48:Obj)
 refine ai (af.cut (fun a W=>∃ (e0:Int),fJ 19 [(2,pv eO 0),(10,iv e0)] a∧dh w0 [.blk eO C] g W∧GV xx K e0) ?_ ?_)
 ·
  let B:=(xx.2.2.1.length:Int)
  refine bM (args:=#[.slice V0 xx.2.2.1.length Q0,.func (.func 149) #[] #[pv dK 0]]) 19 [(0,.slice V0 xx.2.2.1.length Q0),(1,.func (.func 149) #[] #[pv dK 0])] gT func102 rfl rfl rfl rfl (ae (av 1 [(0,.slice V0 xx.2.2.1.length Q0),(1,.func (.func 149) #[] #[pv dK 0])] kr (aa (aH (ae (ag 3 [0,1] [(7,iv B),(8,iv 0)] ?_))))))
  refine aa (Ok.block ?_)
  obtain ⟨k,hF⟩:=hF
  refine gF (fun k a W=>∃ (b0:Int),fJ 19 [(0,.slice V0 xx.2.2.1.length Q0),(1,.func (.func 149) #[] #[pv dK 0]),(7,iv B),(8,iv b0)] a∧dh w0 [.blk dK (.cells #[sv cZ] 9),.blk eO C] g W∧Bg xx cZ K k b0) k ?_ ?_
  ·
   exact fun _ _ u v=>⟨0,fA u v hF⟩
  clear hF
  rintro (_ | Kb) _ _ ⟨b0,q⟩
  exact (q.2.2:False).elim
  refine jn (fun hF=>?_) _ _ q
  refine ae (ag 1 [0,1,7,8] [(9,.bool (decide (b0<B)))] ?_)
  refine aa (aH (aM hF (fun hc6 hF=>?_) (fun hc6 hF=>?_)))
  ·refine Ok.k (Ok.t (aH (Ok.block (ae (ag 2 [0,1,7,8] [(5,iv b0)] ?_)))))
   refine aa (ae (ag 3 [0,1,5,7,8] [(11,.func (.func 149) #[] #[pv dK 0]),(12,.slice V0 xx.2.2.1.length Q0),(13,iv b0)] ?_))
   obtain ⟨MG,h18,hF⟩:=hF
   have Ml:=aV (l:=xx.2.2.1) default h18
   generalize YP:(xx.2.2.1.getD b0.toNat default)=e8 at Ml hF ⊢
   refine ai (af.bf (e:=.pair (.str) (.str)) rfl rfl underlying45 kr u1 MG Ml rfl fun q7 o7 cs7 _ v2 S9=>?_)
   obtain ⟨_,_,rfl,rfl,rfl⟩:=S9
   replace v2:At g q7 o7 [sv e8.1,sv e8.2]:=v2
   let A:=(#[sv e8.1,sv e8.2]:Array Value)
   refine ai (af.s (v:=.agg A) (bU 0 2 A v2 kr underlying105 rfl kr kr kr) rfl rfl (ai (bM (args:=#[.agg A,pv dK 0]) 8 [(0,.agg A),(1,pv dK 0)] gT func149 rfl rfl rfl rfl (ae (ai (di fun Qo=>?_))))))
   refine av 1 [(1,pv dK 0),(2,pv Qo 0)] kr (aa (ae (aj 5 [.e 0,.e 1] [] [(3,.bool (e8.1==cZ))] ?_)))
   refine aa (Ok.ret (bu (vs:=[.bool (e8.1==cZ)]) (.inl rfl) rfl (.cons (.tmp rfl) .nil) rfl (aa (ed hF rfl (fun y1=>?_) (fun y1=>?_)))))
   ·replace hF:=hF.1 y1
    refine ae (av 2 [(4,iv b0)] kr (aa (Ok.ret (aU (aC (aC (aU (aC (bu (vs:=[iv b0]) (.inl rfl) rfl (.cons (.tmp rfl) .nil) rfl ?_)))))))))
    subst YP
    exact fun _ _ u v=>⟨b0,fA u v hF⟩
   replace hF:=hF.2 y1
   refine Ok.k (bJ (Ok.t (aS (av 2 [(0,.slice V0 xx.2.2.1.length Q0),(1,.func (.func 149) #[] #[pv dK 0]),(7,iv (xx.2.2.1.length:Int)),(8,iv (w6 (b0+1)))] kr (bY (Ok.t ?_))))))
   subst YP
   exact fun _ _ u v=>⟨Kb,nl,w6 (b0+1),fA u v hF⟩
  refine fU (aA (aA (aO (Ok.t (ae (av 1 [(4,iv (-1))] kr (aa (Ok.ret (bu (vs:=[iv (-1)]) (.inl rfl) rfl (.cons (.tmp rfl) .nil) rfl ?_)))))))))
  exact fun _ _ u v=>⟨-1,fA u v hF⟩
 clear hF
 rintro _ _ ⟨e0,q⟩
 refine jn (fun hF=>?_) _ _ q
 refine ag 1 [2] [(6,iv e0)] ?_
 refine aa (aH (ae (ag 2 [2,6] [(12,.bool (decide (e0<0)))] ?_)))
 refine aa (aM hF (fun hc3 hF=>?_) (fun hc3 hF=>?_))
 ·refine ae (av 2 [(4,sv ([]:Bs)),(5,.bool false)] kr (aa (Ok.ret (aC ?_))))
  exact Au [] (bq w0 g) ⟨([]:Bs),false,rfl,rfl,hF⟩
 refine Ok.k (Ok.t (ae (aj 3 [.e 0] [] [(14,.slice V0 xx.2.2.1.length Q0),(15,iv e0)] ?_)))
 obtain ⟨Ei,H_,hF⟩:=hF
 have Dx:=aV (l:=xx.2.2.1) default H_
 generalize hg5:(xx.2.2.1.getD e0.toNat default)=e5 at Dx hF ⊢
 refine ai (af.bf (e:=.pair (.str) (.str)) rfl rfl underlying45 kr u1 Ei Dx rfl fun q4 o4 cs4 _ k2 hr4=>?_)
 obtain ⟨_,_,rfl,rfl,rfl⟩:=hr4
 replace k2:At g q4 o4 [sv e5.1,sv e5.2]:=k2
 refine aj 4 [.a 1 k2] [] [(4,sv e5.2),(5,.bool true)] ?_
 refine aa (Ok.ret ?_)
 exact Au [] (bq w0 g) ⟨e5.2,true,rfl,rfl,hF⟩
def cB (x:ND) (n:Bs):Bs×Bool:=jI x.2.2.1 n
def PX (x:ND) (_:Bs):Prop:=x.2.2.1.length≤1000
theorem ahq (x:ND) (n:Bs) (hp:PX x n):ahr x n (fun a b=>(a,b)=cB x n):=by
 have hl:x.2.2.1.length≤1000:=hp
 have loop:∀ (k i:Nat),i+k=x.2.2.1.length→cB x n=jI (x.2.2.1.drop i) n→Bg x n (fun a b=>(a,b)=cB x n) (k+1) (i:Int):=by
  intro k
  induction k with
  | zero =>
   intro i h h2
   rw [fF om,jI] at h2
   exact ⟨fun hc=>od hc,fun _=>⟨fun _=>h2.symm,fun hc=>absurd hc dc⟩⟩
  | succ k ih =>
   intro i h h2
   rw [dm (l:=x.2.2.1) default om,jI] at h2
   refine ⟨fun _=>⟨om,om,fun hc=>?_,fun hc=>?_⟩,fun hc=>oe hc⟩
   ·rw [eB] at hc
    rw [aT hc] at h2
    refine ⟨fun hc=>od hc,fun _=>⟨om,om,?_⟩⟩
    rw [eB]
    exact h2.symm
   rw [eB] at hc
   rw [aF hc] at h2
   rw [gp om]
   exact ih (i+1) om h2
 exact ⟨_,loop x.2.2.1.length 0 om rfl⟩
theorem Sd {g:ak} {V0:Option Addr} {Q0:Nat} {O0:Option Addr} {P0:Nat} (xx:Nd) (cZ:Bs) (u1:bG g (.slice yA) [.slice V0 xx.2.2.1.length Q0] xx.2.2.1) (X1:bG g (.slice (.int .i64)) [.slice O0 xx.2.2.2.2.2.length P0] xx.2.2.2.2.2)  (hp:PX xx cZ):bE prog 112 #[.agg (aN xx V0 Q0 O0 P0),sv cZ] g (.tuple #[sv ((cB xx cZ).1),.bool (cB xx cZ).2]) :=
 (aaR xx cZ u1 X1 _ (ahq xx cZ hp)).gives (by rintro g' H' v _ ⟨r0,r1,rfl,rfl,hK⟩; obtain ⟨rfl,rfl⟩:r0=(cB xx cZ).1∧r1=(cB xx cZ).2:=⟨ay (fun z=>z.1) hK,ay (fun z=>z.2) hK⟩; rfl)
def AJ (d:DC) (k:Int):Bool:=eP d k||((d.1.getD k.toNat default).1==3&&!((d.1.getD k.toNat default).2.2.2.1==[]))
def LQ (d:DC) (n:Int):Bool:=!((eY d.1 n.toNat).any (AJ d))
def CZ (xd:Dc) (e6:Int):Bool :=
 (eP xd e6||(((xd.1.getD e6.toNat default).1==3)&&(!((xd.1.getD e6.toNat default).2.2.2.1==([]:Bs)))))
def GU (K:Bool→Prop) (X0:Int):Prop :=
 K (!(decide (X0≥0)))
def lH (xd:Dc) (K:Bool→Prop) (e6:Int) (q0:Int) (Eg:Int→Prop):Prop :=
 (CZ xd e6=true→GU K q0)∧(CZ xd e6=false→Eg (w6 (q0+1)))
def CY (xd:Dc) (K:Bool→Prop) (e3:Nd) (q0:Int) (Eg:Int→Prop):Prop :=
 ((decide (q0<(e3.2.2.2.2.2.length:Int)))=true→0≤q0∧q0.toNat<e3.2.2.2.2.2.length∧LU xd (e3.2.2.2.2.2.getD q0.toNat default)∧((eP xd (e3.2.2.2.2.2.getD q0.toNat default))=true→lH xd K (e3.2.2.2.2.2.getD q0.toNat default) q0 Eg)∧((eP xd (e3.2.2.2.2.2.getD q0.toNat default))=false→0≤e3.2.2.2.2.2.getD q0.toNat default∧Int.toNat (e3.2.2.2.2.2.getD q0.toNat default)<xd.1.length∧(((xd.1.getD (Int.toNat (e3.2.2.2.2.2.getD q0.toNat default)) default).1==3)=true→lH xd K (e3.2.2.2.2.2.getD q0.toNat default) q0 Eg)∧(((xd.1.getD (Int.toNat (e3.2.2.2.2.2.getD q0.toNat default)) default).1==3)=false→lH xd K (e3.2.2.2.2.2.getD q0.toNat default) q0 Eg)))∧((decide (q0<(e3.2.2.2.2.2.length:Int)))=false→GU K (-1))
def p8 (xd:Dc) (K:Bool→Prop) (e3:Nd):Nat→Int→Prop
 | 0,_=>False
 | k+1,q0=>CY xd K e3 q0 (p8 xd K e3 k)
def ahn (xd:Dc) (xn:Int) (K:Bool→Prop):Prop :=
 0≤xn∧xn.toNat<xd.1.length∧∃ k,p8 xd K (xd.1.getD xn.toNat default) k 0
theorem aaP {g:ak} {j0:Option Addr} {x0:Nat} (xd:Dc) (xn:Int) (y0:bG g qh [.slice j0 xd.1.length x0] xd.1) (K:Bool→Prop)
  (hF:ahn xd xn K):az prog 115 #[.agg (aD xd j0 x0),iv xn] g [] (fun g' H' v=>∃ (r0:Bool),v=.bool r0∧H'=[]∧K r0):=by
 refine aP 14 func115 rfl fun w0=>?_
 refine ae (ai (di fun eO=>?_))
 refine av 1 [(1,iv xn),(2,pv eO 0)] kr (aa (ae (aj 3 [.e 0] [2] [(6,.slice j0 xd.1.length x0),(7,iv xn)] ?_)))
 obtain ⟨Eu,Et,hF⟩:=hF
 have yu:=aV (l:=xd.1) default Et
 generalize hg3:(xd.1.getD xn.toNat default)=e3 at yu hF ⊢
 refine ai (af.bf (e:=yN) rfl rfl underlying22 kr y0 Eu yu rfl fun q2 o2 cs2 _ V1 hr2=>?_)
 obtain ⟨u2,j2,H0,M0,rfl,E1,Q1⟩:=oN hr2
 refine aj 3 [.a 5 V1] [] [(10,.slice H0 e3.2.2.2.2.2.length M0),(11,.func (.func 157) #[] #[pv eO 0])] ?_
 refine ai (bM (args:=#[.slice H0 e3.2.2.2.2.2.length M0,.func (.func 157) #[] #[pv eO 0]]) 9 [(0,.slice H0 e3.2.2.2.2.2.length M0),(1,.func (.func 157) #[] #[pv eO 0])] gT func156 rfl rfl rfl rfl (ae (av 1 [(0,.slice H0 e3.2.2.2.2.2.length M0),(1,.func (.func 157) #[] #[pv eO 0])] kr (aa (ae (av 2 [(5,.slice H0 e3.2.2.2.2.2.length M0),(6,.func (.func 157) #[] #[pv eO 0])] kr (ai (af.cut (fun a W=>∃ (X0:Int),fJ 9 [(7,iv X0)] a∧dh w0 [] g W∧GU K X0) ?_ ?_))))))))
 ·
  let A:=(e3.2.2.2.2.2.length:Int)
  refine bM (args:=#[.slice H0 e3.2.2.2.2.2.length M0,.func (.func 157) #[] #[pv eO 0]]) 19 [(0,.slice H0 e3.2.2.2.2.2.length M0),(1,.func (.func 157) #[] #[pv eO 0])] gT func110 rfl rfl rfl rfl (ae (av 1 [(0,.slice H0 e3.2.2.2.2.2.length M0),(1,.func (.func 157) #[] #[pv eO 0])] kr (aa (aH (ae (ag 3 [0,1] [(7,iv A),(8,iv 0)] ?_))))))
  refine aa (Ok.block ?_)
  obtain ⟨k,hF⟩:=hF
  let C:=(.cells (aD xd j0 x0) 24:Obj)
  refine gF (fun k a W=>∃ (q0:Int),fJ 19 [(0,.slice H0 e3.2.2.2.2.2.length M0),(1,.func (.func 157) #[] #[pv eO 0]),(7,iv A),(8,iv q0)] a∧dh w0 [.blk eO C] g W∧p8 xd K e3 k q0) k ?_ ?_
  ·
   exact fun _ _ u v=>⟨0,fA u v hF⟩
  clear hF
  rintro (_ | Kb) _ _ ⟨q0,q⟩
  exact (q.2.2:False).elim
  refine jn (fun hF=>?_) _ _ q
  refine ae (ag 1 [0,1,7,8] [(9,.bool (decide (q0<A)))] ?_)
  refine aa (aH (aM hF (fun hc4 hF=>?_) (fun hc4 hF=>?_)))
  ·refine Ok.k (Ok.t (aH (Ok.block (ae (ag 2 [0,1,7,8] [(5,iv q0)] ?_)))))
   refine aa (ae (ag 3 [0,1,5,7,8] [(11,.func (.func 157) #[] #[pv eO 0]),(12,.slice H0 e3.2.2.2.2.2.length M0),(13,iv q0)] ?_))
   obtain ⟨vY,h16,hF⟩:=hF
   have wW:=aV (l:=e3.2.2.2.2.2) default h16
   generalize Bi:(e3.2.2.2.2.2.getD q0.toNat default)=e6 at wW hF ⊢
   refine ai (af.bf (e:=.int .i64) rfl rfl underlying46 kr Q1 vY wW rfl fun q5 o5 cs5 _ U1 P8=>?_)
   obtain rfl:=P8
   replace U1:At g q5 o5 [iv e6]:=U1
   refine ai (af.s (v:=iv e6) (eX 0 U1 kr underlying3 rfl kr) rfl rfl (ai (bM (args:=#[iv e6,pv eO 0]) 25 [(0,iv e6),(1,pv eO 0)] gT func157 rfl rfl rfl rfl (ae (av 1 [(0,iv e6),(1,pv eO 0)] kr (aa (Ok.cut (fun a W=>fJ 25 [(3,.bool (CZ xd e6))] a∧dh w0 [.blk eO C] g W∧lH xd K e6 q0 (p8 xd K e3 Kb)) ?_ ?_)))))))
   ·
    refine aS ?_
    obtain ⟨Mc,hF⟩:=hF
    refine aj 4 [.e 0,.k (JN xd e6 y0 Mc)] [0,1] [(7,.bool (eP xd e6))] ?_
    refine bN 7 hF (fun mW hF=>?_) (fun mW hF=>?_)
    ·refine av 18 [(3,.bool true)] kr (aa (aB 3 (CZ xd e6) (df mW) ?_))
     exact fz hF
    refine aj 3 [.e 0] [0,1] [(7,.bool false),(9,.slice j0 xd.1.length x0),(10,iv e6)] ?_
    obtain ⟨m2,Dz,hF⟩:=hF
    have y2:=aV (l:=xd.1) default Dz
    generalize n2:(xd.1.getD e6.toNat default)=e11 at y2 hF ⊢
    refine dW (af.bf (e:=yN) rfl rfl underlying22 kr y0 m2 y2 rfl fun q10 o10 Qj _ TI Hu=>?_)
    obtain ⟨Pe,O_,asF,asa,rfl,HZ,aoU⟩:=oN Hu
    refine aj 4 [.a 0 TI] [0,1,7] [(15,.bool (e11.1==3))] ?_
    refine Ok.a 15 (e11.1==3) rfl (fun S1=>?_) (fun S1=>?_)
    ·replace hF:=hF.1 S1
     refine aj 3 [.e 0] [7] [(15,.bool true),(17,.slice j0 xd.1.length x0),(18,iv e6)] ?_
     refine dW (af.bf (e:=yN) rfl rfl underlying22 kr y0 m2 y2 rfl fun q13 o13 aqb _ aiM abq=>?_)
     obtain ⟨asB,ar6,asA,ar5,rfl,aoR,aoQ⟩:=oN abq
     refine aj 6 [.a 3 aiM] [] [(3,.bool (!(e11.2.2.2.1==([]:Bs))))] ?_
     refine bY (Ok.t ?_)
     subst n2
     refine aB 3 (CZ xd e6) (au (aZ S1) (bR mW)) ?_
     exact fz hF
    replace hF:=hF.2 S1
    refine av 10 [(3,.bool false)] kr (bY (Ok.t ?_))
    subst n2
    refine aB 3 (CZ xd e6) (au (bW S1) (bR mW)) ?_
    exact fz hF
   clear hF
   refine jn fun hF=>?_
   refine Ok.ret (bu (vs:=[.bool (CZ xd e6)]) (.inl rfl) rfl (.cons (.tmp rfl) .nil) rfl (aa (ed hF rfl (fun iC=>?_) (fun iC=>?_))))
   ·replace hF:=hF.1 iC
    refine ae (av 2 [(4,iv q0)] kr (aa (Ok.ret (aU (aC (aC (aU (aC (bu (vs:=[iv q0]) (.inl rfl) rfl (.cons (.tmp rfl) .nil) rfl ?_)))))))))
    subst Bi
    exact fun _ _ u v=>⟨q0,fA u v hF⟩
   replace hF:=hF.2 iC
   refine Ok.k (bJ (Ok.t (aS (av 2 [(0,.slice H0 e3.2.2.2.2.2.length M0),(1,.func (.func 157) #[] #[pv eO 0]),(7,iv (e3.2.2.2.2.2.length:Int)),(8,iv (w6 (q0+1)))] kr (bY (Ok.t ?_))))))
   subst Bi
   exact fun _ _ u v=>⟨Kb,nl,w6 (q0+1),fA u v hF⟩
  refine fU (aA (aA (aO (Ok.t (ae (av 1 [(4,iv (-1))] kr (aa (Ok.ret (bu (vs:=[iv (-1)]) (.inl rfl) rfl (.cons (.tmp rfl) .nil) rfl ?_)))))))))
  exact fun _ _ u v=>⟨-1,fA u v hF⟩
 clear hF
 rintro _ _ ⟨X0,q⟩
 refine jn (fun hF=>?_) _ _ q
 let B:=decide (X0≥0)
 refine av 2 [(4,.bool B)] kr (aa (Ok.ret (bu (vs:=[.bool B]) (.inl rfl) rfl (.cons (.tmp rfl) .nil) rfl (av 2 [(4,.bool (! B))] kr (aa (Ok.ret ?_))))))
 exact dD (! B) hF
theorem ahm (d:DC) (n:Int) (hp:Dm d n):ahn d n (fun a=>a=LQ d n):=by
 obtain ⟨hG,h0,h1⟩:=hp
 have hkl:=um hG (i:=n.toNat) om
 have hin:=fun x hx=>hG.kids.kid n.toNat om x hx
 have hS:LQ d n = !((eY d.1 n.toNat).any (AJ d)):=rfl
 rw [hS]
 generalize hl:eY d.1 n.toNat=l at hkl hin
 have he:(d.1.getD n.toNat default).2.2.2.2.2=l:=hl
 refine ⟨h0,om,?_⟩
 have loop:∀ (k i:Nat),i+k=l.length→l.any (AJ d)=(l.drop i).any (AJ d)→p8 d (fun a=>a = !(l.any (AJ d))) (d.1.getD n.toNat default) (k+1) (i:Int):=by
  intro k
  induction k with
  | zero =>
   intro i h h2
   rw [fF om] at h2
   rw [p8]
   unfold CY
   rw [he]
   refine ⟨fun hc=>od hc,fun _=>?_⟩
   show (!(decide ((-1:Int)≥0)))=_
   rw [h2]; rfl
  | succ k ih =>
   intro i h h2
   have hx:=hin (l.getD i default) (h_ default om)
   rw [dm (l:=l) default om,jK] at h2
   rw [p8]
   unfold CY
   rw [he,eB]
   have QC:lH d (fun a=>a = !(l.any (AJ d))) (l.getD i default) (i:Int) (p8 d (fun a=>a = !(l.any (AJ d))) (d.1.getD n.toNat default) (k+1)):=by
    refine ⟨fun hc=>?_,fun hc=>?_⟩
    ·have hc:AJ d (l.getD i default)=true:=hc
     rw [hc,pI] at h2
     show (!(decide ((i:Int)≥0)))=_
     rw [h2,f_ om]
    have hc:AJ d (l.getD i default)=false:=hc
    rw [hc,lq] at h2
    rw [gp om,show (i:Int)+1=((i+1:Nat):Int) by omega]
    exact ih (i+1) om h2
   exact ⟨fun _=>⟨om,om,⟨om,om⟩,fun _=>QC,fun _=>⟨om,om,fun _=>QC,fun _=>QC⟩⟩,fun hc=>oe hc⟩
 exact ⟨_,loop l.length 0 om rfl⟩
theorem ahl {g:ak} {j0:Option Addr} {x0:Nat} (xd:Dc) (xn:Int) (y0:bG g qh [.slice j0 xd.1.length x0] xd.1)  (hp:Dm xd xn):bE prog 115 #[.agg (aD xd j0 x0),iv xn] g (.bool (LQ xd xn)) :=
 (aaP xd xn y0 _ (ahm xd xn hp)).gv
end
end Go.Proofs.YtdapgmigogpdcaaGreatDoor.Ma
