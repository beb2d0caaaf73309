/- match: nodes by themselves. -/
import Derived.Test.YtdapgmigogpdcaaGreatDoorDob
import Derived.Test.YtdapgmigogpdcaaGreatDoorRnd
import Derived.Test.YtdapgmigogpdcaaGreatDoorTnl
import Derived.Test.YtdapgmigogpdcaaGreatDoorSeh
set_option linter.unusedSimpArgs false
set_option linter.unusedVariables false
namespace Go.Proofs.YtdapgmigogpdcaaGreatDoor.Ma
open _root_.Go.Proofs.Tryz Go Go.iT Go.RowKit Ti Do Se
set_option maxHeartbeats 4000000
set_option maxRecDepth 100000
noncomputable section
def Ends (l:List ND):Nat→Int→Prop
 | 0,n=>n<0
 | k+1,n=>n<0∨n<(l.length:Int)∧Ends l k (par l n.toNat)
theorem Ends.mono {l:List ND}:∀ {k k':Nat} {n:Int},Ends l k n→k≤k'→Ends l k' n
 | 0,0,_,h,_=>h
 | 0,_+1,_,h,_=>.inl h
 | _+1,0,_,_,h=>by omega
 | k+1,k'+1,n,h,hk=>by
  rcases h with h | ⟨h1,h2⟩
  ·exact .inl h
  exact .inr ⟨h1,h2.mono om⟩
theorem PM {l:List ND} {k:Nat} {n:Int} (h:Ends l (k+1) n) (h0:0≤n):Ends l k (par l n.toNat):=by
 rcases h with h | h
 ·omega
 exact h.2
theorem Vi (l:List ND):∀ (k:Nat) (n m:Int),m≤zJ l k n m
 | 0,_,_=>lv _
 | k+1,n,m=>by
  rw [zJ]
  split
  ·have:=Vi l k (par l n.toNat) (m+1); omega
  exact lv _
theorem La {l:List ND} (hk:pQ l):∀ (k:Nat) (n m:Int),0≤n→n<(l.length:Int)→0≤m→zJ l k n m≤(l.length:Int)→(l.length:Int)+2≤m+k→Ends l (Int.toNat (zJ l k n m - m)+1) n
 | 0,n,m,h0,h1,h2,h3,h4=>by rw [zJ] at h3; omega
 | k+1,n,m,h0,h1,h2,h3,h4=>by
  rw [zJ] at h3 ⊢
  split
  ·rename_i hc
   rw [aU hc] at h3;rw [aH,dI,dI] at hc;have hg:=Vi l k (par l n.toNat) (m+1);have ih:=La hk k (par l n.toNat) (m+1) hc.1 (RP hk h0 h1 hc.1) om h3 om;refine .inr ⟨h1,?_⟩;rw [show Int.toNat (zJ l k (par l n.toNat) (m+1) - m)=Int.toNat (zJ l k (par l n.toNat) (m+1) - (m+1))+1 by omega];exact ih
  rename_i hc
  rw [aQ hc] at h3
  have hp:par l n.toNat<0:=by
   apply oh;intro hn;exact hc (by rw [aH,dI,dI]; exact ⟨om,h3⟩)
  refine .inr ⟨h1,?_⟩;rw [show Int.toNat (m - m)=0 by omega];exact hp
theorem PN {d:DC} (h:gN d) {n:Nat} (hn:n<d.1.length):Ends d.1 41 n:=by
 have h1:=h.deep n hn;have h2:=h.ends n hn;unfold rD at h1 h2;exact (La h.kids (d.1.length+2) n 0 om om om h2 om).mono om
structure vT (l0:List Int) (f:Int→Bool) (i j:Nat) (own:List Int):Prop where
 len:own.length=l0.length
 ij:i≤j
 jl:j≤l0.length
 pre:own.take i=(l0.take j).filter f
 post:own.drop j=l0.drop j
theorem vT.get {l0:List Int} {f:Int→Bool} {i j:Nat} {own:List Int} (h:vT l0 f i j own):own.getD j default=l0.getD j default:=by
 have h1:own[j]? = (own.drop j)[0]?:=by rw [Ef,nC]
 have h2:l0[j]? = (l0.drop j)[0]?:=by rw [Ef,nC]
 rw [gT,gT,h1,h2,h.post]
theorem yH {a b:List Int} {j:Nat} (h:a.drop j=b.drop j):a.drop (j+1)=b.drop (j+1):=by
 rw [← xz,← xz,h]
theorem vT.skip {l0:List Int} {f:Int→Bool} {i j:Nat} {own:List Int} (h:vT l0 f i j own) (hj:j<l0.length) (hf:f (l0.getD j default)=false):vT l0 f i (j+1) own:=by
 refine ⟨h.len,by have:=h.ij; omega,om,?_,yH h.post⟩;rw [h.pre,iD default hj,zW,List.filter_cons_of_neg (by rw [hf]; simp),uV,gK]
theorem vT.keep {l0:List Int} {f:Int→Bool} {i j:Nat} {own:List Int} (h:vT l0 f i j own) (hj:j<l0.length) (hf:f (l0.getD j default)=true):vT l0 f (i+1) (j+1) (own.set i (own.getD j default)):=by
 have hij:=h.ij;have hl:=h.len;refine ⟨by rw [kP]; exact hl,om,om,?_,?_⟩
 ·rw [h.get,iD default hj,zW,List.filter_cons_of_pos hf,uV,← h.pre];rw [List.set_eq_take_append_cons_drop,bB om];rw [List.take_append,gG,og om,xq,show i+1 - i=1 by omega];simp
 rw [List.drop_set,bB om];exact yH h.post
theorem vT.start {l0:List Int} {f:Int→Bool} {i:Nat} (hi:i<l0.length) (ha:(l0.take i).filter f=l0.take i) (hf:f (l0.getD i default)=false):vT l0 f i (i+1) l0:=by
 refine ⟨rfl,om,om,?_,rfl⟩;rw [iD default hi,zW,ha,List.filter_cons_of_neg (by rw [hf]; simp),uV,gK]
theorem vT.fin {l0:List Int} {f:Int→Bool} {i:Nat} {own:List Int} (h:vT l0 f i l0.length own):(BD own i (0:Int)).take i=l0.filter f:=by
 have hij:=h.ij;have hl:=h.len;unfold BD;rw [List.take_append_of_le_length (by rw [gG]; omega),xq,Nat.min_self,h.pre,iX]
theorem Lr {l:List Int} {f:Int→Bool} {i:Nat} (hi:i<l.length) (ha:(l.take i).filter f=l.take i) (hf:f (l.getD i default)=true):(l.take (i+1)).filter f=l.take (i+1):=by
 rw [iD default hi,zW,ha,List.filter_cons_of_pos hf,uV]
theorem CW:∀ (L:Nat) (l:List Int),l.Nodup→(∀ x ∈ l,0≤x∧x<(L:Int))→l.length≤L
 | 0,l,_,h=>by
  cases l with
  | nil=>exact fP _
  | cons x l=>have:=h x (cz ..); omega
 | L+1,l,hn,h=>by
  have ih:=CW L (l.erase (L:Int)) (hn.erase _) (fun x hx=>by
   have h1:=(hn.mem_erase_iff).1 hx;have h2:=h x h1.2;have h3:=h1.1
   omega)
  rw [List.length_erase] at ih
  split at ih <;> omega
def nu (d:DC) (n:Int):Prop:=0≤n∧n<(d.1.length:Int)
theorem uy {d:DC} (h:gN d) {i:Nat} (hi:i<d.1.length):(fo d.1 i).length≤200:=by
 have:=CW d.1.length (fo d.1 i) (h.kids.nodup i hi) (fun x hx=>⟨(h.kids.kid i hi x hx).1,(h.kids.kid i hi x hx).2.1⟩);have:=h.few;omega
def MI (d:DC) (n:Int):Prop:=0≤n∧n.toNat<d.1.length
def aiS (xd:Dc) (xn:Int) (K:Bool→Prop):Prop :=
 0≤xn∧xn.toNat<xd.1.length∧K ((xd.1.getD xn.toNat default).1==2)
theorem abS {g:ak} {j0:Option Addr} {x0:Nat} (xd:Dc) (xn:Int) (y0:bE g qj [.slice j0 xd.1.length x0] xd.1) (K:Bool→Prop)
  (hF:aiS xd xn K):az prog 69 #[.agg (aD xd j0 x0),iv xn] g [] (fun g' H' v=>∃ (r0:Bool),v=.bool r0∧H'=[]∧K r0):=by
 refine aP 12 func69 rfl fun w0=>?_;refine ae (ai (cO fun eT=>?_));refine av 1 [(1,iv xn),(2,pv eT 0)] kr (aa (ae (aj 3 [.e 0] [] [(6,.slice j0 xd.1.length x0),(7,iv xn)] ?_)));obtain ⟨DL,DJ,hF⟩:=hF;have wu:=aT (l:=xd.1) default DJ;generalize hg3:(xd.1.getD xn.toNat default)=e3 at wu hF ⊢;refine ai (af.aX (e:=yN) rfl rfl underlying22 kr y0 DL wu rfl fun q2 o2 cs2 _ V1 hr2=>?_);obtain ⟨u2,j2,H0,M0,rfl,E1,Q1⟩:=oN hr2;refine aj 4 [.a 0 V1] [] [(4,.bool (e3.1==2))] ?_;refine aa (Ok.ret ?_);exact dE (e3.1==2) hF
def eU (d:DC) (n:Int):Bool:=((d.1.getD n.toNat default).1==2)
theorem aiR (d:DC) (n:Int) (hp:MI d n):aiS d n (fun r=>r=eU d n):=⟨hp.1,hp.2,rfl⟩
theorem Kl {g:ak} {j0:Option Addr} {x0:Nat} (xd:Dc) (xn:Int) (y0:bE g qj [.slice j0 xd.1.length x0] xd.1)  (hp:MI xd xn):bC prog 69 #[.agg (aD xd j0 x0),iv xn] g (.bool (eU xd xn)) :=
 (abS xd xn y0 _ (aiR xd xn hp)).gv
def Uh (K:(List Int)→Prop) (R0:List Int) (a1:Bool):Prop :=
 (a1=true→K ([]:List Int))∧(a1=false→(([]:List Int)++R0).length≤17592186044416∧K (([]:List Int)++R0))
def ajl (xs:List Int) (K:(List Int)→Prop):Prop :=
 (xs=[]→Uh K xs true)∧(Uh K xs false)
theorem ab6 {g:ak} {axs_0:Option Addr} {cxs_0:Nat} (xs:List Int) (L0:bE g (.slice (.int .i64)) [.slice axs_0 xs.length cxs_0] xs) (K:(List Int)→Prop)
  (hF:ajl xs K):az prog 158 #[.slice axs_0 xs.length cxs_0] g [] (fun g' H' v=>∃ (r0:List Int),∃ (Av:Option Addr) (Au:Nat) (E0:List Value),v=.slice Av r0.length Au∧aW g' (.int .i64) E0 r0∧H'=[.own (.slice Av r0.length Au) 3 1 r0.length E0]∧K r0):=by
 refine aP 8 func158 rfl fun w0=>?_;refine ae (av 1 [(0,.slice axs_0 xs.length cxs_0)] kr (aa (aF (Ok.cut (fun a W=>∃ gj4:ak,bf w0 g gj4∧∃ (m1:Option Addr) (n1:Nat) (R0:List Int) (a1:Bool),bE gj4 (.slice (.int .i64)) [.slice m1 R0.length n1] R0∧fC 8 [(0,.slice m1 R0.length n1),(4,.bool a1)] a∧dm w0 [] gj4 W∧Uh K R0 a1) ?_ ?_))))
 ·
  refine aR (ag 1 [0] [(3,.slice axs_0 xs.length cxs_0)] ?_)
  rcases S9 axs_0 with rfl | ⟨ad5,rfl⟩
  ·have hz5:=Jj L0;replace hF:=hF.1 hz5;refine ai (af.s (v:=.bool true) (ve rfl rfl underlying46 kr rfl) rfl rfl (bV (Ok.t ?_)));exact fun _ _ u v=>⟨g,bu w0 g,none,cxs_0,xs,true,L0,fA u v hF⟩
  replace hF:=hF.2;refine ai (af.s (v:=.bool false) (ve rfl rfl underlying46 kr rfl) rfl rfl (bV (Ok.t ?_)));exact fun _ _ u v=>⟨g,bu w0 g,some ad5,cxs_0,xs,false,L0,fA u v hF⟩
 clear hF;rintro _ _ ⟨gj4,x2,m1,n1,R0,a1,adg,q⟩;refine jn (fun hF=>?_) _ _ q;refine aJ hF (fun hc1 hF=>?_) (fun hc1 hF=>?_)
 ·refine ae (av 1 [(2,.slice none 0 0)] kr ?_);have hL2:aW gj4 (.int .i64) [] []:=rfl;refine fT 3 1 (aa (Ok.ret (aC ?_)));exact qg (.slice none ([]:List Int).length 0) x2 ⟨([]:List Int),none,0,[],rfl,hL2,rfl,hF⟩
 refine Ok.k (Ok.t (aF (aR ?_)));have hL3:aW gj4 (.int .i64) ([]:List Value) ([]:List Int):=rfl;refine ai (gz hL3 fun b3=>?_);refine av 1 [(5,.slice (some ⟨b3,0,none⟩) ([]:List Int).length 0),(6,.slice m1 R0.length n1)] kr ?_;obtain ⟨hb4,hF⟩:=hF;refine ai (wG (e:=.int .i64) 8 17592186044416 0 rfl rfl rfl hL3 adg underlying46 kr kr kr hb4 rfl fun a4 c4 xs4 hL4=>?_);let A:=([]:List Int)++R0;refine av 1 [(2,.slice a4 A.length c4)] kr (aa (Ok.ret ?_));exact qg (.slice a4 A.length c4) x2 ⟨A,a4,c4,xs4,rfl,hL4,rfl,hF⟩
def jO (l:List Int):List Int:=l
def XQ (l:List Int):Prop:=l.length≤100000
theorem ajk (l:List Int) (hp:XQ l):ajl l (fun r=>r=jO l):=by
 unfold XQ at hp;refine ⟨fun h=>⟨fun _=>by rw [h]; rfl,(fun h=>by cases h)⟩,⟨(fun h=>by cases h),fun _=>⟨by rw [jV]; omega,by rw [jV]; rfl⟩⟩⟩
theorem ajj {g:ak} {axs_0:Option Addr} {cxs_0:Nat} (xs:List Int) (L0:bE g (.slice (.int .i64)) [.slice axs_0 xs.length cxs_0] xs)  (hp:XQ xs):az prog 158 #[.slice axs_0 xs.length cxs_0] g [] (fun g' H' v=>∃ (Av:Option Addr) (Au:Nat) (E0:List Value),v=.slice Av (jO xs).length Au∧aW g' (.int .i64) E0 (jO xs)∧H'=[.own (.slice Av (jO xs).length Au) 3 1 (jO xs).length E0]) :=
 (ab6 xs L0 _ (ajk xs hp)).mono (by rintro g' H' v _ ⟨r0,Av,Au,E0,rfl,G1,rfl,hK⟩; subst hK; exact ⟨Av,Au,E0,rfl,G1,rfl⟩)
def d_ (d:DC) (n:Int):List Int:=if decide (par d.1 n.toNat<0)=true then [n] else (fo d.1 (par d.1 n.toNat).toNat).filter (eU d)
def cB (d:DC) (n:Int):List Int×Int:=(d_ d n,if decide (par d.1 n.toNat<0)=true then 0 else jZ (fun x=>n==x) (d_ d n) 0)
def Dp (d:DC) (n:Int):Prop:=gN d∧nu d n
theorem CR {d:DC} (h:gN d) {n:Int} (hn:nu d n) (hp:¬ par d.1 n.toNat<0):nu d (par d.1 n.toNat):=⟨om,RP h.kids hn.1 hn.2 om⟩
def r_ (xd:Dc) (z0:Int) (v0:Int) (ax:List Int):Int :=
 (if (!(!(eU xd (ax.getD v0.toNat default))))=true then w6 (z0+1) else z0)
def lh (xd:Dc) (z0:Int) (v0:Int) (ax:List Int):List Int :=
 (if (!(!(eU xd (ax.getD v0.toNat default))))=true then (ax.set z0.toNat (ax.getD v0.toNat default)) else ax)
def ML (K:(List Int)→Int→Prop) (bq:List Int) (C0:Int):Prop :=
 K bq C0
def T9 (xn:Int) (K:(List Int)→Int→Prop) (bq:List Int) (s0:Int) (En:Int→Prop):Prop :=
 ((decide (s0<(bq.length:Int)))=true→0≤s0∧s0.toNat<bq.length∧((xn==bq.getD s0.toNat default)=true→ML K bq s0)∧((xn==bq.getD s0.toNat default)=false→En (w6 (s0+1))))∧((decide (s0<(bq.length:Int)))=false→ML K bq (-1))
def Bn (xn:Int) (K:(List Int)→Int→Prop) (bq:List Int):Nat→Int→Prop
 | 0,_=>False
 | k+1,s0=>T9 xn K bq s0 (Bn xn K bq k)
def H8 (xn:Int) (K:(List Int)→Int→Prop) (bq:List Int):Prop :=
 ∃ k,Bn xn K bq k 0
def ry (xd:Dc) (z0:Int) (v0:Int) (ax:List Int) (Qf:Int→Int→List Int→Prop):Prop :=
 Qf (r_ xd z0 v0 ax) (w6 (v0+1)) (lh xd z0 v0 ax)
def QR (xd:Dc) (xn:Int) (K:(List Int)→Int→Prop) (z0:Int) (v0:Int) (ax:List Int) (Qf:Int→Int→List Int→Prop):Prop :=
 ((decide (v0<(ax.length:Int)))=true→0≤v0∧v0.toNat<ax.length∧MI xd (ax.getD v0.toNat default)∧((!(!(eU xd (ax.getD v0.toNat default))))=true→0≤z0∧z0.toNat<ax.length∧ry xd z0 v0 ax Qf)∧((!(!(eU xd (ax.getD v0.toNat default))))=false→ry xd z0 v0 ax Qf))∧((decide (v0<(ax.length:Int)))=false→0≤z0∧(z0:Int)≤(ax.length:Int)∧(ax.length:Int)≤(ax.length:Int)∧z0.toNat≤Int.toNat (ax.length:Int)∧0≤z0∧z0≤((BD ax z0.toNat (0:Int)).length:Int)∧H8 xn K ((BD ax z0.toNat (0:Int)).take z0.toNat))
def uw (xd:Dc) (xn:Int) (K:(List Int)→Int→Prop):Nat→Int→Int→List Int→Prop
 | 0,_,_,_=>False
 | k+1,z0,v0,ax=>QR xd xn K z0 v0 ax (uw xd xn K k)
def Dm (xd:Dc) (xn:Int) (K:(List Int)→Int→Prop) (e7:Nd) (n0:Int):Prop :=
 ((n0==(-1))=true→H8 xn K (jO e7.2.2.2.2.2))∧((n0==(-1))=false→∃ k,uw xd xn K k n0 (w6 (n0+1)) (jO e7.2.2.2.2.2))
def Dl (xd:Dc) (xn:Int) (K:(List Int)→Int→Prop) (e7:Nd) (k0:Int) (ash:Int→Prop):Prop :=
 ((decide (k0<((jO e7.2.2.2.2.2).length:Int)))=true→0≤k0∧k0.toNat<(jO e7.2.2.2.2.2).length∧MI xd ((jO e7.2.2.2.2.2).getD k0.toNat default)∧((!(eU xd ((jO e7.2.2.2.2.2).getD k0.toNat default)))=true→Dm xd xn K e7 k0)∧((!(eU xd ((jO e7.2.2.2.2.2).getD k0.toNat default)))=false→ash (w6 (k0+1))))∧((decide (k0<((jO e7.2.2.2.2.2).length:Int)))=false→Dm xd xn K e7 (-1))
def vD (xd:Dc) (xn:Int) (K:(List Int)→Int→Prop) (e7:Nd):Nat→Int→Prop
 | 0,_=>False
 | k+1,k0=>Dl xd xn K e7 k0 (vD xd xn K e7 k)
def ajc (xd:Dc) (xn:Int) (K:(List Int)→Int→Prop):Prop :=
 0≤xn∧xn.toNat<xd.1.length∧((decide ((xd.1.getD xn.toNat default).2.2.2.2.1<0))=true→K ([xn]:List Int) 0)∧((decide ((xd.1.getD xn.toNat default).2.2.2.2.1<0))=false→0≤(xd.1.getD xn.toNat default).2.2.2.2.1∧Int.toNat (xd.1.getD xn.toNat default).2.2.2.2.1<xd.1.length∧XQ (xd.1.getD (Int.toNat (xd.1.getD xn.toNat default).2.2.2.2.1) default).2.2.2.2.2∧∃ k,vD xd xn K (xd.1.getD (Int.toNat (xd.1.getD xn.toNat default).2.2.2.2.1) default) k 0)
theorem abY {g:ak} {j0:Option Addr} {x0:Nat} (xd:Dc) (xn:Int) (y0:bE g qj [.slice j0 xd.1.length x0] xd.1) (K:(List Int)→Int→Prop)
  (hF:ajc xd xn K):az prog 116 #[.agg (aD xd j0 x0),iv xn] g [] (fun g' H' v=>∃ (r0:List Int),∃ (r1:Int),∃ (Av:Option Addr) (Au:Nat) (E0:List Value),v=.tuple #[.slice Av r0.length Au,iv r1]∧aW g' (.int .i64) E0 r0∧H'=[.own (.slice Av r0.length Au) 3 1 r0.length E0]∧K r0 r1):=by
 refine aP 31 func116 rfl fun w0=>?_;refine ae (ai (cO fun eT=>?_));refine av 2 [(1,iv xn),(2,pv eT 0)] kr (aa (ae (aj 3 [.e 0] [1,2] [(9,.slice j0 xd.1.length x0),(10,iv xn)] ?_)));obtain ⟨DL,DJ,hF⟩:=hF;have wu:=aT (l:=xd.1) default DJ;generalize hg3:(xd.1.getD xn.toNat default)=e3 at wu hF ⊢;refine ai (af.aX (e:=yN) rfl rfl underlying22 kr y0 DL wu rfl fun q2 o2 cs2 _ V1 hr2=>?_);obtain ⟨u2,j2,H0,M0,rfl,E1,Q1⟩:=oN hr2;refine aj 3 [.a 4 V1] [1,2] [(6,iv e3.2.2.2.2.1)] ?_;refine aa (aF (ae (ag 2 [1,2,6] [(15,.bool (decide (e3.2.2.2.2.1<0)))] ?_)));refine aa (aJ hF (fun hc4 hF=>?_) (fun hc4 hF=>?_))
 ·refine ae (av 1 [(16,iv xn)] kr ?_);have hL5:aW g (.int .i64) ([iv xn]:List Value) ([xn]:List Int):=(dx (c:=[iv xn]) rfl rfl);refine ai (gz hL5 fun b5=>?_);refine av 2 [(4,.slice (some ⟨b5,0,none⟩) ([xn]:List Int).length 1),(5,iv 0)] kr (aa (Ok.ret (aC ?_)));exact FZ [0] (bu w0 g) ⟨([xn]:List Int),0,(some ⟨b5,0,none⟩),1,([iv xn]:List Value),rfl,hL5,rfl,hF⟩
 refine Ok.k (Ok.t (ae (aj 3 [.e 0] [1,2] [(19,.slice j0 xd.1.length x0),(20,iv e3.2.2.2.2.1)] ?_)));obtain ⟨PG,QY,hF⟩:=hF;have Jn:=aT (l:=xd.1) default QY;generalize V4:(xd.1.getD (Int.toNat e3.2.2.2.2.1) default)=e7 at Jn hF ⊢;refine ai (af.aX (e:=yN) rfl rfl underlying22 kr y0 PG Jn rfl fun q6 o6 cs6 _ ac6 QV=>?_);obtain ⟨ar8,arX,al4,alm,rfl,akA,K1⟩:=oN QV;refine ag 1 [1,2] [(22,.pointer (some ⟨q6,o6+5,none⟩))] ?_;refine ai (af.s (v:=.slice al4 e7.2.2.2.2.2.length alm) (fe 5 ac6 kr underlying46 rfl kr) rfl rfl ?_);obtain ⟨KV,hF⟩:=hF;refine ai (bS (ajj e7.2.2.2.2.2 K1 KV) fun g9 _ _ hx9 hV9=>?_);obtain ⟨S0,B0,j1,rfl,A0,rfl⟩:=hV9;replace y0:=y0.mono hx9.1;refine ag 1 [1] [(24,.slice S0 (jO e7.2.2.2.2.2).length B0),(25,.func (.func 159) #[] #[pv eT 0])] ?_;refine ai (af.cut (fun a W=>∃ x1:ak,bf w0 g9 x1∧∃ (dV:Option Addr) (dU:Nat) (bq:List Int) (iU:List Value),aW x1 (.int .i64) iU bq∧fC 31 [(1,iv xn),(26,.slice dV bq.length dU)] a∧dm w0 [.own (.slice dV bq.length dU) 3 1 bq.length iU] x1 W∧H8 xn K bq) ?_ ?_)
 ·
  refine bO (args:=#[.slice S0 (jO e7.2.2.2.2.2).length B0,.func (.func 159) #[] #[pv eT 0]]) 42 [(0,.slice S0 (jO e7.2.2.2.2.2).length B0),(1,.func (.func 159) #[] #[pv eT 0])] gU func67 rfl rfl rfl rfl (ae (av 1 [(0,.slice S0 (jO e7.2.2.2.2.2).length B0),(1,.func (.func 159) #[] #[pv eT 0])] kr (aa (ae (ag 2 [0,1] [(8,.slice S0 (jO e7.2.2.2.2.2).length B0),(9,.func (.func 159) #[] #[pv eT 0])] ?_)))));refine ai (af.cut (fun a W=>∃ g1:ak,bf w0 g9 g1∧∃ (n0:Int),fC 42 [(0,.slice S0 (jO e7.2.2.2.2.2).length B0),(1,.func (.func 159) #[] #[pv eT 0]),(10,iv n0)] a∧dm w0 [.own (.slice S0 (jO e7.2.2.2.2.2).length B0) 3 1 (jO e7.2.2.2.2.2).length j1,.blk eT (.cells (aD xd j0 x0) 24)] g1 W∧Dm xd xn K e7 n0) ?_ ?_)
  ·
   refine bO (args:=#[.slice S0 (jO e7.2.2.2.2.2).length B0,.func (.func 159) #[] #[pv eT 0]]) 19 [(0,.slice S0 (jO e7.2.2.2.2.2).length B0),(1,.func (.func 159) #[] #[pv eT 0])] gU func110 rfl rfl rfl rfl (ae (av 1 [(0,.slice S0 (jO e7.2.2.2.2.2).length B0),(1,.func (.func 159) #[] #[pv eT 0])] kr (aa (aF (ae (ag 3 [0,1] [(7,iv ((jO e7.2.2.2.2.2).length:Int)),(8,iv 0)] ?_))))));refine aa (Ok.block ?_);obtain ⟨k,hF⟩:=hF;refine fQ (fun k a W=>∃ Y0:ak,bf w0 g9 Y0∧∃ (k0:Int),fC 19 [(0,.slice S0 (jO e7.2.2.2.2.2).length B0),(1,.func (.func 159) #[] #[pv eT 0]),(7,iv ((jO e7.2.2.2.2.2).length:Int)),(8,iv k0)] a∧dm w0 [.own (.slice S0 (jO e7.2.2.2.2.2).length B0) 3 1 (jO e7.2.2.2.2.2).length j1,.blk eT (.cells (aD xd j0 x0) 24)] Y0 W∧vD xd xn K e7 k k0) k ?_ ?_
   ·
    exact fun _ _ u v=>⟨g9,bu w0 g9,0,fA u v hF⟩
   clear hF;rintro (_ | anO) _ _ ⟨Y0,U0,k0,q⟩;exact (q.2.2:False).elim;refine jn (fun hF=>?_) _ _ q;replace A0:=A0.mono U0.1;replace y0:=y0.mono U0.1;refine ae (ag 1 [0,1,7,8] [(9,.bool (decide (k0<((jO e7.2.2.2.2.2).length:Int))))] ?_);refine aa (aF (aJ hF (fun M_ hF=>?_) (fun M_ hF=>?_)))
   ·refine Ok.k (Ok.t (aF (Ok.block (ae (ag 2 [0,1,7,8] [(5,iv k0)] ?_)))));refine aa (ae (ag 3 [0,1,5,7,8] [(11,.func (.func 159) #[] #[pv eT 0]),(12,.slice S0 (jO e7.2.2.2.2.2).length B0),(13,iv k0)] ?_));obtain ⟨aei,h128,hF⟩:=hF;have s2:=aT (l:=jO e7.2.2.2.2.2) default h128;generalize b2:((jO e7.2.2.2.2.2).getD k0.toNat default)=e28 at s2 hF ⊢;refine ai (af.fZ (e:=.int .i64) 0 rfl A0 rfl rfl underlying46 kr kr aei s2 rfl fun arI _ aci H1=>?_);obtain rfl:=aci;replace H1:∀ j v,([iv e28]:List Value)[j]? = some v→j1[k0.toNat * 1+j]? = some v:=H1;refine ai (af.s (v:=iv e28) (dP 0 0 rfl H1 rfl underlying3 rfl kr) rfl rfl (ai (bO (args:=#[iv e28,pv eT 0]) 8 [(0,iv e28),(1,pv eT 0)] gU func159 rfl rfl rfl rfl (ae (av 1 [(0,iv e28),(1,pv eT 0)] kr (aa (aF (aR ?_))))))));obtain ⟨acB,hF⟩:=hF;refine aj 5 [.e 1,.k (Kl xd e28 y0 acB)] [] [(3,.bool (!(eU xd e28)))] ?_;refine aa (Ok.ret (bA (vs:=[.bool (!(eU xd e28))]) (.inl rfl) rfl (.cons (.tmp rfl) .nil) rfl (aa (dW hF rfl (fun M1=>?_) (fun M1=>?_)))))
    ·replace hF:=hF.1 M1;refine ae (av 2 [(4,iv k0)] kr (aa (Ok.ret (aV (aC (aC (aV (aC (bA (vs:=[iv k0]) (.inl rfl) rfl (.cons (.tmp rfl) .nil) rfl ?_)))))))));subst b2;exact fun _ _ u v=>⟨Y0,U0,k0,fA u v hF⟩
    replace hF:=hF.2 M1;refine Ok.k (bG (Ok.t (aR (av 2 [(0,.slice S0 (jO e7.2.2.2.2.2).length B0),(1,.func (.func 159) #[] #[pv eT 0]),(7,iv ((jO e7.2.2.2.2.2).length:Int)),(8,iv (w6 (k0+1)))] kr (bV (Ok.t ?_))))));subst b2;exact fun _ _ u v=>⟨anO,nl,Y0,U0,w6 (k0+1),fA u v hF⟩
   refine fw (ay (ay (aM (Ok.t (ae (av 1 [(4,iv (-1))] kr (aa (Ok.ret (bA (vs:=[iv (-1)]) (.inl rfl) rfl (.cons (.tmp rfl) .nil) rfl ?_)))))))));exact fun _ _ u v=>⟨Y0,U0,-1,fA u v hF⟩
  clear hF;rintro _ _ ⟨g1,o1,n0,q⟩;refine jn (fun hF=>?_) _ _ q;replace A0:=A0.mono o1.1;replace y0:=y0.mono o1.1;refine ag 1 [0,1] [(5,iv n0)] ?_;refine aa (aF (ae (ag 2 [0,1,5] [(12,.bool (n0==(-1)))] ?_)));refine aa (aJ hF (fun Nb hF=>?_) (fun Nb hF=>?_))
  ·refine ae (av 2 [(4,.slice S0 (jO e7.2.2.2.2.2).length B0)] kr (aa (Ok.ret (aC (bA (vs:=[.slice S0 (jO e7.2.2.2.2.2).length B0]) (.inl rfl) rfl (.cons (.tmp rfl) .nil) rfl ?_)))));exact fun _ _ u v=>⟨g1,o1,S0,B0,jO e7.2.2.2.2.2,j1,A0,fA u v hF⟩
  refine Ok.k (Ok.t (aF (ae (ag 3 [0,1,5] [(6,iv (w6 (n0+1)))] ?_))));refine aa (Ok.block ?_);obtain ⟨k,hF⟩:=hF;refine fQ (fun k a W=>∃ m0:ak,bf w0 g1 m0∧∃ (z0:Int) (v0:Int) (bK:Option Addr) (bJ:Nat) (ax:List Int) (fM:List Value),aW m0 (.int .i64) fM ax∧fC 42 [(0,.slice bK ax.length bJ),(1,.func (.func 159) #[] #[pv eT 0]),(5,iv z0),(6,iv v0)] a∧dm w0 [.own (.slice bK ax.length bJ) 3 1 ax.length fM,.blk eT (.cells (aD xd j0 x0) 24)] m0 W∧uw xd xn K k z0 v0 ax) k ?_ ?_
  ·
   exact fun _ _ u v=>⟨g1,bu w0 g1,n0,w6 (n0+1),S0,B0,jO e7.2.2.2.2.2,j1,A0,fA u v hF⟩
  clear hF;rintro (_ | ZJ) _ _ ⟨m0,I0,z0,v0,bK,bJ,ax,fM,jv,q⟩;exact (q.2.2:False).elim;refine jn (fun hF=>?_) _ _ q;replace y0:=y0.mono I0.1;refine aF (ae (ag 4 [0,1,5,6] [(19,.bool (decide (v0<(ax.length:Int))))] ?_));refine aa (aJ hF (fun Ir hF=>?_) (fun Ir hF=>?_))
  ·refine Ok.k (Ok.t (Ok.cut (fun a W=>∃ F0:ak,bf w0 m0 F0∧∃ (kW:Option Addr) (kV:Nat) (kv:List Value),aW F0 (.int .i64) kv (lh xd z0 v0 ax)∧fC 42 [(0,.slice kW (lh xd z0 v0 ax).length kV),(1,.func (.func 159) #[] #[pv eT 0]),(5,iv (r_ xd z0 v0 ax)),(6,iv v0)] a∧dm w0 [.own (.slice kW (lh xd z0 v0 ax).length kV) 3 1 (lh xd z0 v0 ax).length kv,.blk eT (.cells (aD xd j0 x0) 24)] F0 W∧ry xd z0 v0 ax (uw xd xn K ZJ)) ?_ ?_))
   ·
    refine Ok.block (ae (ag 2 [0,1,5,6] [(22,.slice bK ax.length bJ),(23,iv v0)] ?_));obtain ⟨aem,aeb,hF⟩:=hF;have c2:=aT (l:=ax) default aeb;generalize d2:(ax.getD v0.toNat default)=e17 at c2 hF ⊢;refine ai (af.fZ (e:=.int .i64) 0 rfl jv rfl rfl underlying46 kr kr aem c2 rfl fun arO _ acp N1=>?_);obtain rfl:=acp;replace N1:∀ j v,([iv e17]:List Value)[j]? = some v→fM[v0.toNat * 1+j]? = some v:=N1;refine ai (af.s (v:=iv e17) (dP 0 0 rfl N1 rfl underlying3 rfl kr) rfl rfl (ag 1 [0,1,5,6] [(7,iv e17)] ?_));refine aa (ae (ag 2 [0,1,5,6,7] [(26,.func (.func 159) #[] #[pv eT 0]),(27,iv e17)] ?_));refine ai (bO (args:=#[iv e17,pv eT 0]) 8 [(0,iv e17),(1,pv eT 0)] gU func159 rfl rfl rfl rfl (ae (av 1 [(0,iv e17),(1,pv eT 0)] kr (aa (aF (aR ?_))))));obtain ⟨acE,hF⟩:=hF;refine aj 5 [.e 1,.k (Kl xd e17 y0 acE)] [] [(3,.bool (!(eU xd e17)))] ?_;refine aa (Ok.ret (bA (vs:=[.bool (!(eU xd e17))]) (.inl rfl) rfl (.cons (.tmp rfl) .nil) rfl (av 1 [(0,.slice bK ax.length bJ),(1,.func (.func 159) #[] #[pv eT 0]),(5,iv z0),(6,iv v0),(7,iv e17),(29,.bool (!(!(eU xd e17))))] kr (aa (dW hF rfl (fun z1=>?_) (fun z1=>?_))))))
    ·replace hF:=hF.1 z1;refine ae (ag 3 [0,1,5,6] [(30,.slice bK ax.length bJ),(31,iv z0),(32,iv e17)] ?_);obtain ⟨aru,ad9,hF⟩:=hF;have f2:=aT (l:=ax) default ad9;generalize aoM:(ax.getD z0.toNat default)=e21 at f2 hF ⊢;refine ai (af.fZ (e:=.int .i64) 0 rfl jv rfl rfl underlying46 kr kr aru f2 rfl fun av1 _ aod b1=>?_);obtain rfl:=aod;replace b1:∀ j v,([iv e21]:List Value)[j]? = some v→fM[z0.toNat * 1+j]? = some v:=b1;refine ai (ko (e:=.int .i64) (q:=z0.toNat) (cells:=[iv e21]) (vs:=[iv e17]) (xG:=e17) 0 0 1 rfl jv b1 kr rfl rfl rfl kr kr kr kr kr (show bE _ _ [iv e17] _ from rfl) fun B1 aqD=>?_);rw [show ax.length=(ax.set z0.toNat e17).length from (kP ..).symm];refine aa (aR (ag 3 [1,6] [(0,.slice bK (ax.set z0.toNat e17).length bJ),(5,iv (w6 (z0+1)))] ?_));refine bV (bG (Ok.t ?_));subst aoM;subst d2;refine gX 0 rfl (show (.slice bK (ax.set z0.toNat (ax.getD v0.toNat default)).length bJ:Value)=.slice bK (lh xd z0 v0 ax).length bJ from aA (fun l:List Int=>Value.slice bK l.length bJ) ((aU z1).symm)) ?_;refine gX 5 rfl (show (iv (w6 (z0+1)):Value)=iv (r_ xd z0 v0 ax) from aA (Value.int .i64) ((aU z1).symm)) (kg (E':=.own (.slice bK (lh xd z0 v0 ax).length bJ) 3 1 (lh xd z0 v0 ax).length B1) 0 (aA (fun l:List Int=>cu.own (.slice bK l.length bJ) 3 1 l.length B1) ((aU z1).symm)) ?_);exact fun _ _ u v=>⟨m0,bu w0 m0,bK,bJ,B1,(Eq.mp (aA (fun l:List Int=>aW m0 (.int .i64) B1 l) ((aU z1).symm)) aqD),fA u v hF⟩
    replace hF:=hF.2 z1;refine Ok.k (bG (Ok.t ?_));subst d2;refine gX 0 rfl (show (.slice bK ax.length bJ:Value)=.slice bK (lh xd z0 v0 ax).length bJ from aA (fun l:List Int=>Value.slice bK l.length bJ) ((aG z1).symm)) ?_;refine gX 5 rfl (show (iv z0:Value)=iv (r_ xd z0 v0 ax) from aA (Value.int .i64) ((aG z1).symm)) (kg (E':=.own (.slice bK (lh xd z0 v0 ax).length bJ) 3 1 (lh xd z0 v0 ax).length fM) 0 (aA (fun l:List Int=>cu.own (.slice bK l.length bJ) 3 1 l.length fM) ((aG z1).symm)) ?_);exact fun _ _ u v=>⟨m0,bu w0 m0,bK,bJ,fM,(Eq.mp (aA (fun l:List Int=>aW m0 (.int .i64) fM l) ((aG z1).symm)) jv),fA u v hF⟩
   clear hF;rintro _ _ ⟨F0,c1,kW,kV,kv,yE,q⟩;refine jn (fun hF=>?_) _ _ q;refine aR (ag 3 [0,1,5] [(6,iv (w6 (v0+1)))] ?_);refine bV (Ok.t ?_);exact fun _ _ u v=>⟨ZJ,nl,F0,I0.trans c1,r_ xd z0 v0 ax,w6 (v0+1),kW,kV,lh xd z0 v0 ax,kv,yE,fA u v hF⟩
  refine fw (ay (ay (aM (Ok.t (ae (ag 2 [0,5] [(36,.slice bK ax.length bJ),(37,iv z0)] ?_))))));refine zZ 0 rfl fun aj4 as7=>?_;obtain ⟨Nq,II,adW,hF⟩:=hF;refine ai (af.s (v:=vw bK 1 bJ z0.toNat (Int.toNat (ax.length:Int))) (y_ (size:=1) (l:=z0) (h:=(ax.length:Int)) rfl underlying46 kr (.inl ⟨_,_,rfl,rfl⟩) (.inr ⟨rfl,rfl⟩) Nq II (Int.le_trans adW (Int.ofNat_le.2 aj4))) rfl rfl ?_);obtain ⟨O1,hF⟩:=hF;refine ai (wF (e:=.int .i64) (l:=ax) (lo:=z0.toNat) (y:=(0:Int)) (z:=iv 0) 0 rfl rfl jv underlying46 kr dc rfl O1 (dR _) fun auv aqC=>?_);rw [yM ax z0.toNat (0:Int) (by rw [dR] at O1; exact O1)];refine aa (ae (av 2 [(39,.slice bK (BD ax z0.toNat (0:Int)).length bJ),(40,iv z0)] kr ?_));obtain ⟨DN,adV,hF⟩:=hF;refine ai (qf (e:=.int .i64) (h:=z0) 0 rfl rfl rfl aqC underlying46 kr DN adV rfl fun am9 aqB=>?_);refine av 1 [(4,.slice bK ((BD ax z0.toNat (0:Int)).take z0.toNat).length bJ)] kr (aa (Ok.ret (bA (vs:=[.slice bK ((BD ax z0.toNat (0:Int)).take z0.toNat).length bJ]) (.inl rfl) rfl (.cons (.tmp rfl) .nil) rfl ?_)));exact fun _ _ u v=>⟨m0,o1.trans I0,bK,bJ,((BD ax z0.toNat (0:Int)).take z0.toNat),am9,aqB,fA u v hF⟩
 clear hF;rintro _ _ ⟨x1,ajm,dV,dU,bq,iU,jI,q⟩;refine jn (fun hF=>?_) _ _ q;refine ag 1 [1] [(7,.slice dV bq.length dU)] ?_;refine aa (ae (av 3 [(27,.slice dV bq.length dU),(28,.slice dV bq.length dU),(29,iv xn)] kr (ai (af.cut (fun a W=>∃ P1:ak,bf w0 x1 P1∧∃ (C0:Int),fC 31 [(27,.slice dV bq.length dU),(30,iv C0)] a∧dm w0 [.own (.slice dV bq.length dU) 3 1 bq.length iU] P1 W∧ML K bq C0) ?_ ?_))))
 ·
  refine bO (args:=#[.slice dV bq.length dU,iv xn]) 19 [(0,.slice dV bq.length dU),(1,iv xn)] gU func160 rfl rfl rfl rfl (ae (av 1 [(0,.slice dV bq.length dU),(1,iv xn)] kr (aa (aF (ae (ag 3 [0,1] [(7,iv (bq.length:Int)),(8,iv 0)] ?_))))));refine aa (Ok.block ?_);obtain ⟨k,hF⟩:=hF;refine fQ (fun k a W=>∃ N0:ak,bf w0 x1 N0∧∃ (s0:Int),fC 19 [(0,.slice dV bq.length dU),(1,iv xn),(7,iv (bq.length:Int)),(8,iv s0)] a∧dm w0 [.own (.slice dV bq.length dU) 3 1 bq.length iU] N0 W∧Bn xn K bq k s0) k ?_ ?_
  ·
   exact fun _ _ u v=>⟨x1,bu w0 x1,0,fA u v hF⟩
  clear hF;rintro (_ | KL) _ _ ⟨N0,T0,s0,q⟩;exact (q.2.2:False).elim;refine jn (fun hF=>?_) _ _ q;replace jI:=jI.mono T0.1;refine ae (ag 1 [0,1,7,8] [(9,.bool (decide (s0<(bq.length:Int))))] ?_);refine aa (aF (aJ hF (fun y1 hF=>?_) (fun y1 hF=>?_)))
  ·refine Ok.k (Ok.t (aF (Ok.block (ae (ag 2 [0,1,7,8] [(5,iv s0)] ?_)))));refine aa (ae (ag 3 [0,1,5,7,8] [(11,iv xn),(12,.slice dV bq.length dU),(13,iv s0)] ?_));obtain ⟨R1,T1,hF⟩:=hF;have Y1:=aT (l:=bq) default T1;generalize C1:(bq.getD s0.toNat default)=e12 at Y1 hF ⊢;refine ai (af.fZ (e:=.int .i64) 0 rfl jI rfl rfl underlying46 kr kr R1 Y1 rfl fun ae8 _ L1 A1=>?_);obtain rfl:=L1;replace A1:∀ j v,([iv e12]:List Value)[j]? = some v→iU[s0.toNat * 1+j]? = some v:=A1;refine ai (af.s (v:=iv e12) (dP 0 0 rfl A1 rfl underlying3 rfl kr) rfl rfl (ag 1 [0,1,5,7,8] [(16,.bool (xn==e12))] ?_));refine aa (dW hF rfl (fun I1=>?_) (fun I1=>?_))
   ·replace hF:=hF.1 I1;refine ae (av 2 [(4,iv s0)] kr (aa (Ok.ret (aV (aC (aC (aV (aC (bA (vs:=[iv s0]) (.inl rfl) rfl (.cons (.tmp rfl) .nil) rfl ?_)))))))));subst C1;exact fun _ _ u v=>⟨N0,T0,s0,fA u v hF⟩
   replace hF:=hF.2 I1;refine Ok.k (bG (Ok.t (aR (ag 2 [0,1,7] [(8,iv (w6 (s0+1)))] ?_))));refine bV (Ok.t ?_);subst C1;exact fun _ _ u v=>⟨KL,nl,N0,T0,w6 (s0+1),fA u v hF⟩
  refine fw (ay (ay (aM (Ok.t (ae (av 1 [(4,iv (-1))] kr (aa (Ok.ret (bA (vs:=[iv (-1)]) (.inl rfl) rfl (.cons (.tmp rfl) .nil) rfl ?_)))))))));exact fun _ _ u v=>⟨N0,T0,-1,fA u v hF⟩
 clear hF;rintro _ _ ⟨P1,F1,C0,q⟩;refine jn (fun hF=>?_) _ _ q;replace jI:=jI.mono F1.1;refine av 2 [(4,.slice dV bq.length dU),(5,iv C0)] kr (aa (Ok.ret ?_));exact gZ (vs:=[.slice dV bq.length dU,iv C0]) (.inl rfl) rfl (.cons (.tmp rfl) (.cons (.tmp rfl) .nil)) ((hx9.trans ajm).trans F1) ⟨bq,C0,dV,dU,iU,rfl,jI,rfl,hF⟩
theorem ajb (d:DC) (n:Int) (hp:Dp d n):ajc d n (fun a b=>(a,b)=cB d n):=by
 obtain ⟨hG,h0,h1⟩:=hp;refine ⟨h0,om,fun hc=>?_,fun hc=>?_⟩
 ·have hc:decide (par d.1 n.toNat<0)=true:=hc;unfold cB d_;rw [bB hc,bB hc]
 have hc:decide (par d.1 n.toNat<0)=false:=hc;have hn:=fq hc;obtain ⟨p0,p1⟩:=CR hG ⟨h0,h1⟩ hn;have hkl:=uy hG (i:=(par d.1 n.toNat).toNat) om;have hin:=fun x hx=>hG.kids.kid (par d.1 n.toNat).toNat om x hx
 have hS:cB d n=((fo d.1 (par d.1 n.toNat).toNat).filter (eU d),jZ (fun x=>n==x) ((fo d.1 (par d.1 n.toNat).toNat).filter (eU d)) 0):=by
  unfold cB d_;rw [aG hc,aG hc]
 rw [hS];refine ⟨p0,by show (par d.1 n.toNat).toNat<_; omega,by show (fo d.1 (par d.1 n.toNat).toNat).length≤100000; omega,?_⟩;generalize hl:fo d.1 (par d.1 n.toNat).toNat=l at hkl hin;have he:jO (d.1.getD (Int.toNat (d.1.getD n.toNat default).2.2.2.2.1) default).2.2.2.2.2=l:=hl
 have idx:∀ (own:List Int),own.length≤200→own=l.filter (eU d)→H8 n (fun a b=>(a,b)=(l.filter (eU d),jZ (fun x=>n==x) (l.filter (eU d)) 0)) own:=by
  intro own ho hown
  have loop:∀ (k i:Nat),i+k=own.length→jZ (fun x=>n==x) own 0=jZ (fun x=>n==x) (own.drop i) i→Bn n (fun a b=>(a,b)=(l.filter (eU d),jZ (fun x=>n==x) (l.filter (eU d)) 0)) own (k+1) (i:Int):=by
   intro k
   induction k with
   | zero =>
    intro i h h2;rw [eD om,jZ] at h2;refine ⟨fun hc=>od hc,fun _=>?_⟩;show (own,(-1:Int))=_;rw [← h2,hown]
   | succ k ih =>
    intro i h h2;rw [bX (l:=own) default om,jZ] at h2;refine ⟨fun _=>⟨om,om,fun hc=>?_,fun hc=>?_⟩,fun hc=>oe hc⟩
    ·rw [dR] at hc;rw [aU hc] at h2;show (own,(i:Int))=_;rw [← h2,hown]
    rw [dR] at hc;rw [aG hc] at h2;rw [fU om];exact ih (i+1) om h2
  exact ⟨_,loop own.length 0 om rfl⟩
 have second:∀ (k i j:Nat) (own:List Int),j+k=l.length→vT l (eU d) i j own→uw d n (fun a b=>(a,b)=(l.filter (eU d),jZ (fun x=>n==x) (l.filter (eU d)) 0)) (k+1) (i:Int) (j:Int) own:=by
  intro k
  induction k with
  | zero =>
   intro i j own h hI;have hj:j=l.length:=om;subst hj;have hln:=hI.len;have hij:=hI.ij;have hfin:=hI.fin;have hcl:(BD own i (0:Int)).length=own.length:=(yM own i 0 om).symm;refine ⟨fun hc=>od hc,fun _=>⟨om,om,lv _,om,om,?_,?_⟩⟩
   ·rw [dR]; omega
   rw [dR,hfin];exact idx _ (gQ (zT ..) hkl) rfl
  | succ k ih =>
   intro i j own h hI;have hln:=hI.len;have hij:=hI.ij;have hg:=hI.get;have hx:=hin (l.getD j default) (gM default om);refine ⟨fun _=>⟨om,om,?_⟩,fun hc=>oe hc⟩;rw [dR,hg];refine ⟨⟨om,om⟩,fun hc=>⟨om,om,?_⟩,fun hc=>?_⟩
   ·have hc':eU d (l.getD j default)=true:=by simpa using hc
    have e1:r_ d (i:Int) (j:Int) own=((i+1:Nat):Int):=by
     unfold r_; rw [dR,hg,aU hc,fU om]; omega
    have e2:lh d (i:Int) (j:Int) own=own.set i (own.getD j default):=by
     unfold lh; rw [dR,dR,hg,aU hc]
    unfold ry;rw [e1,e2,fU om,show (j:Int)+1=((j+1:Nat):Int) by omega];exact ih (i+1) (j+1) _ om (hI.keep om hc')
   have hc':eU d (l.getD j default)=false:=by simpa using hc
   have e1:r_ d (i:Int) (j:Int) own=(i:Int):=by
    unfold r_; rw [dR,hg,aG hc]
   have e2:lh d (i:Int) (j:Int) own=own:=by
    unfold lh; rw [dR,dR,hg,aG hc]
   unfold ry;rw [e1,e2,fU om,show (j:Int)+1=((j+1:Nat):Int) by omega];exact ih i (j+1) own om (hI.skip om hc')
 have first:∀ (k i:Nat),i+k=l.length→(l.take i).filter (eU d)=l.take i→vD d n (fun a b=>(a,b)=(l.filter (eU d),jZ (fun x=>n==x) (l.filter (eU d)) 0)) (d.1.getD (Int.toNat (d.1.getD n.toNat default).2.2.2.2.1) default) (k+1) (i:Int):=by
  intro k
  induction k with
  | zero =>
   intro i h ha;rw [vD];unfold Dl;rw [he];refine ⟨fun hc=>od hc,fun _=>?_⟩;unfold Dm;rw [he];refine ⟨fun _=>idx l hkl ?_,fun h=>absurd h dc⟩;rw [jU om] at ha;exact ha.symm
  | succ k ih =>
   intro i h ha;have hx:=hin (l.getD i default) (gM default om);rw [vD];unfold Dl;rw [he,dR];refine ⟨fun _=>⟨om,om,⟨om,om⟩,fun hc=>?_,fun hc=>?_⟩,fun hc=>oe hc⟩
   ·unfold Dm;rw [he];refine ⟨fun h=>absurd (eq_of_beq h) om,fun _=>?_⟩;rw [fU om,show (i:Int)+1=((i+1:Nat):Int) by omega];exact ⟨_,second (l.length - (i+1)) i (i+1) l om (vT.start om ha (by simpa using hc))⟩
   rw [fU om,show (i:Int)+1=((i+1:Nat):Int) by omega];exact ih (i+1) om (Lr om ha (by simpa using hc))
 exact ⟨_,first l.length 0 om rfl⟩
theorem ZI {g:ak} {j0:Option Addr} {x0:Nat} (xd:Dc) (xn:Int) (y0:bE g qj [.slice j0 xd.1.length x0] xd.1)  (hp:Dp xd xn):az prog 116 #[.agg (aD xd j0 x0),iv xn] g [] (fun g' H' v=>∃ (Av:Option Addr) (Au:Nat) (E0:List Value),v=.tuple #[.slice Av (cB xd xn).1.length Au,iv (cB xd xn).2]∧aW g' (.int .i64) E0 (cB xd xn).1∧H'=[.own (.slice Av (cB xd xn).1.length Au) 3 1 (cB xd xn).1.length E0]) :=
 (abY xd xn y0 _ (ajb xd xn hp)).mono (by rintro g' H' v _ ⟨r0,r1,Av,Au,E0,rfl,G1,rfl,hK⟩; obtain ⟨rfl,rfl⟩:r0=(cB xd xn).1∧r1=(cB xd xn).2:=⟨aA (fun z=>z.1) hK,aA (fun z=>z.2) hK⟩; exact ⟨Av,Au,E0,rfl,G1,rfl⟩)
def ab2 (K:(List Int)→Prop) (f0:Int) (g0:Int) (bQ:List Int) (C4:Int→Int→List Int→Prop):Prop :=
 (decide (f0<g0)=true→0≤g0∧g0.toNat<bQ.length∧0≤f0∧f0.toNat<bQ.length∧0≤g0∧g0.toNat<(bQ.set f0.toNat (bQ.getD g0.toNat default)).length∧C4 (w6 (f0+1)) (w6 (g0 - 1)) ((bQ.set f0.toNat (bQ.getD g0.toNat default)).set g0.toNat (bQ.getD f0.toNat default)))∧(decide (f0<g0)=false→K bQ)
def Py (K:(List Int)→Prop):Nat→Int→Int→List Int→Prop
 | 0,_,_,_=>False
 | k+1,f0,g0,bQ=>ab2 K f0 g0 bQ (Py K k)
def aji (xs:List Int) (K:(List Int)→Prop):Prop :=
 ∃ k,Py K k 0 (w6 ((xs.length:Int) - 1)) xs
theorem ab3 {g:ak} {NP:Option Addr} {NH:Nat} {Qg:List Value} (xs:List Int) (adI:aW g (.int .i64) Qg xs) (K:(List Int)→Prop)
  (hF:aji xs K):az prog 118 #[.slice NP xs.length NH] g [.own (.slice NP xs.length NH) 3 1 xs.length Qg] (fun g' H' v=>∃ (Yb:List Int),∃ (BL:List Value),v=.tuple #[]∧aW g' (.int .i64) BL Yb∧H'=[.own (.slice NP Yb.length NH) 3 1 Yb.length BL]∧Yb.length=xs.length∧K Yb):=by
 refine aP 28 func118 rfl fun w0=>?_;let B:=(xs.length:Int) - 1;refine ae (av 5 [(0,.slice NP xs.length NH),(2,iv 0),(3,iv (w6 B))] kr (aa (Ok.block ?_)));obtain ⟨k,hF⟩:=hF;refine fQ (fun k a W=>∃ gl4:ak,bf w0 g gl4∧∃ (f0:Int) (g0:Int) (bQ:List Int) (jA:List Value),aW gl4 (.int .i64) jA bQ∧bQ.length=xs.length∧fC 28 [(0,.slice NP bQ.length NH),(2,iv f0),(3,iv g0)] a∧dm w0 [.own (.slice NP bQ.length NH) 3 1 bQ.length jA] gl4 W∧Py K k f0 g0 bQ) k ?_ ?_
 ·
  exact fun _ _ u v=>⟨g,bu w0 g,0,w6 B,xs,Qg,adI,rfl,fA u v hF⟩
 clear hF;rintro (_ | k4) _ _ ⟨gl4,g2,f0,g0,bQ,jA,lL,wo,q⟩;exact (q.2.2:False).elim;refine jn (fun hF=>?_) _ _ q;refine aF (ae (ag 3 [0,2,3] [(9,.bool (decide (f0<g0)))] ?_));refine aa (aJ hF (fun hc1 hF=>?_) (fun hc1 hF=>?_))
 ·refine Ok.k (Ok.t (aF (Ok.block (wH [0,1,4,5,6,7,8,9,10,11,12] [] [0] [(0,true),(1,true),(2,true),(3,true),(4,true),(5,true),(6,true),(7,true),(8,true),(9,true),(10,true),(11,true),(12,true),(13,false),(14,false),(15,false)] ?_))));refine iJ 6 [0,2,3] [(14,.slice NP bQ.length NH),(15,iv f0),(16,.slice NP bQ.length NH),(17,iv g0),(18,.slice NP bQ.length NH),(19,iv g0)] ?_;obtain ⟨DL,DJ,hF⟩:=hF;have wu:=aT (l:=bQ) default DJ;generalize hg3:(bQ.getD g0.toNat default)=e3 at wu hF ⊢;refine eH.hd (fK.fZ (e:=.int .i64) 0 rfl lL rfl rfl underlying46 kr kr DL wu rfl fun cs2 _ hr2 hc2=>?_);obtain rfl:=hr2;replace hc2:∀ j v,([iv e3]:List Value)[j]? = some v→jA[g0.toNat * 1+j]? = some v:=hc2;refine eH.hd (fK.s (v:=iv e3) (dP 0 0 rfl hc2 rfl underlying3 rfl kr) rfl rfl ?_);refine iJ 2 [0,2,3,14,15,16,17] [(21,iv e3),(22,.slice NP bQ.length NH),(23,iv f0)] ?_;obtain ⟨Ep,IE,hF⟩:=hF;have DD:=aT (l:=bQ) default IE;generalize hg5:(bQ.getD f0.toNat default)=e5 at DD hF ⊢;refine eH.hd (fK.fZ (e:=.int .i64) 0 rfl lL rfl rfl underlying46 kr kr Ep DD rfl fun cs4 _ hr4 hc4=>?_);obtain rfl:=hr4;replace hc4:∀ j v,([iv e5]:List Value)[j]? = some v→jA[f0.toNat * 1+j]? = some v:=hc4;refine eH.hd (fK.s (v:=iv e5) (dP 0 0 rfl hc4 rfl underlying3 rfl kr) rfl rfl ?_);refine eH.hd (fK.fZ (e:=.int .i64) 0 rfl lL rfl rfl underlying46 kr kr Ep DD rfl fun cs6 _ QV hc6=>?_);obtain rfl:=QV;replace hc6:∀ j v,([iv e5]:List Value)[j]? = some v→jA[f0.toNat * 1+j]? = some v:=hc6;refine eH.t rfl rfl (ko (e:=.int .i64) (q:=f0.toNat) (cells:=[iv e5]) (vs:=[iv e3]) (xG:=e3) 0 0 1 rfl lL hc6 kr rfl rfl rfl kr kr kr kr kr (show bE _ _ [iv e3] _ from rfl) fun xs7 hL7=>?_);rw [show bQ.length=(bQ.set f0.toNat e3).length from (kP ..).symm];refine h_ (lG.refl _) ?_;obtain ⟨Eo,h19,hF⟩:=hF;have Rv:=aT (l:=bQ.set f0.toNat e3) default h19;generalize hg9:((bQ.set f0.toNat e3).getD g0.toNat default)=e9 at Rv hF ⊢;refine eH.t rfl rfl (af.fZ (e:=.int .i64) 0 rfl hL7 rfl rfl underlying46 kr kr Eo Rv rfl fun cs8 _ hr8 hc8=>?_);obtain rfl:=hr8;replace hc8:∀ j v,([iv e9]:List Value)[j]? = some v→xs7[g0.toNat * 1+j]? = some v:=hc8;refine h_ (lG.refl _) (eH.t rfl rfl (ko (e:=.int .i64) (q:=g0.toNat) (cells:=[iv e9]) (vs:=[iv e5]) (xG:=e5) 0 0 1 rfl hL7 hc8 kr rfl rfl rfl kr kr kr kr kr (show bE _ _ [iv e5] _ from rfl) fun ang adP=>?_));let A:=(bQ.set f0.toNat e3).set g0.toNat e5;rw [show (bQ.set f0.toNat e3).length=A.length from (kP ..).symm];refine h_ (lG.refl _) (eH.nil (bG (Ok.t (aR (av 6 [(0,.slice NP A.length NH),(2,iv (w6 (f0+1))),(3,iv (w6 (g0 - 1)))] kr (bV (Ok.t ?_)))))));subst hg9;subst hg5;subst hg3;exact fun _ _ u v=>⟨k4,nl,gl4,g2,w6 (f0+1),w6 (g0 - 1),((bQ.set f0.toNat (bQ.getD g0.toNat default)).set g0.toNat (bQ.getD f0.toNat default)),ang,adP,(by simp only [kP,wo]),fA u v hF⟩
 refine fw (ay (ay (aM ?_)));exact gZ (vs:=[]) (.inr rfl) rfl .nil g2 ⟨bQ,jA,rfl,lL,rfl,wo,hF⟩
def lZ (l:List Int):List Int:=l.reverse
def Ua (l:List Int):Prop:=l.length≤1000000
theorem ajh (l:List Int) (hp:Ua l):aji l (fun r=>r=lZ l):=by
 unfold Ua at hp;unfold lZ
 have loop:∀ (k i:Nat) (x:List Int),l.length≤2 * i+k→2 * i≤l.length+1→x.length=l.length→(∀ m,m<l.length→x[m]? = if m<i∨l.length≤m+i then l[l.length - 1 - m]? else l[m]?)→Py (fun r=>r=l.reverse) (k+1) (i:Int) ((l.length:Int) - 1 - (i:Int)) x:=by
  have done:∀ (i:Nat) (x:List Int),¬ (i:Int)<(l.length:Int) - 1 - (i:Int)→x.length=l.length→(∀ m,m<l.length→x[m]? = if m<i∨l.length≤m+i then l[l.length - 1 - m]? else l[m]?)→x=l.reverse:=by
   intro i x hn hx hm;refine zX fun m=>?_
   by_cases h:m<l.length
   ·rw [List.getElem?_reverse h,hm m h]
    split
    ·rfl
    have:m=l.length - 1 - m:=om;rw [← this]
   rw [sK om,sK (by rw [List.length_reverse]; omega)]
  intro k
  induction k with
  | zero =>
   intro i x h1 h2 hx hm;exact ⟨fun h=>od h,fun h=>done i x (fq h) hx hm⟩
  | succ k ih =>
   intro i x h1 h2 hx hm;refine ⟨fun h=>?_,fun h=>done i x (fq h) hx hm⟩;have h:=df h;have e:((l.length:Int) - 1 - (i:Int)).toNat=l.length - 1 - i:=om;rw [dR,e];refine ⟨om,om,om,om,om,by rw [kP]; omega,?_⟩;rw [fU om,fU om];have:=ih (i+1) ((x.set i (x.getD (l.length - 1 - i) default)).set (l.length - 1 - i) (x.getD i default)) om om (by rw [kP,kP]; exact hx) (fun m hml=>?_)
   ·rw [show (l.length:Int) - 1 - ((i+1:Nat):Int)=(l.length:Int) - 1 - (i:Int) - 1 by omega] at this;exact this
   rw [uU,uU]
   by_cases q1:l.length - 1 - i=m
   ·subst q1;rw [bB rfl,bB (by rw [kP]; omega),bB om];have:=hm i om;rw [aQ om] at this;rw [gT,this,show l.length - 1 - (l.length - 1 - i)=i by omega,gH om,uO]
   rw [aQ q1]
   by_cases q2:i=m
   ·subst q2;rw [bB rfl,bB om,bB om];have:=hm (l.length - 1 - i) om;rw [aQ om] at this;rw [gT,this,gH om,uO]
   rw [aQ q2,hm m hml]
   by_cases q3:m<i∨l.length≤m+i
   ·rw [bB q3,bB om]
   rw [aQ q3,aQ om]
 refine ⟨l.length+1,?_⟩;rw [fU om];have:=loop l.length 0 l om om rfl (fun m h=>by rw [aQ om]);rw [show (l.length:Int) - 1 - ((0:Nat):Int)=(l.length:Int) - 1 by omega] at this;exact this
theorem ajg {g:ak} {NP:Option Addr} {NH:Nat} {Qg:List Value} (xs:List Int) (adI:aW g (.int .i64) Qg xs)  (hp:Ua xs):az prog 118 #[.slice NP xs.length NH] g [.own (.slice NP xs.length NH) 3 1 xs.length Qg] (fun g' H' v=>∃ (BL:List Value),v=.tuple #[]∧aW g' (.int .i64) BL (lZ xs)∧H'=[.own (.slice NP (lZ xs).length NH) 3 1 (lZ xs).length BL]∧(lZ xs).length=xs.length) :=
 (ab3 xs adI _ (ajh xs hp)).mono (by rintro g' H' v _ ⟨Yb,BL,rfl,akJ,rfl,ajZ,hK⟩; subst hK; exact ⟨BL,rfl,akJ,rfl,ajZ⟩)

def ancN (l:List ND):Nat→Int→List Int
 | 0,_=>[]
 | k+1,n=>if decide (n>0)=true then n::ancN l k (par l n.toNat) else []
theorem P9 (l:List ND):∀ (k:Nat) (n:Int),(ancN l k n).length≤k
 | 0,_=>fP _
 | k+1,n=>by
  rw [ancN]
  split
  ·rw [di]; have:=P9 l k (par l n.toNat); omega
  simp
def upS (d:DC) (n:Int):List Int:=ancN d.1 42 (par d.1 n.toNat)
def mnxS (d:DC) (n:Int) (j:Int):List Int :=
 if ((j==32)||(j==62))=true then (if (j==62)=true then (upS d n).take 1 else upS d n)
 else if (j==43)=true then ((cB d n).1.take (cB d n).2.toNat).reverse.take 1 else ((cB d n).1.take (cB d n).2.toNat).reverse
def abM (d:DC) (n:Int) (_:Int):Prop:=gN d∧nu d n∧eU d n=true
theorem XP {l:List Int} {n:Int} (h:n ∈ l):∀ i:Nat,(i:Int)≤jZ (fun x=>n==x) l i∧jZ (fun x=>n==x) l i<(i:Int)+(l.length:Int):=by
 induction l with
 | nil=>cases h
 | cons x l ih =>
  intro i;rw [jZ,di]
  by_cases hx:(n==x)=true
  ·rw [bB hx]; omega
  rw [aQ hx]
  have hm:n ∈ l:=by
   rcases eO.1 h with rfl | h
   ·exact absurd (uM n) hx
   exact h
  have:=ih hm (i+1);omega
theorem Pt {d:DC} (hG:gN d) {n:Int} (hn:nu d n) (he:eU d n=true):n ∈ d_ d n:=by
 unfold d_
 split
 ·exact il.2 rfl
 rename_i hc
 have hc:¬ par d.1 n.toNat<0:=by simpa using hc
 refine pK.2 ⟨?_,he⟩
 rcases hG.kids.up n.toNat (by have:=hn.1; have:=hn.2; omega) with h | ⟨i,hi,hp,hm⟩
 ·omega
 rw [hp,dR];rw [show ((n.toNat:Nat):Int)=n by have:=hn.1; omega] at hm;exact hm
theorem yx {d:DC} (hG:gN d) {n:Int} (hn:nu d n):(d_ d n).length≤200:=by
 unfold d_
 split
 ·simp
 rename_i hc
 have hc:¬ par d.1 n.toNat<0:=by simpa using hc
 have hp:=CR hG hn hc;exact gQ (zT ..) (uy hG (by have:=hp.1; have:=hp.2; omega))
theorem H9 {d:DC} (hG:gN d) {n:Int} (hn:nu d n) (he:eU d n=true):0≤(cB d n).2∧(cB d n).2<((cB d n).1.length:Int):=by
 have hm:=Pt hG hn he;have:=XP hm 0;unfold cB
 split
 ·rename_i hc
  have:d_ d n=[n]:=by unfold d_; rw [bB hc]
  show (0:Int)≤0∧(0:Int)<((d_ d n).length:Int);rw [this]; exact ⟨lv _,by simp⟩
 show 0≤jZ (fun x=>n==x) (d_ d n) 0∧jZ (fun x=>n==x) (d_ d n) 0<((d_ d n).length:Int);omega
theorem IX {l:List ND}:∀ {k:Nat} {n:Int},Ends l k n→0≤n→n<(l.length:Int)
 | 0,n,h,h0=>by have h:n<0:=h; omega
 | k+1,n,h,h0=>by
  rcases h with h | h
  ·omega
  exact h.1
def Kg (K:(List Int)→Prop) (c0:List Int):Prop :=
 K c0
def Xu (xd:Dc) (bY:Int) (K:(List Int)→Prop) (d0:Int) (u0:List Int) (Z8:Int→List Int→Prop):Prop :=
 (decide (d0>0)=true→(u0++([d0]:List Int)).length≤17592186044416∧((bY==62)=true→Kg K (u0++([d0]:List Int)))∧((bY==62)=false→0≤d0∧d0.toNat<xd.1.length∧Z8 (xd.1.getD d0.toNat default).2.2.2.2.1 (u0++([d0]:List Int))))∧(decide (d0>0)=false→Kg K u0)
def Hm (xd:Dc) (bY:Int) (K:(List Int)→Prop):Nat→Int→List Int→Prop
 | 0,_,_=>False
 | k+1,d0,u0=>Xu xd bY K d0 u0 (Hm xd bY K k)
def Pg (xd:Dc) (xn:Int) (bY:Int) (K:(List Int)→Prop):Prop :=
 (((bY==32)||(bY==62))=true→0≤xn∧xn.toNat<xd.1.length∧∃ k,Hm xd bY K k (xd.1.getD xn.toNat default).2.2.2.2.1 ([]:List Int))∧(((bY==32)||(bY==62))=false→Dp xd xn∧0≤(cB xd xn).2∧(cB xd xn).2≤((cB xd xn).1.length:Int)∧Ua ((cB xd xn).1.take (Int.toNat (cB xd xn).2))∧((bY==43)=true→0≤(if ((lZ ((cB xd xn).1.take (Int.toNat (cB xd xn).2))).length:Int)<1 then ((lZ ((cB xd xn).1.take (Int.toNat (cB xd xn).2))).length:Int) else 1)∧(if ((lZ ((cB xd xn).1.take (Int.toNat (cB xd xn).2))).length:Int)<1 then ((lZ ((cB xd xn).1.take (Int.toNat (cB xd xn).2))).length:Int) else 1)≤((lZ ((cB xd xn).1.take (Int.toNat (cB xd xn).2))).length:Int)∧Kg K ((lZ ((cB xd xn).1.take (Int.toNat (cB xd xn).2))).take (Int.toNat (if ((lZ ((cB xd xn).1.take (Int.toNat (cB xd xn).2))).length:Int)<1 then ((lZ ((cB xd xn).1.take (Int.toNat (cB xd xn).2))).length:Int) else 1))))∧((bY==43)=false→Kg K (lZ ((cB xd xn).1.take (Int.toNat (cB xd xn).2)))))
def aiF (xd:Dc) (xn:Int) (bY:Int) (K:(List Int)→Prop):Prop :=
 ((bY==32)=true→Pg xd xn bY K)∧((bY==32)=false→Pg xd xn bY K)
theorem abL {g:ak} {j0:Option Addr} {x0:Nat} (xd:Dc) (xn:Int) (bY:Int) (y0:bE g qj [.slice j0 xd.1.length x0] xd.1) (K:(List Int)→Prop)
  (hF:aiF xd xn bY K):az prog 73 #[.agg (aD xd j0 x0),iv xn,.int .u8 bY] g [] (fun g' H' v=>∃ (r0:List Int),∃ (v1:Option Addr) (k1:Nat),v=.slice v1 r0.length k1∧bE g' (.slice (.int .i64)) [.slice v1 r0.length k1] r0∧H'=[]∧K r0):=by
 refine aP 53 func73 rfl fun w0=>?_;refine ae (ai (cO fun dD=>?_));refine av 1 [(1,iv xn),(2,.int .u8 bY),(3,pv dD 0)] kr (aa (ae (ag 1 [1,2,3] [(7,.slice none 0 0)] ?_)));have hL2:aW g (.int .i64) [] []:=rfl;refine fT 3 1 (aa (Ok.cut (fun a W=>∃ Ya:ak,bf w0 g Ya∧∃ (o0:Option Addr) (t0:Nat) (c0:List Int) (D0:List Value),aW Ya (.int .i64) D0 c0∧fC 53 [(7,.slice o0 c0.length t0)] a∧dm w0 [.own (.slice o0 c0.length t0) 3 1 c0.length D0] Ya W∧Kg K c0) ?_ ?_))
 ·
  refine ae (ag 1 [1,2,3] [(7,.slice none ([]:List Int).length 0),(10,.int .u8 bY)] ?_);let A:=(bY==32)||(bY==62);refine aa (Ok.block (iK g [(1,iv xn),(2,.int .u8 bY),(3,pv dD 0),(7,.slice none ([]:List Int).length 0),(29,.bool A)] [.own (.slice none ([]:List Int).length 0) 3 1 ([]:List Int).length ([]),.blk dD (.cells (aD xd j0 x0) 24)] (Pg xd xn bY K) ?_ (fun gj9 Z1 hF=>?_)))
  ·
   refine ae (ag 2 [1,2,3,7,10] [(29,.bool (bY==32))] ?_);refine aa (aJ hF (fun b1 hF=>?_) (fun b1 hF=>?_))
   ·refine Ok.k (Ok.t (aB 29 A (au (b1) (cK b1)) ?_));exact fg hF
   refine aR (ag 2 [1,2,3,7] [(29,.bool (bY==62))] ?_);refine aa (aB 29 A (bN b1) ?_);exact fg hF
  replace hL2:=hL2.mono Z1.1;replace y0:=y0.mono Z1.1;refine aJ hF (fun hc4 hF=>?_) (fun hc4 hF=>?_)
  ·refine ae (aj 3 [.e 1] [2,3,7] [(33,.slice j0 xd.1.length x0),(34,iv xn)] ?_);obtain ⟨uA,h16,hF⟩:=hF;have uz:=aT (l:=xd.1) default h16;generalize zH:(xd.1.getD xn.toNat default)=e6 at uz hF ⊢;refine ai (af.aX (e:=yN) rfl rfl underlying22 kr y0 uA uz rfl fun q5 o5 cs5 _ U1 MZ=>?_);obtain ⟨al7,alp,aws,av9,rfl,ZP,atg⟩:=oN MZ;refine aj 3 [.a 4 U1] [2,3,7] [(1,iv e6.2.2.2.2.1)] ?_;refine aa (Ok.block ?_);obtain ⟨k,hF⟩:=hF;refine fQ (fun k a W=>∃ d1:ak,bf w0 gj9 d1∧∃ (d0:Int) (a0:Option Addr) (Z0:Nat) (u0:List Int) (K0:List Value),aW d1 (.int .i64) K0 u0∧fC 53 [(1,iv d0),(2,.int .u8 bY),(3,pv dD 0),(7,.slice a0 u0.length Z0)] a∧dm w0 [.own (.slice a0 u0.length Z0) 3 1 u0.length K0,.blk dD (.cells (aD xd j0 x0) 24)] d1 W∧Hm xd bY K k d0 u0) k ?_ ?_
   ·
    exact fun _ _ u v=>⟨gj9,bu w0 gj9,e6.2.2.2.2.1,none,0,([]:List Int),[],hL2,fA u v hF⟩
   clear hF;rintro (_ | k19) _ _ ⟨d1,t1,d0,a0,Z0,u0,K0,G0,q⟩;exact (q.2.2:False).elim;refine jn (fun hF=>?_) _ _ q;replace y0:=y0.mono t1.1;refine aF (ae (ag 2 [1,2,3,7] [(39,.bool (decide (d0>0)))] ?_));refine aa (dW hF rfl (fun iB=>?_) (fun iB=>?_))
   ·replace hF:=hF.1 iB;refine Ok.k (Ok.t (aF (Ok.block (ae (ag 2 [1,2,3] [(46,.slice a0 u0.length Z0),(47,iv d0)] ?_)))));let B:=([d0]:List Int);have ZQ:aW d1 (.int .i64) ([iv d0]:List Value) B:=(dx (c:=[iv d0]) rfl rfl);refine ai (gz ZQ fun b8=>?_);obtain ⟨hb9,hF⟩:=hF;refine ai (fu (e:=.int .i64) 8 17592186044416 1 0 rfl rfl rfl rfl G0 ZQ underlying46 kr kr kr hb9 rfl fun a9 c9 Ro hL9=>?_);refine ag 1 [1,2,3] [(7,.slice a9 (u0++B).length c9)] ?_;refine aa (ae (ag 2 [1,2,3,7] [(51,.bool (bY==62))] ?_));refine aa (dW hF rfl (fun y1=>?_) (fun y1=>?_))
    ·replace hF:=hF.1 y1;refine fw (yY rfl (ay (ay (aM (bG (Ok.t ?_))))));subst zH;exact fun _ _ u v=>⟨d1,Z1.trans t1,a9,c9,(u0++B),Ro,hL9,fA u v hF⟩
    replace hF:=hF.2 y1;refine Ok.k (bG (Ok.t (aR (aj 3 [.e 2] [2,3,7] [(41,.slice j0 xd.1.length x0),(42,iv d0)] ?_))));obtain ⟨R1,T1,hF⟩:=hF;have Y1:=aT (l:=xd.1) default T1;generalize C1:(xd.1.getD d0.toNat default)=e12 at Y1 hF ⊢;refine ai (af.aX (e:=yN) rfl rfl underlying22 kr y0 R1 Y1 rfl fun q11 o11 ae8 _ akk L1=>?_);obtain ⟨aun,atP,aum,atO,rfl,aqu,aqt⟩:=oN L1;refine aj 3 [.a 4 akk] [2,3,7] [(1,iv e12.2.2.2.2.1)] ?_;refine bV (Ok.t ?_);subst C1;exact fun _ _ u v=>⟨k19,nl,d1,t1,(xd.1.getD d0.toNat default).2.2.2.2.1,a9,c9,(u0++([d0]:List Int)),Ro,hL9,fA u v hF⟩
   replace hF:=hF.2 iB;refine fw (ay (ay (aM (bG (Ok.t ?_)))));subst zH;exact fun _ _ u v=>⟨d1,Z1.trans t1,a0,Z0,u0,K0,G0,fA u v hF⟩
  refine ae (aj 2 [.e 1] [2] [(12,.agg (aD xd j0 x0)),(13,iv xn)] ?_);obtain ⟨zD,hF⟩:=hF;refine ai (bS (ZI xd xn y0 zD) fun g14 _ _ D1 ade=>?_);obtain ⟨J0,W0,ane,rfl,adN,rfl⟩:=ade;refine ag 5 [2] [(8,.slice J0 (cB xd xn).1.length W0),(9,iv (cB xd xn).2)] ?_;refine aa (ae (ag 2 [2] [(17,.slice J0 (cB xd xn).1.length W0),(18,iv (cB xd xn).2)] ?_));obtain ⟨IL,Ni,hF⟩:=hF;refine ai (qf (e:=.int .i64) (h:=(cB xd xn).2) 0 rfl rfl rfl adN underlying46 kr IL Ni rfl fun auy z2=>?_);refine ag 1 [2] [(7,.slice J0 ((cB xd xn).1.take (Int.toNat (cB xd xn).2)).length W0)] ?_;refine aa (ae (ag 1 [2,7] [(20,.slice J0 ((cB xd xn).1.take (Int.toNat (cB xd xn).2)).length W0)] ?_));obtain ⟨M6,hF⟩:=hF;refine ai (bS (ajg ((cB xd xn).1.take (Int.toNat (cB xd xn).2)) z2 M6) fun g17 _ _ J1 ada=>?_);obtain ⟨Z9,rfl,W1,rfl,f1⟩:=ada;refine gX 7 rfl (show (.slice J0 ((cB xd xn).1.take (Int.toNat (cB xd xn).2)).length W0:Value)=.slice J0 (lZ ((cB xd xn).1.take (Int.toNat (cB xd xn).2))).length W0 from by rw [f1]) (gX 20 rfl (show (.slice J0 ((cB xd xn).1.take (Int.toNat (cB xd xn).2)).length W0:Value)=.slice J0 (lZ ((cB xd xn).1.take (Int.toNat (cB xd xn).2))).length W0 from by rw [f1]) (aa (ae (av 2 [(7,.slice J0 (lZ ((cB xd xn).1.take (Int.toNat (cB xd xn).2))).length W0),(23,.bool (bY==43))] kr (aa (aJ hF (fun hc18 hF=>?_) (fun hc18 hF=>?_)))))))
  ·refine aR (av 4 [(24,.slice J0 (lZ ((cB xd xn).1.take (Int.toNat (cB xd xn).2))).length W0),(27,iv (if ((lZ ((cB xd xn).1.take (Int.toNat (cB xd xn).2))).length:Int)<1 then ((lZ ((cB xd xn).1.take (Int.toNat (cB xd xn).2))).length:Int) else 1))] kr ?_);obtain ⟨ael,aqU,hF⟩:=hF;refine ai (qf (e:=.int .i64) (h:=(if ((lZ ((cB xd xn).1.take (Int.toNat (cB xd xn).2))).length:Int)<1 then ((lZ ((cB xd xn).1.take (Int.toNat (cB xd xn).2))).length:Int) else 1)) 0 rfl rfl rfl W1 underlying46 kr ael aqU rfl fun ana aqF=>?_);refine av 1 [(7,.slice J0 ((lZ ((cB xd xn).1.take (Int.toNat (cB xd xn).2))).take (Int.toNat (if ((lZ ((cB xd xn).1.take (Int.toNat (cB xd xn).2))).length:Int)<1 then ((lZ ((cB xd xn).1.take (Int.toNat (cB xd xn).2))).length:Int) else 1))).length W0)] kr (bV (bG (Ok.t ?_)));exact fun _ _ u v=>⟨g17,((Z1.trans D1).trans J1),J0,W0,((lZ ((cB xd xn).1.take (Int.toNat (cB xd xn).2))).take (Int.toNat (if ((lZ ((cB xd xn).1.take (Int.toNat (cB xd xn).2))).length:Int)<1 then ((lZ ((cB xd xn).1.take (Int.toNat (cB xd xn).2))).length:Int) else 1))),ana,aqF,fA u v hF⟩
  refine Ok.k (bG (Ok.t ?_));exact fun _ _ u v=>⟨g17,((Z1.trans D1).trans J1),J0,W0,(lZ ((cB xd xn).1.take (Int.toNat (cB xd xn).2))),Z9,W1,fA u v hF⟩
 clear hF;rintro _ _ ⟨Ya,anV,o0,t0,c0,D0,K5,q⟩;refine jn (fun hF=>?_) _ _ q;refine ae (av 2 [(6,.slice o0 c0.length t0)] kr (aa (Ok.ret (sQ 0 rfl K5 fun g3 hx3 apW=>?_))));exact qg (.slice o0 c0.length t0) (anV.trans hx3) ⟨c0,o0,t0,rfl,apW,rfl,hF⟩
theorem aiE (d:DC) (n:Int) (j:Int) (hp:abM d n j):aiF d n j (fun a=>a=mnxS d n j):=by
 obtain ⟨hG,hn,he⟩:=hp;obtain ⟨i0,i1⟩:=H9 hG hn he;have hkl:((cB d n).1).length≤200:=yx hG hn
 have e1:Ends d.1 42 (par d.1 n.toNat):=by
  have h2:=PN hG (n:=n.toNat) (by have:=hn.1; have:=hn.2; omega);rw [show ((n.toNat:Nat):Int)=n by have:=hn.1; omega] at h2;exact (PM (k:=40) h2 hn.1).mono om
 have j9:Pg d n j (fun a=>a=mnxS d n j):=by
  refine ⟨fun hc=>⟨hn.1,by have:=hn.1; have:=hn.2; omega,?_⟩,fun hc=>?_⟩
  ·have loop:∀ (k:Nat) (m:Int) (acc:List Int),Ends d.1 k m→(j==62)=true∧acc=[]∨(j==62)=false→acc.length+k≤1000→mnxS d n j=(if (j==62)=true then (acc++ancN d.1 k m).take 1 else acc++ancN d.1 k m)→Hm d j (fun a=>a=mnxS d n j) (k+1) m acc:=by
    intro k
    induction k with
    | zero =>
     intro m acc hE hj hl hS;have hE:m<0:=hE;refine ⟨fun h=>od h,fun _=>?_⟩;show acc=_;rw [hS,ancN,gK]
     rcases hj with ⟨h1,h2⟩ | h1
     ·rw [aU h1,h2]; rfl
     rw [aG h1]
    | succ k ih =>
     intro m acc hE hj hl hS;refine ⟨fun h=>?_,fun h=>?_⟩
     ·rw [ancN,aU h] at hS;have h:=df h;refine ⟨by rw [bD,mQ]; omega,fun hj1=>?_,fun hj1=>?_⟩
      ·show acc++[m]=_
       rcases hj with ⟨-,h2⟩ | h1
       ·rw [hS,aU hj1,h2]; rfl
       rw [h1] at hj1; cases hj1
      have hm:=IX hE om
      rcases hE with hE | hE
      ·omega
      refine ⟨om,om,ih _ _ hE.2 (.inr hj1) (by rw [bD,mQ]; omega) ?_⟩;rw [hS,aG hj1,aG hj1,dM]; rfl
     rw [ancN,aG h,gK] at hS;show acc=_;rw [hS]
     rcases hj with ⟨h1,h2⟩ | h1
     ·rw [aU h1,h2]; rfl
     rw [aG h1]
   refine ⟨_,loop 42 (par d.1 n.toNat) [] e1 ?_ (by simp) ?_⟩
   ·cases hj:(j==62) with
    | true=>exact .inl ⟨rfl,rfl⟩
    | false=>exact .inr rfl
   unfold mnxS; rw [aU hc]; rfl
  have hR:Ua ((cB d n).1.take (cB d n).2.toNat):=by
   show ((cB d n).1.take (cB d n).2.toNat).length≤1000000;rw [gG]; omega
  have hS:mnxS d n j=if (j==43)=true then ((cB d n).1.take (cB d n).2.toNat).reverse.take 1 else ((cB d n).1.take (cB d n).2.toNat).reverse:=by
   unfold mnxS; rw [aG hc]
  rw [hS];refine ⟨⟨hG,hn⟩,i0,om,hR,fun hj=>?_,fun hj=>?_⟩
  ·rw [aU hj];unfold lZ;generalize ((cB d n).1.take (cB d n).2.toNat).reverse=R
   by_cases h1:((R.length:Nat):Int)<1
   ·rw [bB h1];refine ⟨om,lv _,?_⟩;have:R=[]:=iO om;subst this; rfl
   rw [aQ h1];exact ⟨by decide,om,rfl⟩
  rw [aG hj]; rfl
 exact ⟨fun _=>j9,fun _=>j9⟩
theorem aiD {g:ak} {j0:Option Addr} {x0:Nat} (xd:Dc) (xn:Int) (bY:Int) (y0:bE g qj [.slice j0 xd.1.length x0] xd.1)  (hp:abM xd xn bY):az prog 73 #[.agg (aD xd j0 x0),iv xn,.int .u8 bY] g [] (fun g' H' v=>∃ (v1:Option Addr) (k1:Nat),v=.slice v1 (mnxS xd xn bY).length k1∧bE g' (.slice (.int .i64)) [.slice v1 (mnxS xd xn bY).length k1] (mnxS xd xn bY)∧H'=[]) :=
 (abL xd xn bY y0 _ (aiE xd xn bY hp)).mono (by rintro g' H' v _ ⟨r0,v1,k1,rfl,xe,rfl,hK⟩; subst hK; exact ⟨v1,k1,rfl,xe,rfl⟩)
def jK:List (Bs×Bs)→Bs→Bs×Bool
 | [],_=>([],false)
 | a::l,n=>if (a.1==n)=true then (a.2,true) else jK l n
def Hy (xx:Nd) (K:Bs→Bool→Prop) (e0:Int):Prop :=
 (decide (e0<0)=true→K ([]:Bs) false)∧(decide (e0<0)=false→0≤e0∧e0.toNat<xx.2.2.1.length∧K (xx.2.2.1.getD e0.toNat default).2 true)
def TD (xx:Nd) (dn:Bs) (K:Bs→Bool→Prop) (b0:Int) (En:Int→Prop):Prop :=
 ((decide (b0<(xx.2.2.1.length:Int)))=true→0≤b0∧b0.toNat<xx.2.2.1.length∧(((xx.2.2.1.getD b0.toNat default).1==dn)=true→Hy xx K b0)∧(((xx.2.2.1.getD b0.toNat default).1==dn)=false→En (w6 (b0+1))))∧((decide (b0<(xx.2.2.1.length:Int)))=false→Hy xx K (-1))
def Bl (xx:Nd) (dn:Bs) (K:Bs→Bool→Prop):Nat→Int→Prop
 | 0,_=>False
 | k+1,b0=>TD xx dn K b0 (Bl xx dn K k)
def aiU (xx:Nd) (dn:Bs) (K:Bs→Bool→Prop):Prop :=
 ∃ k,Bl xx dn K k 0
theorem abT {g:ak} {V0:Option Addr} {Q0:Nat} {O0:Option Addr} {P0:Nat} (xx:Nd) (dn:Bs) (u1:bE g (.slice yA) [.slice V0 xx.2.2.1.length Q0] xx.2.2.1) (X1:bE g (.slice (.int .i64)) [.slice O0 xx.2.2.2.2.2.length P0] xx.2.2.2.2.2) (K:Bs→Bool→Prop)
  (hF:aiU xx dn K):az prog 112 #[.agg (aN xx V0 Q0 O0 P0),sv dn] g [] (fun g' H' v=>∃ (r0:Bs),∃ (r1:Bool),v=.tuple #[sv r0,.bool r1]∧H'=[]∧K r0 r1):=by
 refine aP 19 func112 rfl fun w0=>?_;refine ae (ai (cO fun eT=>?_));refine ai (af.box (v:=sv dn) (cs:=#[sv dn]) rfl kr rfl fun dD=>?_);refine av 2 [(2,pv eT 0),(3,pv dD 0)] kr (aa (ae (aj 3 [.e 1] [2] [(8,.slice V0 xx.2.2.1.length Q0),(9,.func (.func 149) #[] #[pv dD 0])] ?_)));let C:=(.cells (aN xx V0 Q0 O0 P0) 48:Obj);refine ai (af.cut (fun a W=>∃ (e0:Int),fC 19 [(2,pv eT 0),(10,iv e0)] a∧dm w0 [.blk eT C] g W∧Hy xx K e0) ?_ ?_)
 ·
  let B:=(xx.2.2.1.length:Int);refine bO (args:=#[.slice V0 xx.2.2.1.length Q0,.func (.func 149) #[] #[pv dD 0]]) 19 [(0,.slice V0 xx.2.2.1.length Q0),(1,.func (.func 149) #[] #[pv dD 0])] gU func102 rfl rfl rfl rfl (ae (av 1 [(0,.slice V0 xx.2.2.1.length Q0),(1,.func (.func 149) #[] #[pv dD 0])] kr (aa (aF (ae (ag 3 [0,1] [(7,iv B),(8,iv 0)] ?_))))));refine aa (Ok.block ?_);obtain ⟨k,hF⟩:=hF;refine fQ (fun k a W=>∃ (b0:Int),fC 19 [(0,.slice V0 xx.2.2.1.length Q0),(1,.func (.func 149) #[] #[pv dD 0]),(7,iv B),(8,iv b0)] a∧dm w0 [.blk dD (.cells #[sv dn] 9),.blk eT C] g W∧Bl xx dn K k b0) k ?_ ?_
  ·
   exact fun _ _ u v=>⟨0,fA u v hF⟩
  clear hF;rintro (_ | KL) _ _ ⟨b0,q⟩;exact (q.2.2:False).elim;refine jn (fun hF=>?_) _ _ q;refine ae (ag 1 [0,1,7,8] [(9,.bool (decide (b0<B)))] ?_);refine aa (aF (aJ hF (fun hc6 hF=>?_) (fun hc6 hF=>?_)))
  ·refine Ok.k (Ok.t (aF (Ok.block (ae (ag 2 [0,1,7,8] [(5,iv b0)] ?_)))));refine aa (ae (ag 3 [0,1,5,7,8] [(11,.func (.func 149) #[] #[pv dD 0]),(12,.slice V0 xx.2.2.1.length Q0),(13,iv b0)] ?_));obtain ⟨IK,h18,hF⟩:=hF;have EA:=aT (l:=xx.2.2.1) default h18;generalize Ru:(xx.2.2.1.getD b0.toNat default)=e8 at EA hF ⊢;refine ai (af.aX (e:=.pair (.str) (.str)) rfl rfl underlying45 kr u1 IK EA rfl fun q7 o7 cs7 _ v2 MX=>?_);obtain ⟨_,_,rfl,rfl,rfl⟩:=MX;replace v2:At g q7 o7 [sv e8.1,sv e8.2]:=v2;let A:=(#[sv e8.1,sv e8.2]:Array Value);refine ai (af.s (v:=.agg A) (bL 0 2 A v2 kr underlying105 rfl kr kr kr) rfl rfl (ai (bO (args:=#[.agg A,pv dD 0]) 8 [(0,.agg A),(1,pv dD 0)] gU func149 rfl rfl rfl rfl (ae (ai (cO fun Rh=>?_))))));refine av 1 [(1,pv dD 0),(2,pv Rh 0)] kr (aa (ae (aj 5 [.e 0,.e 1] [] [(3,.bool (e8.1==dn))] ?_)));refine aa (Ok.ret (bA (vs:=[.bool (e8.1==dn)]) (.inl rfl) rfl (.cons (.tmp rfl) .nil) rfl (aa (dW hF rfl (fun y1=>?_) (fun y1=>?_)))))
   ·replace hF:=hF.1 y1;refine ae (av 2 [(4,iv b0)] kr (aa (Ok.ret (aV (aC (aC (aV (aC (bA (vs:=[iv b0]) (.inl rfl) rfl (.cons (.tmp rfl) .nil) rfl ?_)))))))));subst Ru;exact fun _ _ u v=>⟨b0,fA u v hF⟩
   replace hF:=hF.2 y1;refine Ok.k (bG (Ok.t (aR (av 2 [(0,.slice V0 xx.2.2.1.length Q0),(1,.func (.func 149) #[] #[pv dD 0]),(7,iv (xx.2.2.1.length:Int)),(8,iv (w6 (b0+1)))] kr (bV (Ok.t ?_))))));subst Ru;exact fun _ _ u v=>⟨KL,nl,w6 (b0+1),fA u v hF⟩
  refine fw (ay (ay (aM (Ok.t (ae (av 1 [(4,iv (-1))] kr (aa (Ok.ret (bA (vs:=[iv (-1)]) (.inl rfl) rfl (.cons (.tmp rfl) .nil) rfl ?_)))))))));exact fun _ _ u v=>⟨-1,fA u v hF⟩
 clear hF;rintro _ _ ⟨e0,q⟩;refine jn (fun hF=>?_) _ _ q;refine ag 1 [2] [(6,iv e0)] ?_;refine aa (aF (ae (ag 2 [2,6] [(12,.bool (decide (e0<0)))] ?_)));refine aa (aJ hF (fun hc3 hF=>?_) (fun hc3 hF=>?_))
 ·refine ae (av 2 [(4,sv ([]:Bs)),(5,.bool false)] kr (aa (Ok.ret (aC ?_))));exact FZ [] (bu w0 g) ⟨([]:Bs),false,rfl,rfl,hF⟩
 refine Ok.k (Ok.t (ae (aj 3 [.e 0] [] [(14,.slice V0 xx.2.2.1.length Q0),(15,iv e0)] ?_)));obtain ⟨Ep,IE,hF⟩:=hF;have DD:=aT (l:=xx.2.2.1) default IE;generalize hg5:(xx.2.2.1.getD e0.toNat default)=e5 at DD hF ⊢;refine ai (af.aX (e:=.pair (.str) (.str)) rfl rfl underlying45 kr u1 Ep DD rfl fun q4 o4 cs4 _ k2 hr4=>?_);obtain ⟨_,_,rfl,rfl,rfl⟩:=hr4;replace k2:At g q4 o4 [sv e5.1,sv e5.2]:=k2;refine aj 4 [.a 1 k2] [] [(4,sv e5.2),(5,.bool true)] ?_;refine aa (Ok.ret ?_);exact FZ [] (bu w0 g) ⟨e5.2,true,rfl,rfl,hF⟩
def dh (x:ND) (n:Bs):Bs×Bool:=jK x.2.2.1 n
def QP (x:ND) (_:Bs):Prop:=x.2.2.1.length≤1000
theorem aiT (x:ND) (n:Bs) (hp:QP x n):aiU x n (fun a b=>(a,b)=dh x n):=by
 have hl:x.2.2.1.length≤1000:=hp
 have loop:∀ (k i:Nat),i+k=x.2.2.1.length→dh x n=jK (x.2.2.1.drop i) n→Bl x n (fun a b=>(a,b)=dh x n) (k+1) (i:Int):=by
  intro k
  induction k with
  | zero =>
   intro i h h2;rw [eD om,jK] at h2;exact ⟨fun hc=>od hc,fun _=>⟨fun _=>h2.symm,fun hc=>absurd hc dc⟩⟩
  | succ k ih =>
   intro i h h2;rw [bX (l:=x.2.2.1) default om,jK] at h2;refine ⟨fun _=>⟨om,om,fun hc=>?_,fun hc=>?_⟩,fun hc=>oe hc⟩
   ·rw [dR] at hc;rw [aU hc] at h2;refine ⟨fun hc=>od hc,fun _=>⟨om,om,?_⟩⟩;rw [dR];exact h2.symm
   rw [dR] at hc;rw [aG hc] at h2;rw [fU om];exact ih (i+1) om h2
 exact ⟨_,loop x.2.2.1.length 0 om rfl⟩
theorem TE {g:ak} {V0:Option Addr} {Q0:Nat} {O0:Option Addr} {P0:Nat} (xx:Nd) (dn:Bs) (u1:bE g (.slice yA) [.slice V0 xx.2.2.1.length Q0] xx.2.2.1) (X1:bE g (.slice (.int .i64)) [.slice O0 xx.2.2.2.2.2.length P0] xx.2.2.2.2.2)  (hp:QP xx dn):bC prog 112 #[.agg (aN xx V0 Q0 O0 P0),sv dn] g (.tuple #[sv ((dh xx dn).1),.bool (dh xx dn).2]) :=
 (abT xx dn u1 X1 _ (aiT xx dn hp)).gives (by rintro g' H' v _ ⟨r0,r1,rfl,rfl,hK⟩; obtain ⟨rfl,rfl⟩:r0=(dh xx dn).1∧r1=(dh xx dn).2:=⟨aA (fun z=>z.1) hK,aA (fun z=>z.2) hK⟩; rfl)
def AP (d:DC) (k:Int):Bool:=eU d k||((d.1.getD k.toNat default).1==3&&!((d.1.getD k.toNat default).2.2.2.1==[]))
def MH (d:DC) (n:Int):Bool:=!((fo d.1 n.toNat).any (AP d))
def Db (xd:Dc) (e6:Int):Bool :=
 (eU xd e6||(((xd.1.getD e6.toNat default).1==3)&&(!((xd.1.getD e6.toNat default).2.2.2.1==([]:Bs)))))
def Hw (K:Bool→Prop) (X0:Int):Prop :=
 K (!(decide (X0≥0)))
def lK (xd:Dc) (K:Bool→Prop) (e6:Int) (q0:Int) (En:Int→Prop):Prop :=
 (Db xd e6=true→Hw K q0)∧(Db xd e6=false→En (w6 (q0+1)))
def Da (xd:Dc) (K:Bool→Prop) (e3:Nd) (q0:Int) (En:Int→Prop):Prop :=
 ((decide (q0<(e3.2.2.2.2.2.length:Int)))=true→0≤q0∧q0.toNat<e3.2.2.2.2.2.length∧MI xd (e3.2.2.2.2.2.getD q0.toNat default)∧((eU xd (e3.2.2.2.2.2.getD q0.toNat default))=true→lK xd K (e3.2.2.2.2.2.getD q0.toNat default) q0 En)∧((eU xd (e3.2.2.2.2.2.getD q0.toNat default))=false→0≤e3.2.2.2.2.2.getD q0.toNat default∧Int.toNat (e3.2.2.2.2.2.getD q0.toNat default)<xd.1.length∧(((xd.1.getD (Int.toNat (e3.2.2.2.2.2.getD q0.toNat default)) default).1==3)=true→lK xd K (e3.2.2.2.2.2.getD q0.toNat default) q0 En)∧(((xd.1.getD (Int.toNat (e3.2.2.2.2.2.getD q0.toNat default)) default).1==3)=false→lK xd K (e3.2.2.2.2.2.getD q0.toNat default) q0 En)))∧((decide (q0<(e3.2.2.2.2.2.length:Int)))=false→Hw K (-1))
def p_ (xd:Dc) (K:Bool→Prop) (e3:Nd):Nat→Int→Prop
 | 0,_=>False
 | k+1,q0=>Da xd K e3 q0 (p_ xd K e3 k)
def aiQ (xd:Dc) (xn:Int) (K:Bool→Prop):Prop :=
 0≤xn∧xn.toNat<xd.1.length∧∃ k,p_ xd K (xd.1.getD xn.toNat default) k 0
theorem abR {g:ak} {j0:Option Addr} {x0:Nat} (xd:Dc) (xn:Int) (y0:bE g qj [.slice j0 xd.1.length x0] xd.1) (K:Bool→Prop)
  (hF:aiQ xd xn K):az prog 115 #[.agg (aD xd j0 x0),iv xn] g [] (fun g' H' v=>∃ (r0:Bool),v=.bool r0∧H'=[]∧K r0):=by
 refine aP 14 func115 rfl fun w0=>?_;refine ae (ai (cO fun eT=>?_));refine av 1 [(1,iv xn),(2,pv eT 0)] kr (aa (ae (aj 3 [.e 0] [2] [(6,.slice j0 xd.1.length x0),(7,iv xn)] ?_)));obtain ⟨DL,DJ,hF⟩:=hF;have wu:=aT (l:=xd.1) default DJ;generalize hg3:(xd.1.getD xn.toNat default)=e3 at wu hF ⊢;refine ai (af.aX (e:=yN) rfl rfl underlying22 kr y0 DL wu rfl fun q2 o2 cs2 _ V1 hr2=>?_);obtain ⟨u2,j2,H0,M0,rfl,E1,Q1⟩:=oN hr2;refine aj 3 [.a 5 V1] [] [(10,.slice H0 e3.2.2.2.2.2.length M0),(11,.func (.func 157) #[] #[pv eT 0])] ?_;refine ai (bO (args:=#[.slice H0 e3.2.2.2.2.2.length M0,.func (.func 157) #[] #[pv eT 0]]) 9 [(0,.slice H0 e3.2.2.2.2.2.length M0),(1,.func (.func 157) #[] #[pv eT 0])] gU func156 rfl rfl rfl rfl (ae (av 1 [(0,.slice H0 e3.2.2.2.2.2.length M0),(1,.func (.func 157) #[] #[pv eT 0])] kr (aa (ae (av 2 [(5,.slice H0 e3.2.2.2.2.2.length M0),(6,.func (.func 157) #[] #[pv eT 0])] kr (ai (af.cut (fun a W=>∃ (X0:Int),fC 9 [(7,iv X0)] a∧dm w0 [] g W∧Hw K X0) ?_ ?_))))))))
 ·
  let A:=(e3.2.2.2.2.2.length:Int);refine bO (args:=#[.slice H0 e3.2.2.2.2.2.length M0,.func (.func 157) #[] #[pv eT 0]]) 19 [(0,.slice H0 e3.2.2.2.2.2.length M0),(1,.func (.func 157) #[] #[pv eT 0])] gU func110 rfl rfl rfl rfl (ae (av 1 [(0,.slice H0 e3.2.2.2.2.2.length M0),(1,.func (.func 157) #[] #[pv eT 0])] kr (aa (aF (ae (ag 3 [0,1] [(7,iv A),(8,iv 0)] ?_))))));refine aa (Ok.block ?_);obtain ⟨k,hF⟩:=hF;let C:=(.cells (aD xd j0 x0) 24:Obj);refine fQ (fun k a W=>∃ (q0:Int),fC 19 [(0,.slice H0 e3.2.2.2.2.2.length M0),(1,.func (.func 157) #[] #[pv eT 0]),(7,iv A),(8,iv q0)] a∧dm w0 [.blk eT C] g W∧p_ xd K e3 k q0) k ?_ ?_
  ·
   exact fun _ _ u v=>⟨0,fA u v hF⟩
  clear hF;rintro (_ | KL) _ _ ⟨q0,q⟩;exact (q.2.2:False).elim;refine jn (fun hF=>?_) _ _ q;refine ae (ag 1 [0,1,7,8] [(9,.bool (decide (q0<A)))] ?_);refine aa (aF (aJ hF (fun hc4 hF=>?_) (fun hc4 hF=>?_)))
  ·refine Ok.k (Ok.t (aF (Ok.block (ae (ag 2 [0,1,7,8] [(5,iv q0)] ?_)))));refine aa (ae (ag 3 [0,1,5,7,8] [(11,.func (.func 157) #[] #[pv eT 0]),(12,.slice H0 e3.2.2.2.2.2.length M0),(13,iv q0)] ?_));obtain ⟨uA,h16,hF⟩:=hF;have uz:=aT (l:=e3.2.2.2.2.2) default h16;generalize zH:(e3.2.2.2.2.2.getD q0.toNat default)=e6 at uz hF ⊢;refine ai (af.aX (e:=.int .i64) rfl rfl underlying46 kr Q1 uA uz rfl fun q5 o5 cs5 _ U1 MZ=>?_);obtain rfl:=MZ;replace U1:At g q5 o5 [iv e6]:=U1;refine ai (af.s (v:=iv e6) (fe 0 U1 kr underlying3 rfl kr) rfl rfl (ai (bO (args:=#[iv e6,pv eT 0]) 25 [(0,iv e6),(1,pv eT 0)] gU func157 rfl rfl rfl rfl (ae (av 1 [(0,iv e6),(1,pv eT 0)] kr (aa (Ok.cut (fun a W=>fC 25 [(3,.bool (Db xd e6))] a∧dm w0 [.blk eT C] g W∧lK xd K e6 q0 (p_ xd K e3 KL)) ?_ ?_)))))))
   ·
    refine aR ?_;obtain ⟨KV,hF⟩:=hF;refine aj 4 [.e 0,.k (Kl xd e6 y0 KV)] [0,1] [(7,.bool (eU xd e6))] ?_;refine bP 7 hF (fun mq hF=>?_) (fun mq hF=>?_)
    ·refine av 18 [(3,.bool true)] kr (aa (aB 3 (Db xd e6) (cK mq) ?_));exact fz hF
    refine aj 3 [.e 0] [0,1] [(7,.bool false),(9,.slice j0 xd.1.length x0),(10,iv e6)] ?_;obtain ⟨m2,DK,hF⟩:=hF;have y2:=aT (l:=xd.1) default DK;generalize n2:(xd.1.getD e6.toNat default)=e11 at y2 hF ⊢;refine dZ (af.aX (e:=yN) rfl rfl underlying22 kr y0 m2 y2 rfl fun q10 o10 Rb _ UM Ik=>?_);obtain ⟨Qa,P8,aup,atS,rfl,Iw,aqv⟩:=oN Ik;refine aj 4 [.a 0 UM] [0,1,7] [(15,.bool (e11.1==3))] ?_;refine Ok.a 15 (e11.1==3) rfl (fun S1=>?_) (fun S1=>?_)
    ·replace hF:=hF.1 S1;refine aj 3 [.e 0] [7] [(15,.bool true),(17,.slice j0 xd.1.length x0),(18,iv e6)] ?_;refine dZ (af.aX (e:=yN) rfl rfl underlying22 kr y0 m2 y2 rfl fun q13 o13 arQ _ akj acu=>?_);obtain ⟨aul,atN,auk,atM,rfl,aqs,aqr⟩:=oN acu;refine aj 6 [.a 3 akj] [] [(3,.bool (!(e11.2.2.2.1==([]:Bs))))] ?_;refine bV (Ok.t ?_);subst n2;refine aB 3 (Db xd e6) (au (bn S1) (bN mq)) ?_;exact fz hF
    replace hF:=hF.2 S1;refine av 10 [(3,.bool false)] kr (bV (Ok.t ?_));subst n2;refine aB 3 (Db xd e6) (au (bZ S1) (bN mq)) ?_;exact fz hF
   clear hF;refine jn fun hF=>?_;refine Ok.ret (bA (vs:=[.bool (Db xd e6)]) (.inl rfl) rfl (.cons (.tmp rfl) .nil) rfl (aa (dW hF rfl (fun iB=>?_) (fun iB=>?_))))
   ·replace hF:=hF.1 iB;refine ae (av 2 [(4,iv q0)] kr (aa (Ok.ret (aV (aC (aC (aV (aC (bA (vs:=[iv q0]) (.inl rfl) rfl (.cons (.tmp rfl) .nil) rfl ?_)))))))));subst zH;exact fun _ _ u v=>⟨q0,fA u v hF⟩
   replace hF:=hF.2 iB;refine Ok.k (bG (Ok.t (aR (av 2 [(0,.slice H0 e3.2.2.2.2.2.length M0),(1,.func (.func 157) #[] #[pv eT 0]),(7,iv (e3.2.2.2.2.2.length:Int)),(8,iv (w6 (q0+1)))] kr (bV (Ok.t ?_))))));subst zH;exact fun _ _ u v=>⟨KL,nl,w6 (q0+1),fA u v hF⟩
  refine fw (ay (ay (aM (Ok.t (ae (av 1 [(4,iv (-1))] kr (aa (Ok.ret (bA (vs:=[iv (-1)]) (.inl rfl) rfl (.cons (.tmp rfl) .nil) rfl ?_)))))))));exact fun _ _ u v=>⟨-1,fA u v hF⟩
 clear hF;rintro _ _ ⟨X0,q⟩;refine jn (fun hF=>?_) _ _ q;let B:=decide (X0≥0);refine av 2 [(4,.bool B)] kr (aa (Ok.ret (bA (vs:=[.bool B]) (.inl rfl) rfl (.cons (.tmp rfl) .nil) rfl (av 2 [(4,.bool (! B))] kr (aa (Ok.ret ?_))))));exact dE (! B) hF
theorem aiP (d:DC) (n:Int) (hp:Dp d n):aiQ d n (fun a=>a=MH d n):=by
 obtain ⟨hG,h0,h1⟩:=hp;have hkl:=uy hG (i:=n.toNat) om;have hin:=fun x hx=>hG.kids.kid n.toNat om x hx;have hS:MH d n = !((fo d.1 n.toNat).any (AP d)):=rfl;rw [hS];generalize hl:fo d.1 n.toNat=l at hkl hin;have he:(d.1.getD n.toNat default).2.2.2.2.2=l:=hl;refine ⟨h0,om,?_⟩
 have loop:∀ (k i:Nat),i+k=l.length→l.any (AP d)=(l.drop i).any (AP d)→p_ d (fun a=>a = !(l.any (AP d))) (d.1.getD n.toNat default) (k+1) (i:Int):=by
  intro k
  induction k with
  | zero =>
   intro i h h2;rw [eD om] at h2;rw [p_];unfold Da;rw [he];refine ⟨fun hc=>od hc,fun _=>?_⟩;show (!(decide ((-1:Int)≥0)))=_;rw [h2]; rfl
  | succ k ih =>
   intro i h h2;have hx:=hin (l.getD i default) (gM default om);rw [bX (l:=l) default om,jM] at h2;rw [p_];unfold Da;rw [he,dR]
   have MM:lK d (fun a=>a = !(l.any (AP d))) (l.getD i default) (i:Int) (p_ d (fun a=>a = !(l.any (AP d))) (d.1.getD n.toNat default) (k+1)):=by
    refine ⟨fun hc=>?_,fun hc=>?_⟩
    ·have hc:AP d (l.getD i default)=true:=hc;rw [hc,pM] at h2;show (!(decide ((i:Int)≥0)))=_;rw [h2,gu om]
    have hc:AP d (l.getD i default)=false:=hc;rw [hc,lC] at h2;rw [fU om,show (i:Int)+1=((i+1:Nat):Int) by omega];exact ih (i+1) om h2
   exact ⟨fun _=>⟨om,om,⟨om,om⟩,fun _=>MM,fun _=>⟨om,om,fun _=>MM,fun _=>MM⟩⟩,fun hc=>oe hc⟩
 exact ⟨_,loop l.length 0 om rfl⟩
theorem aiO {g:ak} {j0:Option Addr} {x0:Nat} (xd:Dc) (xn:Int) (y0:bE g qj [.slice j0 xd.1.length x0] xd.1)  (hp:Dp xd xn):bC prog 115 #[.agg (aD xd j0 x0),iv xn] g (.bool (MH xd xn)) :=
 (abR xd xn y0 _ (aiP xd xn hp)).gv
end
end Go.Proofs.YtdapgmigogpdcaaGreatDoor.Ma
