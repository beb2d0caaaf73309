/- match: nodes by themselves. -/
import Derived.Test.YtdapgmigogpdcaaGreatDoorDob
import Derived.Test.YtdapgmigogpdcaaGreatDoorVew
import Derived.Test.YtdapgmigogpdcaaGreatDoorTnl
import Derived.Test.YtdapgmigogpdcaaGreatDoorSeh
namespace Go.Proofs.YtdapgmigogpdcaaGreatDoor.Ma
open _root_.Go.Proofs.Tryz Go Go.Eng Go.RowKit Ti Do Se
set_option linter.unusedVariables false
set_option linter.unusedSimpArgs false
set_option maxHeartbeats 4000000
set_option maxRecDepth 100000
noncomputable section
/-! the chain of parents ends -/
def Ends (l:List ND):Nat→Int→Prop
 | 0,n=>n<0
 | k+1,n=>n<0∨n<(l.length:Int)∧Ends l k (par l n.toNat)
theorem Ends.mono {l:List ND}:∀ {k k':Nat} {n:Int},Ends l k n→k≤k'→Ends l k' n
 | 0,0,_,h,_=>h
 | 0,_+1,_,h,_=>.inl h
 | _+1,0,_,_,h=>by omega
 | k+1,k'+1,n,h,hk=>by
  rcases h with h | ⟨h1,h2⟩
  ·exact .inl h
  exact .inr ⟨h1,h2.mono om⟩
theorem ends_up {l:List ND} {k:Nat} {n:Int} (h:Ends l (k+1) n) (h0:0≤n):Ends l k (par l n.toNat):=by
 rcases h with h | h
 ·omega
 exact h.2
theorem dup_ge (l:List ND):∀ (k:Nat) (n m:Int),m≤dupN l k n m
 | 0,_,_=>Int.le_refl _
 | k+1,n,m=>by
  rw [dupN]
  split
  ·have:=dup_ge l k (par l n.toNat) (m+1); omega
  exact Int.le_refl _
theorem dup_ends {l:List ND} (hk:KGood l):∀ (k:Nat) (n m:Int),0≤n→n<(l.length:Int)→0≤m→dupN l k n m≤(l.length:Int)→(l.length:Int)+2≤m+k→Ends l (Int.toNat (dupN l k n m - m)+1) n
 | 0,n,m,h0,h1,h2,h3,h4=>by rw [dupN] at h3; omega
 | k+1,n,m,h0,h1,h2,h3,h4=>by
  rw [dupN] at h3 ⊢
  split
  ·rename_i hc
   rw [if_t hc] at h3
   rw [Bool.and_eq_true,decide_eq_true_eq,decide_eq_true_eq] at hc
   have hg:=dup_ge l k (par l n.toNat) (m+1)
   have ih:=dup_ends hk k (par l n.toNat) (m+1) hc.1 (up_in hk h0 h1 hc.1) om h3 om
   refine .inr ⟨h1,?_⟩
   rw [show Int.toNat (dupN l k (par l n.toNat) (m+1) - m)=Int.toNat (dupN l k (par l n.toNat) (m+1) - (m+1))+1 by omega]
   exact ih
  rename_i hc
  rw [if_neg hc] at h3
  have hp:par l n.toNat<0:=by
   apply Classical.byContradiction
   intro hn
   exact hc (by rw [Bool.and_eq_true,decide_eq_true_eq,decide_eq_true_eq]; exact ⟨by omega,h3⟩)
  refine .inr ⟨h1,?_⟩
  rw [show Int.toNat (m - m)=0 by omega]
  exact hp
theorem ends_ok {d:DC} (h:DGood d) {n:Nat} (hn:n<d.1.length):Ends d.1 41 n:=by
 have h1:=h.deep n hn
 have h2:=h.ends n hn
 unfold dupS at h1 h2
 exact (dup_ends h.kids (d.1.length+2) n 0 om om om h2 om).mono om
/-! slices.DeleteFunc, its second loop -/
structure DInv (l0:List Int) (f:Int→Bool) (i j:Nat) (own:List Int):Prop where
 len:own.length=l0.length
 ij:i≤j
 jl:j≤l0.length
 pre:own.take i=(l0.take j).filter f
 post:own.drop j=l0.drop j
theorem DInv.get {l0:List Int} {f:Int→Bool} {i j:Nat} {own:List Int} (h:DInv l0 f i j own):own.getD j default=l0.getD j default:=by
 have h1:own[j]? = (own.drop j)[0]?:=by rw [List.getElem?_drop,Nat.add_zero]
 have h2:l0[j]? = (l0.drop j)[0]?:=by rw [List.getElem?_drop,Nat.add_zero]
 rw [List.getD_eq_getElem?_getD,List.getD_eq_getElem?_getD,h1,h2,h.post]
theorem drop_succ_of {a b:List Int} {j:Nat} (h:a.drop j=b.drop j):a.drop (j+1)=b.drop (j+1):=by
 rw [← List.drop_drop,← List.drop_drop,h]
theorem DInv.skip {l0:List Int} {f:Int→Bool} {i j:Nat} {own:List Int} (h:DInv l0 f i j own) (hj:j<l0.length) (hf:f (l0.getD j default)=false):DInv l0 f i (j+1) own:=by
 refine ⟨h.len,by have:=h.ij; omega,by omega,?_,drop_succ_of h.post⟩
 rw [h.pre,take_get default hj,List.filter_append,List.filter_cons_of_neg (by rw [hf]; simp),List.filter_nil,List.append_nil]
theorem DInv.keep {l0:List Int} {f:Int→Bool} {i j:Nat} {own:List Int} (h:DInv l0 f i j own) (hj:j<l0.length) (hf:f (l0.getD j default)=true):DInv l0 f (i+1) (j+1) (own.set i (own.getD j default)):=by
 have hij:=h.ij
 have hl:=h.len
 refine ⟨by rw [List.length_set]; exact hl,by omega,by omega,?_,?_⟩
 ·rw [h.get,take_get default hj,List.filter_append,List.filter_cons_of_pos hf,List.filter_nil,← h.pre]
  rw [List.set_eq_take_append_cons_drop,if_pos om]
  rw [List.take_append,List.length_take,Nat.min_eq_left om,List.take_take,show i+1 - i=1 by omega]
  simp
 rw [List.drop_set,if_pos om]
 exact drop_succ_of h.post
theorem DInv.start {l0:List Int} {f:Int→Bool} {i:Nat} (hi:i<l0.length) (ha:(l0.take i).filter f=l0.take i) (hf:f (l0.getD i default)=false):DInv l0 f i (i+1) l0:=by
 refine ⟨rfl,by omega,by omega,?_,rfl⟩
 rw [take_get default hi,List.filter_append,ha,List.filter_cons_of_neg (by rw [hf]; simp),List.filter_nil,List.append_nil]
theorem DInv.fin {l0:List Int} {f:Int→Bool} {i:Nat} {own:List Int} (h:DInv l0 f i l0.length own):(clr own i (0:Int)).take i=l0.filter f:=by
 have hij:=h.ij
 have hl:=h.len
 unfold clr
 rw [List.take_append_of_le_length (by rw [List.length_take]; omega),List.take_take,Nat.min_self,h.pre,List.take_length]
theorem all_next {l:List Int} {f:Int→Bool} {i:Nat} (hi:i<l.length) (ha:(l.take i).filter f=l.take i) (hf:f (l.getD i default)=true):(l.take (i+1)).filter f=l.take (i+1):=by
 rw [take_get default hi,List.filter_append,ha,List.filter_cons_of_pos hf,List.filter_nil]
theorem nodup_le:∀ (L:Nat) (l:List Int),l.Nodup→(∀ x ∈ l,0≤x∧x<(L:Int))→l.length≤L
 | 0,l,_,h=>by
  cases l with
  | nil=>exact Nat.le_refl _
  | cons x l=>have:=h x (List.mem_cons_self ..); omega
 | L+1,l,hn,h=>by
  have ih:=nodup_le L (l.erase (L:Int)) (hn.erase _) (fun x hx=>by
   have h1:=(hn.mem_erase_iff).1 hx
   have h2:=h x h1.2
   have h3:=h1.1
   omega)
  rw [List.length_erase] at ih
  split at ih <;> omega
def inD (d:DC) (n:Int):Prop:=0≤n∧n<(d.1.length:Int)
theorem kids_len {d:DC} (h:DGood d) {i:Nat} (hi:i<d.1.length):(kidsOf d.1 i).length≤200:=by
 have:=nodup_le d.1.length (kidsOf d.1 i) (h.kids.nodup i hi) (fun x hx=>⟨(h.kids.kid i hi x hx).1,(h.kids.kid i hi x hx).2.1⟩)
 have:=h.few
 omega
def melP (d:DC) (n:Int):Prop:=0≤n∧n.toNat<d.1.length
def melF (xd:Dc) (xn:Int) (K:Bool→Prop):Prop :=
 0≤xn∧xn.toNat<xd.1.length∧K ((xd.1.getD xn.toNat default).1==2)
theorem mel_ok {g:Ghost} {u0:Option Addr} {j0:Nat} (xd:Dc) (xn:Int) (y0:Rep g yNs [.slice u0 xd.1.length j0] xd.1) (K:Bool→Prop)
  (hF:melF xd xn K):CallsH prog 69 #[.agg (aD xd u0 j0),iv xn] g [] (fun g' H' v=>∃ (r0:Bool),v=.bool r0∧H'=[]∧K r0):=by
 refine CallsH.en 12 func69 rfl fun w0=>?_
 refine Ok.sr (Ok.o (OpOk.bx (aD xd u0 j0) fun bs2=>?_))
 refine Ok.B 1 [(1,iv xn),(2,pv bs2 0)] kr (Ok.nt (Ok.sr (Ok.rn 3 [.e 0] [] [(6,.slice u0 xd.1.length j0),(7,iv xn)] ?_)))
 obtain ⟨h03,h13,hF⟩:=hF
 have he3:=get_of (l:=xd.1) default h13
 generalize hg3:(xd.1.getD xn.toNat default)=e3 at he3 hF ⊢
 refine Ok.o (OpOk.indexRo (e:=yN) rfl rfl underlying22 kr y0 h03 he3 rfl fun q2 o2 cs2 _ Q1 hr2=>?_)
 obtain ⟨x2,s2,N0,O0,rfl,F1,K1⟩:=oN hr2
 refine Ok.rn 4 [.a 0 Q1] [] [(4,.bool (e3.1==2))] ?_
 refine Ok.nt (Ok.ret ?_)
 exact Ok.pb (e3.1==2) hF
def melS (d:DC) (n:Int):Bool:=((d.1.getD n.toNat default).1==2)
theorem mel_F (d:DC) (n:Int) (hp:melP d n):melF d n (fun r=>r=melS d n):=⟨hp.1,hp.2,rfl⟩
theorem mel_c {g:Ghost} {u0:Option Addr} {j0:Nat} (xd:Dc) (xn:Int) (y0:Rep g yNs [.slice u0 xd.1.length j0] xd.1)  (hp:melP xd xn):CallsG prog 69 #[.agg (aD xd u0 j0),iv xn] g (.bool (melS xd xn)) :=
 (mel_ok xd xn y0 _ (mel_F xd xn hp)).gv
def iclj4 (K:(List Int)→Prop) (T0:List Int) (Z1:Bool):Prop :=
 (Z1=true→K ([]:List Int))∧(Z1=false→(([]:List Int)++T0).length≤17592186044416∧K (([]:List Int)++T0))
def iclF (xs:List Int) (K:(List Int)→Prop):Prop :=
 (xs=[]→iclj4 K xs true)∧(iclj4 K xs false)
theorem icl_ok {g:Ghost} {axs_0:Option Addr} {cxs_0:Nat} (xs:List Int) (A0:Rep g (.slice (.int .i64)) [.slice axs_0 xs.length cxs_0] xs) (K:(List Int)→Prop)
  (hF:iclF xs K):CallsH prog 158 #[.slice axs_0 xs.length cxs_0] g [] (fun g' H' v=>∃ (r0:List Int),∃ (ar0:Option Addr) (cr0:Nat) (G0:List Value),v=.slice ar0 r0.length cr0∧RepL g' (.int .i64) G0 r0∧H'=[.own (.slice ar0 r0.length cr0) 3 1 r0.length G0]∧K r0):=by
 refine CallsH.en 8 func158 rfl fun w0=>?_
 refine Ok.sr (Ok.B 1 [(0,.slice axs_0 xs.length cxs_0)] kr (Ok.nt (Ok.q (Ok.cut (fun a W=>∃ gj4:Ghost,Gext w0 g gj4∧∃ (n1:Option Addr) (o1:Nat) (T0:List Int) (Z1:Bool),Rep gj4 (.slice (.int .i64)) [.slice n1 T0.length o1] T0∧StA 8 [(0,.slice n1 T0.length o1),(4,.bool Z1)] a∧StW w0 [] gj4 W∧iclj4 K T0 Z1) ?_ ?_))))
 ·
  refine Ok.r (Ok.b 1 [0] [(3,.slice axs_0 xs.length cxs_0)] ?_)
  rcases optCases axs_0 with rfl | ⟨ad5,rfl⟩
  ·have hz5:=Rep.none_nil A0
   replace hF:=hF.1 hz5
   refine Ok.o (OpOk.s (v:=.bool true) (Yields.eqNilAt rfl rfl underlying46 kr rfl) rfl rfl (Ok.j (Ok.t ?_)))
   exact fun _ _ u v=>⟨g,Gext.r w0 g,none,cxs_0,xs,true,A0,fA u v hF⟩
  replace hF:=hF.2
  refine Ok.o (OpOk.s (v:=.bool false) (Yields.eqNilAt rfl rfl underlying46 kr rfl) rfl rfl (Ok.j (Ok.t ?_)))
  exact fun _ _ u v=>⟨g,Gext.r w0 g,some ad5,cxs_0,xs,false,A0,fA u v hF⟩
 clear hF
 rintro _ _ ⟨gj4,b2,n1,o1,T0,Z1,hRx0j4,q⟩
 refine jn (fun hF=>?_) _ _ q
 refine Ok.cw hF (fun hc1 hF=>?_) (fun hc1 hF=>?_)
 ·refine Ok.sr (Ok.B 1 [(2,.slice none 0 0)] kr ?_)
  have hL2:RepL gj4 (.int .i64) [] []:=rfl
  refine Ok.ownNil 3 1 (Ok.nt (Ok.ret (Ok.tr ?_)))
  exact Ok.h1 (.slice none ([]:List Int).length 0) b2 ⟨([]:List Int),none,0,[],rfl,hL2,rfl,hF⟩
 refine Ok.k (Ok.t (Ok.q (Ok.r ?_)))
 have hL3:RepL gj4 (.int .i64) ([]:List Value) ([]:List Int):=rfl
 refine Ok.o (OpOk.lit (E:=3) (.int .i64) ([]:List Int) ([]:List Value) kr kr rfl kr hL3 rfl fun b3=>?_)
 refine Ok.B 1 [(5,.slice (some ⟨b3,0,none⟩) ([]:List Int).length 0),(6,.slice n1 T0.length o1)] kr ?_
 obtain ⟨hb4,hF⟩:=hF
 refine Ok.o (OpOk.appendRo (e:=.int .i64) 8 17592186044416 0 rfl rfl rfl hL3 hRx0j4 underlying46 kr kr kr hb4 rfl fun a4 c4 xs4 hL4=>?_)
 refine Ok.B 1 [(2,.slice a4 (([]:List Int)++T0).length c4)] kr (Ok.nt (Ok.ret ?_))
 exact Ok.h1 (.slice a4 (([]:List Int)++T0).length c4) b2 ⟨(([]:List Int)++T0),a4,c4,xs4,rfl,hL4,rfl,hF⟩
def iclS (l:List Int):List Int:=l
def iclP (l:List Int):Prop:=l.length≤100000
theorem icl_F (l:List Int) (hp:iclP l):iclF l (fun r=>r=iclS l):=by
 unfold iclP at hp
 refine ⟨fun h=>⟨fun _=>by rw [h]; rfl,(fun h=>by cases h)⟩,⟨(fun h=>by cases h),fun _=>⟨by rw [List.nil_append]; omega,by rw [List.nil_append]; rfl⟩⟩⟩
theorem icl_c {g:Ghost} {axs_0:Option Addr} {cxs_0:Nat} (xs:List Int) (A0:Rep g (.slice (.int .i64)) [.slice axs_0 xs.length cxs_0] xs)  (hp:iclP xs):CallsH prog 158 #[.slice axs_0 xs.length cxs_0] g [] (fun g' H' v=>∃ (ar0:Option Addr) (cr0:Nat) (G0:List Value),v=.slice ar0 (iclS xs).length cr0∧RepL g' (.int .i64) G0 (iclS xs)∧H'=[.own (.slice ar0 (iclS xs).length cr0) 3 1 (iclS xs).length G0]) :=
 (icl_ok xs A0 _ (icl_F xs hp)).mono (by rintro g' H' v _ ⟨r0,ar0,cr0,G0,rfl,H1,rfl,hK⟩; subst hK; exact ⟨ar0,cr0,G0,rfl,H1,rfl⟩)
def kinL (d:DC) (n:Int):List Int:=if decide (par d.1 n.toNat<0)=true then [n] else (kidsOf d.1 (par d.1 n.toNat).toNat).filter (melS d)
def kinS (d:DC) (n:Int):List Int×Int:=(kinL d n,if decide (par d.1 n.toNat<0)=true then 0 else idxN (fun x=>n==x) (kinL d n) 0)
def kinP (d:DC) (n:Int):Prop:=DGood d∧inD d n
theorem par_in {d:DC} (h:DGood d) {n:Int} (hn:inD d n) (hp:¬ par d.1 n.toNat<0):inD d (par d.1 n.toNat):=⟨by omega,up_in h.kids hn.1 hn.2 om⟩
def kinV10 (xd:Dc) (z0:Int) (v0:Int) (yown9_0_0l17i26:List Int):Int :=
 (if (!(!(melS xd (yown9_0_0l17i26.getD v0.toNat default))))=true then w6 (z0+1) else z0)
def kinV11 (xd:Dc) (z0:Int) (v0:Int) (yown9_0_0l17i26:List Int):List Int :=
 (if (!(!(melS xd (yown9_0_0l17i26.getD v0.toNat default))))=true then (yown9_0_0l17i26.set z0.toNat (yown9_0_0l17i26.getD v0.toNat default)) else yown9_0_0l17i26)
def kinji6 (K:(List Int)→Int→Prop) (yown9_0_0ji4:List Int) (C0:Int):Prop :=
 K yown9_0_0ji4 C0
def kinl7x1b (xn:Int) (K:(List Int)→Int→Prop) (yown9_0_0ji4:List Int) (s0:Int) (C7x1:Int→Prop):Prop :=
 ((decide (s0<(yown9_0_0ji4.length:Int)))=true→0≤s0∧s0.toNat<yown9_0_0ji4.length∧((xn==yown9_0_0ji4.getD s0.toNat default)=true→kinji6 K yown9_0_0ji4 s0)∧((xn==yown9_0_0ji4.getD s0.toNat default)=false→C7x1 (w6 (s0+1))))∧((decide (s0<(yown9_0_0ji4.length:Int)))=false→kinji6 K yown9_0_0ji4 (-1))
def kinl7x1 (xn:Int) (K:(List Int)→Int→Prop) (yown9_0_0ji4:List Int):Nat→Int→Prop
 | 0,_=>False
 | k+1,s0=>kinl7x1b xn K yown9_0_0ji4 s0 (kinl7x1 xn K yown9_0_0ji4 k)
def kinji4 (xn:Int) (K:(List Int)→Int→Prop) (yown9_0_0ji4:List Int):Prop :=
 ∃ k,kinl7x1 xn K yown9_0_0ji4 k 0
def kinj24i26 (xd:Dc) (z0:Int) (v0:Int) (yown9_0_0l17i26:List Int) (C17x2:Int→Int→List Int→Prop):Prop :=
 C17x2 (kinV10 xd z0 v0 yown9_0_0l17i26) (w6 (v0+1)) (kinV11 xd z0 v0 yown9_0_0l17i26)
def kinl17x2b (xd:Dc) (xn:Int) (K:(List Int)→Int→Prop) (z0:Int) (v0:Int) (yown9_0_0l17i26:List Int) (C17x2:Int→Int→List Int→Prop):Prop :=
 ((decide (v0<(yown9_0_0l17i26.length:Int)))=true→0≤v0∧v0.toNat<yown9_0_0l17i26.length∧melP xd (yown9_0_0l17i26.getD v0.toNat default)∧((!(!(melS xd (yown9_0_0l17i26.getD v0.toNat default))))=true→0≤z0∧z0.toNat<yown9_0_0l17i26.length∧kinj24i26 xd z0 v0 yown9_0_0l17i26 C17x2)∧((!(!(melS xd (yown9_0_0l17i26.getD v0.toNat default))))=false→kinj24i26 xd z0 v0 yown9_0_0l17i26 C17x2))∧((decide (v0<(yown9_0_0l17i26.length:Int)))=false→0≤z0∧(z0:Int)≤(yown9_0_0l17i26.length:Int)∧(yown9_0_0l17i26.length:Int)≤(yown9_0_0l17i26.length:Int)∧z0.toNat≤Int.toNat (yown9_0_0l17i26.length:Int)∧0≤z0∧z0≤((clr yown9_0_0l17i26 z0.toNat (0:Int)).length:Int)∧kinji4 xn K ((clr yown9_0_0l17i26 z0.toNat (0:Int)).take z0.toNat))
def kinl17x2 (xd:Dc) (xn:Int) (K:(List Int)→Int→Prop):Nat→Int→Int→List Int→Prop
 | 0,_,_,_=>False
 | k+1,z0,v0,yown9_0_0l17i26=>kinl17x2b xd xn K z0 v0 yown9_0_0l17i26 (kinl17x2 xd xn K k)
def kinji8 (xd:Dc) (xn:Int) (K:(List Int)→Int→Prop) (e7:Nd) (t0:Int):Prop :=
 ((t0==(-1))=true→kinji4 xn K (iclS e7.2.2.2.2.2))∧((t0==(-1))=false→∃ k,kinl17x2 xd xn K k t0 (w6 (t0+1)) (iclS e7.2.2.2.2.2))
def kinl7x3b (xd:Dc) (xn:Int) (K:(List Int)→Int→Prop) (e7:Nd) (k0:Int) (C7x3:Int→Prop):Prop :=
 ((decide (k0<((iclS e7.2.2.2.2.2).length:Int)))=true→0≤k0∧k0.toNat<(iclS e7.2.2.2.2.2).length∧melP xd ((iclS e7.2.2.2.2.2).getD k0.toNat default)∧((!(melS xd ((iclS e7.2.2.2.2.2).getD k0.toNat default)))=true→kinji8 xd xn K e7 k0)∧((!(melS xd ((iclS e7.2.2.2.2.2).getD k0.toNat default)))=false→C7x3 (w6 (k0+1))))∧((decide (k0<((iclS e7.2.2.2.2.2).length:Int)))=false→kinji8 xd xn K e7 (-1))
def kinl7x3 (xd:Dc) (xn:Int) (K:(List Int)→Int→Prop) (e7:Nd):Nat→Int→Prop
 | 0,_=>False
 | k+1,k0=>kinl7x3b xd xn K e7 k0 (kinl7x3 xd xn K e7 k)
def kinF (xd:Dc) (xn:Int) (K:(List Int)→Int→Prop):Prop :=
 0≤xn∧xn.toNat<xd.1.length∧((decide ((xd.1.getD xn.toNat default).2.2.2.2.1<0))=true→K ([xn]:List Int) 0)∧((decide ((xd.1.getD xn.toNat default).2.2.2.2.1<0))=false→0≤(xd.1.getD xn.toNat default).2.2.2.2.1∧Int.toNat (xd.1.getD xn.toNat default).2.2.2.2.1<xd.1.length∧iclP (xd.1.getD (Int.toNat (xd.1.getD xn.toNat default).2.2.2.2.1) default).2.2.2.2.2∧∃ k,kinl7x3 xd xn K (xd.1.getD (Int.toNat (xd.1.getD xn.toNat default).2.2.2.2.1) default) k 0)
theorem kin_ok {g:Ghost} {u0:Option Addr} {j0:Nat} (xd:Dc) (xn:Int) (y0:Rep g yNs [.slice u0 xd.1.length j0] xd.1) (K:(List Int)→Int→Prop)
  (hF:kinF xd xn K):CallsH prog 116 #[.agg (aD xd u0 j0),iv xn] g [] (fun g' H' v=>∃ (r0:List Int),∃ (r1:Int),∃ (ar0:Option Addr) (cr0:Nat) (G0:List Value),v=.tuple #[.slice ar0 r0.length cr0,iv r1]∧RepL g' (.int .i64) G0 r0∧H'=[.own (.slice ar0 r0.length cr0) 3 1 r0.length G0]∧K r0 r1):=by
 refine CallsH.en 31 func116 rfl fun w0=>?_
 refine Ok.sr (Ok.o (OpOk.bx (aD xd u0 j0) fun bs2=>?_))
 refine Ok.B 2 [(1,iv xn),(2,pv bs2 0)] kr (Ok.nt (Ok.sr (Ok.rn 3 [.e 0] [1,2] [(9,.slice u0 xd.1.length j0),(10,iv xn)] ?_)))
 obtain ⟨h03,h13,hF⟩:=hF
 have he3:=get_of (l:=xd.1) default h13
 generalize hg3:(xd.1.getD xn.toNat default)=e3 at he3 hF ⊢
 refine Ok.o (OpOk.indexRo (e:=yN) rfl rfl underlying22 kr y0 h03 he3 rfl fun q2 o2 cs2 _ Q1 hr2=>?_)
 obtain ⟨x2,s2,N0,O0,rfl,F1,K1⟩:=oN hr2
 refine Ok.rn 3 [.a 4 Q1] [1,2] [(6,iv e3.2.2.2.2.1)] ?_
 refine Ok.nt (Ok.q (Ok.sr (Ok.b 2 [1,2,6] [(15,.bool (decide (e3.2.2.2.2.1<0)))] ?_)))
 refine Ok.nt (Ok.cw hF (fun hc4 hF=>?_) (fun hc4 hF=>?_))
 ·refine Ok.sr (Ok.B 1 [(16,iv xn)] kr ?_)
  have hL5:RepL g (.int .i64) ([iv xn]:List Value) ([xn]:List Int):=(RepL.consN (c:=[iv xn]) rfl rfl)
  refine Ok.o (OpOk.lit (E:=3) (.int .i64) ([xn]:List Int) ([iv xn]:List Value) kr kr rfl kr hL5 rfl fun b5=>?_)
  refine Ok.B 2 [(4,.slice (some ⟨b5,0,none⟩) ([xn]:List Int).length 1),(5,iv 0)] kr (Ok.nt (Ok.ret (Ok.tr ?_)))
  exact Ok.p (vs:=[.slice (some ⟨b5,0,none⟩) ([xn]:List Int).length 1,iv 0]) [0] [.own (.slice (some ⟨b5,0,none⟩) ([xn]:List Int).length 1) 3 1 ([xn]:List Int).length ([iv xn]:List Value)] dc rfl (.inl rfl) rfl (.cons (.tmp rfl) (.cons (.tmp rfl) .nil)) (Gext.r w0 g) ⟨([xn]:List Int),0,(some ⟨b5,0,none⟩),1,([iv xn]:List Value),rfl,hL5,rfl,hF⟩
 refine Ok.k (Ok.t (Ok.sr (Ok.rn 3 [.e 0] [1,2] [(19,.slice u0 xd.1.length j0),(20,iv e3.2.2.2.2.1)] ?_)))
 obtain ⟨h07,h17,hF⟩:=hF
 have he7:=get_of (l:=xd.1) default h17
 generalize hg7:(xd.1.getD (Int.toNat e3.2.2.2.2.1) default)=e7 at he7 hF ⊢
 refine Ok.o (OpOk.indexRo (e:=yN) rfl rfl underlying22 kr y0 h07 he7 rfl fun q6 o6 cs6 _ hat6 hr6=>?_)
 obtain ⟨a6_2,c6_2,a6_5,c6_5,rfl,hR6_2,Y1⟩:=oN hr6
 refine Ok.b 1 [1,2] [(22,.pointer (some ⟨q6,o6+5,none⟩))] ?_
 refine Ok.o (OpOk.s (v:=.slice a6_5 e7.2.2.2.2.2.length c6_5) (Yields.lr 5 hat6 kr underlying46 rfl kr) rfl rfl ?_)
 obtain ⟨hp8,hF⟩:=hF
 refine Ok.o (OpOk.callH [] _ enr rfl (icl_c e7.2.2.2.2.2 Y1 hp8) rfl fun g9 _ _ hx9 hV9=>?_)
 obtain ⟨S0,B0,x1,rfl,I0,rfl⟩:=hV9
 replace y0:=y0.mono hx9.1
 refine Ok.b 1 [1] [(24,.slice S0 (iclS e7.2.2.2.2.2).length B0),(25,.func (.func 159) #[] #[pv bs2 0])] ?_
 refine Ok.o (OpOk.cut (fun a W=>∃ b1:Ghost,Gext w0 g9 b1∧∃ (ayown9_0_0ji4:Option Addr) (cyown9_0_0ji4:Nat) (yown9_0_0ji4:List Int) (xsyown9_0_0ji4:List Value),RepL b1 (.int .i64) xsyown9_0_0ji4 yown9_0_0ji4∧StA 31 [(1,iv xn),(26,.slice ayown9_0_0ji4 yown9_0_0ji4.length cyown9_0_0ji4)] a∧StW w0 [.own (.slice ayown9_0_0ji4 yown9_0_0ji4.length cyown9_0_0ji4) 3 1 yown9_0_0ji4.length xsyown9_0_0ji4] b1 W∧kinji4 xn K yown9_0_0ji4) ?_ ?_)
 ·
  refine OpOk.i (args:=#[.slice S0 (iclS e7.2.2.2.2.2).length B0,.func (.func 159) #[] #[pv bs2 0]]) 42 [(0,.slice S0 (iclS e7.2.2.2.2.2).length B0),(1,.func (.func 159) #[] #[pv bs2 0])] enr func67 rfl rfl rfl rfl (Ok.sr (Ok.B 1 [(0,.slice S0 (iclS e7.2.2.2.2.2).length B0),(1,.func (.func 159) #[] #[pv bs2 0])] kr (Ok.nt (Ok.sr (Ok.b 2 [0,1] [(8,.slice S0 (iclS e7.2.2.2.2.2).length B0),(9,.func (.func 159) #[] #[pv bs2 0])] ?_)))))
  refine Ok.o (OpOk.cut (fun a W=>∃ m1:Ghost,Gext w0 g9 m1∧∃ (t0:Int),StA 42 [(0,.slice S0 (iclS e7.2.2.2.2.2).length B0),(1,.func (.func 159) #[] #[pv bs2 0]),(10,iv t0)] a∧StW w0 [.own (.slice S0 (iclS e7.2.2.2.2.2).length B0) 3 1 (iclS e7.2.2.2.2.2).length x1,.blk bs2 (.cells (aD xd u0 j0) 24)] m1 W∧kinji8 xd xn K e7 t0) ?_ ?_)
  ·
   refine OpOk.i (args:=#[.slice S0 (iclS e7.2.2.2.2.2).length B0,.func (.func 159) #[] #[pv bs2 0]]) 19 [(0,.slice S0 (iclS e7.2.2.2.2.2).length B0),(1,.func (.func 159) #[] #[pv bs2 0])] enr func110 rfl rfl rfl rfl (Ok.sr (Ok.B 1 [(0,.slice S0 (iclS e7.2.2.2.2.2).length B0),(1,.func (.func 159) #[] #[pv bs2 0])] kr (Ok.nt (Ok.q (Ok.sr (Ok.b 3 [0,1] [(7,iv ((iclS e7.2.2.2.2.2).length:Int)),(8,iv 0)] ?_))))))
   refine Ok.nt (Ok.block ?_)
   obtain ⟨k,hF⟩:=hF
   refine Ok.L (fun k a W=>∃ Y0:Ghost,Gext w0 g9 Y0∧∃ (k0:Int),StA 19 [(0,.slice S0 (iclS e7.2.2.2.2.2).length B0),(1,.func (.func 159) #[] #[pv bs2 0]),(7,iv ((iclS e7.2.2.2.2.2).length:Int)),(8,iv k0)] a∧StW w0 [.own (.slice S0 (iclS e7.2.2.2.2.2).length B0) 3 1 (iclS e7.2.2.2.2.2).length x1,.blk bs2 (.cells (aD xd u0 j0) 24)] Y0 W∧kinl7x3 xd xn K e7 k k0) k ?_ ?_
   ·
    exact fun _ _ u v=>⟨g9,Gext.r w0 g9,0,fA u v hF⟩
   clear hF
   rintro (_ | k7x3) _ _ ⟨Y0,U0,k0,q⟩
   exact (q.2.2:False).elim
   refine jn (fun hF=>?_) _ _ q
   replace I0:=I0.mono U0.1
   replace y0:=y0.mono U0.1
   refine Ok.sr (Ok.b 1 [0,1,7,8] [(9,.bool (decide (k0<((iclS e7.2.2.2.2.2).length:Int))))] ?_)
   refine Ok.nt (Ok.q (Ok.cw hF (fun hc26 hF=>?_) (fun hc26 hF=>?_)))
   ·refine Ok.k (Ok.t (Ok.q (Ok.block (Ok.sr (Ok.b 2 [0,1,7,8] [(5,iv k0)] ?_)))))
    refine Ok.nt (Ok.sr (Ok.b 3 [0,1,5,7,8] [(11,.func (.func 159) #[] #[pv bs2 0]),(12,.slice S0 (iclS e7.2.2.2.2.2).length B0),(13,iv k0)] ?_))
    obtain ⟨h028,h128,hF⟩:=hF
    have c2:=get_of (l:=iclS e7.2.2.2.2.2) default h128
    generalize d2:((iclS e7.2.2.2.2.2).getD k0.toNat default)=e28 at c2 hF ⊢
    refine Ok.o (OpOk.indexOwn (e:=.int .i64) 0 rfl I0 rfl rfl underlying46 kr kr h028 c2 rfl fun cs27 _ hr27 M1=>?_)
    obtain rfl:=hr27
    replace M1:∀ j v,([iv e28]:List Value)[j]? = some v→x1[k0.toNat * 1+j]? = some v:=M1
    refine Ok.o (OpOk.s (v:=iv e28) (Yields.loadOwn 0 0 rfl M1 rfl underlying3 rfl kr) rfl rfl (Ok.o (OpOk.i (args:=#[iv e28,pv bs2 0]) 8 [(0,iv e28),(1,pv bs2 0)] enr func159 rfl rfl rfl rfl (Ok.sr (Ok.B 1 [(0,iv e28),(1,pv bs2 0)] kr (Ok.nt (Ok.q (Ok.r ?_))))))))
    obtain ⟨hp29,hF⟩:=hF
    refine Ok.rn 5 [.e 1,.k (mel_c xd e28 y0 hp29)] [] [(3,.bool (!(melS xd e28)))] ?_
    refine Ok.nt (Ok.ret (Ok.back (vs:=[.bool (!(melS xd e28))]) (.inl rfl) rfl (.cons (.tmp rfl) .nil) rfl (Ok.nt (Ok.cn hF rfl (fun N1=>?_) (fun N1=>?_)))))
    ·replace hF:=hF.1 N1
     refine Ok.sr (Ok.B 2 [(4,iv k0)] kr (Ok.nt (Ok.ret (Ok.kr (Ok.tr (Ok.tr (Ok.kr (Ok.tr (Ok.back (vs:=[iv k0]) (.inl rfl) rfl (.cons (.tmp rfl) .nil) rfl ?_)))))))))
     subst d2
     exact fun _ _ u v=>⟨Y0,U0,k0,fA u v hF⟩
    replace hF:=hF.2 N1
    refine Ok.k (Ok.kn (Ok.t (Ok.r (Ok.B 2 [(0,.slice S0 (iclS e7.2.2.2.2.2).length B0),(1,.func (.func 159) #[] #[pv bs2 0]),(7,iv ((iclS e7.2.2.2.2.2).length:Int)),(8,iv (w6 (k0+1)))] kr (Ok.j (Ok.t ?_))))))
    subst d2
    exact fun _ _ u v=>⟨k7x3,nl,Y0,U0,w6 (k0+1),fA u v hF⟩
   refine Ok.x (Ok.thenE (Ok.thenE (Ok.blockHit (Ok.t (Ok.sr (Ok.B 1 [(4,iv (-1))] kr (Ok.nt (Ok.ret (Ok.back (vs:=[iv (-1)]) (.inl rfl) rfl (.cons (.tmp rfl) .nil) rfl ?_)))))))))
   exact fun _ _ u v=>⟨Y0,U0,-1,fA u v hF⟩
  clear hF
  rintro _ _ ⟨m1,t1,t0,q⟩
  refine jn (fun hF=>?_) _ _ q
  replace I0:=I0.mono t1.1
  replace y0:=y0.mono t1.1
  refine Ok.b 1 [0,1] [(5,iv t0)] ?_
  refine Ok.nt (Ok.q (Ok.sr (Ok.b 2 [0,1,5] [(12,.bool (t0==(-1)))] ?_)))
  refine Ok.nt (Ok.cw hF (fun hc14 hF=>?_) (fun hc14 hF=>?_))
  ·refine Ok.sr (Ok.B 2 [(4,.slice S0 (iclS e7.2.2.2.2.2).length B0)] kr (Ok.nt (Ok.ret (Ok.tr (Ok.back (vs:=[.slice S0 (iclS e7.2.2.2.2.2).length B0]) (.inl rfl) rfl (.cons (.tmp rfl) .nil) rfl ?_)))))
   exact fun _ _ u v=>⟨m1,t1,S0,B0,iclS e7.2.2.2.2.2,x1,I0,fA u v hF⟩
  refine Ok.k (Ok.t (Ok.q (Ok.sr (Ok.b 3 [0,1,5] [(6,iv (w6 (t0+1)))] ?_))))
  refine Ok.nt (Ok.block ?_)
  obtain ⟨k,hF⟩:=hF
  refine Ok.L (fun k a W=>∃ m0:Ghost,Gext w0 m1 m0∧∃ (z0:Int) (v0:Int) (ayown9_0_0l17i26:Option Addr) (cyown9_0_0l17i26:Nat) (yown9_0_0l17i26:List Int) (xsyown9_0_0l17i26:List Value),RepL m0 (.int .i64) xsyown9_0_0l17i26 yown9_0_0l17i26∧StA 42 [(0,.slice ayown9_0_0l17i26 yown9_0_0l17i26.length cyown9_0_0l17i26),(1,.func (.func 159) #[] #[pv bs2 0]),(5,iv z0),(6,iv v0)] a∧StW w0 [.own (.slice ayown9_0_0l17i26 yown9_0_0l17i26.length cyown9_0_0l17i26) 3 1 yown9_0_0l17i26.length xsyown9_0_0l17i26,.blk bs2 (.cells (aD xd u0 j0) 24)] m0 W∧kinl17x2 xd xn K k z0 v0 yown9_0_0l17i26) k ?_ ?_
  ·
   exact fun _ _ u v=>⟨m1,Gext.r w0 m1,t0,w6 (t0+1),S0,B0,iclS e7.2.2.2.2.2,x1,I0,fA u v hF⟩
  clear hF
  rintro (_ | k17x2) _ _ ⟨m0,z1,z0,v0,ayown9_0_0l17i26,cyown9_0_0l17i26,yown9_0_0l17i26,xsyown9_0_0l17i26,hLyown9_0_0l17i26,q⟩
  exact (q.2.2:False).elim
  refine jn (fun hF=>?_) _ _ q
  replace y0:=y0.mono z1.1
  refine Ok.q (Ok.sr (Ok.b 4 [0,1,5,6] [(19,.bool (decide (v0<(yown9_0_0l17i26.length:Int))))] ?_))
  refine Ok.nt (Ok.cw hF (fun hc15 hF=>?_) (fun hc15 hF=>?_))
  ·refine Ok.k (Ok.t (Ok.cut (fun a W=>∃ H0:Ghost,Gext w0 m0 H0∧∃ (ayown9_0_0j24i26:Option Addr) (cyown9_0_0j24i26:Nat) (xsyown9_0_0j24i26:List Value),RepL H0 (.int .i64) xsyown9_0_0j24i26 (kinV11 xd z0 v0 yown9_0_0l17i26)∧StA 42 [(0,.slice ayown9_0_0j24i26 (kinV11 xd z0 v0 yown9_0_0l17i26).length cyown9_0_0j24i26),(1,.func (.func 159) #[] #[pv bs2 0]),(5,iv (kinV10 xd z0 v0 yown9_0_0l17i26)),(6,iv v0)] a∧StW w0 [.own (.slice ayown9_0_0j24i26 (kinV11 xd z0 v0 yown9_0_0l17i26).length cyown9_0_0j24i26) 3 1 (kinV11 xd z0 v0 yown9_0_0l17i26).length xsyown9_0_0j24i26,.blk bs2 (.cells (aD xd u0 j0) 24)] H0 W∧kinj24i26 xd z0 v0 yown9_0_0l17i26 (kinl17x2 xd xn K k17x2)) ?_ ?_))
   ·
    refine Ok.block (Ok.sr (Ok.b 2 [0,1,5,6] [(22,.slice ayown9_0_0l17i26 yown9_0_0l17i26.length cyown9_0_0l17i26),(23,iv v0)] ?_))
    obtain ⟨h017,h117,hF⟩:=hF
    have f2:=get_of (l:=yown9_0_0l17i26) default h117
    generalize g2:(yown9_0_0l17i26.getD v0.toNat default)=e17 at f2 hF ⊢
    refine Ok.o (OpOk.indexOwn (e:=.int .i64) 0 rfl hLyown9_0_0l17i26 rfl rfl underlying46 kr kr h017 f2 rfl fun cs16 _ hr16 O1=>?_)
    obtain rfl:=hr16
    replace O1:∀ j v,([iv e17]:List Value)[j]? = some v→xsyown9_0_0l17i26[v0.toNat * 1+j]? = some v:=O1
    refine Ok.o (OpOk.s (v:=iv e17) (Yields.loadOwn 0 0 rfl O1 rfl underlying3 rfl kr) rfl rfl (Ok.b 1 [0,1,5,6] [(7,iv e17)] ?_))
    refine Ok.nt (Ok.sr (Ok.b 2 [0,1,5,6,7] [(26,.func (.func 159) #[] #[pv bs2 0]),(27,iv e17)] ?_))
    refine Ok.o (OpOk.i (args:=#[iv e17,pv bs2 0]) 8 [(0,iv e17),(1,pv bs2 0)] enr func159 rfl rfl rfl rfl (Ok.sr (Ok.B 1 [(0,iv e17),(1,pv bs2 0)] kr (Ok.nt (Ok.q (Ok.r ?_))))))
    obtain ⟨hp18,hF⟩:=hF
    refine Ok.rn 5 [.e 1,.k (mel_c xd e17 y0 hp18)] [] [(3,.bool (!(melS xd e17)))] ?_
    refine Ok.nt (Ok.ret (Ok.back (vs:=[.bool (!(melS xd e17))]) (.inl rfl) rfl (.cons (.tmp rfl) .nil) rfl (Ok.B 1 [(0,.slice ayown9_0_0l17i26 yown9_0_0l17i26.length cyown9_0_0l17i26),(1,.func (.func 159) #[] #[pv bs2 0]),(5,iv z0),(6,iv v0),(7,iv e17),(29,.bool (!(!(melS xd e17))))] kr (Ok.nt (Ok.cn hF rfl (fun v1=>?_) (fun v1=>?_))))))
    ·replace hF:=hF.1 v1
     refine Ok.sr (Ok.b 3 [0,1,5,6] [(30,.slice ayown9_0_0l17i26 yown9_0_0l17i26.length cyown9_0_0l17i26),(31,iv z0),(32,iv e17)] ?_)
     obtain ⟨h021,h121,hF⟩:=hF
     have m2:=get_of (l:=yown9_0_0l17i26) default h121
     generalize hg21:(yown9_0_0l17i26.getD z0.toNat default)=e21 at m2 hF ⊢
     refine Ok.o (OpOk.indexOwn (e:=.int .i64) 0 rfl hLyown9_0_0l17i26 rfl rfl underlying46 kr kr h021 m2 rfl fun cs20 _ hr20 c1=>?_)
     obtain rfl:=hr20
     replace c1:∀ j v,([iv e21]:List Value)[j]? = some v→xsyown9_0_0l17i26[z0.toNat * 1+j]? = some v:=c1
     refine Ok.o (OpOk.storeOwn (e:=.int .i64) (q:=z0.toNat) (cells:=[iv e21]) (vs:=[iv e17]) (el':=e17) 0 0 1 rfl hLyown9_0_0l17i26 c1 kr rfl rfl rfl kr kr kr kr kr (show Rep _ _ [iv e17] _ from rfl) fun C1 hL22=>?_)
     rw [show yown9_0_0l17i26.length=(yown9_0_0l17i26.set z0.toNat e17).length from (List.length_set ..).symm]
     refine Ok.nt (Ok.r (Ok.b 3 [1,6] [(0,.slice ayown9_0_0l17i26 (yown9_0_0l17i26.set z0.toNat e17).length cyown9_0_0l17i26),(5,iv (w6 (z0+1)))] ?_))
     refine Ok.j (Ok.kn (Ok.t ?_))
     subst hg21
     subst g2
     refine Ok.v 0 rfl (show (.slice ayown9_0_0l17i26 (yown9_0_0l17i26.set z0.toNat (yown9_0_0l17i26.getD v0.toNat default)).length cyown9_0_0l17i26:Value)=.slice ayown9_0_0l17i26 (kinV11 xd z0 v0 yown9_0_0l17i26).length cyown9_0_0l17i26 from congrArg (fun l:List Int=>Value.slice ayown9_0_0l17i26 l.length cyown9_0_0l17i26) ((if_t v1).symm)) ?_
     refine Ok.v 5 rfl (show (iv (w6 (z0+1)):Value)=iv (kinV10 xd z0 v0 yown9_0_0l17i26) from congrArg (Value.int .i64) ((if_t v1).symm)) (Ok.heapEq (H':=[.own (.slice ayown9_0_0l17i26 (kinV11 xd z0 v0 yown9_0_0l17i26).length cyown9_0_0l17i26) 3 1 (kinV11 xd z0 v0 yown9_0_0l17i26).length C1,.blk bs2 (.cells (aD xd u0 j0) 24)]) (econs (congrArg (fun l:List Int=>Ent.own (.slice ayown9_0_0l17i26 l.length cyown9_0_0l17i26) 3 1 l.length C1) ((if_t v1).symm)) (econs (rfl) rfl)) ?_)
     exact fun _ _ u v=>⟨m0,Gext.r w0 m0,ayown9_0_0l17i26,cyown9_0_0l17i26,C1,(Eq.mp (congrArg (fun l:List Int=>RepL m0 (.int .i64) C1 l) ((if_t v1).symm)) hL22),fA u v hF⟩
    replace hF:=hF.2 v1
    refine Ok.k (Ok.kn (Ok.t ?_))
    subst g2
    refine Ok.v 0 rfl (show (.slice ayown9_0_0l17i26 yown9_0_0l17i26.length cyown9_0_0l17i26:Value)=.slice ayown9_0_0l17i26 (kinV11 xd z0 v0 yown9_0_0l17i26).length cyown9_0_0l17i26 from congrArg (fun l:List Int=>Value.slice ayown9_0_0l17i26 l.length cyown9_0_0l17i26) ((if_f v1).symm)) ?_
    refine Ok.v 5 rfl (show (iv z0:Value)=iv (kinV10 xd z0 v0 yown9_0_0l17i26) from congrArg (Value.int .i64) ((if_f v1).symm)) (Ok.heapEq (H':=[.own (.slice ayown9_0_0l17i26 (kinV11 xd z0 v0 yown9_0_0l17i26).length cyown9_0_0l17i26) 3 1 (kinV11 xd z0 v0 yown9_0_0l17i26).length xsyown9_0_0l17i26,.blk bs2 (.cells (aD xd u0 j0) 24)]) (econs (congrArg (fun l:List Int=>Ent.own (.slice ayown9_0_0l17i26 l.length cyown9_0_0l17i26) 3 1 l.length xsyown9_0_0l17i26) ((if_f v1).symm)) (econs (rfl) rfl)) ?_)
    exact fun _ _ u v=>⟨m0,Gext.r w0 m0,ayown9_0_0l17i26,cyown9_0_0l17i26,xsyown9_0_0l17i26,(Eq.mp (congrArg (fun l:List Int=>RepL m0 (.int .i64) xsyown9_0_0l17i26 l) ((if_f v1).symm)) hLyown9_0_0l17i26),fA u v hF⟩
   clear hF
   rintro _ _ ⟨H0,d1,ayown9_0_0j24i26,cyown9_0_0j24i26,xsyown9_0_0j24i26,hLyown9_0_0j24i26,q⟩
   refine jn (fun hF=>?_) _ _ q
   refine Ok.r (Ok.b 3 [0,1,5] [(6,iv (w6 (v0+1)))] ?_)
   refine Ok.j (Ok.t ?_)
   exact fun _ _ u v=>⟨k17x2,nl,H0,z1.trans d1,kinV10 xd z0 v0 yown9_0_0l17i26,w6 (v0+1),ayown9_0_0j24i26,cyown9_0_0j24i26,kinV11 xd z0 v0 yown9_0_0l17i26,xsyown9_0_0j24i26,hLyown9_0_0j24i26,fA u v hF⟩
  refine Ok.x (Ok.thenE (Ok.thenE (Ok.blockHit (Ok.t (Ok.sr (Ok.b 2 [0,5] [(36,.slice ayown9_0_0l17i26 yown9_0_0l17i26.length cyown9_0_0l17i26),(37,iv z0)] ?_))))))
  refine Ok.capOwn 0 rfl fun hcc23 hcm23=>?_
  obtain ⟨h023,h123,h223,hF⟩:=hF
  refine Ok.o (OpOk.s (v:=vw ayown9_0_0l17i26 1 cyown9_0_0l17i26 z0.toNat (Int.toNat (yown9_0_0l17i26.length:Int))) (slice_run (size:=1) (l:=z0) (h:=(yown9_0_0l17i26.length:Int)) rfl underlying46 kr (.inl ⟨_,_,rfl,rfl⟩) (.inr ⟨rfl,rfl⟩) h023 h123 (Int.le_trans h223 (Int.ofNat_le.2 hcc23))) rfl rfl ?_)
  obtain ⟨P1,hF⟩:=hF
  refine Ok.o (OpOk.clearOwn (e:=.int .i64) (l:=yown9_0_0l17i26) (lo:=z0.toNat) (y:=(0:Int)) (z:=iv 0) 0 rfl rfl hLyown9_0_0l17i26 underlying46 kr dc rfl P1 (tnc _) fun xs24 hL24=>?_)
  rw [clr_len yown9_0_0l17i26 z0.toNat (0:Int) (by rw [tnc] at P1; exact P1)]
  refine Ok.nt (Ok.sr (Ok.B 2 [(39,.slice ayown9_0_0l17i26 (clr yown9_0_0l17i26 z0.toNat (0:Int)).length cyown9_0_0l17i26),(40,iv z0)] kr ?_))
  obtain ⟨h025,h225,hF⟩:=hF
  refine Ok.o (OpOk.cutOwn (e:=.int .i64) (h:=z0) 0 rfl rfl rfl hL24 underlying46 kr h025 h225 rfl fun xs25 hL25=>?_)
  refine Ok.B 1 [(4,.slice ayown9_0_0l17i26 ((clr yown9_0_0l17i26 z0.toNat (0:Int)).take z0.toNat).length cyown9_0_0l17i26)] kr (Ok.nt (Ok.ret (Ok.back (vs:=[.slice ayown9_0_0l17i26 ((clr yown9_0_0l17i26 z0.toNat (0:Int)).take z0.toNat).length cyown9_0_0l17i26]) (.inl rfl) rfl (.cons (.tmp rfl) .nil) rfl ?_)))
  exact fun _ _ u v=>⟨m0,t1.trans z1,ayown9_0_0l17i26,cyown9_0_0l17i26,((clr yown9_0_0l17i26 z0.toNat (0:Int)).take z0.toNat),xs25,hL25,fA u v hF⟩
 clear hF
 rintro _ _ ⟨b1,hxji4,ayown9_0_0ji4,cyown9_0_0ji4,yown9_0_0ji4,xsyown9_0_0ji4,hLyown9_0_0ji4,q⟩
 refine jn (fun hF=>?_) _ _ q
 refine Ok.b 1 [1] [(7,.slice ayown9_0_0ji4 yown9_0_0ji4.length cyown9_0_0ji4)] ?_
 refine Ok.nt (Ok.sr (Ok.B 3 [(27,.slice ayown9_0_0ji4 yown9_0_0ji4.length cyown9_0_0ji4),(28,.slice ayown9_0_0ji4 yown9_0_0ji4.length cyown9_0_0ji4),(29,iv xn)] kr (Ok.o (OpOk.cut (fun a W=>∃ T1:Ghost,Gext w0 b1 T1∧∃ (C0:Int),StA 31 [(27,.slice ayown9_0_0ji4 yown9_0_0ji4.length cyown9_0_0ji4),(30,iv C0)] a∧StW w0 [.own (.slice ayown9_0_0ji4 yown9_0_0ji4.length cyown9_0_0ji4) 3 1 yown9_0_0ji4.length xsyown9_0_0ji4] T1 W∧kinji6 K yown9_0_0ji4 C0) ?_ ?_))))
 ·
  refine OpOk.i (args:=#[.slice ayown9_0_0ji4 yown9_0_0ji4.length cyown9_0_0ji4,iv xn]) 19 [(0,.slice ayown9_0_0ji4 yown9_0_0ji4.length cyown9_0_0ji4),(1,iv xn)] enr func160 rfl rfl rfl rfl (Ok.sr (Ok.B 1 [(0,.slice ayown9_0_0ji4 yown9_0_0ji4.length cyown9_0_0ji4),(1,iv xn)] kr (Ok.nt (Ok.q (Ok.sr (Ok.b 3 [0,1] [(7,iv (yown9_0_0ji4.length:Int)),(8,iv 0)] ?_))))))
  refine Ok.nt (Ok.block ?_)
  obtain ⟨k,hF⟩:=hF
  refine Ok.L (fun k a W=>∃ P0:Ghost,Gext w0 b1 P0∧∃ (s0:Int),StA 19 [(0,.slice ayown9_0_0ji4 yown9_0_0ji4.length cyown9_0_0ji4),(1,iv xn),(7,iv (yown9_0_0ji4.length:Int)),(8,iv s0)] a∧StW w0 [.own (.slice ayown9_0_0ji4 yown9_0_0ji4.length cyown9_0_0ji4) 3 1 yown9_0_0ji4.length xsyown9_0_0ji4] P0 W∧kinl7x1 xn K yown9_0_0ji4 k s0) k ?_ ?_
  ·
   exact fun _ _ u v=>⟨b1,Gext.r w0 b1,0,fA u v hF⟩
  clear hF
  rintro (_ | k7x1) _ _ ⟨P0,L0,s0,q⟩
  exact (q.2.2:False).elim
  refine jn (fun hF=>?_) _ _ q
  replace hLyown9_0_0ji4:=hLyown9_0_0ji4.mono L0.1
  refine Ok.sr (Ok.b 1 [0,1,7,8] [(9,.bool (decide (s0<(yown9_0_0ji4.length:Int))))] ?_)
  refine Ok.nt (Ok.q (Ok.cw hF (fun u1 hF=>?_) (fun u1 hF=>?_)))
  ·refine Ok.k (Ok.t (Ok.q (Ok.block (Ok.sr (Ok.b 2 [0,1,7,8] [(5,iv s0)] ?_)))))
   refine Ok.nt (Ok.sr (Ok.b 3 [0,1,5,7,8] [(11,iv xn),(12,.slice ayown9_0_0ji4 yown9_0_0ji4.length cyown9_0_0ji4),(13,iv s0)] ?_))
   obtain ⟨L1,A1,hF⟩:=hF
   have U1:=get_of (l:=yown9_0_0ji4) default A1
   generalize D1:(yown9_0_0ji4.getD s0.toNat default)=e12 at U1 hF ⊢
   refine Ok.o (OpOk.indexOwn (e:=.int .i64) 0 rfl hLyown9_0_0ji4 rfl rfl underlying46 kr kr L1 U1 rfl fun cs11 _ I1 z2=>?_)
   obtain rfl:=I1
   replace z2:∀ j v,([iv e12]:List Value)[j]? = some v→xsyown9_0_0ji4[s0.toNat * 1+j]? = some v:=z2
   refine Ok.o (OpOk.s (v:=iv e12) (Yields.loadOwn 0 0 rfl z2 rfl underlying3 rfl kr) rfl rfl (Ok.b 1 [0,1,5,7,8] [(16,.bool (xn==e12))] ?_))
   refine Ok.nt (Ok.cn hF rfl (fun v2=>?_) (fun v2=>?_))
   ·replace hF:=hF.1 v2
    refine Ok.sr (Ok.B 2 [(4,iv s0)] kr (Ok.nt (Ok.ret (Ok.kr (Ok.tr (Ok.tr (Ok.kr (Ok.tr (Ok.back (vs:=[iv s0]) (.inl rfl) rfl (.cons (.tmp rfl) .nil) rfl ?_)))))))))
    subst D1
    exact fun _ _ u v=>⟨P0,L0,s0,fA u v hF⟩
   replace hF:=hF.2 v2
   refine Ok.k (Ok.kn (Ok.t (Ok.r (Ok.b 2 [0,1,7] [(8,iv (w6 (s0+1)))] ?_))))
   refine Ok.j (Ok.t ?_)
   subst D1
   exact fun _ _ u v=>⟨k7x1,nl,P0,L0,w6 (s0+1),fA u v hF⟩
  refine Ok.x (Ok.thenE (Ok.thenE (Ok.blockHit (Ok.t (Ok.sr (Ok.B 1 [(4,iv (-1))] kr (Ok.nt (Ok.ret (Ok.back (vs:=[iv (-1)]) (.inl rfl) rfl (.cons (.tmp rfl) .nil) rfl ?_)))))))))
  exact fun _ _ u v=>⟨P0,L0,-1,fA u v hF⟩
 clear hF
 rintro _ _ ⟨T1,G1,C0,q⟩
 refine jn (fun hF=>?_) _ _ q
 replace hLyown9_0_0ji4:=hLyown9_0_0ji4.mono G1.1
 refine Ok.B 2 [(4,.slice ayown9_0_0ji4 yown9_0_0ji4.length cyown9_0_0ji4),(5,iv C0)] kr (Ok.nt (Ok.ret ?_))
 exact Ok.resH (vs:=[.slice ayown9_0_0ji4 yown9_0_0ji4.length cyown9_0_0ji4,iv C0]) (.inl rfl) rfl (.cons (.tmp rfl) (.cons (.tmp rfl) .nil)) ((hx9.trans hxji4).trans G1) ⟨yown9_0_0ji4,C0,ayown9_0_0ji4,cyown9_0_0ji4,xsyown9_0_0ji4,rfl,hLyown9_0_0ji4,rfl,hF⟩
theorem kin_F (d:DC) (n:Int) (hp:kinP d n):kinF d n (fun a b=>(a,b)=kinS d n):=by
 obtain ⟨hG,h0,h1⟩:=hp
 refine ⟨h0,by omega,fun hc=>?_,fun hc=>?_⟩
 ·have hc:decide (par d.1 n.toNat<0)=true:=hc
  unfold kinS kinL
  rw [if_pos hc,if_pos hc]
 have hc:decide (par d.1 n.toNat<0)=false:=hc
 have hn:=of_decide_eq_false hc
 obtain ⟨p0,p1⟩:=par_in hG ⟨h0,h1⟩ hn
 have hkl:=kids_len hG (i:=(par d.1 n.toNat).toNat) om
 have hin:=fun x hx=>hG.kids.kid (par d.1 n.toNat).toNat om x hx
 have hS:kinS d n=((kidsOf d.1 (par d.1 n.toNat).toNat).filter (melS d),idxN (fun x=>n==x) ((kidsOf d.1 (par d.1 n.toNat).toNat).filter (melS d)) 0):=by
  unfold kinS kinL
  rw [if_f hc,if_f hc]
 rw [hS]
 refine ⟨p0,by show (par d.1 n.toNat).toNat<_; omega,by show (kidsOf d.1 (par d.1 n.toNat).toNat).length≤100000; omega,?_⟩
 generalize hl:kidsOf d.1 (par d.1 n.toNat).toNat=l at hkl hin
 have he:iclS (d.1.getD (Int.toNat (d.1.getD n.toNat default).2.2.2.2.1) default).2.2.2.2.2=l:=hl
 have idx:∀ (own:List Int),own.length≤200→own=l.filter (melS d)→kinji4 n (fun a b=>(a,b)=(l.filter (melS d),idxN (fun x=>n==x) (l.filter (melS d)) 0)) own:=by
  intro own ho hown
  have loop:∀ (k i:Nat),i+k=own.length→idxN (fun x=>n==x) own 0=idxN (fun x=>n==x) (own.drop i) i→kinl7x1 n (fun a b=>(a,b)=(l.filter (melS d),idxN (fun x=>n==x) (l.filter (melS d)) 0)) own (k+1) (i:Int):=by
   intro k
   induction k with
   | zero =>
    intro i h h2
    rw [List.drop_of_length_le om,idxN] at h2
    refine ⟨fun hc=>od hc,fun _=>?_⟩
    show (own,(-1:Int))=_
    rw [← h2,hown]
   | succ k ih =>
    intro i h h2
    rw [drop_get (l:=own) default om,idxN] at h2
    refine ⟨fun _=>⟨by omega,by omega,fun hc=>?_,fun hc=>?_⟩,fun hc=>oe hc⟩
    ·rw [tnc] at hc
     rw [if_t hc] at h2
     show (own,(i:Int))=_
     rw [← h2,hown]
    rw [tnc] at hc
    rw [if_f hc] at h2
    rw [w64 om]
    exact ih (i+1) om h2
  exact ⟨_,loop own.length 0 om rfl⟩
 have second:∀ (k i j:Nat) (own:List Int),j+k=l.length→DInv l (melS d) i j own→kinl17x2 d n (fun a b=>(a,b)=(l.filter (melS d),idxN (fun x=>n==x) (l.filter (melS d)) 0)) (k+1) (i:Int) (j:Int) own:=by
  intro k
  induction k with
  | zero =>
   intro i j own h hI
   have hj:j=l.length:=by omega
   subst hj
   have hln:=hI.len
   have hij:=hI.ij
   have hfin:=hI.fin
   have hcl:(clr own i (0:Int)).length=own.length:=(clr_len own i 0 om).symm
   refine ⟨fun hc=>od hc,fun _=>⟨by omega,by omega,Int.le_refl _,by omega,by omega,?_,?_⟩⟩
   ·rw [tnc]; omega
   rw [tnc,hfin]
   exact idx _ (Nat.le_trans (List.length_filter_le ..) hkl) rfl
  | succ k ih =>
   intro i j own h hI
   have hln:=hI.len
   have hij:=hI.ij
   have hg:=hI.get
   have hx:=hin (l.getD j default) (mem_getD default om)
   refine ⟨fun _=>⟨by omega,by omega,?_⟩,fun hc=>oe hc⟩
   rw [tnc,hg]
   refine ⟨⟨by omega,by omega⟩,fun hc=>⟨by omega,by omega,?_⟩,fun hc=>?_⟩
   ·have hc':melS d (l.getD j default)=true:=by simpa using hc
    have e1:kinV10 d (i:Int) (j:Int) own=((i+1:Nat):Int):=by
     unfold kinV10; rw [tnc,hg,if_t hc,w64 om]; omega
    have e2:kinV11 d (i:Int) (j:Int) own=own.set i (own.getD j default):=by
     unfold kinV11; rw [tnc,tnc,hg,if_t hc]
    unfold kinj24i26
    rw [e1,e2,w64 om,show (j:Int)+1=((j+1:Nat):Int) by omega]
    exact ih (i+1) (j+1) _ om (hI.keep om hc')
   have hc':melS d (l.getD j default)=false:=by simpa using hc
   have e1:kinV10 d (i:Int) (j:Int) own=(i:Int):=by
    unfold kinV10; rw [tnc,hg,if_f hc]
   have e2:kinV11 d (i:Int) (j:Int) own=own:=by
    unfold kinV11; rw [tnc,tnc,hg,if_f hc]
   unfold kinj24i26
   rw [e1,e2,w64 om,show (j:Int)+1=((j+1:Nat):Int) by omega]
   exact ih i (j+1) own om (hI.skip om hc')
 have first:∀ (k i:Nat),i+k=l.length→(l.take i).filter (melS d)=l.take i→kinl7x3 d n (fun a b=>(a,b)=(l.filter (melS d),idxN (fun x=>n==x) (l.filter (melS d)) 0)) (d.1.getD (Int.toNat (d.1.getD n.toNat default).2.2.2.2.1) default) (k+1) (i:Int):=by
  intro k
  induction k with
  | zero =>
   intro i h ha
   rw [kinl7x3]
   unfold kinl7x3b
   rw [he]
   refine ⟨fun hc=>od hc,fun _=>?_⟩
   unfold kinji8
   rw [he]
   refine ⟨fun _=>idx l hkl ?_,fun h=>absurd h dc⟩
   rw [List.take_of_length_le om] at ha
   exact ha.symm
  | succ k ih =>
   intro i h ha
   have hx:=hin (l.getD i default) (mem_getD default om)
   rw [kinl7x3]
   unfold kinl7x3b
   rw [he,tnc]
   refine ⟨fun _=>⟨by omega,by omega,⟨by omega,by omega⟩,fun hc=>?_,fun hc=>?_⟩,fun hc=>oe hc⟩
   ·unfold kinji8
    rw [he]
    refine ⟨fun h=>absurd (eq_of_beq h) om,fun _=>?_⟩
    rw [w64 om,show (i:Int)+1=((i+1:Nat):Int) by omega]
    exact ⟨_,second (l.length - (i+1)) i (i+1) l om (DInv.start om ha (by simpa using hc))⟩
   rw [w64 om,show (i:Int)+1=((i+1:Nat):Int) by omega]
   exact ih (i+1) om (all_next om ha (by simpa using hc))
 exact ⟨_,first l.length 0 om rfl⟩
theorem kin_c {g:Ghost} {u0:Option Addr} {j0:Nat} (xd:Dc) (xn:Int) (y0:Rep g yNs [.slice u0 xd.1.length j0] xd.1)  (hp:kinP xd xn):CallsH prog 116 #[.agg (aD xd u0 j0),iv xn] g [] (fun g' H' v=>∃ (ar0:Option Addr) (cr0:Nat) (G0:List Value),v=.tuple #[.slice ar0 ((kinS xd xn).1).length cr0,iv (kinS xd xn).2]∧RepL g' (.int .i64) G0 (kinS xd xn).1∧H'=[.own (.slice ar0 ((kinS xd xn).1).length cr0) 3 1 ((kinS xd xn).1).length G0]) :=
 (kin_ok xd xn y0 _ (kin_F xd xn hp)).mono (by rintro g' H' v _ ⟨r0,r1,ar0,cr0,G0,rfl,H1,rfl,hK⟩; obtain ⟨rfl,rfl⟩:r0=(kinS xd xn).1∧r1=(kinS xd xn).2:=⟨congrArg (fun z=>z.1) hK,congrArg (fun z=>z.2) hK⟩; exact ⟨ar0,cr0,G0,rfl,H1,rfl⟩)
def irvl4b (K:(List Int)→Prop) (f0:Int) (g0:Int) (yown_xs_0l4:List Int) (C4:Int→Int→List Int→Prop):Prop :=
 (decide (f0<g0)=true→0≤g0∧g0.toNat<yown_xs_0l4.length∧0≤f0∧f0.toNat<yown_xs_0l4.length∧0≤g0∧g0.toNat<(yown_xs_0l4.set f0.toNat (yown_xs_0l4.getD g0.toNat default)).length∧C4 (w6 (f0+1)) (w6 (g0 - 1)) ((yown_xs_0l4.set f0.toNat (yown_xs_0l4.getD g0.toNat default)).set g0.toNat (yown_xs_0l4.getD f0.toNat default)))∧(decide (f0<g0)=false→K yown_xs_0l4)
def irvl4 (K:(List Int)→Prop):Nat→Int→Int→List Int→Prop
 | 0,_,_,_=>False
 | k+1,f0,g0,yown_xs_0l4=>irvl4b K f0 g0 yown_xs_0l4 (irvl4 K k)
def irvF (xs:List Int) (K:(List Int)→Prop):Prop :=
 ∃ k,irvl4 K k 0 (w6 ((xs.length:Int) - 1)) xs
theorem irv_ok {g:Ghost} {axs:Option Addr} {cxs:Nat} {xsxs:List Value} (xs:List Int) (hLxs:RepL g (.int .i64) xsxs xs) (K:(List Int)→Prop)
  (hF:irvF xs K):CallsH prog 118 #[.slice axs xs.length cxs] g [.own (.slice axs xs.length cxs) 3 1 xs.length xsxs] (fun g' H' v=>∃ (fxs:List Int),∃ (xsfxs:List Value),v=.tuple #[]∧RepL g' (.int .i64) xsfxs fxs∧H'=[.own (.slice axs fxs.length cxs) 3 1 fxs.length xsfxs]∧fxs.length=xs.length∧K fxs):=by
 refine CallsH.en 28 func118 rfl fun w0=>?_
 refine Ok.sr (Ok.B 5 [(0,.slice axs xs.length cxs),(2,iv 0),(3,iv (w6 ((xs.length:Int) - 1)))] kr (Ok.nt (Ok.block ?_)))
 obtain ⟨k,hF⟩:=hF
 refine Ok.L (fun k a W=>∃ gl4:Ghost,Gext w0 g gl4∧∃ (f0:Int) (g0:Int) (yown_xs_0l4:List Int) (xsyown_xs_0l4:List Value),RepL gl4 (.int .i64) xsyown_xs_0l4 yown_xs_0l4∧yown_xs_0l4.length=xs.length∧StA 28 [(0,.slice axs yown_xs_0l4.length cxs),(2,iv f0),(3,iv g0)] a∧StW w0 [.own (.slice axs yown_xs_0l4.length cxs) 3 1 yown_xs_0l4.length xsyown_xs_0l4] gl4 W∧irvl4 K k f0 g0 yown_xs_0l4) k ?_ ?_
 ·
  exact fun _ _ u v=>⟨g,Gext.r w0 g,0,w6 ((xs.length:Int) - 1),xs,xsxs,hLxs,rfl,fA u v hF⟩
 clear hF
 rintro (_ | k4) _ _ ⟨gl4,n2,f0,g0,yown_xs_0l4,xsyown_xs_0l4,hLyown_xs_0l4,hnyown_xs_0l4,q⟩
 exact (q.2.2:False).elim
 refine jn (fun hF=>?_) _ _ q
 refine Ok.q (Ok.sr (Ok.b 3 [0,2,3] [(9,.bool (decide (f0<g0)))] ?_))
 refine Ok.nt (Ok.cw hF (fun hc1 hF=>?_) (fun hc1 hF=>?_))
 ·refine Ok.k (Ok.t (Ok.q (Ok.block (Ok.mix [0,1,4,5,6,7,8,9,10,11,12] [] [] [(0,true),(1,true),(2,true),(3,true),(4,true),(5,true),(6,true),(7,true),(8,true),(9,true),(10,true),(11,true),(12,true),(13,false),(14,false),(15,false)] kr kr (.cons _ .slnil) (OkM.b 6 [0,2,3] [(14,.slice axs yown_xs_0l4.length cxs),(15,iv f0),(16,.slice axs yown_xs_0l4.length cxs),(17,iv g0),(18,.slice axs yown_xs_0l4.length cxs),(19,iv g0)] ?_)))))
  obtain ⟨h03,h13,hF⟩:=hF
  have he3:=get_of (l:=yown_xs_0l4) default h13
  generalize hg3:(yown_xs_0l4.getD g0.toNat default)=e3 at he3 hF ⊢
  refine OkM.h rfl rfl rfl (OpQ.indexOwn (e:=.int .i64) 0 rfl hLyown_xs_0l4 rfl rfl underlying46 kr kr h03 he3 rfl fun cs2 _ hr2 hc2=>?_)
  obtain rfl:=hr2
  replace hc2:∀ j v,([iv e3]:List Value)[j]? = some v→xsyown_xs_0l4[g0.toNat * 1+j]? = some v:=hc2
  refine OkM.h rfl rfl rfl (OpQ.s (v:=iv e3) (Yields.loadOwn 0 0 rfl hc2 rfl underlying3 rfl kr) rfl rfl (OkM.b 2 [0,2,3,14,15,16,17] [(21,iv e3),(22,.slice axs yown_xs_0l4.length cxs),(23,iv f0)] ?_))
  obtain ⟨h05,h15,hF⟩:=hF
  have he5:=get_of (l:=yown_xs_0l4) default h15
  generalize hg5:(yown_xs_0l4.getD f0.toNat default)=e5 at he5 hF ⊢
  refine OkM.h rfl rfl rfl (OpQ.indexOwn (e:=.int .i64) 0 rfl hLyown_xs_0l4 rfl rfl underlying46 kr kr h05 he5 rfl fun cs4 _ hr4 hc4=>?_)
  obtain rfl:=hr4
  replace hc4:∀ j v,([iv e5]:List Value)[j]? = some v→xsyown_xs_0l4[f0.toNat * 1+j]? = some v:=hc4
  refine OkM.h rfl rfl rfl (OpQ.s (v:=iv e5) (Yields.loadOwn 0 0 rfl hc4 rfl underlying3 rfl kr) rfl rfl (OkM.h rfl rfl rfl (OpQ.indexOwn (e:=.int .i64) 0 rfl hLyown_xs_0l4 rfl rfl underlying46 kr kr h05 he5 rfl fun cs6 _ hr6 hc6=>?_)))
  obtain rfl:=hr6
  replace hc6:∀ j v,([iv e5]:List Value)[j]? = some v→xsyown_xs_0l4[f0.toNat * 1+j]? = some v:=hc6
  refine OkM.t rfl rfl (OpOk.storeOwn (e:=.int .i64) (q:=f0.toNat) (cells:=[iv e5]) (vs:=[iv e3]) (el':=e3) 0 0 1 rfl hLyown_xs_0l4 hc6 kr rfl rfl rfl kr kr kr kr kr (show Rep _ _ [iv e3] _ from rfl) fun xs7 hL7=>?_)
  rw [show yown_xs_0l4.length=(yown_xs_0l4.set f0.toNat e3).length from (List.length_set ..).symm]
  refine OkM.l (i:=13) rfl (Gle.refl _) (.cons _ .slnil) ?_
  obtain ⟨h09,h19,hF⟩:=hF
  have he9:=get_of (l:=yown_xs_0l4.set f0.toNat e3) default h19
  generalize hg9:((yown_xs_0l4.set f0.toNat e3).getD g0.toNat default)=e9 at he9 hF ⊢
  refine OkM.t rfl rfl (OpOk.indexOwn (e:=.int .i64) 0 rfl hL7 rfl rfl underlying46 kr kr h09 he9 rfl fun cs8 _ hr8 hc8=>?_)
  obtain rfl:=hr8
  replace hc8:∀ j v,([iv e9]:List Value)[j]? = some v→xs7[g0.toNat * 1+j]? = some v:=hc8
  refine OkM.l (i:=14) rfl (Gle.refl _) (.cons _ .slnil) (OkM.t rfl rfl (OpOk.storeOwn (e:=.int .i64) (q:=g0.toNat) (cells:=[iv e9]) (vs:=[iv e5]) (el':=e5) 0 0 1 rfl hL7 hc8 kr rfl rfl rfl kr kr kr kr kr (show Rep _ _ [iv e5] _ from rfl) fun xs10 hL10=>?_))
  rw [show (yown_xs_0l4.set f0.toNat e3).length=((yown_xs_0l4.set f0.toNat e3).set g0.toNat e5).length from (List.length_set ..).symm]
  refine OkM.l (i:=15) rfl (Gle.refl _) (.cons _ .slnil) (OkM.nil (Ok.kn (Ok.t (Ok.r (Ok.B 6 [(0,.slice axs ((yown_xs_0l4.set f0.toNat e3).set g0.toNat e5).length cxs),(2,iv (w6 (f0+1))),(3,iv (w6 (g0 - 1)))] kr (Ok.j (Ok.t ?_)))))))
  subst hg9
  subst hg5
  subst hg3
  exact fun _ _ u v=>⟨k4,nl,gl4,n2,w6 (f0+1),w6 (g0 - 1),((yown_xs_0l4.set f0.toNat (yown_xs_0l4.getD g0.toNat default)).set g0.toNat (yown_xs_0l4.getD f0.toNat default)),xs10,hL10,(by simp only [List.length_set,hnyown_xs_0l4]),fA u v hF⟩
 refine Ok.x (Ok.thenE (Ok.thenE (Ok.blockHit ?_)))
 exact Ok.resH (vs:=[]) (.inr rfl) rfl .nil n2 ⟨yown_xs_0l4,xsyown_xs_0l4,rfl,hLyown_xs_0l4,rfl,hnyown_xs_0l4,hF⟩
def irvS (l:List Int):List Int:=l.reverse
def irvP (l:List Int):Prop:=l.length≤1000000
theorem irv_F (l:List Int) (hp:irvP l):irvF l (fun r=>r=irvS l):=by
 unfold irvP at hp
 unfold irvS
 have loop:∀ (k i:Nat) (x:List Int),l.length≤2 * i+k→2 * i≤l.length+1→x.length=l.length→(∀ m,m<l.length→x[m]? = if m<i∨l.length≤m+i then l[l.length - 1 - m]? else l[m]?)→irvl4 (fun r=>r=l.reverse) (k+1) (i:Int) ((l.length:Int) - 1 - (i:Int)) x:=by
  have done:∀ (i:Nat) (x:List Int),¬ (i:Int)<(l.length:Int) - 1 - (i:Int)→x.length=l.length→(∀ m,m<l.length→x[m]? = if m<i∨l.length≤m+i then l[l.length - 1 - m]? else l[m]?)→x=l.reverse:=by
   intro i x hn hx hm
   refine List.ext_getElem? fun m=>?_
   by_cases h:m<l.length
   ·rw [List.getElem?_reverse h,hm m h]
    split
    ·rfl
    have:m=l.length - 1 - m:=by omega
    rw [← this]
   rw [List.getElem?_eq_none om,List.getElem?_eq_none (by rw [List.length_reverse]; omega)]
  intro k
  induction k with
  | zero =>
   intro i x h1 h2 hx hm
   exact ⟨fun h=>od h,fun h=>done i x (of_decide_eq_false h) hx hm⟩
  | succ k ih =>
   intro i x h1 h2 hx hm
   refine ⟨fun h=>?_,fun h=>done i x (of_decide_eq_false h) hx hm⟩
   have h:=of_decide_eq_true h
   have e:((l.length:Int) - 1 - (i:Int)).toNat=l.length - 1 - i:=by omega
   rw [tnc,e]
   refine ⟨by omega,by omega,by omega,by omega,by omega,by rw [List.length_set]; omega,?_⟩
   rw [w64 om,w64 om]
   have:=ih (i+1) ((x.set i (x.getD (l.length - 1 - i) default)).set (l.length - 1 - i) (x.getD i default)) om om (by rw [List.length_set,List.length_set]; exact hx) (fun m hml=>?_)
   ·rw [show (l.length:Int) - 1 - ((i+1:Nat):Int)=(l.length:Int) - 1 - (i:Int) - 1 by omega] at this
    exact this
   rw [List.getElem?_set,List.getElem?_set]
   by_cases q1:l.length - 1 - i=m
   ·subst q1
    rw [if_pos rfl,if_pos (by rw [List.length_set]; omega),if_pos om]
    have:=hm i om
    rw [if_neg om] at this
    rw [List.getD_eq_getElem?_getD,this,show l.length - 1 - (l.length - 1 - i)=i by omega,List.getElem?_eq_getElem om,Option.getD_some]
   rw [if_neg q1]
   by_cases q2:i=m
   ·subst q2
    rw [if_pos rfl,if_pos om,if_pos om]
    have:=hm (l.length - 1 - i) om
    rw [if_neg om] at this
    rw [List.getD_eq_getElem?_getD,this,List.getElem?_eq_getElem om,Option.getD_some]
   rw [if_neg q2,hm m hml]
   by_cases q3:m<i∨l.length≤m+i
   ·rw [if_pos q3,if_pos om]
   rw [if_neg q3,if_neg om]
 refine ⟨l.length+1,?_⟩
 rw [w64 om]
 have:=loop l.length 0 l om om rfl (fun m h=>by rw [if_neg om])
 rw [show (l.length:Int) - 1 - ((0:Nat):Int)=(l.length:Int) - 1 by omega] at this
 exact this
theorem irv_c {g:Ghost} {axs:Option Addr} {cxs:Nat} {xsxs:List Value} (xs:List Int) (hLxs:RepL g (.int .i64) xsxs xs)  (hp:irvP xs):CallsH prog 118 #[.slice axs xs.length cxs] g [.own (.slice axs xs.length cxs) 3 1 xs.length xsxs] (fun g' H' v=>∃ (xsfxs:List Value),v=.tuple #[]∧RepL g' (.int .i64) xsfxs (irvS xs)∧H'=[.own (.slice axs (irvS xs).length cxs) 3 1 (irvS xs).length xsfxs]∧(irvS xs).length=xs.length) :=
 (irv_ok xs hLxs _ (irv_F xs hp)).mono (by rintro g' H' v _ ⟨fxs,xsfxs,rfl,hLfxs,rfl,hlen0,hK⟩; subst hK; exact ⟨xsfxs,rfl,hLfxs,rfl,hlen0⟩)

/-! those above a node -/
def ancN (l:List ND):Nat→Int→List Int
 | 0,_=>[]
 | k+1,n=>if decide (n>0)=true then n::ancN l k (par l n.toNat) else []
theorem anc_len (l:List ND):∀ (k:Nat) (n:Int),(ancN l k n).length≤k
 | 0,_=>Nat.le_refl _
 | k+1,n=>by
  rw [ancN]
  split
  ·rw [List.length_cons]; have:=anc_len l k (par l n.toNat); omega
  simp
def upS (d:DC) (n:Int):List Int:=ancN d.1 42 (par d.1 n.toNat)
def mnxS (d:DC) (n:Int) (j:Int):List Int :=
 if ((j==32)||(j==62))=true then (if (j==62)=true then (upS d n).take 1 else upS d n)
 else if (j==43)=true then ((kinS d n).1.take (kinS d n).2.toNat).reverse.take 1 else ((kinS d n).1.take (kinS d n).2.toNat).reverse
def mnxP (d:DC) (n:Int) (_:Int):Prop:=DGood d∧inD d n∧melS d n=true
theorem idxN_in {l:List Int} {n:Int} (h:n ∈ l):∀ i:Nat,(i:Int)≤idxN (fun x=>n==x) l i∧idxN (fun x=>n==x) l i<(i:Int)+(l.length:Int):=by
 induction l with
 | nil=>cases h
 | cons x l ih =>
  intro i
  rw [idxN,List.length_cons]
  by_cases hx:(n==x)=true
  ·rw [if_pos hx]; omega
  rw [if_neg hx]
  have hm:n ∈ l:=by
   rcases List.mem_cons.1 h with rfl | h
   ·exact absurd (beq_self_eq_true n) hx
   exact h
  have:=ih hm (i+1)
  omega
theorem kin_mem {d:DC} (hG:DGood d) {n:Int} (hn:inD d n) (he:melS d n=true):n ∈ kinL d n:=by
 unfold kinL
 split
 ·exact List.mem_singleton.2 rfl
 rename_i hc
 have hc:¬ par d.1 n.toNat<0:=by simpa using hc
 refine List.mem_filter.2 ⟨?_,he⟩
 rcases hG.kids.up n.toNat (by have:=hn.1; have:=hn.2; omega) with h | ⟨i,hi,hp,hm⟩
 ·omega
 rw [hp,tnc]
 rw [show ((n.toNat:Nat):Int)=n by have:=hn.1; omega] at hm
 exact hm
theorem kin_len {d:DC} (hG:DGood d) {n:Int} (hn:inD d n):(kinL d n).length≤200:=by
 unfold kinL
 split
 ·simp
 rename_i hc
 have hc:¬ par d.1 n.toNat<0:=by simpa using hc
 have hp:=par_in hG hn hc
 exact Nat.le_trans (List.length_filter_le ..) (kids_len hG (by have:=hp.1; have:=hp.2; omega))
theorem kin_idx {d:DC} (hG:DGood d) {n:Int} (hn:inD d n) (he:melS d n=true):0≤(kinS d n).2∧(kinS d n).2<((kinS d n).1.length:Int):=by
 have hm:=kin_mem hG hn he
 have:=idxN_in hm 0
 unfold kinS
 split
 ·rename_i hc
  have:kinL d n=[n]:=by unfold kinL; rw [if_pos hc]
  show (0:Int)≤0∧(0:Int)<((kinL d n).length:Int)
  rw [this]; exact ⟨Int.le_refl _,by simp⟩
 show 0≤idxN (fun x=>n==x) (kinL d n) 0∧idxN (fun x=>n==x) (kinL d n) 0<((kinL d n).length:Int)
 omega
theorem ends_in {l:List ND}:∀ {k:Nat} {n:Int},Ends l k n→0≤n→n<(l.length:Int)
 | 0,n,h,h0=>by have h:n<0:=h; omega
 | k+1,n,h,h0=>by
  rcases h with h | h
  ·omega
  exact h.1
def mnxj5 (K:(List Int)→Prop) (d0:List Int):Prop :=
 K d0
def mnxl19b (xd:Dc) (xjoin:Int) (K:(List Int)→Prop) (c0:Int) (x0:List Int) (C19:Int→List Int→Prop):Prop :=
 (decide (c0>0)=true→(x0++([c0]:List Int)).length≤17592186044416∧((xjoin==62)=true→mnxj5 K (x0++([c0]:List Int)))∧((xjoin==62)=false→0≤c0∧c0.toNat<xd.1.length∧C19 (xd.1.getD c0.toNat default).2.2.2.2.1 (x0++([c0]:List Int))))∧(decide (c0>0)=false→mnxj5 K x0)
def mnxl19 (xd:Dc) (xjoin:Int) (K:(List Int)→Prop):Nat→Int→List Int→Prop
 | 0,_,_=>False
 | k+1,c0,x0=>mnxl19b xd xjoin K c0 x0 (mnxl19 xd xjoin K k)
def mnxj9 (xd:Dc) (xn:Int) (xjoin:Int) (K:(List Int)→Prop):Prop :=
 (((xjoin==32)||(xjoin==62))=true→0≤xn∧xn.toNat<xd.1.length∧∃ k,mnxl19 xd xjoin K k (xd.1.getD xn.toNat default).2.2.2.2.1 ([]:List Int))∧(((xjoin==32)||(xjoin==62))=false→kinP xd xn∧0≤(kinS xd xn).2∧(kinS xd xn).2≤(((kinS xd xn).1).length:Int)∧irvP (((kinS xd xn).1).take (Int.toNat (kinS xd xn).2))∧((xjoin==43)=true→0≤(if ((irvS (((kinS xd xn).1).take (Int.toNat (kinS xd xn).2))).length:Int)<1 then ((irvS (((kinS xd xn).1).take (Int.toNat (kinS xd xn).2))).length:Int) else 1)∧(if ((irvS (((kinS xd xn).1).take (Int.toNat (kinS xd xn).2))).length:Int)<1 then ((irvS (((kinS xd xn).1).take (Int.toNat (kinS xd xn).2))).length:Int) else 1)≤((irvS (((kinS xd xn).1).take (Int.toNat (kinS xd xn).2))).length:Int)∧mnxj5 K ((irvS (((kinS xd xn).1).take (Int.toNat (kinS xd xn).2))).take (Int.toNat (if ((irvS (((kinS xd xn).1).take (Int.toNat (kinS xd xn).2))).length:Int)<1 then ((irvS (((kinS xd xn).1).take (Int.toNat (kinS xd xn).2))).length:Int) else 1))))∧((xjoin==43)=false→mnxj5 K (irvS (((kinS xd xn).1).take (Int.toNat (kinS xd xn).2)))))
def mnxF (xd:Dc) (xn:Int) (xjoin:Int) (K:(List Int)→Prop):Prop :=
 ((xjoin==32)=true→mnxj9 xd xn xjoin K)∧((xjoin==32)=false→mnxj9 xd xn xjoin K)
abbrev kj (xd:DC) (xn:Int):List Int:=((kinS xd xn).1).take (Int.toNat (kinS xd xn).2)
abbrev ki (xd:DC) (xn:Int):List Int:=irvS (kj xd xn)
theorem mnx_ok {g:Ghost} {u0:Option Addr} {j0:Nat} (xd:Dc) (xn:Int) (xjoin:Int) (y0:Rep g yNs [.slice u0 xd.1.length j0] xd.1) (K:(List Int)→Prop)
  (hF:mnxF xd xn xjoin K):CallsH prog 73 #[.agg (aD xd u0 j0),iv xn,.int .u8 xjoin] g [] (fun g' H' v=>∃ (r0:List Int),∃ (k1:Option Addr) (y1:Nat),v=.slice k1 r0.length y1∧Rep g' (.slice (.int .i64)) [.slice k1 r0.length y1] r0∧H'=[]∧K r0):=by
 refine CallsH.en 53 func73 rfl fun w0=>?_
 refine Ok.sr (Ok.o (OpOk.bx (aD xd u0 j0) fun bs3=>?_))
 refine Ok.B 1 [(1,iv xn),(2,.int .u8 xjoin),(3,pv bs3 0)] kr (Ok.nt (Ok.sr (Ok.b 1 [1,2,3] [(7,.slice none 0 0)] ?_)))
 have hL2:RepL g (.int .i64) [] []:=rfl
 refine Ok.ownNil 3 1 (Ok.nt (Ok.cut (fun a W=>∃ gj5:Ghost,Gext w0 g gj5∧∃ (a0:Option Addr) (Z0:Nat) (d0:List Int) (D0:List Value),RepL gj5 (.int .i64) D0 d0∧StA 53 [(7,.slice a0 d0.length Z0)] a∧StW w0 [.own (.slice a0 d0.length Z0) 3 1 d0.length D0] gj5 W∧mnxj5 K d0) ?_ ?_))
 ·
  refine Ok.sr (Ok.b 1 [1,2,3] [(7,.slice none ([]:List Int).length 0),(10,.int .u8 xjoin)] ?_)
  refine Ok.nt (Ok.block (Ok.cg g [(1,iv xn),(2,.int .u8 xjoin),(3,pv bs3 0),(7,.slice none ([]:List Int).length 0),(29,.bool ((xjoin==32)||(xjoin==62)))] [.own (.slice none ([]:List Int).length 0) 3 1 ([]:List Int).length ([]),.blk bs3 (.cells (aD xd u0 j0) 24)] (mnxj9 xd xn xjoin K) ?_ (fun gj9 V1 hF=>?_)))
  ·
   refine Ok.sr (Ok.b 2 [1,2,3,7,10] [(29,.bool (xjoin==32))] ?_)
   refine Ok.nt (Ok.cw hF (fun c1 hF=>?_) (fun c1 hF=>?_))
   ·refine Ok.k (Ok.t (Ok.rb 29 ((xjoin==32)||(xjoin==62)) (Eq.trans (c1) (mor_t c1)) ?_))
    exact fg hF
   refine Ok.r (Ok.b 2 [1,2,3,7] [(29,.bool (xjoin==62))] ?_)
   refine Ok.nt (Ok.rb 29 ((xjoin==32)||(xjoin==62)) (mor_f c1) ?_)
   exact fg hF
  replace hL2:=hL2.mono V1.1
  replace y0:=y0.mono V1.1
  refine Ok.cw hF (fun hc4 hF=>?_) (fun hc4 hF=>?_)
  ·refine Ok.sr (Ok.rn 3 [.e 1] [2,3,7] [(33,.slice u0 xd.1.length j0),(34,iv xn)] ?_)
   obtain ⟨h06,h16,hF⟩:=hF
   have he6:=get_of (l:=xd.1) default h16
   generalize hg6:(xd.1.getD xn.toNat default)=e6 at he6 hF ⊢
   refine Ok.o (OpOk.indexRo (e:=yN) rfl rfl underlying22 kr y0 h06 he6 rfl fun q5 o5 cs5 _ J1 hr5=>?_)
   obtain ⟨a5_2,c5_2,a5_5,c5_5,rfl,hR5_2,hR5_5⟩:=oN hr5
   refine Ok.rn 3 [.a 4 J1] [2,3,7] [(1,iv e6.2.2.2.2.1)] ?_
   refine Ok.nt (Ok.block ?_)
   obtain ⟨k,hF⟩:=hF
   refine Ok.L (fun k a W=>∃ f1:Ghost,Gext w0 gj9 f1∧∃ (c0:Int) (V0:Option Addr) (Q0:Nat) (x0:List Int) (K0:List Value),RepL f1 (.int .i64) K0 x0∧StA 53 [(1,iv c0),(2,.int .u8 xjoin),(3,pv bs3 0),(7,.slice V0 x0.length Q0)] a∧StW w0 [.own (.slice V0 x0.length Q0) 3 1 x0.length K0,.blk bs3 (.cells (aD xd u0 j0) 24)] f1 W∧mnxl19 xd xjoin K k c0 x0) k ?_ ?_
   ·
    exact fun _ _ u v=>⟨gj9,Gext.r w0 gj9,e6.2.2.2.2.1,none,0,([]:List Int),[],hL2,fA u v hF⟩
   clear hF
   rintro (_ | k19) _ _ ⟨f1,a1,c0,V0,Q0,x0,K0,M0,q⟩
   exact (q.2.2:False).elim
   refine jn (fun hF=>?_) _ _ q
   replace y0:=y0.mono a1.1
   refine Ok.q (Ok.sr (Ok.b 2 [1,2,3,7] [(39,.bool (decide (c0>0)))] ?_))
   refine Ok.nt (Ok.cn hF rfl (fun hc7=>?_) (fun hc7=>?_))
   ·replace hF:=hF.1 hc7
    refine Ok.k (Ok.t (Ok.q (Ok.block (Ok.sr (Ok.b 2 [1,2,3] [(46,.slice V0 x0.length Q0),(47,iv c0)] ?_)))))
    have hL8:RepL f1 (.int .i64) ([iv c0]:List Value) ([c0]:List Int):=(RepL.consN (c:=[iv c0]) rfl rfl)
    refine Ok.o (OpOk.lit (E:=3) (.int .i64) ([c0]:List Int) ([iv c0]:List Value) kr kr rfl kr hL8 rfl fun b8=>?_)
    obtain ⟨hb9,hF⟩:=hF
    refine Ok.o (OpOk.append' (e:=.int .i64) 8 17592186044416 1 0 rfl rfl rfl rfl M0 hL8 underlying46 kr kr kr hb9 rfl fun a9 c9 xs9 hL9=>?_)
    refine Ok.b 1 [1,2,3] [(7,.slice a9 (x0++([c0]:List Int)).length c9)] ?_
    refine Ok.nt (Ok.sr (Ok.b 2 [1,2,3,7] [(51,.bool (xjoin==62))] ?_))
    refine Ok.nt (Ok.cn hF rfl (fun u1=>?_) (fun u1=>?_))
    ·replace hF:=hF.1 u1
     refine Ok.x (Ok.blockMiss rfl (Ok.thenE (Ok.thenE (Ok.blockHit (Ok.kn (Ok.t ?_))))))
     subst hg6
     exact fun _ _ u v=>⟨f1,V1.trans a1,a9,c9,(x0++([c0]:List Int)),xs9,hL9,fA u v hF⟩
    replace hF:=hF.2 u1
    refine Ok.k (Ok.kn (Ok.t (Ok.r (Ok.rn 3 [.e 2] [2,3,7] [(41,.slice u0 xd.1.length j0),(42,iv c0)] ?_))))
    obtain ⟨L1,A1,hF⟩:=hF
    have U1:=get_of (l:=xd.1) default A1
    generalize D1:(xd.1.getD c0.toNat default)=e12 at U1 hF ⊢
    refine Ok.o (OpOk.indexRo (e:=yN) rfl rfl underlying22 kr y0 L1 U1 rfl fun q11 o11 cs11 _ hat11 I1=>?_)
    obtain ⟨a11_2,c11_2,a11_5,c11_5,rfl,hR11_2,hR11_5⟩:=oN I1
    refine Ok.rn 3 [.a 4 hat11] [2,3,7] [(1,iv e12.2.2.2.2.1)] ?_
    refine Ok.j (Ok.t ?_)
    subst D1
    exact fun _ _ u v=>⟨k19,nl,f1,a1,(xd.1.getD c0.toNat default).2.2.2.2.1,a9,c9,(x0++([c0]:List Int)),xs9,hL9,fA u v hF⟩
   replace hF:=hF.2 hc7
   refine Ok.x (Ok.thenE (Ok.thenE (Ok.blockHit (Ok.kn (Ok.t ?_)))))
   subst hg6
   exact fun _ _ u v=>⟨f1,V1.trans a1,V0,Q0,x0,K0,M0,fA u v hF⟩
  refine Ok.sr (Ok.rn 2 [.e 1] [2] [(12,.agg (aD xd u0 j0)),(13,iv xn)] ?_)
  obtain ⟨hp13,hF⟩:=hF
  refine Ok.o (OpOk.callH [] _ enr rfl (kin_c xd xn y0 hp13) rfl fun g14 _ _ E1 hV14=>?_)
  obtain ⟨J0,W0,xs14_0,rfl,hL14_0,rfl⟩:=hV14
  refine Ok.b 5 [2] [(8,.slice J0 ((kinS xd xn).1).length W0),(9,iv (kinS xd xn).2)] ?_
  refine Ok.nt (Ok.sr (Ok.b 2 [2] [(17,.slice J0 ((kinS xd xn).1).length W0),(18,iv (kinS xd xn).2)] ?_))
  obtain ⟨h015,h215,hF⟩:=hF
  refine Ok.o (OpOk.cutOwn (e:=.int .i64) (h:=(kinS xd xn).2) 0 rfl rfl rfl hL14_0 underlying46 kr h015 h215 rfl fun xs15 k2=>?_)
  refine Ok.b 1 [2] [(7,.slice J0 (kj xd xn).length W0)] ?_
  refine Ok.nt (Ok.sr (Ok.b 1 [2,7] [(20,.slice J0 (kj xd xn).length W0)] ?_))
  obtain ⟨hp16,hF⟩:=hF
  refine Ok.o (OpOk.callH [_] _ enr rfl (irv_c (kj xd xn) k2 hp16) rfl fun g17 _ _ W1 hV17=>?_)
  obtain ⟨xs17_0,rfl,X1,rfl,g1⟩:=hV17
  refine Ok.v 7 rfl (show (.slice J0 (kj xd xn).length W0:Value)=.slice J0 (ki xd xn).length W0 from by rw [g1]) (Ok.v 20 rfl (show (.slice J0 (kj xd xn).length W0:Value)=.slice J0 (ki xd xn).length W0 from by rw [g1]) (Ok.nt (Ok.sr (Ok.B 2 [(7,.slice J0 (ki xd xn).length W0),(23,.bool (xjoin==43))] kr (Ok.nt (Ok.cw hF (fun hc18 hF=>?_) (fun hc18 hF=>?_)))))))
  ·refine Ok.r (Ok.B 4 [(24,.slice J0 (ki xd xn).length W0),(27,iv (if ((ki xd xn).length:Int)<1 then ((ki xd xn).length:Int) else 1))] kr ?_)
   obtain ⟨h019,h219,hF⟩:=hF
   refine Ok.o (OpOk.cutOwn (e:=.int .i64) (h:=(if ((ki xd xn).length:Int)<1 then ((ki xd xn).length:Int) else 1)) 0 rfl rfl rfl X1 underlying46 kr h019 h219 rfl fun xs19 hL19=>?_)
   refine Ok.B 1 [(7,.slice J0 ((ki xd xn).take (Int.toNat (if ((ki xd xn).length:Int)<1 then ((ki xd xn).length:Int) else 1))).length W0)] kr (Ok.j (Ok.kn (Ok.t ?_)))
   exact fun _ _ u v=>⟨g17,((V1.trans E1).trans W1),J0,W0,((ki xd xn).take (Int.toNat (if ((ki xd xn).length:Int)<1 then ((ki xd xn).length:Int) else 1))),xs19,hL19,fA u v hF⟩
  refine Ok.k (Ok.kn (Ok.t ?_))
  exact fun _ _ u v=>⟨g17,((V1.trans E1).trans W1),J0,W0,ki xd xn,xs17_0,X1,fA u v hF⟩
 clear hF
 rintro _ _ ⟨gj5,hxj5,a0,Z0,d0,D0,hLyown2_0j5,q⟩
 refine jn (fun hF=>?_) _ _ q
 refine Ok.sr (Ok.B 2 [(6,.slice a0 d0.length Z0)] kr (Ok.nt (Ok.ret (Ok.frz 0 rfl hLyown2_0j5 fun g3 hx3 hRf3=>?_))))
 exact Ok.h1 (.slice a0 d0.length Z0) (hxj5.trans hx3) ⟨d0,a0,Z0,rfl,hRf3,rfl,hF⟩
theorem mnx_F (d:DC) (n:Int) (j:Int) (hp:mnxP d n j):mnxF d n j (fun a=>a=mnxS d n j):=by
 obtain ⟨hG,hn,he⟩:=hp
 obtain ⟨i0,i1⟩:=kin_idx hG hn he
 have hkl:((kinS d n).1).length≤200:=kin_len hG hn
 have e1:Ends d.1 42 (par d.1 n.toNat):=by
  have h2:=ends_ok hG (n:=n.toNat) (by have:=hn.1; have:=hn.2; omega)
  rw [show ((n.toNat:Nat):Int)=n by have:=hn.1; omega] at h2
  exact (ends_up (k:=40) h2 hn.1).mono om
 have j9:mnxj9 d n j (fun a=>a=mnxS d n j):=by
  refine ⟨fun hc=>⟨hn.1,by have:=hn.1; have:=hn.2; omega,?_⟩,fun hc=>?_⟩
  ·have loop:∀ (k:Nat) (m:Int) (acc:List Int),Ends d.1 k m→(j==62)=true∧acc=[]∨(j==62)=false→acc.length+k≤1000→mnxS d n j=(if (j==62)=true then (acc++ancN d.1 k m).take 1 else acc++ancN d.1 k m)→mnxl19 d j (fun a=>a=mnxS d n j) (k+1) m acc:=by
    intro k
    induction k with
    | zero =>
     intro m acc hE hj hl hS
     have hE:m<0:=hE
     refine ⟨fun h=>od h,fun _=>?_⟩
     show acc=_
     rw [hS,ancN,List.append_nil]
     rcases hj with ⟨h1,h2⟩ | h1
     ·rw [if_t h1,h2]; rfl
     rw [if_f h1]
    | succ k ih =>
     intro m acc hE hj hl hS
     refine ⟨fun h=>?_,fun h=>?_⟩
     ·rw [ancN,if_t h] at hS
      have h:=of_decide_eq_true h
      refine ⟨by rw [List.length_append,List.length_singleton]; omega,fun hj1=>?_,fun hj1=>?_⟩
      ·show acc++[m]=_
       rcases hj with ⟨-,h2⟩ | h1
       ·rw [hS,if_t hj1,h2]; rfl
       rw [h1] at hj1; cases hj1
      have hm:=ends_in hE om
      rcases hE with hE | hE
      ·omega
      refine ⟨by omega,by omega,ih _ _ hE.2 (.inr hj1) (by rw [List.length_append,List.length_singleton]; omega) ?_⟩
      rw [hS,if_f hj1,if_f hj1,List.append_assoc]; rfl
     rw [ancN,if_f h,List.append_nil] at hS
     show acc=_
     rw [hS]
     rcases hj with ⟨h1,h2⟩ | h1
     ·rw [if_t h1,h2]; rfl
     rw [if_f h1]
   refine ⟨_,loop 42 (par d.1 n.toNat) [] e1 ?_ (by simp) ?_⟩
   ·cases hj:(j==62) with
    | true=>exact .inl ⟨rfl,rfl⟩
    | false=>exact .inr rfl
   unfold mnxS; rw [if_t hc]; rfl
  have hR:irvP ((kinS d n).1.take (kinS d n).2.toNat):=by
   show ((kinS d n).1.take (kinS d n).2.toNat).length≤1000000
   rw [List.length_take]; omega
  have hS:mnxS d n j=if (j==43)=true then ((kinS d n).1.take (kinS d n).2.toNat).reverse.take 1 else ((kinS d n).1.take (kinS d n).2.toNat).reverse:=by
   unfold mnxS; rw [if_f hc]
  rw [hS]
  refine ⟨⟨hG,hn⟩,i0,by omega,hR,fun hj=>?_,fun hj=>?_⟩
  ·rw [if_t hj]
   unfold irvS
   generalize ((kinS d n).1.take (kinS d n).2.toNat).reverse=R
   by_cases h1:((R.length:Nat):Int)<1
   ·rw [if_pos h1]
    refine ⟨by omega,Int.le_refl _,?_⟩
    have:R=[]:=List.eq_nil_of_length_eq_zero om
    subst this; rfl
   rw [if_neg h1]
   exact ⟨by decide,by omega,rfl⟩
  rw [if_f hj]; rfl
 exact ⟨fun _=>j9,fun _=>j9⟩
theorem mnx_c {g:Ghost} {u0:Option Addr} {j0:Nat} (xd:Dc) (xn:Int) (xjoin:Int) (y0:Rep g yNs [.slice u0 xd.1.length j0] xd.1)  (hp:mnxP xd xn xjoin):CallsH prog 73 #[.agg (aD xd u0 j0),iv xn,.int .u8 xjoin] g [] (fun g' H' v=>∃ (k1:Option Addr) (y1:Nat),v=.slice k1 (mnxS xd xn xjoin).length y1∧Rep g' (.slice (.int .i64)) [.slice k1 (mnxS xd xn xjoin).length y1] (mnxS xd xn xjoin)∧H'=[]) :=
 (mnx_ok xd xn xjoin y0 _ (mnx_F xd xn xjoin hp)).mono (by rintro g' H' v _ ⟨r0,k1,y1,rfl,hRr0_0,rfl,hK⟩; subst hK; exact ⟨k1,y1,rfl,hRr0_0,rfl⟩)
/-! attributes -/
def attS:List (Bs×Bs)→Bs→Bs×Bool
 | [],_=>([],false)
 | a::l,n=>if (a.1==n)=true then (a.2,true) else attS l n
def matji10 (xx:Nd) (K:Bs→Bool→Prop) (e0:Int):Prop :=
 (decide (e0<0)=true→K ([]:Bs) false)∧(decide (e0<0)=false→0≤e0∧e0.toNat<xx.2.2.1.length∧K (xx.2.2.1.getD e0.toNat default).2 true)
def matl7x1b (xx:Nd) (xname:Bs) (K:Bs→Bool→Prop) (b0:Int) (C7x1:Int→Prop):Prop :=
 ((decide (b0<(xx.2.2.1.length:Int)))=true→0≤b0∧b0.toNat<xx.2.2.1.length∧(((xx.2.2.1.getD b0.toNat default).1==xname)=true→matji10 xx K b0)∧(((xx.2.2.1.getD b0.toNat default).1==xname)=false→C7x1 (w6 (b0+1))))∧((decide (b0<(xx.2.2.1.length:Int)))=false→matji10 xx K (-1))
def matl7x1 (xx:Nd) (xname:Bs) (K:Bs→Bool→Prop):Nat→Int→Prop
 | 0,_=>False
 | k+1,b0=>matl7x1b xx xname K b0 (matl7x1 xx xname K k)
def matF (xx:Nd) (xname:Bs) (K:Bs→Bool→Prop):Prop :=
 ∃ k,matl7x1 xx xname K k 0
theorem mat_ok {g:Ghost} {n0:Option Addr} {o0:Nat} {E0:Option Addr} {F0:Nat} (xx:Nd) (xname:Bs) (j1:Rep g (.slice yA) [.slice n0 xx.2.2.1.length o0] xx.2.2.1) (S1:Rep g (.slice (.int .i64)) [.slice E0 xx.2.2.2.2.2.length F0] xx.2.2.2.2.2) (K:Bs→Bool→Prop)
  (hF:matF xx xname K):CallsH prog 112 #[.agg (aN xx n0 o0 E0 F0),sv xname] g [] (fun g' H' v=>∃ (r0:Bs),∃ (r1:Bool),v=.tuple #[sv r0,.bool r1]∧H'=[]∧K r0 r1):=by
 refine CallsH.en 19 func112 rfl fun w0=>?_
 refine Ok.sr (Ok.o (OpOk.bx (aN xx n0 o0 E0 F0) fun bs2=>?_))
 refine Ok.o (OpOk.box (v:=sv xname) (cs:=#[sv xname]) rfl kr rfl fun bs3=>?_)
 refine Ok.B 2 [(2,pv bs2 0),(3,pv bs3 0)] kr (Ok.nt (Ok.sr (Ok.rn 3 [.e 1] [2] [(8,.slice n0 xx.2.2.1.length o0),(9,.func (.func 149) #[] #[pv bs3 0])] ?_)))
 refine Ok.o (OpOk.cut (fun a W=>∃ (e0:Int),StA 19 [(2,pv bs2 0),(10,iv e0)] a∧StW w0 [.blk bs2 (.cells (aN xx n0 o0 E0 F0) 48)] g W∧matji10 xx K e0) ?_ ?_)
 ·
  refine OpOk.i (args:=#[.slice n0 xx.2.2.1.length o0,.func (.func 149) #[] #[pv bs3 0]]) 19 [(0,.slice n0 xx.2.2.1.length o0),(1,.func (.func 149) #[] #[pv bs3 0])] enr func102 rfl rfl rfl rfl (Ok.sr (Ok.B 1 [(0,.slice n0 xx.2.2.1.length o0),(1,.func (.func 149) #[] #[pv bs3 0])] kr (Ok.nt (Ok.q (Ok.sr (Ok.b 3 [0,1] [(7,iv (xx.2.2.1.length:Int)),(8,iv 0)] ?_))))))
  refine Ok.nt (Ok.block ?_)
  obtain ⟨k,hF⟩:=hF
  refine Ok.L (fun k a W=>∃ (b0:Int),StA 19 [(0,.slice n0 xx.2.2.1.length o0),(1,.func (.func 149) #[] #[pv bs3 0]),(7,iv (xx.2.2.1.length:Int)),(8,iv b0)] a∧StW w0 [.blk bs3 (.cells #[sv xname] 9),.blk bs2 (.cells (aN xx n0 o0 E0 F0) 48)] g W∧matl7x1 xx xname K k b0) k ?_ ?_
  ·
   exact fun _ _ u v=>⟨0,fA u v hF⟩
  clear hF
  rintro (_ | k7x1) _ _ ⟨b0,q⟩
  exact (q.2.2:False).elim
  refine jn (fun hF=>?_) _ _ q
  refine Ok.sr (Ok.b 1 [0,1,7,8] [(9,.bool (decide (b0<(xx.2.2.1.length:Int))))] ?_)
  refine Ok.nt (Ok.q (Ok.cw hF (fun hc6 hF=>?_) (fun hc6 hF=>?_)))
  ·refine Ok.k (Ok.t (Ok.q (Ok.block (Ok.sr (Ok.b 2 [0,1,7,8] [(5,iv b0)] ?_)))))
   refine Ok.nt (Ok.sr (Ok.b 3 [0,1,5,7,8] [(11,.func (.func 149) #[] #[pv bs3 0]),(12,.slice n0 xx.2.2.1.length o0),(13,iv b0)] ?_))
   obtain ⟨h08,h18,hF⟩:=hF
   have he8:=get_of (l:=xx.2.2.1) default h18
   generalize hg8:(xx.2.2.1.getD b0.toNat default)=e8 at he8 hF ⊢
   refine Ok.o (OpOk.indexRo (e:=.pair (.str) (.str)) rfl rfl underlying45 kr j1 h08 he8 rfl fun q7 o7 cs7 _ y2 hr7=>?_)
   obtain ⟨_,_,rfl,rfl,rfl⟩:=hr7
   replace y2:At g q7 o7 [sv e8.1,sv e8.2]:=y2
   refine Ok.o (OpOk.s (v:=.agg #[sv e8.1,sv e8.2]) (Yields.loadAggRo 0 2 #[sv e8.1,sv e8.2] y2 kr underlying105 rfl kr kr kr) rfl rfl (Ok.o (OpOk.i (args:=#[.agg #[sv e8.1,sv e8.2],pv bs3 0]) 8 [(0,.agg #[sv e8.1,sv e8.2]),(1,pv bs3 0)] enr func149 rfl rfl rfl rfl (Ok.sr (Ok.o (OpOk.bx #[sv e8.1,sv e8.2] fun bs2i10i16=>?_))))))
   refine Ok.B 1 [(1,pv bs3 0),(2,pv bs2i10i16 0)] kr (Ok.nt (Ok.sr (Ok.rn 5 [.e 0,.e 1] [] [(3,.bool (e8.1==xname))] ?_)))
   refine Ok.nt (Ok.ret (Ok.back (vs:=[.bool (e8.1==xname)]) (.inl rfl) rfl (.cons (.tmp rfl) .nil) rfl (Ok.nt (Ok.cn hF rfl (fun u1=>?_) (fun u1=>?_)))))
   ·replace hF:=hF.1 u1
    refine Ok.sr (Ok.B 2 [(4,iv b0)] kr (Ok.nt (Ok.ret (Ok.kr (Ok.tr (Ok.tr (Ok.kr (Ok.tr (Ok.back (vs:=[iv b0]) (.inl rfl) rfl (.cons (.tmp rfl) .nil) rfl ?_)))))))))
    subst hg8
    exact fun _ _ u v=>⟨b0,fA u v hF⟩
   replace hF:=hF.2 u1
   refine Ok.k (Ok.kn (Ok.t (Ok.r (Ok.B 2 [(0,.slice n0 xx.2.2.1.length o0),(1,.func (.func 149) #[] #[pv bs3 0]),(7,iv (xx.2.2.1.length:Int)),(8,iv (w6 (b0+1)))] kr (Ok.j (Ok.t ?_))))))
   subst hg8
   exact fun _ _ u v=>⟨k7x1,nl,w6 (b0+1),fA u v hF⟩
  refine Ok.x (Ok.thenE (Ok.thenE (Ok.blockHit (Ok.t (Ok.sr (Ok.B 1 [(4,iv (-1))] kr (Ok.nt (Ok.ret (Ok.back (vs:=[iv (-1)]) (.inl rfl) rfl (.cons (.tmp rfl) .nil) rfl ?_)))))))))
  exact fun _ _ u v=>⟨-1,fA u v hF⟩
 clear hF
 rintro _ _ ⟨e0,q⟩
 refine jn (fun hF=>?_) _ _ q
 refine Ok.b 1 [2] [(6,iv e0)] ?_
 refine Ok.nt (Ok.q (Ok.sr (Ok.b 2 [2,6] [(12,.bool (decide (e0<0)))] ?_)))
 refine Ok.nt (Ok.cw hF (fun hc3 hF=>?_) (fun hc3 hF=>?_))
 ·refine Ok.sr (Ok.B 2 [(4,sv ([]:Bs)),(5,.bool false)] kr (Ok.nt (Ok.ret (Ok.tr ?_))))
  exact Ok.p (vs:=[sv ([]:Bs),.bool false]) [] [] dc rfl (.inl rfl) rfl (.cons (.tmp rfl) (.cons (.tmp rfl) .nil)) (Gext.r w0 g) ⟨([]:Bs),false,rfl,rfl,hF⟩
 refine Ok.k (Ok.t (Ok.sr (Ok.rn 3 [.e 0] [] [(14,.slice n0 xx.2.2.1.length o0),(15,iv e0)] ?_)))
 obtain ⟨h05,h15,hF⟩:=hF
 have he5:=get_of (l:=xx.2.2.1) default h15
 generalize hg5:(xx.2.2.1.getD e0.toNat default)=e5 at he5 hF ⊢
 refine Ok.o (OpOk.indexRo (e:=.pair (.str) (.str)) rfl rfl underlying45 kr j1 h05 he5 rfl fun q4 o4 cs4 _ u2 hr4=>?_)
 obtain ⟨_,_,rfl,rfl,rfl⟩:=hr4
 replace u2:At g q4 o4 [sv e5.1,sv e5.2]:=u2
 refine Ok.rn 4 [.a 1 u2] [] [(4,sv e5.2),(5,.bool true)] ?_
 refine Ok.nt (Ok.ret ?_)
 exact Ok.p (vs:=[sv e5.2,.bool true]) [] [] dc rfl (.inl rfl) rfl (.cons (.tmp rfl) (.cons (.tmp rfl) .nil)) (Gext.r w0 g) ⟨e5.2,true,rfl,rfl,hF⟩
def matS (x:ND) (n:Bs):Bs×Bool:=attS x.2.2.1 n
def matP (x:ND) (_:Bs):Prop:=x.2.2.1.length≤1000
theorem mat_F (x:ND) (n:Bs) (hp:matP x n):matF x n (fun a b=>(a,b)=matS x n):=by
 have hl:x.2.2.1.length≤1000:=hp
 have loop:∀ (k i:Nat),i+k=x.2.2.1.length→matS x n=attS (x.2.2.1.drop i) n→matl7x1 x n (fun a b=>(a,b)=matS x n) (k+1) (i:Int):=by
  intro k
  induction k with
  | zero =>
   intro i h h2
   rw [List.drop_of_length_le om,attS] at h2
   exact ⟨fun hc=>od hc,fun _=>⟨fun _=>h2.symm,fun hc=>absurd hc dc⟩⟩
  | succ k ih =>
   intro i h h2
   rw [drop_get (l:=x.2.2.1) default om,attS] at h2
   refine ⟨fun _=>⟨by omega,by omega,fun hc=>?_,fun hc=>?_⟩,fun hc=>oe hc⟩
   ·rw [tnc] at hc
    rw [if_t hc] at h2
    refine ⟨fun hc=>od hc,fun _=>⟨by omega,by omega,?_⟩⟩
    rw [tnc]
    exact h2.symm
   rw [tnc] at hc
   rw [if_f hc] at h2
   rw [w64 om]
   exact ih (i+1) om h2
 exact ⟨_,loop x.2.2.1.length 0 om rfl⟩
theorem mat_c {g:Ghost} {n0:Option Addr} {o0:Nat} {E0:Option Addr} {F0:Nat} (xx:Nd) (xname:Bs) (j1:Rep g (.slice yA) [.slice n0 xx.2.2.1.length o0] xx.2.2.1) (S1:Rep g (.slice (.int .i64)) [.slice E0 xx.2.2.2.2.2.length F0] xx.2.2.2.2.2)  (hp:matP xx xname):CallsG prog 112 #[.agg (aN xx n0 o0 E0 F0),sv xname] g (.tuple #[sv ((matS xx xname).1),.bool (matS xx xname).2]) :=
 (mat_ok xx xname j1 S1 _ (mat_F xx xname hp)).gives (by rintro g' H' v _ ⟨r0,r1,rfl,rfl,hK⟩; obtain ⟨rfl,rfl⟩:r0=(matS xx xname).1∧r1=(matS xx xname).2:=⟨congrArg (fun z=>z.1) hK,congrArg (fun z=>z.2) hK⟩; rfl)
/-! empty -/
def fulB (d:DC) (k:Int):Bool:=melS d k||((d.1.getD k.toNat default).1==3&&!((d.1.getD k.toNat default).2.2.2.1==[]))
def memS (d:DC) (n:Int):Bool:=!((kidsOf d.1 n.toNat).any (fulB d))
def memV0 (xd:Dc) (e6:Int):Bool :=
 (melS xd e6||(((xd.1.getD e6.toNat default).1==3)&&(!((xd.1.getD e6.toNat default).2.2.2.1==([]:Bs)))))
def memji14 (K:Bool→Prop) (X0:Int):Prop :=
 K (!(decide (X0≥0)))
def memj3i12i7i16 (xd:Dc) (K:Bool→Prop) (e6:Int) (q0:Int) (C7x1:Int→Prop):Prop :=
 (memV0 xd e6=true→memji14 K q0)∧(memV0 xd e6=false→C7x1 (w6 (q0+1)))
def meml7x1b (xd:Dc) (K:Bool→Prop) (e3:Nd) (q0:Int) (C7x1:Int→Prop):Prop :=
 ((decide (q0<(e3.2.2.2.2.2.length:Int)))=true→0≤q0∧q0.toNat<e3.2.2.2.2.2.length∧melP xd (e3.2.2.2.2.2.getD q0.toNat default)∧((melS xd (e3.2.2.2.2.2.getD q0.toNat default))=true→memj3i12i7i16 xd K (e3.2.2.2.2.2.getD q0.toNat default) q0 C7x1)∧((melS xd (e3.2.2.2.2.2.getD q0.toNat default))=false→0≤e3.2.2.2.2.2.getD q0.toNat default∧Int.toNat (e3.2.2.2.2.2.getD q0.toNat default)<xd.1.length∧(((xd.1.getD (Int.toNat (e3.2.2.2.2.2.getD q0.toNat default)) default).1==3)=true→memj3i12i7i16 xd K (e3.2.2.2.2.2.getD q0.toNat default) q0 C7x1)∧(((xd.1.getD (Int.toNat (e3.2.2.2.2.2.getD q0.toNat default)) default).1==3)=false→memj3i12i7i16 xd K (e3.2.2.2.2.2.getD q0.toNat default) q0 C7x1)))∧((decide (q0<(e3.2.2.2.2.2.length:Int)))=false→memji14 K (-1))
def meml7x1 (xd:Dc) (K:Bool→Prop) (e3:Nd):Nat→Int→Prop
 | 0,_=>False
 | k+1,q0=>meml7x1b xd K e3 q0 (meml7x1 xd K e3 k)
def memF (xd:Dc) (xn:Int) (K:Bool→Prop):Prop :=
 0≤xn∧xn.toNat<xd.1.length∧∃ k,meml7x1 xd K (xd.1.getD xn.toNat default) k 0
theorem mem_ok {g:Ghost} {u0:Option Addr} {j0:Nat} (xd:Dc) (xn:Int) (y0:Rep g yNs [.slice u0 xd.1.length j0] xd.1) (K:Bool→Prop)
  (hF:memF xd xn K):CallsH prog 115 #[.agg (aD xd u0 j0),iv xn] g [] (fun g' H' v=>∃ (r0:Bool),v=.bool r0∧H'=[]∧K r0):=by
 refine CallsH.en 14 func115 rfl fun w0=>?_
 refine Ok.sr (Ok.o (OpOk.bx (aD xd u0 j0) fun bs2=>?_))
 refine Ok.B 1 [(1,iv xn),(2,pv bs2 0)] kr (Ok.nt (Ok.sr (Ok.rn 3 [.e 0] [2] [(6,.slice u0 xd.1.length j0),(7,iv xn)] ?_)))
 obtain ⟨h03,h13,hF⟩:=hF
 have he3:=get_of (l:=xd.1) default h13
 generalize hg3:(xd.1.getD xn.toNat default)=e3 at he3 hF ⊢
 refine Ok.o (OpOk.indexRo (e:=yN) rfl rfl underlying22 kr y0 h03 he3 rfl fun q2 o2 cs2 _ Q1 hr2=>?_)
 obtain ⟨x2,s2,N0,O0,rfl,F1,K1⟩:=oN hr2
 refine Ok.rn 3 [.a 5 Q1] [] [(10,.slice N0 e3.2.2.2.2.2.length O0),(11,.func (.func 157) #[] #[pv bs2 0])] ?_
 refine Ok.o (OpOk.i (args:=#[.slice N0 e3.2.2.2.2.2.length O0,.func (.func 157) #[] #[pv bs2 0]]) 9 [(0,.slice N0 e3.2.2.2.2.2.length O0),(1,.func (.func 157) #[] #[pv bs2 0])] enr func156 rfl rfl rfl rfl (Ok.sr (Ok.B 1 [(0,.slice N0 e3.2.2.2.2.2.length O0),(1,.func (.func 157) #[] #[pv bs2 0])] kr (Ok.nt (Ok.sr (Ok.B 2 [(5,.slice N0 e3.2.2.2.2.2.length O0),(6,.func (.func 157) #[] #[pv bs2 0])] kr (Ok.o (OpOk.cut (fun a W=>∃ (X0:Int),StA 9 [(7,iv X0)] a∧StW w0 [] g W∧memji14 K X0) ?_ ?_))))))))
 ·
  refine OpOk.i (args:=#[.slice N0 e3.2.2.2.2.2.length O0,.func (.func 157) #[] #[pv bs2 0]]) 19 [(0,.slice N0 e3.2.2.2.2.2.length O0),(1,.func (.func 157) #[] #[pv bs2 0])] enr func110 rfl rfl rfl rfl (Ok.sr (Ok.B 1 [(0,.slice N0 e3.2.2.2.2.2.length O0),(1,.func (.func 157) #[] #[pv bs2 0])] kr (Ok.nt (Ok.q (Ok.sr (Ok.b 3 [0,1] [(7,iv (e3.2.2.2.2.2.length:Int)),(8,iv 0)] ?_))))))
  refine Ok.nt (Ok.block ?_)
  obtain ⟨k,hF⟩:=hF
  refine Ok.L (fun k a W=>∃ (q0:Int),StA 19 [(0,.slice N0 e3.2.2.2.2.2.length O0),(1,.func (.func 157) #[] #[pv bs2 0]),(7,iv (e3.2.2.2.2.2.length:Int)),(8,iv q0)] a∧StW w0 [.blk bs2 (.cells (aD xd u0 j0) 24)] g W∧meml7x1 xd K e3 k q0) k ?_ ?_
  ·
   exact fun _ _ u v=>⟨0,fA u v hF⟩
  clear hF
  rintro (_ | k7x1) _ _ ⟨q0,q⟩
  exact (q.2.2:False).elim
  refine jn (fun hF=>?_) _ _ q
  refine Ok.sr (Ok.b 1 [0,1,7,8] [(9,.bool (decide (q0<(e3.2.2.2.2.2.length:Int))))] ?_)
  refine Ok.nt (Ok.q (Ok.cw hF (fun hc4 hF=>?_) (fun hc4 hF=>?_)))
  ·refine Ok.k (Ok.t (Ok.q (Ok.block (Ok.sr (Ok.b 2 [0,1,7,8] [(5,iv q0)] ?_)))))
   refine Ok.nt (Ok.sr (Ok.b 3 [0,1,5,7,8] [(11,.func (.func 157) #[] #[pv bs2 0]),(12,.slice N0 e3.2.2.2.2.2.length O0),(13,iv q0)] ?_))
   obtain ⟨h06,h16,hF⟩:=hF
   have he6:=get_of (l:=e3.2.2.2.2.2) default h16
   generalize hg6:(e3.2.2.2.2.2.getD q0.toNat default)=e6 at he6 hF ⊢
   refine Ok.o (OpOk.indexRo (e:=.int .i64) rfl rfl underlying46 kr K1 h06 he6 rfl fun q5 o5 cs5 _ J1 hr5=>?_)
   obtain rfl:=hr5
   replace J1:At g q5 o5 [iv e6]:=J1
   refine Ok.o (OpOk.s (v:=iv e6) (Yields.lr 0 J1 kr underlying3 rfl kr) rfl rfl (Ok.o (OpOk.i (args:=#[iv e6,pv bs2 0]) 25 [(0,iv e6),(1,pv bs2 0)] enr func157 rfl rfl rfl rfl (Ok.sr (Ok.B 1 [(0,iv e6),(1,pv bs2 0)] kr (Ok.nt (Ok.cut (fun a W=>StA 25 [(3,.bool (memV0 xd e6))] a∧StW w0 [.blk bs2 (.cells (aD xd u0 j0) 24)] g W∧memj3i12i7i16 xd K e6 q0 (meml7x1 xd K e3 k7x1)) ?_ ?_)))))))
   ·
    refine Ok.r ?_
    obtain ⟨hp8,hF⟩:=hF
    refine Ok.rn 4 [.e 0,.k (mel_c xd e6 y0 hp8)] [0,1] [(7,.bool (melS xd e6))] ?_
    refine Ok.bw 7 hF (fun hc9 hF=>?_) (fun hc9 hF=>?_)
    ·refine Ok.B 18 [(3,.bool true)] kr (Ok.nt (Ok.rb 3 (memV0 xd e6) (mor_t hc9) ?_))
     exact fz hF
    refine Ok.rn 3 [.e 0] [0,1] [(7,.bool false),(9,.slice u0 xd.1.length j0),(10,iv e6)] ?_
    obtain ⟨p2,h111,hF⟩:=hF
    have j2:=get_of (l:=xd.1) default h111
    generalize r2:(xd.1.getD e6.toNat default)=e11 at j2 hF ⊢
    refine Ok.oy (OpOk.indexRo (e:=yN) rfl rfl underlying22 kr y0 p2 j2 rfl fun q10 o10 cs10 _ hat10 hr10=>?_)
    obtain ⟨a10_2,c10_2,a10_5,c10_5,rfl,hR10_2,hR10_5⟩:=oN hr10
    refine Ok.rn 4 [.a 0 hat10] [0,1,7] [(15,.bool (e11.1==3))] ?_
    refine Ok.a 15 (e11.1==3) rfl (fun B1=>?_) (fun B1=>?_)
    ·replace hF:=hF.1 B1
     refine Ok.rn 3 [.e 0] [7] [(15,.bool true),(17,.slice u0 xd.1.length j0),(18,iv e6)] ?_
     refine Ok.oy (OpOk.indexRo (e:=yN) rfl rfl underlying22 kr y0 p2 j2 rfl fun q13 o13 cs13 _ hat13 hr13=>?_)
     obtain ⟨a13_2,c13_2,a13_5,c13_5,rfl,hR13_2,hR13_5⟩:=oN hr13
     refine Ok.rn 6 [.a 3 hat13] [] [(3,.bool (!(e11.2.2.2.1==([]:Bs))))] ?_
     refine Ok.j (Ok.t ?_)
     subst r2
     refine Ok.rb 3 (memV0 xd e6) (Eq.trans (mand_t B1) (mor_f hc9)) ?_
     exact fz hF
    replace hF:=hF.2 B1
    refine Ok.B 10 [(3,.bool false)] kr (Ok.j (Ok.t ?_))
    subst r2
    refine Ok.rb 3 (memV0 xd e6) (Eq.trans (mand_f B1) (mor_f hc9)) ?_
    exact fz hF
   clear hF
   refine jn fun hF=>?_
   refine Ok.ret (Ok.back (vs:=[.bool (memV0 xd e6)]) (.inl rfl) rfl (.cons (.tmp rfl) .nil) rfl (Ok.nt (Ok.cn hF rfl (fun hc7=>?_) (fun hc7=>?_))))
   ·replace hF:=hF.1 hc7
    refine Ok.sr (Ok.B 2 [(4,iv q0)] kr (Ok.nt (Ok.ret (Ok.kr (Ok.tr (Ok.tr (Ok.kr (Ok.tr (Ok.back (vs:=[iv q0]) (.inl rfl) rfl (.cons (.tmp rfl) .nil) rfl ?_)))))))))
    subst hg6
    exact fun _ _ u v=>⟨q0,fA u v hF⟩
   replace hF:=hF.2 hc7
   refine Ok.k (Ok.kn (Ok.t (Ok.r (Ok.B 2 [(0,.slice N0 e3.2.2.2.2.2.length O0),(1,.func (.func 157) #[] #[pv bs2 0]),(7,iv (e3.2.2.2.2.2.length:Int)),(8,iv (w6 (q0+1)))] kr (Ok.j (Ok.t ?_))))))
   subst hg6
   exact fun _ _ u v=>⟨k7x1,nl,w6 (q0+1),fA u v hF⟩
  refine Ok.x (Ok.thenE (Ok.thenE (Ok.blockHit (Ok.t (Ok.sr (Ok.B 1 [(4,iv (-1))] kr (Ok.nt (Ok.ret (Ok.back (vs:=[iv (-1)]) (.inl rfl) rfl (.cons (.tmp rfl) .nil) rfl ?_)))))))))
  exact fun _ _ u v=>⟨-1,fA u v hF⟩
 clear hF
 rintro _ _ ⟨X0,q⟩
 refine jn (fun hF=>?_) _ _ q
 refine Ok.B 2 [(4,.bool (decide (X0≥0)))] kr (Ok.nt (Ok.ret (Ok.back (vs:=[.bool (decide (X0≥0))]) (.inl rfl) rfl (.cons (.tmp rfl) .nil) rfl (Ok.B 2 [(4,.bool (!(decide (X0≥0))))] kr (Ok.nt (Ok.ret ?_))))))
 exact Ok.pb (!(decide (X0≥0))) hF
theorem mem_F (d:DC) (n:Int) (hp:kinP d n):memF d n (fun a=>a=memS d n):=by
 obtain ⟨hG,h0,h1⟩:=hp
 have hkl:=kids_len hG (i:=n.toNat) om
 have hin:=fun x hx=>hG.kids.kid n.toNat om x hx
 have hS:memS d n = !((kidsOf d.1 n.toNat).any (fulB d)):=rfl
 rw [hS]
 generalize hl:kidsOf d.1 n.toNat=l at hkl hin
 have he:(d.1.getD n.toNat default).2.2.2.2.2=l:=hl
 refine ⟨h0,by omega,?_⟩
 have loop:∀ (k i:Nat),i+k=l.length→l.any (fulB d)=(l.drop i).any (fulB d)→meml7x1 d (fun a=>a = !(l.any (fulB d))) (d.1.getD n.toNat default) (k+1) (i:Int):=by
  intro k
  induction k with
  | zero =>
   intro i h h2
   rw [List.drop_of_length_le om] at h2
   rw [meml7x1]
   unfold meml7x1b
   rw [he]
   refine ⟨fun hc=>od hc,fun _=>?_⟩
   show (!(decide ((-1:Int)≥0)))=_
   rw [h2]; rfl
  | succ k ih =>
   intro i h h2
   have hx:=hin (l.getD i default) (mem_getD default om)
   rw [drop_get (l:=l) default om,List.any_cons] at h2
   rw [meml7x1]
   unfold meml7x1b
   rw [he,tnc]
   have j16:memj3i12i7i16 d (fun a=>a = !(l.any (fulB d))) (l.getD i default) (i:Int) (meml7x1 d (fun a=>a = !(l.any (fulB d))) (d.1.getD n.toNat default) (k+1)):=by
    refine ⟨fun hc=>?_,fun hc=>?_⟩
    ·have hc:fulB d (l.getD i default)=true:=hc
     rw [hc,Bool.true_or] at h2
     show (!(decide ((i:Int)≥0)))=_
     rw [h2,decide_eq_true om]
    have hc:fulB d (l.getD i default)=false:=hc
    rw [hc,Bool.false_or] at h2
    rw [w64 om,show (i:Int)+1=((i+1:Nat):Int) by omega]
    exact ih (i+1) om h2
   exact ⟨fun _=>⟨by omega,by omega,⟨by omega,by omega⟩,fun _=>j16,fun _=>⟨by omega,by omega,fun _=>j16,fun _=>j16⟩⟩,fun hc=>oe hc⟩
 exact ⟨_,loop l.length 0 om rfl⟩
theorem mem_c {g:Ghost} {u0:Option Addr} {j0:Nat} (xd:Dc) (xn:Int) (y0:Rep g yNs [.slice u0 xd.1.length j0] xd.1)  (hp:kinP xd xn):CallsG prog 115 #[.agg (aD xd u0 j0),iv xn] g (.bool (memS xd xn)) :=
 (mem_ok xd xn y0 _ (mem_F xd xn hp)).gv
end
end Go.Proofs.YtdapgmigogpdcaaGreatDoor.Ma
