/- The document's reader of scripts beside the program's: steps, plain. -/
import Derived.Test.YtalnampdiegmoaaDoorRtb
import Derived.Test.YtalnampdiegmoaaDoorPsj
import Derived.Test.YtalnampdiegmoaaDoorRtc
namespace Go.Proofs.YtalnampdiegmoaaDoor.Rf
open Go Go.Eng Go.RowKit Ps
set_option linter.unusedVariables false
noncomputable section
theorem dp_len {p:PS} (hp:psP p):(dp p).length=p.1.length - p.2.1.toNat:=by
 unfold dp; rw [List.length_drop]
theorem dp_cons {p:PS} (hp:psP p) (h:p.2.1<p.1.length):dp p=ppkS p::dp (onS p):=by
 have h0:=hp.1
 unfold dp ppkS onS
 rw [List.drop_eq_getElem_cons (show p.2.1.toNat<p.1.length by omega),List.getD_eq_getElem?_getD,List.getElem?_eq_getElem (by omega)]
 have e:(p.2.1+1).toNat=p.2.1.toNat+1:=by omega
 show _=_::p.1.drop (p.2.1+1).toNat
 rw [e]; rfl
theorem dp_nil {p:PS} (hp:psP p) (h:¬ p.2.1<p.1.length):dp p=[]:=by
 have h0:=hp.1
 unfold dp; exact List.drop_eq_nil_of_le (by omega)
theorem pk_zero {p:PS} (hp:psP p) (h:¬ p.2.1<p.1.length):ppkS p=(0,0,0,[],0):=by
 have h0:=hp.1
 unfold ppkS
 rw [List.getD_eq_getElem?_getD,List.getElem?_eq_none (by omega)]; rfl
theorem hd_dp {p:PS} (hp:psP p) {t:TT} (h:t.1=dp p):hdT t=ppkS p:=by
 unfold hdT
 rw [h]
 by_cases hl:p.2.1<p.1.length
 ·rw [dp_cons hp hl]; rfl
 rw [dp_nil hp hl,pk_zero hp hl]; rfl
theorem pk_mem {p:PS} (hp:psP p) (hl:p.2.1<p.1.length):ppkS p ∈ p.1:=by
 have h0:=hp.1
 unfold ppkS
 rw [List.getD_eq_getElem?_getD,List.getElem?_eq_getElem (by omega)]
 exact List.getElem_mem ..
theorem pk_kind {p:PS} (hp:psP p) (ht:tkP p) (hl:p.2.1<p.1.length):1≤(ppkS p).1∧(ppkS p).1≤5:=by
 have:=ht _ (pk_mem hp hl)
 exact ⟨this.1,this.2.1⟩
theorem pk_le {p:PS} (hp:psP p) (ht:tkP p):(ppkS p).1≤5:=by
 by_cases hl:p.2.1<p.1.length
 ·exact (pk_kind hp ht hl).2
 rw [pk_zero hp hl]; decide
theorem wd_is {p:PS} (hp:psP p) (ht:tkP p) {t:TT} (h:t.1=dp p) {s:Bs} (hs:s≠[]):(rwdS t==s)=isB p s:=by
 have hk:=pk_le hp ht
 unfold rwdS isB
 rw [hd_dp hp h]
 by_cases h4:(ppkS p).1≥4
 ·rw [if_pos (decide_eq_true h4)]
  have:((ppkS p).1==4||(ppkS p).1==5)=true:=by
   rcases (by omega:(ppkS p).1=4∨(ppkS p).1=5) with e | e <;> rw [e] <;> rfl
  rw [this,Bool.true_and]
 rw [if_neg (by rw [decide_eq_false h4]; decide)]
 have:((ppkS p).1==4||(ppkS p).1==5)=false:=by
  rw [Bool.or_eq_false_iff]
  exact ⟨beq_false_of_ne (by omega),beq_false_of_ne (by omega)⟩
 rw [this,Bool.false_and]
 exact beq_false_of_ne (fun e=>hs e.symm)
theorem hit_is {p:PS} (hp:psP p) (ht:tkP p) {t:TT} (h:t.1=dp p) (hb:t.2=false) {s:Bs} (hs:s≠[]):hitB t s=isB p s:=by
 unfold hitB; rw [wd_is hp ht h hs,hb]; simp
theorem hit_bad {t:TT} (hb:t.2=true) (s:Bs):hitB t s=false:=by
 unfold hitB; rw [hb]; simp
theorem tl_dp {p:PS} (hp:psP p) {t:TT} (h:t.1=dp p) (hb:t.2=false) (hl:p.2.1<p.1.length):tlT t=(dp (onS p),false):=by
 unfold tlT
 rw [h,hb,dp_cons hp hl]; rfl
/-- one word that is looked for -/
theorem wa_one (t:TT) (s:Bs):waS t [s]=if hitB t s=true then (0,tlT t) else (-1,t):=by
 rw [waS_eq]; rfl
theorem ne_one (t:TT) (s:Bs):neS t [s]=if hitB t s=true then tlT t else (t.1,true):=by
 rw [neS_eq]
 show ne1 t s=_
 unfold ne1
 rw [wa_one]
 split
 ·rfl
 rfl
theorem ne_two (t:TT) (s u:Bs):neS t [s,u]=neS (neS t [s]) [u]:=by rw [neS_eq]; rfl
theorem tl_len (t:TT):(tlT t).1.length≤t.1.length:=by unfold tlT; simp
theorem tl_lt {t:TT} {s:Bs} (hs:s≠[]) (h:hitB t s=true):(tlT t).1.length+1≤t.1.length:=by
 obtain ⟨x,l,rfl⟩:=hit_len hs h
 simp [tlT]
theorem ne_len (t:TT) (s:Bs):(neS t [s]).1.length≤t.1.length:=by
 rw [ne_one]; split
 ·exact tl_len t
 exact Nat.le_refl _
theorem ne_lt {t:TT} {s:Bs} (hs:s≠[]) (h:(neS t [s]).2=false):(neS t [s]).1.length+1≤t.1.length:=by
 rw [ne_one] at h ⊢
 split
 ·rename_i h1; exact tl_lt hs h1
 rename_i h1; rw [if_neg h1] at h; cases h
theorem nm_len (t:TT):(rnmS t).2.1.length≤t.1.length:=by
 rw [rnmS_eq]
 obtain ⟨l,b⟩:=t
 cases l with
 | nil=>exact Nat.le_refl _
 | cons x l=>cases b <;> simp [rnmS0,rpaS]
theorem pa_len (t:TT):(rpaS t).2.1.length≤t.1.length:=by
 obtain ⟨l,b⟩:=t
 cases l with
 | nil=>exact Nat.le_refl _
 | cons x l=>cases b <;> simp [rpaS]
theorem wa1 (t:TT) {s:Bs} (hs:s≠[]):waP t [s]:=⟨fun w hw=>by rcases List.mem_singleton.1 hw with rfl; exact hs,by simp⟩
/-- where the program's reader is -/
structure Cx (fl:Bool×Bool→Prop) (n:Nat) (t:TT) (M:Nat) (q:PS):Prop where
 ps:psP q
 tk:tkP q
 fl:fl q.2.2
 dp:t.1=dp q
 fu:n<M+1
/-- both readers are at one place, or what is read is bad -/
structure Inv (fl:Bool×Bool→Prop) (f:Nat→PS→RJ) (c:Nat) (t0 t:TT) (k:Nat→PS→RJ):Prop where
 bad:t0.2=true→t.2=true
 good:t0.2=false→∀ M p,okP c (M+1) p→tkP p→fl p.2.2→t0.1=dp p→(t.2=true∧f (M+1) p=none)∨(t.2=false∧∃ q,Lev p q∧t.1=dp q∧f (M+1) p=k M q)
section
variable {fl:Bool×Bool→Prop} {f:Nat→PS→RJ} {c:Nat} {t0 t:TT} {k:Nat→PS→RJ}
theorem Inv.start (h:t.2=false→∀ M q,Cx fl (40 * t.1.length+c) t M q→f (M+1) q=k M q):Inv fl f c t t k:=⟨id,fun hb M p hp ht hf hd=>.inr ⟨hb,p,Lev.refl hp.1,hd,h hb M p ⟨hp.1,ht,hf,hd,by rw [hd,dp_len hp.1]; exact hp.2⟩⟩⟩
theorem Inv.step {t':TT} {k':Nat→PS→RJ} (h:Inv fl f c t0 t k) (hb:t.2=true→t'.2=true)
  (hg:t.2=false→∀ M q,Cx fl (40 * t0.1.length+c) t M q→(t'.2=true∧k M q=none)∨(t'.2=false∧∃ q',Lev q q'∧t'.1=dp q'∧k M q=k' M q')):Inv fl f c t0 t' k' :=
 ⟨fun hx=>hb (h.bad hx),fun hx M p hp ht hf hd=>by
  rcases h.good hx M p hp ht hf hd with ⟨h1,h2⟩ | ⟨h1,q,h2,h3,h4⟩
  ·exact .inl ⟨hb h1,h2⟩
  rcases hg h1 M q ⟨h2.ok hp.1,by unfold tkP; rw [h2.1]; exact ht,by rw [h2.2.2.2]; exact hf,h3,by rw [hd,dp_len hp.1]; exact hp.2⟩ with ⟨h5,h6⟩ | ⟨h5,q',h6,h7,h8⟩
  ·exact .inl ⟨h5,h4.trans h6⟩
  exact .inr ⟨h5,q',h2.trans h6,h7,h4.trans h8⟩⟩
theorem Inv.fin (h:Inv fl f c t0 t k) (n:JN) (hl:t.1.length≤t0.1.length) (hs:t.2=false→t.1.length+1≤t0.1.length) (hk:t.2=false→∀ M q,Cx fl (40 * t0.1.length+c) t M q→k M q=some (n,q)):Rl fl f c t0 (n,t) :=
 ⟨hl,hs,h.bad,fun hx M p hp ht hf hd=>by
  cases M with
  | zero=>exact absurd hp.2 (Nat.not_lt_zero _)
  | succ M =>
   rcases h.good hx M p hp ht hf hd with ⟨h1,h2⟩ | ⟨h1,q,h2,h3,h4⟩
   ·rw [h2]; exact h1
   rw [h4,hk h1 M q ⟨h2.ok hp.1,by unfold tkP; rw [h2.1]; exact ht,by rw [h2.2.2.2]; exact hf,h3,by rw [hd,dp_len hp.1]; exact hp.2⟩]
   show (n,t)=(n,(dp q,false))
   rw [← h3,← h1]⟩
theorem Inv.same {k':Nat→PS→RJ} (h:Inv fl f c t0 t k) (hk:t.2=false→∀ M q,Cx fl (40 * t0.1.length+c) t M q→k M q=k' M q):Inv fl f c t0 t k' :=
 h.step id fun hb M q hc=>.inr ⟨hb,q,Lev.refl hc.ps,hc.dp,hk hb M q hc⟩
theorem Inv.need {s:Bs} {k':Nat→PS→RJ} (h:Inv fl f c t0 t k) (hs:s≠[]) (hk:∀ M q,Cx fl (40 * t0.1.length+c) t M q→k M q=(pmuS q s).bind (k' M)):Inv fl f c t0 (neS t [s]) k' :=
 h.step (fun hb=>by rw [ne_one,if_neg (by rw [hit_bad hb]; decide)]) fun hb M q hc=>by
  rw [ne_one,hk M q hc,hit_is hc.ps hc.tk hc.dp hb hs]
  unfold pmuS
  by_cases hi:isB q s=true
  ·right
   have a:=on_A hc.ps hi
   rw [if_pos hi,if_pos hi,tl_dp hc.ps hc.dp hb (isB_in hc.ps hi)]
   exact ⟨rfl,onS q,a.lev,rfl,rfl⟩
  left
  rw [if_neg hi,if_neg hi]
  exact ⟨rfl,rfl⟩
theorem pa_dp {q:PS} (hq:psP q) (hd:t.1=dp q) (hb:t.2=false):(q.2.1<q.1.length∧rpaS t=(ppkS q,(dp (onS q),false)))∨(ppkS q=(0,0,0,[],0)∧rpaS t=((0,0,0,[],0),([],true))):=by
 obtain ⟨l,b⟩:=t
 have hb:b=false:=hb
 subst hb
 have hd:l=dp q:=hd
 subst hd
 by_cases hl:q.2.1<q.1.length
 ·left; refine ⟨hl,?_⟩; rw [dp_cons hq hl]; rfl
 right; refine ⟨pk_zero hq hl,?_⟩; rw [dp_nil hq hl]; rfl
theorem pa_bad (hb:t.2=true):(rpaS t).1=(0,0,0,[],0)∧(rpaS t).2.2=true:=by
 obtain ⟨l,b⟩:=t
 have hb:b=true:=hb
 subst hb
 cases l <;> exact ⟨rfl,rfl⟩
theorem lev_on {q:PS} (hq:psP q) (hl:q.2.1<q.1.length):Lev q (onS q):=⟨rfl,by show q.2.1≤q.2.1+1; omega,by show q.2.1+1≤_; omega,rfl⟩
theorem Inv.nameOf {k':Bs→Nat→PS→RJ} (h:Inv fl f c t0 t k) (hk:∀ M q,Cx fl (40 * t0.1.length+c) t M q→k M q=(pnmS q).bind fun r=>k' r.1 M r.2):Inv fl f c t0 (rnmS t).2 (k' (rnmS t).1) :=
 h.step (fun hb=>by rw [rnmS_eq]; show (_||(rpaS t).2.2)=true; rw [(pa_bad hb).2]; simp) fun hb M q hc=>by
  rw [hk M q hc,rnmS_eq]
  unfold pnmS rnmS0
  rcases pa_dp hc.ps hc.dp hb with ⟨hl,e⟩ | ⟨hz,e⟩
  ·rw [e]
   by_cases h1:((ppkS q).1==1)=true
   ·right
    rw [if_pos h1]
    have h2:(ppkS q).1=1:=by simpa using h1
    refine ⟨by show ((ppkS q).1 != 1||false)=false; rw [h2]; rfl,onS q,lev_on hc.ps hl,rfl,rfl⟩
   left
   rw [if_neg h1]
   refine ⟨by show ((ppkS q).1 != 1||false)=true; rw [Bool.or_false]; simpa using h1,rfl⟩
  left
  rw [hz,if_neg (by decide),e]
  exact ⟨rfl,rfl⟩
theorem wa_neg {s:Bs} (h:((waS t [s]).1==0)=false):hitB t s=false∧(waS t [s]).2=t:=by
 rw [wa_one] at h ⊢
 split
 ·rename_i h1; rw [if_pos h1] at h; cases h
 rename_i h1; exact ⟨by simpa using h1,rfl⟩
theorem wa_pos {s:Bs} (h:((waS t [s]).1==0)=true):hitB t s=true∧(waS t [s]).2=tlT t:=by
 rw [wa_one] at h ⊢
 split
 ·rename_i h1; exact ⟨h1,rfl⟩
 rename_i h1; rw [if_neg h1] at h; cases h
theorem Inv.hit {s:Bs} {k':Nat→PS→RJ} (h:Inv fl f c t0 t k) (hs:s≠[]) (h1:hitB t s=true) (hk:∀ M q,Cx fl (40 * t0.1.length+c) t M q→isB q s=true→k M q=k' M (onS q)):Inv fl f c t0 (tlT t) k' :=
 h.step (fun hb=>by rw [hit_bad hb] at h1; cases h1) fun hb M q hc=>by
  have hi:=h1
  rw [hit_is hc.ps hc.tk hc.dp hb hs] at hi
  right
  rw [tl_dp hc.ps hc.dp hb (isB_in hc.ps hi)]
  exact ⟨rfl,onS q,(on_A hc.ps hi).lev,rfl,hk M q hc hi⟩
theorem Inv.miss {s:Bs} {k':Nat→PS→RJ} (h:Inv fl f c t0 t k) (hs:s≠[]) (h1:hitB t s=false) (hk:∀ M q,Cx fl (40 * t0.1.length+c) t M q→isB q s=false→k M q=k' M q):Inv fl f c t0 t k' :=
 h.same fun hb M q hc=>hk M q hc (by rw [← hit_is hc.ps hc.tk hc.dp hb hs]; exact h1)
/-- a function of both readers is asked -/
theorem Inv.call {fl':Bool×Bool→Prop} {g:Nat→PS→RJ} {c':Nat} {r:JN×TT} {k':Nat→JN×PS→RJ} (e:Nat→Nat) (h:Inv fl f c t0 t k) (hR:Rl fl' g c' t r) (hf:∀ x,fl x→fl' x) (he:t.2=false→∀ M,40 * t0.1.length+c<M+1→40 * t.1.length+c'<e M)
  (hA:∀ N,PA (g N)) (hk:∀ M q,Cx fl (40 * t0.1.length+c) t M q→k M q=(g (e M) q).bind (k' M)):Inv fl f c t0 r.2 (fun M q=>k' M (r.1,q)) :=
 h.step hR.2.2.1 fun hb M q hc=>by
  have hr:=hR.2.2.2 hb (e M) q ⟨hc.ps,by rw [← dp_len hc.ps,← hc.dp]; exact he hb M hc.fu⟩ hc.tk (hf _ hc.fl) hc.dp
  rw [hk M q hc]
  cases hg:g (e M) q with
  | none=>rw [hg] at hr; exact .inl ⟨hr,rfl⟩
  | some x =>
   rw [hg] at hr
   have hr:r=(x.1,(dp x.2,false)):=hr
   subst hr
   exact .inr ⟨rfl,x.2,(hA _ _ _ hc.ps hg).lev,rfl,rfl⟩
/-- a body is asked -/
theorem Inv.body {w:Int} {b:Bool} {r:JN×TT} {k':Nat→JN×PS→RJ} (e:Nat→Nat) (h:Inv fl f c t0 t k) (hR:Rl (whF w) blN 1 t r) (hf:∀ x,fl x→whF w (x.1||b,!b)) (he:t.2=false→∀ M,40 * t0.1.length+c<M+1→40 * t.1.length+3<e M)
  (hk:∀ M q,Cx fl (40 * t0.1.length+c) t M q→k M q=(boN (e M) q b).bind (k' M)):Inv fl f c t0 r.2 (fun M q=>k' M (r.1,q)) :=
 h.step hR.2.2.1 fun hb M q hc=>by
  have hM:=he hb M hc.fu
  rw [hk M q hc]
  generalize e M=M1 at hM ⊢
  obtain ⟨M1,rfl⟩:∃ M',M1=M'+1:=⟨M1 - 1,by omega⟩
  have hi:psP (inBody b q):=hc.ps
  have hr:=hR.2.2.2 hb M1 (inBody b q) ⟨hi,by rw [← dp_len hi]; show 40 * (dp q).length+1<M1; rw [← hc.dp]; omega⟩ hc.tk (hf _ hc.fl) hc.dp
  show _∨(_∧∃ q',_∧_∧((blN M1 (inBody b q)).bind fun r=>some (r.1,outBody q r.2)).bind (k' M)=_)
  cases hg:blN M1 (inBody b q) with
  | none =>
   rw [hg] at hr
   refine .inl ⟨hr,?_⟩
   show ((blN M1 (inBody b q)).bind fun r=>some (r.1,outBody q r.2)).bind (k' M)=none
   rw [hg]; rfl
  | some x =>
   rw [hg] at hr
   have hr:r=(x.1,(dp x.2,false)):=hr
   subst hr
   have a:=(allA M1).bl _ _ hi hg
   exact .inr ⟨rfl,outBody q x.2,⟨a.1,a.lev.2.1,a.2.2.1,rfl⟩,rfl,rfl⟩
end
theorem loopS_fuel {f:PS→RJ} {e:Bs} (hf:PA f):∀ (k k':Nat) (b:Bool) (acc:List JN) (p:PS),psP p→p.1.length - p.2.1.toNat<k→p.1.length - p.2.1.toNat<k'→loopS f e k b acc p=loopS f e k' b acc p
 | 0,_,_,_,_,_,h,_=>absurd h (Nat.not_lt_zero _)
 | _+1,0,_,_,_,_,_,h=>absurd h (Nat.not_lt_zero _)
 | k+1,k'+1,b,acc,p,hp,h,h'=>by
  show (if _ then _ else _)=(if _ then _ else _)
  by_cases he:isB p e=true
  ·rw [if_pos he,if_pos he]
  rw [if_neg he,if_neg he]
  have hl:∀ p2,(if b=true then some p else pmuS p [44])=some p2→Lev p p2:=fun p2 h2=>by
   split at h2
   ·injection h2 with h2; subst h2; exact Lev.refl hp
   exact (mu_A hp h2).lev
  cases hq:(if b=true then some p else pmuS p [44]) with
  | none=>rfl
  | some p2 =>
   have l2:=hl _ hq
   show (match f p2 with | none=>none | some r=>_)=(match f p2 with | none=>none | some r=>_)
   cases hr:f p2 with
   | none=>rfl
   | some r =>
    have a:=l2.adv (hf _ _ (l2.ok hp) hr)
    have:=a.rem hp
    exact loopS_fuel hf k k' false _ _ (a.ok hp) (by omega) (by omega)
theorem loopS_un {f:PS→RJ} {e:Bs} (hf:PA f) {b:Bool} {acc:List JN} {p:PS} (hp:psP p):loopS f e (fuel p) b acc p=if isB p e=true then some (acc,onS p) else (if b=true then some p else pmuS p [44]).bind fun p2=>(f p2).bind fun r=>loopS f e (fuel r.2) false (acc++[r.1]) r.2:=by
 show (if _ then _ else _)=_
 by_cases he:isB p e=true
 ·rw [if_pos he,if_pos he]
 rw [if_neg he,if_neg he]
 have hl:∀ p2,(if b=true then some p else pmuS p [44])=some p2→Lev p p2:=fun p2 h2=>by
  split at h2
  ·injection h2 with h2; subst h2; exact Lev.refl hp
  exact (mu_A hp h2).lev
 cases hq:(if b=true then some p else pmuS p [44]) with
 | none=>rfl
 | some p2 =>
  have l2:=hl _ hq
  show (match f p2 with | none=>none | some r=>_)=(f p2).bind _
  cases hr:f p2 with
  | none=>rfl
  | some r =>
   have a:=l2.adv (hf _ _ (l2.ok hp) hr)
   have:=a.rem hp
   exact loopS_fuel hf _ _ false _ _ (a.ok hp) (by omega) (by unfold fuel; omega)
theorem loopB_fuel {f:PS→RJ} {e:Bs} (hf:PA f):∀ (k k':Nat) (acc:List JN) (p:PS),psP p→p.1.length - p.2.1.toNat<k→p.1.length - p.2.1.toNat<k'→loopB f e k acc p=loopB f e k' acc p
 | 0,_,_,_,_,h,_=>absurd h (Nat.not_lt_zero _)
 | _+1,0,_,_,_,_,h=>absurd h (Nat.not_lt_zero _)
 | k+1,k'+1,acc,p,hp,h,h'=>by
  show (if _ then _ else _)=(if _ then _ else _)
  by_cases he:isB p e=true
  ·rw [if_pos he,if_pos he]
  rw [if_neg he,if_neg he]
  cases hr:f p with
  | none=>rfl
  | some r =>
   have a:=hf _ _ hp hr
   have:=a.rem hp
   exact loopB_fuel hf k k' _ _ (a.ok hp) (by omega) (by omega)
theorem loopB_un {f:PS→RJ} {e:Bs} (hf:PA f) {acc:List JN} {p:PS} (hp:psP p):loopB f e (fuel p) acc p=if isB p e=true then some (acc,onS p) else (f p).bind fun r=>loopB f e (fuel r.2) (acc++[r.1]) r.2:=by
 show (if _ then _ else _)=_
 by_cases he:isB p e=true
 ·rw [if_pos he,if_pos he]
 rw [if_neg he,if_neg he]
 cases hr:f p with
 | none=>rfl
 | some r =>
  have a:=hf _ _ hp hr
  have:=a.rem hp
  exact loopB_fuel hf _ _ _ _ (a.ok hp) (by omega) (by unfold fuel; omega)
theorem loopR_fuel {f:PS→RJ} {l:List Bs} (hf:PA f):∀ (k k':Nat) (x:JN) (p:PS),psP p→p.1.length - p.2.1.toNat<k→p.1.length - p.2.1.toNat<k'→loopR f l k x p=loopR f l k' x p
 | 0,_,_,_,_,h,_=>absurd h (Nat.not_lt_zero _)
 | _+1,0,_,_,_,_,h=>absurd h (Nat.not_lt_zero _)
 | k+1,k'+1,x,p,hp,h,h'=>by
  show (match sgn p l with | none=>_ | some s=>_)=(match sgn p l with | none=>_ | some s=>_)
  cases hs:sgn p l with
  | none=>rfl
  | some s =>
   have a0:=on_A hp (sgn_some hs).1
   show (match f (onS p) with | none=>_ | some r=>_)=(match f (onS p) with | none=>_ | some r=>_)
   cases hr:f (onS p) with
   | none=>rfl
   | some r =>
    have a:=a0.trans (hf _ _ (a0.ok hp) hr).lev
    have:=a.rem hp
    exact loopR_fuel hf k k' _ _ (a.ok hp) (by omega) (by omega)
theorem loopU_fuel {f:PS→RJ} (hf:PA f):∀ (k k':Nat) (x:JN) (p:PS),psP p→p.1.length - p.2.1.toNat<k→p.1.length - p.2.1.toNat<k'→loopU f k x p=loopU f k' x p
 | 0,_,_,_,_,h,_=>absurd h (Nat.not_lt_zero _)
 | _+1,0,_,_,_,_,h=>absurd h (Nat.not_lt_zero _)
 | k+1,k'+1,x,p,hp,h,h'=>by
  show (if _ then _ else _)=(if _ then _ else _)
  by_cases h1:isB p [40]=true
  ·rw [if_pos h1,if_pos h1]
   have a0:=on_A hp h1
   cases hr:loopS f [41] (fuel p) true [x] (onS p) with
   | none=>rfl
   | some r =>
    have a:=a0.trans (loopS_A hf _ _ _ _ _ (a0.ok hp) hr).lev
    have:=a.rem hp
    exact loopU_fuel hf k k' _ _ (a.ok hp) (by omega) (by omega)
  rw [if_neg h1,if_neg h1]
  by_cases h2:isB p [91]=true
  ·rw [if_pos h2,if_pos h2]
   have a0:=on_A hp h2
   cases hr:((f (onS p)).bind fun r=>(pmuS r.2 [93]).bind fun p=>some (nd 12 0 [] [x,r.1],p)) with
   | none=>rfl
   | some r =>
    obtain ⟨q,hq,hr⟩:=Option.bind_eq_some_iff.1 hr
    obtain ⟨q2,hq2,hr⟩:=Option.bind_eq_some_iff.1 hr
    injection hr with hr
    subst hr
    have a:=a0.trans (hf _ _ (a0.ok hp) hq).lev
    have a:=a.trans (mu_A (a.ok hp) hq2).lev
    have:=a.rem hp
    exact loopU_fuel hf k k' _ q2 (a.ok hp) (by omega) (by omega)
  rw [if_neg h2,if_neg h2]
  by_cases h3:isB p [46]=true
  ·rw [if_pos h3,if_pos h3]
   have a0:=on_A hp h3
   cases hr:pnmS (onS p) with
   | none=>rfl
   | some r =>
    have a:=a0.trans (nm_A (a0.ok hp) hr).1.lev
    have:=a.rem hp
    exact loopU_fuel hf k k' _ _ (a.ok hp) (by omega) (by omega)
  rw [if_neg h3,if_neg h3]
theorem loopU_un {f:PS→RJ} (hf:PA f) {x:JN} {p:PS} (hp:psP p):loopU f (fuel p) x p =
  if isB p [40]=true then (loopS f [41] (fuel (onS p)) true [x] (onS p)).bind fun r=>loopU f (fuel r.2) (nd 11 0 [] r.1) r.2 else
  if isB p [91]=true then (f (onS p)).bind fun r=>(pmuS r.2 [93]).bind fun p=>loopU f (fuel p) (nd 12 0 [] [x,r.1]) p else
  if isB p [46]=true then (pnmS (onS p)).bind fun r=>loopU f (fuel r.2) (nd 13 0 r.1 [x]) r.2 else some (x,p):=by
 show (if _ then _ else _)=_
 by_cases h1:isB p [40]=true
 ·rw [if_pos h1,if_pos h1]
  have a0:=on_A hp h1
  have e:fuel (onS p)=fuel p:=rfl
  rw [e]
  cases hr:loopS f [41] (fuel p) true [x] (onS p) with
  | none=>rfl
  | some r =>
   have a:=a0.trans (loopS_A hf _ _ _ _ _ (a0.ok hp) hr).lev
   have:=a.rem hp
   exact loopU_fuel hf _ _ _ _ (a.ok hp) (by omega) (by unfold fuel; omega)
 rw [if_neg h1,if_neg h1]
 by_cases h2:isB p [91]=true
 ·rw [if_pos h2,if_pos h2]
  have a0:=on_A hp h2
  cases hq:f (onS p) with
  | none=>rfl
  | some q =>
   have a:=a0.trans (hf _ _ (a0.ok hp) hq).lev
   cases hq2:pmuS q.2 [93] with
   | none=>simp only [Option.bind_some,hq2]; rfl
   | some q2 =>
    have a:=a.trans (mu_A (a.ok hp) hq2).lev
    have:=a.rem hp
    simp only [Option.bind_some,hq2]
    exact loopU_fuel hf _ _ _ q2 (a.ok hp) (by omega) (by unfold fuel; omega)
 rw [if_neg h2,if_neg h2]
 by_cases h3:isB p [46]=true
 ·rw [if_pos h3,if_pos h3]
  have a0:=on_A hp h3
  cases hr:pnmS (onS p) with
  | none=>rfl
  | some r =>
   have a:=a0.trans (nm_A (a0.ok hp) hr).1.lev
   have:=a.rem hp
   exact loopU_fuel hf _ _ _ _ (a.ok hp) (by omega) (by unfold fuel; omega)
 rw [if_neg h3,if_neg h3]
section
variable {fl:Bool×Bool→Prop} {f:Nat→PS→RJ} {c:Nat} {t0 t:TT} {g:Nat→PS→RJ} {e:Bs} {b:Bool} {acc:List JN} {tl:Nat→List JN×PS→RJ}
/-- the end of what stands between commas -/
theorem Inv.commaEnd (h:Inv fl f c t0 t fun M q=>(loopS (g M) e (fuel q) b acc q).bind (tl M)) (hg:∀ M,PA (g M)) (he:e≠[]) (h1:hitB t e=true):Inv fl f c t0 (tlT t) fun M q=>tl M (acc,q) :=
 h.hit he h1 fun M q hc hi=>by rw [loopS_un (hg M) hc.ps,if_pos hi]; rfl
/-- one more, behind its comma -/
theorem Inv.comma (h:Inv fl f c t0 t fun M q=>(loopS (g M) e (fuel q) b acc q).bind (tl M)) (hg:∀ M,PA (g M)) (he:e≠[]) (h1:hitB t e=false):Inv fl f c t0 (if b=true then t else neS t [[44]]) fun M q=>(g M q).bind fun r=>(loopS (g M) e (fuel r.2) false (acc++[r.1]) r.2).bind (tl M):=by
 have h:=h.miss he h1 (k':=fun M q=>(if b=true then some q else pmuS q [44]).bind fun p2=>(g M p2).bind fun r=>(loopS (g M) e (fuel r.2) false (acc++[r.1]) r.2).bind (tl M)) fun M q hc hi=>by
  rw [loopS_un (hg M) hc.ps,if_neg (by rw [hi]; decide),Option.bind_assoc]
  congr 1; funext p2
  rw [Option.bind_assoc]
 cases b with
 | true=>exact h
 | false=>exact h.need (by decide) fun M q _=>rfl
end
theorem rex0 {t:TT} {r:JN×TT} (h:rexR t 0 r):Rl anyF exN 12 t r:=h
end
end Go.Proofs.YtalnampdiegmoaaDoor.Rf
namespace Go.Proofs.YtalnampdiegmoaaDoor.Rf
open Go Go.Eng Go.RowKit Ps
set_option linter.unusedVariables false
noncomputable section
theorem rbr_F (N:Nat) (t:TT) (hp:rbrP (N+1) t):rbrF N t (fun a b=>rbrR t (a,b)):=by
 obtain ⟨hp1,hp2⟩:=hp
 have l1:=ne_len t [40]
 refine ⟨wa1 t (by decide),⟨⟨by omega,by omega⟩,.inl rfl⟩,fun r hr=>⟨wa1 _ (by decide),?_⟩⟩
 have hr:=rex0 hr
 have l2:=ne_len r.2 [41]
 have i:Inv anyF inN 1 t t fun M q=>(pmuS q [40]).bind fun p=>(exN M p).bind fun e=>(pmuS e.2 [41]).bind fun p=>some (e.1,p):=Inv.start fun _ M q _=>rfl
 have i:=i.need (s:=[40]) (by decide) fun M q _=>rfl
 have i:=i.call (fun M=>M) hr (fun _ _=>trivial) (fun hb M h=>by have:=ne_lt (by decide) hb; omega) (fun M=>(allA M).ex) fun M q _=>rfl
 have i:=i.need (s:=[41]) (k':=fun M q=>some (r.1,q)) (by decide) fun M q _=>rfl
 have l3:=hr.1
 exact i.fin r.1 (by omega) (fun hb=>by have:=ne_lt (by decide) hb; omega) fun _ M q _=>rfl
theorem rbr_0 (t:TT) (hp:rbrP 0 t):False:=absurd hp.2 (Nat.not_lt_zero _)
theorem rbl_loop {N:Nat} {w:Int} {t0:TT} (hw:0≤w∧w≤3) (hN:okT 1 (N+1) t0):∀ (k:Nat) (acc:List JN) (t:TT),(t.2=false→t.1.length+1<k)→0<k→t.1.length≤t0.1.length→(t.2=false→t.1.length+1≤t0.1.length) →
  acc.length≤1000001→(t.2=false→acc.length+t.1.length≤1000000) →
  Inv (whF w) blN 1 t0 t (fun M q=>(loopB (stN M) [125] (fuel q) acc q).bind fun r=>some (nd 30 0 [] r.1,r.2))→rbll9 N w (fun a b=>rblR t0 w (a,b)) k acc t.1 t.2
 | 0,_,_,_,h,_,_,_,_,_=>absurd h (Nat.not_lt_zero _)
 | k+1,acc,t,hk,_,hl,hl1,ha,ha1,i=>by
  unfold rbll9 rbll9b
  have hb:∀ b,t.2=b→t=(t.1,b):=fun b e=>by rw [← e]
  cases ht:t.2 with
  | true =>
   refine ⟨fun h=>(by cases h),fun _=>?_⟩
   refine ⟨fun h=>(by cases h),fun _=>?_⟩
   show rblR t0 w (nd 30 0 [] acc,(t.1,true))
   rw [← ht]
   exact i.fin _ hl hl1 fun h=>by rw [ht] at h; cases h
  | false =>
   refine ⟨fun _=>⟨wa1 _ (by decide),?_⟩,fun h=>(by cases h)⟩
   rw [show t.1=(t.1,false).1 from rfl]
   have e:(t.1,false)=t:=by rw [← ht]
   unfold rblj11 rblV3 rblV4 rblV5
   rw [e]
   simp only [Bool.not_false,Bool.true_and,if_true]
   cases h1:hitB t [125] with
   | true =>
    have e1:waS t [[125]]=(0,tlT t):=by rw [wa_one,if_pos h1]
    rw [e1]
    refine ⟨fun h=>(by cases h),fun _=>?_⟩
    have l1:=tl_lt (s:=[125]) (by decide) h1
    have i:=i.hit (s:=[125]) (by decide) h1 (k':=fun M q=>some (nd 30 0 [] acc,q)) fun M q hc hi=>by rw [loopB_un (allA M).st hc.ps,if_pos hi]; rfl
    exact i.fin (nd 30 0 [] acc) (by omega) (fun _=>by omega) fun _ M q _=>rfl
   | false =>
    have e1:waS t [[125]]=(-1,t):=by rw [wa_one,if_neg (by rw [h1]; decide)]
    rw [e1]
    refine ⟨fun _=>⟨⟨⟨by show t.1.length≤_; have:=hN.1; omega,by show 40 * t.1.length+14<N; have:=hN.2; have:=hl1 ht; omega⟩,hw.1,hw.2⟩,fun r hr=>⟨?_,?_⟩⟩,fun h=>(by cases h)⟩
    ·rw [List.length_append]; simp; omega
    have hr:Rl (whF w) stN 13 t r:=hr
    have i:=i.miss (s:=[125]) (by decide) h1 (k':=fun M q=>(stN M q).bind fun r=>(loopB (stN M) [125] (fuel r.2) (acc++[r.1]) r.2).bind fun r=>some (nd 30 0 [] r.1,r.2)) fun M q hc hi=>by
     rw [loopB_un (allA M).st hc.ps,if_neg (by rw [hi]; decide),Option.bind_assoc]
    have i:=i.call (fun M=>M) hr (fun _ h=>h) (fun hb M h=>by have:=hl1 ht; omega) (fun M=>(allA M).st) fun M q _=>rfl
    have h5:=hr.1; have h6:=hr.2.1
    have h7:=hk ht; have h8:=ha1 ht
    exact rbl_loop hw hN k _ r.2 (fun h=>by have:=h6 h; omega) (by omega) (by omega) (fun h=>by have:=h6 h; omega) (by rw [List.length_append]; simp; omega) (fun h=>by have:=h6 h; rw [List.length_append]; simp; omega) i
theorem rbl_F (N:Nat) (t:TT) (w:Int) (hp:rblP (N+1) t w):rblF N t w (fun a b=>rblR t w (a,b)):=by
 obtain ⟨hp1,hp2,hp3⟩:=hp
 have l1:=ne_len t [123]
 have l2:=ne_lt (t:=t) (s:=[123]) (by decide)
 have hb:=hp1.1
 refine ⟨wa1 t (by decide),t.1.length+3,?_⟩
 have i:Inv (whF w) blN 1 t t fun M q=>(pmuS q [123]).bind fun p=>(loopB (stN M) [125] (fuel p) [] p).bind fun r=>some (nd 30 0 [] r.1,r.2):=Inv.start fun _ M q _=>rfl
 have i:=i.need (s:=[123]) (by decide) fun M q _=>rfl
 exact rbl_loop ⟨hp2,hp3⟩ hp1 _ [] _ (fun h=>by omega) (by omega) l1 l2 (by simp) (fun h=>by have:=l2 h; simp; omega) i
theorem rbl_0 (t:TT) (w:Int) (hp:rblP 0 t w):False:=absurd hp.1.2 (Nat.not_lt_zero _)
theorem com_len (b:Bool) (t:TT):(if b=true then t else neS t [[44]]).1.length≤t.1.length:=by
 split
 ·exact Nat.le_refl _
 exact ne_len t [44]
theorem nm_lt {t:TT} (h:(rnmS t).2.2=false):(rnmS t).2.1.length+1≤t.1.length:=by
 rw [rnmS_eq] at h ⊢
 obtain ⟨l,b⟩:=t
 cases l with
 | nil=>simp [rnmS0,rpaS] at h
 | cons x l=>cases b <;> simp [rnmS0,rpaS] at h ⊢
theorem par_bind {q:PS} {β:Type} (k:JN×PS→Option β):(parS q).bind k=(pnmS q).bind fun r=>k (nd 10 0 r.1 [],r.2):=by
 unfold parS; rw [Option.bind_assoc]; rfl
theorem rfn_loop {N:Nat} {n:Bs} {t0:TT} (hN:okT 2 (N+1) t0):∀ (k:Nat) (acc:List JN) (t:TT),(t.2=false→t.1.length+1<k)→0<k→t.1.length≤t0.1.length→(t.2=false→t.1.length+1≤t0.1.length) →
  acc.length≤1000001→(t.2=false→acc.length+t.1.length≤1000000) →
  Inv anyF (fun M p=>fnN M p n) 3 t0 t (fun M q=>(loopS parS [41] (fuel q) (decide (acc.length=0)) acc q).bind fun l=>(boN M l.2 true).bind fun b=>some (nd 9 0 n (l.1++[b.1]),b.2))→rfnl7x1 N n (fun a b=>rfnR t0 n (a,b)) k acc t.1 t.2
 | 0,_,_,_,h,_,_,_,_,_=>absurd h (Nat.not_lt_zero _)
 | k+1,acc,t,hk,_,hl,hl1,ha,ha1,i=>by
  have hend:∀ t':TT,t'.1.length≤t.1.length→(t'.2=false→t'.1.length+1≤t.1.length)→Inv anyF (fun M p=>fnN M p n) 3 t0 t' (fun M q=>(boN M q true).bind fun b=>some (nd 9 0 n (acc++[b.1]),b.2))→(rfnV3 t.1 t.2=false)→(waS t [[41]]).2=t'→rfnj9i11 N n (fun a b=>rfnR t0 n (a,b)) acc t.1 t.2 (rfnl7x1 N n (fun a b=>rfnR t0 n (a,b)) k):=by
   intro t' h1 h2 i hv he
   refine ⟨fun h=>(by rw [hv] at h; cases h),fun _=>?_⟩
   show rblP N (waS t [[41]]).2 1∧∀ q23,rblR (waS t [[41]]).2 1 q23→_
   rw [he]
   refine ⟨⟨⟨by have:=hN.1; omega,by have:=hN.2; omega⟩,by decide,by decide⟩,fun r hr=>⟨?_,?_⟩⟩
   ·rw [List.length_append]; simp; omega
   have hr:Rl (whF 1) blN 1 t' r:=hr
   have i:=i.body (fun M=>M) hr (fun x _=>by show _=_; simp) (fun hb M h=>by have:=h2 hb; omega) fun M q _=>rfl
   have h5:=hr.1; have h6:=hr.2.1
   exact i.fin (nd 9 0 n (acc++[r.1])) (by omega) (fun hb=>by have:=h6 hb; omega) fun _ M q _=>rfl
  have hj:rfnj9i11 N n (fun a b=>rfnR t0 n (a,b)) acc t.1 t.2 (rfnl7x1 N n (fun a b=>rfnR t0 n (a,b)) k):=by
   cases ht:t.2 with
   | true =>
    rw [← ht]
    have h1:=hit_bad ht [41]
    have e1:waS t [[41]]=(-1,t):=by rw [wa_one,if_neg (by rw [h1]; decide)]
    refine hend t (Nat.le_refl _) (fun h=>by rw [ht] at h; cases h) (i.step id fun h=>by rw [ht] at h; cases h) ?_ (by rw [e1])
    show (decide ((waS t [[41]]).1<0)&&!(waS t [[41]]).2.2)=false
    rw [e1]; show (_&&!t.2)=false; rw [ht]; simp
   | false =>
    rw [← ht]
    cases h1:hitB t [41] with
    | true =>
     have e1:waS t [[41]]=(0,tlT t):=by rw [wa_one,if_pos h1]
     have l1:=tl_lt (s:=[41]) (by decide) h1
     refine hend (tlT t) (by omega) (fun _=>by omega) (i.commaEnd (fun _=>par_A) (by decide) h1) ?_ (by rw [e1])
     show (decide ((waS t [[41]]).1<0)&&_)=false
     rw [e1]; rfl
    | false =>
     have e1:waS t [[41]]=(-1,t):=by rw [wa_one,if_neg (by rw [h1]; decide)]
     have i:=i.comma (fun _=>par_A) (by decide) h1
     have hv:rfnV3 t.1 t.2=true:=by
      show (decide ((waS t [[41]]).1<0)&&!(waS t [[41]]).2.2)=true
      rw [e1]; show (_&&!t.2)=true; rw [ht]; rfl
     have i:=i.nameOf (k':=fun a M p=>(loopS parS [41] (fuel p) false (acc++[nd 10 0 a []]) p).bind fun l=>(boN M l.2 true).bind fun b=>some (nd 9 0 n (l.1++[b.1]),b.2)) fun M q _=>par_bind _
     have hx:rfnj15i11 acc t.1 t.2 (rfnl7x1 N n (fun a b=>rfnR t0 n (a,b)) k):=by
      have e7:(rfnV7 acc t.1 t.2,rfnV8 acc t.1 t.2)=(if (decide (acc.length=0))=true then t else neS t [[44]]):=by
       unfold rfnV7 rfnV8 rfnV6
       show ((if _ then (neS (waS t [[41]]).2 _).1 else (waS t [[41]]).2.1),(if _ then (neS (waS t [[41]]).2 _).2 else (waS t [[41]]).2.2))=_
       rw [e1]
       by_cases h0:acc.length=0
       ·have hd:decide ((acc.length:Int)>0)=false:=decide_eq_false (by omega)
        rw [if_neg (by rw [hd]; decide),if_neg (by rw [hd]; decide),if_pos (decide_eq_true h0)]
       have hd:decide ((acc.length:Int)>0)=true:=decide_eq_true (by omega)
       rw [if_pos hd,if_pos hd,if_neg (by rw [decide_eq_false h0]; decide)]
      unfold rfnj15i11
      rw [e7]
      have l1:=com_len (decide (acc.length=0)) t
      generalize (if (decide (acc.length=0))=true then t else neS t [[44]])=t2 at i l1 ⊢
      have l2:=nm_len t2
      have l3:=nm_lt (t:=t2)
      have h7:=hk ht; have h8:=ha1 ht; have h9:=hl1 ht
      refine ⟨by rw [List.length_append]; simp; omega,?_⟩
      refine rfn_loop hN k _ (rnmS t2).2 (fun h=>by have:=l3 h; omega) (by omega) (by omega) (fun h=>by have:=l3 h; omega) (by rw [List.length_append]; simp; omega) (fun h=>by have:=l3 h; rw [List.length_append]; simp; omega) ?_
      have e0:decide ((acc++[nd 10 0 (rnmS t2).1 []]).length=0)=false:=by simp
      rw [show (acc++([(Tree.mk (10,0,(rnmS t2).1) ([]:List (Tree (Int×Int×List UInt8))))]:List (Tree (Int×Int×List UInt8))))=acc++[nd 10 0 (rnmS t2).1 []] from rfl,e0]
      exact i
     refine ⟨fun _=>⟨fun _=>⟨wa1 _ (by decide),hx⟩,fun _=>hx⟩,fun h=>(by rw [hv] at h; cases h)⟩
  unfold rfnl7x1 rfnl7x1b
  exact ⟨wa1 _ (by decide),fun _=>hj,fun _=>hj⟩
theorem rfn_F (N:Nat) (t:TT) (n:Bs) (hp:rfnP (N+1) t n):rfnF N t n (fun a b=>rfnR t n (a,b)):=by
 have hp:okT 2 (N+1) t:=hp
 have l1:=ne_len t [40]
 have l2:=ne_lt (t:=t) (s:=[40]) (by decide)
 have hb:=hp.1
 refine ⟨wa1 t (by decide),t.1.length+3,?_⟩
 have i:Inv anyF (fun M p=>fnN M p n) 3 t t fun M q=>(pmuS q [40]).bind fun p=>(loopS parS [41] (fuel p) true [] p).bind fun l=>(boN M l.2 true).bind fun b=>some (nd 9 0 n (l.1++[b.1]),b.2):=Inv.start fun _ M q _=>rfl
 have i:=i.need (s:=[40]) (by decide) fun M q _=>rfl
 exact rfn_loop hp _ [] _ (fun h=>by omega) (by omega) l1 l2 (by simp) (fun h=>by have:=l2 h; simp; omega) i
theorem rfn_0 (t:TT) (n:Bs) (hp:rfnP 0 t n):False:=absurd hp.2 (Nat.not_lt_zero _)
end
end Go.Proofs.YtalnampdiegmoaaDoor.Rf
