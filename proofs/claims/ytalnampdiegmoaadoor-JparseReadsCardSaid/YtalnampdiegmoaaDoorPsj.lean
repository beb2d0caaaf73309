/- The parser of scripts: whatever is read moves on. No program in it. -/
import Derived.Test.YtalnampdiegmoaaDoorPsb
import Derived.Test.YtalnampdiegmoaaDoorPsd
import Derived.Test.YtalnampdiegmoaaDoorPse
import Derived.Test.YtalnampdiegmoaaDoorPsf
import Derived.Test.YtalnampdiegmoaaDoorPsg
import Derived.Test.YtalnampdiegmoaaDoorPsh
namespace Go.Proofs.YtalnampdiegmoaaDoor.Ps
open Go Go.Eng Go.RowKit
set_option linter.unusedVariables false
def Lev (p q:PS):Prop:=q.1=p.1∧p.2.1≤q.2.1∧q.2.1≤p.1.length∧q.2.2=p.2.2
def Adv (p q:PS):Prop:=q.1=p.1∧p.2.1<q.2.1∧q.2.1≤p.1.length∧q.2.2=p.2.2
theorem Adv.lev {p q:PS} (h:Adv p q):Lev p q:=⟨h.1,by have:=h.2.1; omega,h.2.2⟩
theorem Lev.refl {p:PS} (h:psP p):Lev p p:=⟨rfl,Int.le_refl _,h.2.1,rfl⟩
theorem Adv.trans {p q r:PS} (h:Adv p q) (h2:Lev q r):Adv p r:=⟨h2.1.trans h.1,by have:=h.2.1; have:=h2.2.1; omega,by have:=h2.2.2.1; rw [h.1] at this; exact this,h2.2.2.2.trans h.2.2.2⟩
theorem Lev.trans {p q r:PS} (h:Lev p q) (h2:Lev q r):Lev p r:=⟨h2.1.trans h.1,by have:=h.2.1; have:=h2.2.1; omega,by have:=h2.2.2.1; rw [h.1] at this; exact this,h2.2.2.2.trans h.2.2.2⟩
theorem Lev.adv {p q r:PS} (h:Lev p q) (h2:Adv q r):Adv p r:=⟨h2.1.trans h.1,by have:=h.2.1; have:=h2.2.1; omega,by have:=h2.2.2.1; rw [h.1] at this; exact this,h2.2.2.2.trans h.2.2.2⟩
theorem Lev.ok {p q:PS} (h:Lev p q) (hp:psP p):psP q:=by
 obtain ⟨h1,h2,h3⟩:=hp
 have:=h.2.1; have:=h.2.2.1
 exact ⟨by omega,by rw [h.1]; exact h.2.2.1,by rw [h.1]; exact h3⟩
theorem Adv.ok {p q:PS} (h:Adv p q) (hp:psP p):psP q:=h.lev.ok hp
theorem Adv.rem {p q:PS} (h:Adv p q) (hp:psP p):q.1.length - q.2.1.toNat<p.1.length - p.2.1.toNat:=by
 have:=h.2.1; have:=h.2.2.1; have:=hp.1
 rw [h.1]; omega
theorem Lev.rem {p q:PS} (h:Lev p q) (hp:psP p):q.1.length - q.2.1.toNat≤p.1.length - p.2.1.toNat:=by
 have:=h.2.1; have:=h.2.2.1; have:=hp.1
 rw [h.1]; omega
theorem okP.adv {c d N:Nat} {p q:PS} (hp:okP c (N+1) p) (h:Adv p q) (hc:d<40+c:=by decide):okP d N q:=⟨h.ok hp.1,by have:=h.rem hp.1; have:=hp.2; omega⟩
theorem okP.lev {c d N:Nat} {p q:PS} (hp:okP c (N+1) p) (h:Lev p q) (hc:d<c:=by decide):okP d N q:=⟨h.ok hp.1,by have:=h.rem hp.1; have:=hp.2; omega⟩
theorem okP.same {c d N:Nat} {p:PS} (hp:okP c (N+1) p) (hc:d<c:=by decide):okP d N p:=hp.lev (Lev.refl hp.1) hc
theorem on_A {p:PS} {s:Bs} (hp:psP p) (h:isB p s=true):Adv p (onS p):=⟨rfl,by show p.2.1<p.2.1+1; omega,by have:=isB_in hp h; show p.2.1+1≤_; omega,rfl⟩
theorem nm_A {p:PS} {r:Bs×PS} (hp:psP p) (h:pnmS p=some r):Adv p r.2∧r.2=onS p∧((ppkS p).1==1)=true:=by
 unfold pnmS at h
 split at h
 ·rename_i h1
  injection h with h
  subst h
  have:=nm_in hp h1
  exact ⟨⟨rfl,by show p.2.1<p.2.1+1; omega,by show p.2.1+1≤_; omega,rfl⟩,rfl,h1⟩
 cases h
theorem mu_A {p q:PS} {s:Bs} (hp:psP p) (h:pmuS p s=some q):Adv p q:=by
 unfold pmuS at h
 split at h
 ·rename_i h1
  injection h with h
  subst h
  exact on_A hp h1
 cases h
theorem pk_A {p:PS} (hp:psP p) (h:(ppkS p).1≠0):Adv p (onS p):=by
 have hl:p.2.1<p.1.length:=by
  by_cases hl:p.2.1<p.1.length
  ·exact hl
  exfalso
  apply h
  have e:ppkS p=(0,0,0,[],0):=by
   unfold ppkS
   rw [List.getD_eq_getElem?_getD,List.getElem?_eq_none (by have:=hp.1; omega)]; rfl
  rw [e]
 exact ⟨rfl,by show p.2.1<p.2.1+1; omega,by show p.2.1+1≤_; omega,rfl⟩
def PA (f:PS→RJ):Prop:=∀ p r,psP p→f p=some r→Adv p r.2
theorem end_A {n:JN}:PA (endS n):=fun p r hp h=>by
 obtain ⟨q,h1,h2⟩:=Option.bind_eq_some_iff.1 h
 injection h2 with h2
 subst h2
 exact mu_A hp h1
theorem par_A:PA parS:=fun p r hp h=>by
 obtain ⟨q,h1,h2⟩:=Option.bind_eq_some_iff.1 h
 injection h2 with h2
 subst h2
 exact (nm_A hp h1).1
theorem loopB_A {f:PS→RJ} {e:Bs} (hf:PA f):∀ k acc p r,psP p→loopB f e k acc p=some r→Adv p r.2
 | 0,_,_,_,_,h=>by cases h
 | k+1,acc,p,r,hp,h=>by
  unfold loopB at h
  split at h
  ·rename_i h1
   injection h with h
   subst h
   exact on_A hp h1
  split at h
  ·cases h
  rename_i q hq
  have a:=hf _ _ hp hq
  exact a.trans (loopB_A hf k _ _ _ (a.ok hp) h).lev
theorem loopS_A {f:PS→RJ} {e:Bs} (hf:PA f):∀ k b acc p r,psP p→loopS f e k b acc p=some r→Adv p r.2
 | 0,_,_,_,_,_,h=>by cases h
 | k+1,b,acc,p,r,hp,h=>by
  unfold loopS at h
  split at h
  ·rename_i h1
   injection h with h
   subst h
   exact on_A hp h1
  split at h
  ·cases h
  rename_i p2 h2
  have l2:Lev p p2:=by
   split at h2
   ·injection h2 with h2; subst h2; exact Lev.refl hp
   exact (mu_A hp h2).lev
  split at h
  ·cases h
  rename_i q hq
  have a:=l2.adv (hf _ _ (l2.ok hp) hq)
  exact a.trans (loopS_A hf k _ _ _ _ (a.ok hp) h).lev
theorem sgn_some {p:PS}:∀ {l:List Bs} {s:Bs},sgn p l=some s→isB p s=true∧s ∈ l
 | [],_,h=>by cases h
 | t::l,s,h=>by
  unfold sgn at h
  split at h
  ·injection h with h; subst h; exact ⟨by assumption,List.mem_cons_self ..⟩
  exact ⟨(sgn_some h).1,List.mem_cons_of_mem _ (sgn_some h).2⟩
theorem loopR_A {f:PS→RJ} {l:List Bs} (hf:PA f):∀ k e p r,psP p→loopR f l k e p=some r→Lev p r.2
 | 0,_,_,_,_,h=>by cases h
 | k+1,e,p,r,hp,h=>by
  unfold loopR at h
  split at h
  ·injection h with h; subst h; exact Lev.refl hp
  rename_i s hs
  have a0:=on_A hp (sgn_some hs).1
  split at h
  ·cases h
  rename_i q hq
  have a:=a0.trans (hf _ _ (a0.ok hp) hq).lev
  exact a.lev.trans (loopR_A hf k _ _ _ (a.ok hp) h)
theorem loopU_A {f:PS→RJ} (hf:PA f):∀ k e p r,psP p→loopU f k e p=some r→Lev p r.2
 | 0,_,_,_,_,h=>by cases h
 | k+1,e,p,r,hp,h=>by
  unfold loopU at h
  split at h
  ·rename_i h1
   have a0:=on_A hp h1
   split at h
   ·cases h
   rename_i q hq
   have a:=a0.trans (loopS_A hf _ _ _ _ _ (a0.ok hp) hq).lev
   exact a.lev.trans (loopU_A hf k _ _ _ (a.ok hp) h)
  split at h
  ·rename_i h1
   have a0:=on_A hp h1
   split at h
   ·cases h
   rename_i q hq
   obtain ⟨r1,hr1,hq⟩:=Option.bind_eq_some_iff.1 hq
   obtain ⟨p1,hp1,hq⟩:=Option.bind_eq_some_iff.1 hq
   injection hq with hq
   subst hq
   have a:=a0.trans (hf _ _ (a0.ok hp) hr1).lev
   have a:=a.trans (mu_A (a.ok hp) hp1).lev
   exact a.lev.trans (loopU_A hf k _ _ _ (a.ok hp) h)
  split at h
  ·rename_i h1
   have a0:=on_A hp h1
   split at h
   ·cases h
   rename_i q hq
   have a:=a0.trans (nm_A (a0.ok hp) hq).1.lev
   exact a.lev.trans (loopU_A hf k _ _ _ (a.ok hp) h)
  injection h with h; subst h; exact Lev.refl hp
theorem blk_A {f:PS→RJ} (hf:PA f):PA (blkS f):=fun p r hp h=>by
 obtain ⟨q,h1,h⟩:=Option.bind_eq_some_iff.1 h
 obtain ⟨l,h2,h⟩:=Option.bind_eq_some_iff.1 h
 injection h with h
 subst h
 have a:=mu_A hp h1
 exact a.trans (loopB_A hf _ _ _ _ (a.ok hp) h2).lev
theorem pair_A {f:PS→RJ} (hf:PA f):PA (pairS f):=fun p r hp h=>by
 obtain ⟨q,h1,h⟩:=Option.bind_eq_some_iff.1 h
 obtain ⟨q2,h2,h⟩:=Option.bind_eq_some_iff.1 h
 obtain ⟨q3,h3,h⟩:=Option.bind_eq_some_iff.1 h
 injection h with h
 subst h
 have a:=(nm_A hp h1).1
 have a:=a.trans (mu_A (a.ok hp) h2).lev
 exact a.trans (hf _ _ (a.ok hp) h3).lev
structure AllA (N:Nat):Prop where
 st:PA (stN N)
 bl:PA (blN N)
 bo:∀ b,PA fun p=>boN N p b
 fn:∀ t,PA fun p=>fnN N p t
 inn:PA (inN N)
 if_:PA (ifN N)
 fo:PA (foN N)
 ty:PA (tyN N)
 ex:PA (exN N)
 co:PA (coN N)
 bi:∀ r,PA fun p=>biN N p r
 un:PA (unN N)
 fi:PA (fiN N)
theorem allA:∀ N,AllA N
 | 0=>⟨nofun,nofun,nofun,nofun,nofun,nofun,nofun,nofun,nofun,nofun,nofun,nofun,nofun⟩
 | N+1=>by
  have ih:=allA N
  refine ⟨fun p r hp h=>?_,fun p r hp h=>?_,fun b p r hp h=>?_,fun t p r hp h=>?_,fun p r hp h=>?_,fun p r hp h=>?_,fun p r hp h=>?_,fun p r hp h=>?_,fun p r hp h=>?_,fun p r hp h=>?_,fun rk p r hp h=>?_,fun p r hp h=>?_,fun p r hp h=>?_⟩
  ·unfold stN at h
   by_cases h1:isB p [108,101,116]=true
   ·rw [if_pos h1] at h
    obtain ⟨t,h2,h⟩:=Option.bind_eq_some_iff.1 h
    obtain ⟨q,h3,h⟩:=Option.bind_eq_some_iff.1 h
    obtain ⟨e,h4,h⟩:=Option.bind_eq_some_iff.1 h
    have a:=on_A hp h1
    have a:=a.trans (nm_A (a.ok hp) h2).1.lev
    have a:=a.trans (mu_A (a.ok hp) h3).lev
    have a:=a.trans (ih.ex _ _ (a.ok hp) h4).lev
    exact a.trans (end_A _ _ (a.ok hp) h).lev
   rw [if_neg h1] at h
   clear h1
   by_cases h1:isB p [102,110]=true
   ·rw [if_pos h1] at h
    obtain ⟨t,h2,h⟩:=Option.bind_eq_some_iff.1 h
    obtain ⟨e,h4,h⟩:=Option.bind_eq_some_iff.1 h
    have a:=on_A hp h1
    have a:=a.trans (nm_A (a.ok hp) h2).1.lev
    have a:=a.trans (ih.fn _ _ _ (a.ok hp) h4).lev
    injection h with h; subst h; exact a
   rw [if_neg h1] at h
   clear h1
   by_cases h1:isB p [105,102]=true
   ·rw [if_pos h1] at h
    have a:=on_A hp h1
    exact a.trans (ih.if_ _ _ (a.ok hp) h).lev
   rw [if_neg h1] at h
   clear h1
   by_cases h1:isB p [119,104,105,108,101]=true
   ·rw [if_pos h1] at h
    obtain ⟨c,h2,h⟩:=Option.bind_eq_some_iff.1 h
    obtain ⟨b,h4,h⟩:=Option.bind_eq_some_iff.1 h
    have a:=on_A hp h1
    have a:=a.trans (ih.inn _ _ (a.ok hp) h2).lev
    have a:=a.trans (ih.bo _ _ _ (a.ok hp) h4).lev
    injection h with h; subst h; exact a
   rw [if_neg h1] at h
   clear h1
   by_cases h1:isB p [102,111,114]=true
   ·rw [if_pos h1] at h
    have a:=on_A hp h1
    exact a.trans (ih.fo _ _ (a.ok hp) h).lev
   rw [if_neg h1] at h
   clear h1
   by_cases h1:isB p [114,101,116,117,114,110]=true
   ·rw [if_pos h1] at h
    have a:=on_A hp h1
    split at h
    ·split at h
     ·rename_i h2
      injection h with h; subst h
      exact a.trans (on_A (a.ok hp) h2).lev
     obtain ⟨c,h2,h⟩:=Option.bind_eq_some_iff.1 h
     have a:=a.trans (ih.ex _ _ (a.ok hp) h2).lev
     exact a.trans (end_A _ _ (a.ok hp) h).lev
    cases h
   rw [if_neg h1] at h
   clear h1
   by_cases h1:isB p [98,114,101,97,107]=true
   ·rw [if_pos h1] at h
    have a:=on_A hp h1
    split at h
    ·exact a.trans (end_A _ _ (a.ok hp) h).lev
    cases h
   rw [if_neg h1] at h
   clear h1
   by_cases h1:isB p [99,111,110,116,105,110,117,101]=true
   ·rw [if_pos h1] at h
    have a:=on_A hp h1
    split at h
    ·exact a.trans (end_A _ _ (a.ok hp) h).lev
    cases h
   rw [if_neg h1] at h
   clear h1
   by_cases h1:isB p [116,104,114,111,119]=true
   ·rw [if_pos h1] at h
    have a:=on_A hp h1
    obtain ⟨c,h2,h⟩:=Option.bind_eq_some_iff.1 h
    have a:=a.trans (ih.ex _ _ (a.ok hp) h2).lev
    exact a.trans (end_A _ _ (a.ok hp) h).lev
   rw [if_neg h1] at h
   clear h1
   by_cases h1:isB p [116,114,121]=true
   ·rw [if_pos h1] at h
    have a:=on_A hp h1
    exact a.trans (ih.ty _ _ (a.ok hp) h).lev
   rw [if_neg h1] at h
   clear h1
   split at h
   ·exact ih.bl _ _ hp h
   obtain ⟨c,h2,h⟩:=Option.bind_eq_some_iff.1 h
   have a:=ih.ex _ _ hp h2
   exact a.trans (end_A _ _ (a.ok hp) h).lev
  ·exact blk_A ih.st _ _ hp h
  ·obtain ⟨c,h2,h⟩:=Option.bind_eq_some_iff.1 h
   injection h with h; subst h
   have a:=ih.bl (inBody b p) _ hp h2
   exact ⟨a.1,a.2.1,a.2.2.1,rfl⟩
  ·obtain ⟨q,h1,h⟩:=Option.bind_eq_some_iff.1 h
   obtain ⟨l,h2,h⟩:=Option.bind_eq_some_iff.1 h
   obtain ⟨b,h3,h⟩:=Option.bind_eq_some_iff.1 h
   have a:=mu_A hp h1
   have a:=a.trans (loopS_A par_A _ _ _ _ _ (a.ok hp) h2).lev
   have a:=a.trans (ih.bo _ _ _ (a.ok hp) h3).lev
   injection h with h; subst h; exact a
  ·obtain ⟨q,h1,h⟩:=Option.bind_eq_some_iff.1 h
   obtain ⟨l,h2,h⟩:=Option.bind_eq_some_iff.1 h
   obtain ⟨b,h3,h⟩:=Option.bind_eq_some_iff.1 h
   have a:=mu_A hp h1
   have a:=a.trans (ih.ex _ _ (a.ok hp) h2).lev
   have a:=a.trans (mu_A (a.ok hp) h3).lev
   injection h with h; subst h; exact a
  ·obtain ⟨c,h1,h⟩:=Option.bind_eq_some_iff.1 h
   obtain ⟨b,h2,h⟩:=Option.bind_eq_some_iff.1 h
   have a:=ih.inn _ _ hp h1
   have a:=a.trans (ih.bl _ _ (a.ok hp) h2).lev
   split at h
   ·rename_i h3
    have a:=a.trans (on_A (a.ok hp) h3).lev
    split at h
    ·rename_i h4
     have a:=a.trans (on_A (a.ok hp) h4).lev
     obtain ⟨e,h5,h⟩:=Option.bind_eq_some_iff.1 h
     have a:=a.trans (ih.if_ _ _ (a.ok hp) h5).lev
     injection h with h; subst h; exact a
    obtain ⟨e,h5,h⟩:=Option.bind_eq_some_iff.1 h
    have a:=a.trans (ih.bl _ _ (a.ok hp) h5).lev
    injection h with h; subst h; exact a
   injection h with h; subst h; exact a
  ·obtain ⟨p1,h1,h⟩:=Option.bind_eq_some_iff.1 h
   obtain ⟨p2,h2,h⟩:=Option.bind_eq_some_iff.1 h
   obtain ⟨p3,h3,h⟩:=Option.bind_eq_some_iff.1 h
   obtain ⟨p4,h4,h⟩:=Option.bind_eq_some_iff.1 h
   obtain ⟨p5,h5,h⟩:=Option.bind_eq_some_iff.1 h
   obtain ⟨p6,h6,h⟩:=Option.bind_eq_some_iff.1 h
   obtain ⟨p7,h7,h⟩:=Option.bind_eq_some_iff.1 h
   have a:=mu_A hp h1
   have a:=a.trans (mu_A (a.ok hp) h2).lev
   have a:=a.trans (nm_A (a.ok hp) h3).1.lev
   have a:=a.trans (mu_A (a.ok hp) h4).lev
   have a:=a.trans (ih.ex _ _ (a.ok hp) h5).lev
   have a:=a.trans (mu_A (a.ok hp) h6).lev
   have a:=a.trans (ih.bo _ _ _ (a.ok hp) h7).lev
   injection h with h; subst h; exact a
  ·obtain ⟨b,h1,h⟩:=Option.bind_eq_some_iff.1 h
   obtain ⟨c,h2,h⟩:=Option.bind_eq_some_iff.1 h
   obtain ⟨f,h3,h⟩:=Option.bind_eq_some_iff.1 h
   have a:=ih.bl _ _ hp h1
   have a:Adv p c.2:=by
    split at h2
    ·rename_i h4
     obtain ⟨p1,h5,h2⟩:=Option.bind_eq_some_iff.1 h2
     obtain ⟨p2,h6,h2⟩:=Option.bind_eq_some_iff.1 h2
     obtain ⟨p3,h7,h2⟩:=Option.bind_eq_some_iff.1 h2
     obtain ⟨p4,h8,h2⟩:=Option.bind_eq_some_iff.1 h2
     have a:=a.trans (on_A (a.ok hp) h4).lev
     have a:=a.trans (mu_A (a.ok hp) h5).lev
     have a:=a.trans (nm_A (a.ok hp) h6).1.lev
     have a:=a.trans (mu_A (a.ok hp) h7).lev
     have a:=a.trans (ih.bl _ _ (a.ok hp) h8).lev
     injection h2 with h2; subst h2; exact a
    injection h2 with h2; subst h2; exact a
   have a:Adv p f.2:=by
    split at h3
    ·rename_i h4
     obtain ⟨p1,h5,h3⟩:=Option.bind_eq_some_iff.1 h3
     have a:=a.trans (on_A (a.ok hp) h4).lev
     have a:=a.trans (ih.bl _ _ (a.ok hp) h5).lev
     injection h3 with h3; subst h3; exact a
    injection h3 with h3; subst h3; exact a
   split at h
   ·cases h
   injection h with h; subst h; exact a
  ·obtain ⟨e,h1,h⟩:=Option.bind_eq_some_iff.1 h
   have a:=ih.co _ _ hp h1
   split at h
   ·rename_i h2
    split at h
    ·obtain ⟨v,h3,h⟩:=Option.bind_eq_some_iff.1 h
     have a:=a.trans (on_A (a.ok hp) h2).lev
     have a:=a.trans (ih.ex _ _ (a.ok hp) h3).lev
     injection h with h; subst h; exact a
    cases h
   injection h with h; subst h; exact a
  ·obtain ⟨e,h1,h⟩:=Option.bind_eq_some_iff.1 h
   have a:=ih.bi _ _ _ hp h1
   split at h
   ·rename_i h2
    obtain ⟨x,h3,h⟩:=Option.bind_eq_some_iff.1 h
    obtain ⟨y,h4,h⟩:=Option.bind_eq_some_iff.1 h
    obtain ⟨z,h5,h⟩:=Option.bind_eq_some_iff.1 h
    have a:=a.trans (on_A (a.ok hp) h2).lev
    have a:=a.trans (ih.ex _ _ (a.ok hp) h3).lev
    have a:=a.trans (mu_A (a.ok hp) h4).lev
    have a:=a.trans (ih.ex _ _ (a.ok hp) h5).lev
    injection h with h; subst h; exact a
   injection h with h; subst h; exact a
  ·unfold biN at h
   split at h
   ·exact ih.un _ _ hp h
   obtain ⟨e,h1,h⟩:=Option.bind_eq_some_iff.1 h
   have a:=ih.bi _ _ _ hp h1
   exact a.trans (loopR_A (ih.bi _) _ _ _ _ (a.ok hp) h)
  ·unfold unN at h
   split at h
   ·rename_i s hs
    obtain ⟨e,h1,h⟩:=Option.bind_eq_some_iff.1 h
    have a:=on_A hp (sgn_some hs).1
    have a:=a.trans (ih.un _ _ (a.ok hp) h1).lev
    injection h with h; subst h; exact a
   obtain ⟨e,h1,h⟩:=Option.bind_eq_some_iff.1 h
   have a:=ih.fi _ _ hp h1
   exact a.trans (loopU_A ih.ex _ _ _ _ (a.ok hp) h)
  unfold fiN at h
  by_cases h1:((ppkS p).1==2)=true
  ·rw [if_pos h1] at h
   injection h with h; subst h
   exact pk_A hp (by intro h2; rw [h2] at h1; cases h1)
  rw [if_neg h1] at h; clear h1
  by_cases h1:((ppkS p).1==3)=true
  ·rw [if_pos h1] at h
   injection h with h; subst h
   exact pk_A hp (by intro h2; rw [h2] at h1; cases h1)
  rw [if_neg h1] at h; clear h1
  by_cases h1:((ppkS p).1==1)=true
  ·rw [if_pos h1] at h
   injection h with h; subst h
   exact pk_A hp (by intro h2; rw [h2] at h1; cases h1)
  rw [if_neg h1] at h; clear h1
  by_cases h1:isB p [116,114,117,101]=true
  ·rw [if_pos h1] at h
   injection h with h; subst h
   exact on_A hp h1
  rw [if_neg h1] at h; clear h1
  by_cases h1:isB p [102,97,108,115,101]=true
  ·rw [if_pos h1] at h
   injection h with h; subst h
   exact on_A hp h1
  rw [if_neg h1] at h; clear h1
  by_cases h1:isB p [110,117,108,108]=true
  ·rw [if_pos h1] at h
   injection h with h; subst h
   exact on_A hp h1
  rw [if_neg h1] at h; clear h1
  by_cases h1:isB p [102,110]=true
  ·rw [if_pos h1] at h
   have a:=on_A hp h1
   exact a.trans (ih.fn _ _ _ (a.ok hp) h).lev
  rw [if_neg h1] at h; clear h1
  by_cases h1:isB p [91]=true
  ·rw [if_pos h1] at h
   have a:=on_A hp h1
   obtain ⟨e,h2,h⟩:=Option.bind_eq_some_iff.1 h
   have a:=a.trans (loopS_A ih.ex _ _ _ _ _ (a.ok hp) h2).lev
   injection h with h; subst h; exact a
  rw [if_neg h1] at h; clear h1
  by_cases h1:isB p [123]=true
  ·rw [if_pos h1] at h
   have a:=on_A hp h1
   obtain ⟨e,h2,h⟩:=Option.bind_eq_some_iff.1 h
   have a:=a.trans (loopS_A (pair_A ih.ex) _ _ _ _ _ (a.ok hp) h2).lev
   injection h with h; subst h; exact a
  rw [if_neg h1] at h; clear h1
  exact ih.inn _ _ hp h
end Go.Proofs.YtalnampdiegmoaaDoor.Ps
namespace Go.Proofs.YtalnampdiegmoaaDoor.Ps
open Go Go.Eng Go.RowKit
set_option linter.unusedVariables false
theorem stepB {α β:Type} {o:Option α} {f:α→Option β} {T:Option β} {X:α→Prop} (e:T=o.bind f) (h:∀ q,o=some q→T=f q→X q):(∀ q,o=some q→X q)∧(o=none→T=none) :=
 ⟨fun q hq=>h q hq (by rw [e,hq]; rfl),fun hn=>by rw [e,hn]; rfl⟩
theorem stepE {α:Type} {o T:Option α} {X:α→Prop} (e:T=o) (h:∀ q,T=some q→X q):(∀ q,o=some q→X q)∧(o=none→T=none) :=
 ⟨fun q hq=>h q (e.trans hq),fun hn=>e.trans hn⟩
theorem pis_t {p:PS} {s:Bs} (h:isB p s=true):pisS p s=(true,onS p):=by rw [pisS_eq]; unfold pisS0; rw [if_pos h]
theorem pis_f {p:PS} {s:Bs} (h:isB p s=false):pisS p s=(false,p):=by rw [pisS_eq]; unfold pisS0; rw [if_neg (by rw [h]; decide)]
theorem stepI {p:PS} {s:Bs} {X Y:Prop} (hX:isB p s=true→pisS p s=(true,onS p)→X) (hY:isB p s=false→pisS p s=(false,p)→Y):((pisS p s).1=true→X)∧((pisS p s).1=false→Y):=by
 cases h:isB p s with
 | true=>rw [pis_t h]; exact ⟨fun _=>hX h (pis_t h),fun h=>by cases h⟩
 | false=>rw [pis_f h]; exact ⟨fun h=>(by cases h),fun _=>hY h (pis_f h)⟩
theorem stepN {p:PS} {s:Bs} {X Y:Prop} (hX:isB p s=true→pisS p s=(true,onS p)→X) (hY:isB p s=false→pisS p s=(false,p)→Y):((!(pisS p s).1)=true→Y)∧((!(pisS p s).1)=false→X):=by
 cases h:isB p s with
 | true=>rw [pis_t h]; exact ⟨fun h=>(by cases h),fun _=>hX h (pis_t h)⟩
 | false=>rw [pis_f h]; exact ⟨fun _=>hY h (pis_f h),fun h=>(by cases h)⟩
theorem stepW {b:Bool} {T:RJ} {X:Unit→Prop} {Y:RJ} (e:T=if b=true then Y else none) (h:b=true→T=Y→X ()):(∀ q,pwiS b=some q→X q)∧(pwiS b=none→T=none):=by
 cases b with
 | true=>exact ⟨fun q _=>h rfl (e.trans (if_pos rfl)),fun h=>by cases h⟩
 | false=>exact ⟨fun q h=>(by cases h),fun _=>e.trans (if_neg (by decide))⟩
theorem okP.le {c N:Nat} {p q:PS} (hp:okP c N p) (h:Lev p q):okP c N q:=⟨h.ok hp.1,by have:=h.rem hp.1; have:=hp.2; omega⟩
theorem nb {b:Bool} (h:b=false):¬ b=true:=by rw [h]; decide
theorem wat {p:PS} (hp:psP p) (h:p.2.1<p.1.length):w6 (p.2.1+1)=p.2.1+1:=by
 obtain ⟨h1,h2,h3⟩:=hp
 exact w64 (by omega)
theorem setEnd {α:Type} (l:List α) (z x:α):(l++[z]).set (Int.toNat (l.length:Int)) x=l++[x]:=by simp
theorem pin_F (N:Nat) (p:PS) (hp:inP (N+1) p):pinF N p (fun a b=>inN (N+1) p=some (a,b)) (inN (N+1) p=none):=by
 refine ⟨hp.1,stepB (by rw [inN]) fun q1 h1 e=>?_⟩
 have a:=mu_A hp.1 h1
 refine ⟨okP.adv hp a,stepB e fun q2 h2 e=>?_⟩
 have a:=a.trans ((allA N).ex _ _ (a.ok hp.1) h2).lev
 exact ⟨a.ok hp.1,stepB e fun q3 h3 e=>e⟩
theorem pin_0 (p:PS) (hp:inP 0 p):False:=absurd hp.2 (Nat.not_lt_zero _)
theorem pex_F (N:Nat) (p:PS) (hp:exP (N+1) p):pexF N p (fun a b=>exN (N+1) p=some (a,b)) (exN (N+1) p=none):=by
 refine ⟨okP.same hp,stepB (by rw [exN]) fun q1 h1 e=>?_⟩
 have a:=(allA N).co _ _ hp.1 h1
 refine ⟨a.ok hp.1,stepN (fun h2 e2=>?_) fun h2 e2=>?_⟩
 ·have e:=e.trans (if_pos h2)
  have a:=a.trans (on_A (a.ok hp.1) h2).lev
  have hj:(q1.1.lab.1==5||q1.1.lab.1==12||q1.1.lab.1==13)=true→pexj13 N (fun a b=>exN (N+1) p=some (a,b)) (exN (N+1) p=none) q1:=fun h3=>by
   have e:=e.trans (if_pos h3)
   unfold pexj13
   rw [e2]
   exact ⟨okP.adv hp a,stepB e fun q3 h3 e=>e⟩
  have no:∀ {b:Bool},b=true→(q1.1.lab.1==5||q1.1.lab.1==12||q1.1.lab.1==13)=b→(∀ q:Unit,pwiS true=some q→pexj13 N (fun a b=>exN (N+1) p=some (a,b)) (exN (N+1) p=none) q1)∧(pwiS true=none→exN (N+1) p=none):=fun hb h=>⟨fun _ _=>hj (h.trans hb),fun h=>by cases h⟩
  refine ⟨fun h5=>no rfl (by rw [h5]; rfl),fun h5=>⟨fun h6=>no rfl (by rw [h5,h6]; rfl),fun h6=>?_⟩⟩
  have e3:(q1.1.lab.1==5||q1.1.lab.1==12||q1.1.lab.1==13)=(q1.1.lab.1==13):=by rw [h5,h6]; rfl
  rw [e3] at e hj
  exact stepW e fun h7 _=>hj h7
 rw [e2]
 exact e.trans (if_neg (nb h2))
theorem pex_0 (p:PS) (hp:exP 0 p):False:=absurd hp.2 (Nat.not_lt_zero _)
theorem pco_F (N:Nat) (p:PS) (hp:coP (N+1) p):pcoF N p (fun a b=>coN (N+1) p=some (a,b)) (coN (N+1) p=none):=by
 refine ⟨⟨okP.same hp,by decide,by decide⟩,stepB (by rw [coN]) fun q1 h1 e=>?_⟩
 have a:=(allA N).bi _ _ _ hp.1 h1
 refine ⟨a.ok hp.1,stepN (fun h2 e2=>?_) fun h2 e2=>?_⟩
 ·have e:=e.trans (if_pos h2)
  rw [e2]
  have a:=a.trans (on_A (a.ok hp.1) h2).lev
  refine ⟨okP.adv hp a,stepB e fun q2 h3 e=>?_⟩
  have a:=a.trans ((allA N).ex _ _ (a.ok hp.1) h3).lev
  refine ⟨a.ok hp.1,stepB e fun q3 h4 e=>?_⟩
  have a:=a.trans (mu_A (a.ok hp.1) h4).lev
  exact ⟨okP.adv hp a,stepB e fun q4 h5 e=>e⟩
 rw [e2]
 exact e.trans (if_neg (nb h2))
theorem pco_0 (p:PS) (hp:coP 0 p):False:=absurd hp.2 (Nat.not_lt_zero _)
theorem pblL {N:Nat} {T:RJ}:∀ (k:Nat) (acc:List JN) (p:PS),okP 13 N p→p.1.length - p.2.1.toNat<k→acc.length+(p.1.length - p.2.1.toNat)≤1000000→(T=(loopB (stN N) [125] k acc p).bind fun r=>some (nd 30 0 [] r.1,r.2)) →
  pbll9 N (fun a b=>T=some (a,b)) (T=none) k acc p.1 p.2.1 p.2.2.1 p.2.2.2
 | 0,_,_,_,h,_,_=>absurd h (Nat.not_lt_zero _)
 | k+1,acc,p,hp,hk,hl,e=>by
  obtain ⟨a,b,c,d⟩:=p
  unfold pbll9 pbll9b
  unfold loopB at e
  refine ⟨hp.1,stepN (fun h2 e2=>?_) fun h2 e2=>?_⟩
  ·rw [if_pos h2] at e
   rw [e2]
   exact e
  rw [if_neg (nb h2)] at e
  rw [e2]
  refine ⟨hp,fun q hq=>?_,fun h=>?_⟩
  ·have a:=(allA N).st _ _ hp.1 hq
   rw [hq] at e
   have:=a.rem hp.1
   exact ⟨by simp only [List.length_append,List.length_singleton]; omega,pblL k _ q.2 (hp.le a.lev) (by dsimp only at *; omega) (by simp only [List.length_append,List.length_singleton]; dsimp only at *; omega) e⟩
  rw [h] at e
  exact e
theorem pbl_F (N:Nat) (p:PS) (hp:blP (N+1) p):pblF N p (fun a b=>blN (N+1) p=some (a,b)) (blN (N+1) p=none):=by
 refine ⟨hp.1,stepB (by rw [blN,blkS]) fun q1 h1 e=>?_⟩
 have a:=mu_A hp.1 h1
 have hq:=a.ok hp.1
 refine ⟨fuel q1,?_⟩
 exact pblL _ _ q1 (okP.adv hp a) (by unfold fuel; omega) (by have:=hq.2.2; simp only [List.length_nil]; omega) e
theorem pbl_0 (p:PS) (hp:blP 0 p):False:=absurd hp.2 (Nat.not_lt_zero _)
theorem pbo_F (N:Nat) (p:PS) (b:Bool) (hp:boP (N+1) p b):pboF N p b (fun x y=>boN (N+1) p b=some (x,y)) (boN (N+1) p b=none):=by
 have h:=okP.same (d:=1) hp
 exact ⟨⟨h.1,h.2⟩,stepB (by rw [boN]; rfl) fun q1 h1 e=>e⟩
theorem pbo_0 (p:PS) (b:Bool) (hp:boP 0 p b):False:=absurd hp.2 (Nat.not_lt_zero _)
theorem pif_F (N:Nat) (p:PS) (hp:ifP (N+1) p):pifF N p (fun a b=>ifN (N+1) p=some (a,b)) (ifN (N+1) p=none):=by
 refine ⟨okP.same hp,stepB (by rw [ifN]) fun q1 h1 e=>?_⟩
 have a:=(allA N).inn _ _ hp.1 h1
 refine ⟨okP.adv hp a,stepB e fun q2 h2 e=>?_⟩
 have a:=a.trans ((allA N).bl _ _ (a.ok hp.1) h2).lev
 refine ⟨a.ok hp.1,stepI (fun h3 e3=>?_) fun h3 e3=>?_⟩
 ·have e:=e.trans (if_pos h3)
  rw [e3]
  have a:=a.trans (on_A (a.ok hp.1) h3).lev
  refine ⟨a.ok hp.1,stepI (fun h4 e4=>?_) fun h4 e4=>?_⟩
  ·have e:=e.trans (if_pos h4)
   rw [e4]
   have a:=a.trans (on_A (a.ok hp.1) h4).lev
   exact ⟨okP.adv hp a,stepB e fun q3 h5 e=>⟨by simp,e⟩⟩
  have e:=e.trans (if_neg (nb h4))
  rw [e4]
  exact ⟨okP.adv hp a,stepB e fun q3 h5 e=>⟨by simp,e⟩⟩
 rw [e3]
 exact e.trans (if_neg (nb h3))
theorem pif_0 (p:PS) (hp:ifP 0 p):False:=absurd hp.2 (Nat.not_lt_zero _)
theorem pfo_F (N:Nat) (p:PS) (hp:foP (N+1) p):pfoF N p (fun a b=>foN (N+1) p=some (a,b)) (foN (N+1) p=none):=by
 refine ⟨hp.1,stepB (by rw [foN]) fun q1 h1 e=>?_⟩
 have a:=mu_A hp.1 h1
 refine ⟨a.ok hp.1,stepB e fun q2 h2 e=>?_⟩
 have a:=a.trans (mu_A (a.ok hp.1) h2).lev
 refine ⟨a.ok hp.1,stepB e fun q3 h3 e=>?_⟩
 have a:=a.trans (nm_A (a.ok hp.1) h3).1.lev
 refine ⟨a.ok hp.1,stepB e fun q4 h4 e=>?_⟩
 have a:=a.trans (mu_A (a.ok hp.1) h4).lev
 refine ⟨okP.adv hp a,stepB e fun q5 h5 e=>⟨by simp,?_⟩⟩
 have a:=a.trans ((allA N).ex _ _ (a.ok hp.1) h5).lev
 refine ⟨a.ok hp.1,stepB e fun q6 h6 e=>?_⟩
 have a:=a.trans (mu_A (a.ok hp.1) h6).lev
 exact ⟨okP.adv hp a,stepB e fun q7 h7 e=>⟨by simp,e⟩⟩
theorem pfo_0 (p:PS) (hp:foP 0 p):False:=absurd hp.2 (Nat.not_lt_zero _)
theorem pty_F (N:Nat) (p:PS) (hp:tyP (N+1) p):ptyF N p (fun a b=>tyN (N+1) p=some (a,b)) (tyN (N+1) p=none):=by
 refine ⟨okP.same hp,stepB (by rw [tyN]) fun q1 h1 e=>?_⟩
 have a:=(allA N).bl _ _ hp.1 h1
 -- what stands behind: finally
 have fin:∀ (n:Int) (s:Bs) (l:List JN) (p2:PS),Adv p p2→0≤n→n≤1→n=ptyV0 q1→l.length≤2→(tyN (N+1) p=(if isB p2 [102,105,110,97,108,108,121]=true then (blN N (onS p2)).bind fun f=>some (nd 29 (n+2) s (l++[f.1]),f.2) else some (nd 29 n s l,p2)).bind fun f=>if (f.1.lab.2.1==0)=true then none else some f) →
   ptyj5 N (fun a b=>tyN (N+1) p=some (a,b)) (tyN (N+1) p=none) q1 p2.1 p2.2.1 p2.2.2.1 p2.2.2.2 s l:=by
  intro n s l p2 a h0 h1 hn hl e
  have hq:=a.ok hp.1
  obtain ⟨x1,x2,x3,x4⟩:=p2
  refine ⟨hq,stepI (fun h3 e3=>?_) fun h3 e3=>?_⟩
  ·rw [if_pos h3] at e
   rw [e3]
   have a:=a.trans (on_A hq h3).lev
   have hv:ptyV1 q1 x1 x2 x3 x4=n+2:=by unfold ptyV1; rw [e3,if_pos rfl,← hn,w6e (by omega)]
   refine ⟨okP.adv hp a,fun q2 h4=>⟨by simp only [List.length_append,List.length_singleton]; omega,?_⟩,fun h4=>by rw [h4] at e; exact e⟩
   rw [h4] at e
   unfold ptyj17
   rw [hv]
   refine ⟨fun h=>e.trans (if_pos h),fun h=>e.trans (if_neg (nb h))⟩
  rw [if_neg (nb h3)] at e
  rw [e3]
  have hv:ptyV1 q1 x1 x2 x3 x4=n:=by unfold ptyV1; rw [e3,if_neg (fun h=>by cases h),← hn]
  unfold ptyj17
  rw [hv]
  refine ⟨fun h=>e.trans (if_pos h),fun h=>e.trans (if_neg (nb h))⟩
 refine ⟨a.ok hp.1,stepI (fun h2 e2=>?_) fun h2 e2=>?_⟩
 ·rw [if_pos h2] at e
  rw [e2]
  have a:=a.trans (on_A (a.ok hp.1) h2).lev
  have e:tyN (N+1) p=(pmuS (onS q1.2) [40]).bind fun p=>(pnmS p).bind fun t=>(pmuS t.2 [41]).bind fun p=>(blN N p).bind fun c=>(if isB c.2 [102,105,110,97,108,108,121]=true then (blN N (onS c.2)).bind fun f=>some (nd 29 (1+2) t.1 ([q1.1,c.1]++[f.1]),f.2) else some (nd 29 1 t.1 [q1.1,c.1],c.2)).bind fun f=>if (f.1.lab.2.1==0)=true then none else some f:=by
   rw [e]
   cases pmuS (onS q1.2) [40] with
   | none=>rfl
   | some x=>?_
   show Option.bind (Option.bind (pnmS x) _) _=Option.bind (pnmS x) _
   cases pnmS x with
   | none=>rfl
   | some x=>?_
   show Option.bind (Option.bind (pmuS x.2 [41]) _) _=Option.bind (pmuS x.2 [41]) _
   cases pmuS x.2 [41] with
   | none=>rfl
   | some y=>?_
   show Option.bind (Option.bind (blN N y) _) _=Option.bind (blN N y) _
   cases blN N y with
   | none=>rfl
   | some z=>rfl
  refine ⟨a.ok hp.1,stepB e fun q2 h3 e=>?_⟩
  have a:=a.trans (mu_A (a.ok hp.1) h3).lev
  refine ⟨a.ok hp.1,stepB e fun q3 h4 e=>?_⟩
  have a:=a.trans (nm_A (a.ok hp.1) h4).1.lev
  refine ⟨a.ok hp.1,stepB e fun q4 h5 e=>?_⟩
  have a:=a.trans (mu_A (a.ok hp.1) h5).lev
  refine ⟨okP.adv hp a,stepB e fun q5 h6 e=>⟨by simp,?_⟩⟩
  have a:=a.trans ((allA N).bl _ _ (a.ok hp.1) h6).lev
  exact fin 1 q3.1 [q1.1,q5.1] q5.2 a (by decide) (by decide) (by unfold ptyV0; rw [e2]; rfl) (by simp) e
 rw [if_neg (nb h2)] at e
 rw [e2]
 exact fin 0 [] [q1.1] q1.2 a (by decide) (by decide) (by unfold ptyV0; rw [e2]; rfl) (by simp) e
theorem pty_0 (p:PS) (hp:tyP 0 p):False:=absurd hp.2 (Nat.not_lt_zero _)
theorem pst_F (N:Nat) (p:PS) (hp:stP (N+1) p):pstF N p (fun a b=>stN (N+1) p=some (a,b)) (stN (N+1) p=none):=by
 unfold pstF
 simp only [pstV0,pstV1,pstV2,pstV3,pstV4]
 have e:stN (N+1) p=_:=stN.eq_2 p N
 have fin:∀ (n:JN) (q:PS),Adv p q→(stN (N+1) p=endS n q)→penP q n∧(∀ q2,penS q n=some q2→stN (N+1) p=some (q2.1,q2.2))∧(penS q n=none→stN (N+1) p=none):=fun n q a e=>⟨a.ok hp.1,stepE e fun q2 h=>h⟩
 refine ⟨hp.1,stepI (fun h2 e2=>?_) fun h2 e2=>?_⟩
 ·have a:=on_A hp.1 h2
  have e:=e.trans (if_pos h2)
  rw [e2]
  refine ⟨a.ok hp.1,stepB e fun q1 h1 e=>?_⟩
  have a:=a.trans (nm_A (a.ok hp.1) h1).1.lev
  refine ⟨a.ok hp.1,stepB e fun q2 h3 e=>?_⟩
  have a:=a.trans (mu_A (a.ok hp.1) h3).lev
  refine ⟨okP.adv hp a,stepB e fun q3 h4 e=>?_⟩
  have a:=a.trans ((allA N).ex _ _ (a.ok hp.1) h4).lev
  exact fin _ _ a e
 have e:=e.trans (if_neg (nb h2))
 simp only [e2]
 have f1:=e2
 clear h2 e2
 refine ⟨hp.1,stepI (fun h2 e2=>?_) fun h2 e2=>?_⟩
 ·have a:=on_A hp.1 h2
  have e:=e.trans (if_pos h2)
  rw [e2]
  refine ⟨a.ok hp.1,stepB e fun q1 h1 e=>?_⟩
  have a:=a.trans (nm_A (a.ok hp.1) h1).1.lev
  exact ⟨okP.adv hp a,stepB e fun q3 h4 e=>e⟩
 have e:=e.trans (if_neg (nb h2))
 simp only [e2]
 have f2:=e2
 clear h2 e2
 refine ⟨hp.1,stepI (fun h2 e2=>?_) fun h2 e2=>?_⟩
 ·have a:=on_A hp.1 h2
  have e:=e.trans (if_pos h2)
  rw [e2]
  exact ⟨okP.adv hp a,stepE e fun q3 h4=>h4⟩
 have e:=e.trans (if_neg (nb h2))
 simp only [e2]
 have f3:=e2
 clear h2 e2
 refine ⟨hp.1,stepI (fun h2 e2=>?_) fun h2 e2=>?_⟩
 ·have a:=on_A hp.1 h2
  have e:=e.trans (if_pos h2)
  rw [e2]
  refine ⟨okP.adv hp a,stepB e fun q3 h4 e=>?_⟩
  have a:=a.trans ((allA N).inn _ _ (a.ok hp.1) h4).lev
  exact ⟨okP.adv hp a,stepB e fun q3 h4 e=>e⟩
 have e:=e.trans (if_neg (nb h2))
 simp only [e2]
 have f4:=e2
 clear h2 e2
 refine ⟨hp.1,stepI (fun h2 e2=>?_) fun h2 e2=>?_⟩
 ·have a:=on_A hp.1 h2
  have e:=e.trans (if_pos h2)
  rw [e2]
  exact ⟨okP.adv hp a,stepE e fun q3 h4=>h4⟩
 have e:=e.trans (if_neg (nb h2))
 simp only [e2]
 have f5:=e2
 clear h2 e2
 refine ⟨hp.1,stepI (fun h2 e2=>?_) fun h2 e2=>?_⟩
 ·have a:=on_A hp.1 h2
  have e:=e.trans (if_pos h2)
  rw [e2]
  refine stepW e fun h3 e=>?_
  refine ⟨a.ok hp.1,stepI (fun h4 e4=>?_) fun h4 e4=>?_⟩
  ·rw [e4]
   exact e.trans (if_pos h4)
  have e:=e.trans (if_neg (nb h4))
  rw [e4]
  refine ⟨okP.adv hp a,stepB e fun q3 h5 e=>?_⟩
  have a:=a.trans ((allA N).ex _ _ (a.ok hp.1) h5).lev
  exact fin _ _ a e
 have e:=e.trans (if_neg (nb h2))
 simp only [e2]
 have f6:=e2
 clear h2 e2
 refine ⟨hp.1,stepI (fun h2 e2=>?_) fun h2 e2=>?_⟩
 ·have a:=on_A hp.1 h2
  have e:=e.trans (if_pos h2)
  rw [e2]
  exact stepW e fun h3 e=>fin _ _ a e
 have e:=e.trans (if_neg (nb h2))
 simp only [e2]
 have f7:=e2
 clear h2 e2
 refine ⟨hp.1,stepI (fun h2 e2=>?_) fun h2 e2=>?_⟩
 ·have a:=on_A hp.1 h2
  have e:=e.trans (if_pos h2)
  rw [e2]
  exact stepW e fun h3 e=>fin _ _ a e
 have e:=e.trans (if_neg (nb h2))
 simp only [e2]
 have f8:=e2
 clear h2 e2
 refine ⟨hp.1,stepI (fun h2 e2=>?_) fun h2 e2=>?_⟩
 ·have a:=on_A hp.1 h2
  have e:=e.trans (if_pos h2)
  rw [e2]
  refine ⟨okP.adv hp a,stepB e fun q3 h5 e=>?_⟩
  have a:=a.trans ((allA N).ex _ _ (a.ok hp.1) h5).lev
  exact fin _ _ a e
 have e:=e.trans (if_neg (nb h2))
 simp only [e2]
 have f9:=e2
 clear h2 e2
 have ph:∀ (h10:pisS p [116,114,121]=(false,p)) (e:stN (N+1) p=if ((ppkS p).1==4&&(ppkS p).2.2.2.1==[123])=true then blN N p else (exN N p).bind fun e=>endS (nd 31 0 [] [e.1]) e.2),pstj89 N p (fun a b=>stN (N+1) p=some (a,b)) (stN (N+1) p=none):=by
  intro f10 e
  have v4:(pisS (pstV4 p).2 [116,114,121]).2=p:=by simp only [pstV0,pstV1,pstV2,pstV3,pstV4,f1,f2,f3,f4,f5,f6,f7,f8,f9,f10]
  unfold pstj89 pstV5
  rw [v4]
  refine ⟨fun h=>?_,fun h=>?_⟩
  ·have e:=e.trans (if_pos h)
   exact ⟨okP.same hp,stepE e fun q3 h4=>h4⟩
  have e:=e.trans (if_neg (nb h))
  refine ⟨okP.same hp,stepB e fun q3 h5 e=>?_⟩
  exact fin _ _ ((allA N).ex _ _ hp.1 h5) e
 refine ⟨hp.1,stepI (fun h2 e2=>?_) fun h2 e2=>?_⟩
 ·have a:=on_A hp.1 h2
  have e:=e.trans (if_pos h2)
  rw [e2]
  exact ⟨okP.adv hp a,stepE e fun q3 h4=>h4⟩
 have e:=e.trans (if_neg (nb h2))
 have:=ph e2 e
 exact ⟨by rw [e2]; exact hp.1,fun _=>this,fun _=>this⟩
theorem pst_0 (p:PS) (hp:stP 0 p):False:=absurd hp.2 (Nat.not_lt_zero _)
/-- what a closure adds -/
theorem addP {acc:List JN} {q:JN} {C D:Prop} (hl:acc.length≤1000001) (hc:C) (hd:D):(acc++([Tree.mk (0,0,[]) []]:List JN)).length≤2513169434916∧((0:Int)≤(acc.length:Int)∧Int.toNat (acc.length:Int)<(acc++([Tree.mk (0,0,[]) []]:List JN)).length∧C∧C)∧((0:Int)≤(acc.length:Int)∧Int.toNat (acc.length:Int)<(acc++([Tree.mk (0,0,[]) []]:List JN)).length∧D):=by
 have h1:(acc++([Tree.mk (0,0,[]) []]:List JN)).length=acc.length+1:=by simp
 rw [h1]
 exact ⟨by omega,⟨by omega,by omega,hc,hc⟩,by omega,by omega,hd⟩
theorem punS {N:Nat} {Z:Prop} {C:Int→Int→Bs→List JN→List TK→Int→Bool→Bool→Prop}:∀ (k:Nat) (b:Bool) (x:Int) (acc:List JN) (p:PS),(b=true↔¬ x>0)→0≤x→okP 12 N p→p.1.length - p.2.1.toNat<k→acc.length+(p.1.length - p.2.1.toNat)≤1000001→x.toNat+(p.1.length - p.2.1.toNat)≤1000001 →
  (∀ l q,loopS (exN N) [41] k b acc p=some (l,q)→C 11 0 [] l q.1 q.2.1 q.2.2.1 q.2.2.2)→(loopS (exN N) [41] k b acc p=none→Z)→punl4x3 N Z C k x acc p.1 p.2.1 p.2.2.1 p.2.2.2
 | 0,_,_,_,_,_,_,_,h,_,_,_,_=>absurd h (Nat.not_lt_zero _)
 | k+1,b,x,acc,p,hb,hx,hp,hk,hl,hxl,hS,hZ=>by
  obtain ⟨p1,p2,p3,p4⟩:=p
  unfold punl4x3 punl4x3b
  refine ⟨hp.1,stepN (fun h2 e2=>?_) fun h2 e2=>?_⟩
  ·rw [e2]
   exact hS acc (onS _) (by unfold loopS; rw [if_pos h2])
  rw [e2]
  have hj:∀ q,Lev (p1,p2,p3,p4) q→(if b=true then some (p1,p2,p3,p4) else pmuS (p1,p2,p3,p4) [44])=some q→punj13i30 N Z x q.1 q.2.1 q.2.2.1 q.2.2.2 acc (punl4x3 N Z C k):=by
   intro q a hq
   have hr:=a.rem hp.1
   have ho:=hp.le a
   have e:∀ T,loopS (exN N) [41] (k+1) b acc (p1,p2,p3,p4)=T↔(match exN N q with | none=>none | some r=>loopS (exN N) [41] k false (acc++[r.1]) r.2)=T:=by
    intro T
    rw [loopS,if_neg (nb h2),hq]
    exact Iff.rfl
   have key:∀ r,exN N q=some r→punji32 x (punl4x3 N Z C k) r.2.1 r.2.2.1 r.2.2.2.1 r.2.2.2.2 ((acc++([Tree.mk (0,0,[]) []]:List JN)).set (Int.toNat (acc.length:Int)) r.1):=by
    intro r hr2
    have a2:=(allA N).ex _ _ ho.1 hr2
    have hr3:=a2.rem ho.1
    rw [setEnd]
    unfold punji32
    rw [w6e (by omega)]
    refine punS k false (x+1) _ r.2 ⟨fun h=>(by cases h),fun h=>absurd (show x+1>0 by omega) h⟩ (by omega) (ho.le a2.lev) (by omega) (by simp only [List.length_append,List.length_singleton]; omega) (by omega) (fun l q2 h=>hS l q2 ((e _).2 (by rw [hr2]; exact h))) fun h=>hZ ((e _).2 (by rw [hr2]; exact h))
   have z:exN N q=none→Z:=fun h=>hZ ((e _).2 (by rw [h]))
   have hh:∀ r,exN N q=some r→_:=fun r hr2=>addP (q:=r.1) (acc:=acc) (by omega) (key r hr2) (key r hr2)
   exact ⟨⟨ho,hh,z⟩,⟨ho,hh,z⟩⟩
  refine ⟨fun h3=>⟨hp.1,fun q hq=>?_,fun h=>?_⟩,fun h3=>?_⟩
  ·have hb':b=false:=by cases b with | false=>rfl | true=>exact absurd (of_decide_eq_true h3) (hb.1 rfl)
   exact hj q (mu_A hp.1 hq).lev (by rw [hb',if_neg (by decide)]; exact hq)
  ·have hb':b=false:=by cases b with | false=>rfl | true=>exact absurd (of_decide_eq_true h3) (hb.1 rfl)
   refine hZ ?_
   rw [loopS,if_neg (nb h2),hb',if_neg (by decide),h]
  have hb':b=true:=hb.2 (of_decide_eq_false h3)
  exact hj (p1,p2,p3,p4) (Lev.refl hp.1) (by rw [hb',if_pos rfl])
theorem pfiS {N:Nat} {Z:Prop} {K:JN→PS→Prop}:∀ (k:Nat) (b:Bool) (x:Int) (acc:List JN) (p:PS),(b=true↔¬ x>0)→0≤x→okP 12 N p→p.1.length - p.2.1.toNat<k→acc.length+(p.1.length - p.2.1.toNat)≤1000001→x.toNat+(p.1.length - p.2.1.toNat)≤1000001 →
  (∀ l q,loopS (exN N) [93] k b acc p=some (l,q)→K (nd 6 0 [] l) q)→(loopS (exN N) [93] k b acc p=none→Z)→pfil4x1 N K Z k x acc p.1 p.2.1 p.2.2.1 p.2.2.2
 | 0,_,_,_,_,_,_,_,h,_,_,_,_=>absurd h (Nat.not_lt_zero _)
 | k+1,b,x,acc,p,hb,hx,hp,hk,hl,hxl,hS,hZ=>by
  obtain ⟨p1,p2,p3,p4⟩:=p
  unfold pfil4x1 pfil4x1b
  refine ⟨hp.1,stepN (fun h2 e2=>?_) fun h2 e2=>?_⟩
  ·rw [e2]
   exact hS acc (onS _) (by unfold loopS; rw [if_pos h2])
  rw [e2]
  have hj:∀ q,Lev (p1,p2,p3,p4) q→(if b=true then some (p1,p2,p3,p4) else pmuS (p1,p2,p3,p4) [44])=some q→pfij13i69 N Z x q.1 q.2.1 q.2.2.1 q.2.2.2 acc (pfil4x1 N K Z k):=by
   intro q a hq
   have hr:=a.rem hp.1
   have ho:=hp.le a
   have e:∀ T,loopS (exN N) [93] (k+1) b acc (p1,p2,p3,p4)=T↔(match exN N q with | none=>none | some r=>loopS (exN N) [93] k false (acc++[r.1]) r.2)=T:=by
    intro T
    rw [loopS,if_neg (nb h2),hq]
    exact Iff.rfl
   have key:∀ r,exN N q=some r→pfiji48 x (pfil4x1 N K Z k) r.2.1 r.2.2.1 r.2.2.2.1 r.2.2.2.2 ((acc++([Tree.mk (0,0,[]) []]:List JN)).set (Int.toNat (acc.length:Int)) r.1):=by
    intro r hr2
    have a2:=(allA N).ex _ _ ho.1 hr2
    have hr3:=a2.rem ho.1
    rw [setEnd]
    unfold pfiji48
    rw [w6e (by omega)]
    refine pfiS k false (x+1) _ r.2 ⟨fun h=>(by cases h),fun h=>absurd (show x+1>0 by omega) h⟩ (by omega) (ho.le a2.lev) (by omega) (by simp only [List.length_append,List.length_singleton]; omega) (by omega) (fun l q2 h=>hS l q2 ((e _).2 (by rw [hr2]; exact h))) fun h=>hZ ((e _).2 (by rw [hr2]; exact h))
   have z:exN N q=none→Z:=fun h=>hZ ((e _).2 (by rw [h]))
   have hh:∀ r,exN N q=some r→_:=fun r hr2=>addP (q:=r.1) (acc:=acc) (by omega) (key r hr2) (key r hr2)
   exact ⟨⟨ho,hh,z⟩,⟨ho,hh,z⟩⟩
  refine ⟨fun h3=>⟨hp.1,fun q hq=>?_,fun h=>?_⟩,fun h3=>?_⟩
  ·have hb':b=false:=by cases b with | false=>rfl | true=>exact absurd (of_decide_eq_true h3) (hb.1 rfl)
   exact hj q (mu_A hp.1 hq).lev (by rw [hb',if_neg (by decide)]; exact hq)
  ·have hb':b=false:=by cases b with | false=>rfl | true=>exact absurd (of_decide_eq_true h3) (hb.1 rfl)
   refine hZ ?_
   rw [loopS,if_neg (nb h2),hb',if_neg (by decide),h]
  have hb':b=true:=hb.2 (of_decide_eq_false h3)
  exact hj (p1,p2,p3,p4) (Lev.refl hp.1) (by rw [hb',if_pos rfl])
theorem pfiR {N:Nat} {Z:Prop} {K:JN→PS→Prop}:∀ (k:Nat) (b:Bool) (x:Int) (acc:List JN) (p:PS),(b=true↔¬ x>0)→0≤x→okP 12 N p→p.1.length - p.2.1.toNat<k→acc.length+(p.1.length - p.2.1.toNat)≤1000001→x.toNat+(p.1.length - p.2.1.toNat)≤1000001 →
  (∀ l q,loopS (pairS (exN N)) [125] k b acc p=some (l,q)→K (nd 7 0 [] l) q)→(loopS (pairS (exN N)) [125] k b acc p=none→Z)→pfil4x2 N K Z k x acc p.1 p.2.1 p.2.2.1 p.2.2.2
 | 0,_,_,_,_,_,_,_,h,_,_,_,_=>absurd h (Nat.not_lt_zero _)
 | k+1,b,x,acc,p,hb,hx,hp,hk,hl,hxl,hS,hZ=>by
  obtain ⟨p1,p2,p3,p4⟩:=p
  unfold pfil4x2 pfil4x2b
  refine ⟨hp.1,stepN (fun h2 e2=>?_) fun h2 e2=>?_⟩
  ·rw [e2]
   exact hS acc (onS _) (by unfold loopS; rw [if_pos h2])
  rw [e2]
  have hj:∀ q,Lev (p1,p2,p3,p4) q→(if b=true then some (p1,p2,p3,p4) else pmuS (p1,p2,p3,p4) [44])=some q→pfij13i77 N Z x q.1 q.2.1 q.2.2.1 q.2.2.2 acc (pfil4x2 N K Z k):=by
   intro q a hq
   have hr:=a.rem hp.1
   have ho:=hp.le a
   have e:∀ T,loopS (pairS (exN N)) [125] (k+1) b acc (p1,p2,p3,p4)=T↔(match pairS (exN N) q with | none=>none | some r=>loopS (pairS (exN N)) [125] k false (acc++[r.1]) r.2)=T:=by
    intro T
    rw [loopS,if_neg (nb h2),hq]
    exact Iff.rfl
   have key:∀ r,pairS (exN N) q=some r→pfiji58 x (pfil4x2 N K Z k) r.2.1 r.2.2.1 r.2.2.2.1 r.2.2.2.2 ((acc++([Tree.mk (0,0,[]) []]:List JN)).set (Int.toNat (acc.length:Int)) r.1):=by
    intro r hr2
    have a2:=pair_A (allA N).ex _ _ ho.1 hr2
    have hr3:=a2.rem ho.1
    rw [setEnd]
    unfold pfiji58
    rw [w6e (by omega)]
    refine pfiR k false (x+1) _ r.2 ⟨fun h=>(by cases h),fun h=>absurd (show x+1>0 by omega) h⟩ (by omega) (ho.le a2.lev) (by omega) (by simp only [List.length_append,List.length_singleton]; omega) (by omega) (fun l q2 h=>hS l q2 ((e _).2 (by rw [hr2]; exact h))) fun h=>hZ ((e _).2 (by rw [hr2]; exact h))
   have z:pairS (exN N) q=none→Z:=fun h=>hZ ((e _).2 (by rw [h]))
   refine ⟨ho.1,fun q1 h5=>?_,fun h5=>z (by unfold pairS; rw [h5]; rfl)⟩
   have a1:=(nm_A ho.1 h5).1
   refine ⟨a1.ok ho.1,fun q2 h6=>?_,fun h6=>z (by unfold pairS; rw [h5]; show Option.bind (pmuS q1.2 [58]) _=none; rw [h6]; rfl)⟩
   have a2:=a1.trans (mu_A (a1.ok ho.1) h6).lev
   refine ⟨ho.le a2.lev,fun q3 h7=>?_,fun h7=>z (by unfold pairS; rw [h5]; show Option.bind (pmuS q1.2 [58]) _=none; rw [h6]; show Option.bind (exN N q2) _=none; rw [h7]; rfl)⟩
   have h8:pairS (exN N) q=some (nd 8 0 q1.1 [q3.1],q3.2):=by unfold pairS; rw [h5]; show Option.bind (pmuS q1.2 [58]) _=_; rw [h6]; show Option.bind (exN N q2) _=_; rw [h7]; rfl
   exact addP (q:=nd 8 0 q1.1 [q3.1]) (acc:=acc) (by omega) (key _ h8) (key _ h8)
  refine ⟨fun h3=>⟨hp.1,fun q hq=>?_,fun h=>?_⟩,fun h3=>?_⟩
  ·have hb':b=false:=by cases b with | false=>rfl | true=>exact absurd (of_decide_eq_true h3) (hb.1 rfl)
   exact hj q (mu_A hp.1 hq).lev (by rw [hb',if_neg (by decide)]; exact hq)
  ·have hb':b=false:=by cases b with | false=>rfl | true=>exact absurd (of_decide_eq_true h3) (hb.1 rfl)
   refine hZ ?_
   rw [loopS,if_neg (nb h2),hb',if_neg (by decide),h]
  have hb':b=true:=hb.2 (of_decide_eq_false h3)
  exact hj (p1,p2,p3,p4) (Lev.refl hp.1) (by rw [hb',if_pos rfl])
theorem pfnS {N:Nat} {Z:Prop} {K:JN→PS→Prop} {t:Bs}:∀ (k:Nat) (b:Bool) (x:Int) (acc:List JN) (p:PS),(b=true↔¬ x>0)→0≤x→okP 2 N p→p.1.length - p.2.1.toNat<k→acc.length+(p.1.length - p.2.1.toNat)≤1000001→x.toNat+(p.1.length - p.2.1.toNat)≤1000001 →
  (∀ l q,loopS parS [41] k b acc p=some (l,q)→Lev p q→l.length≤1000001→boP N q true∧(∀ r,boN N q true=some r→K (nd 9 0 t (l++[r.1])) r.2)∧(boN N q true=none→Z))→(loopS parS [41] k b acc p=none→Z)→pfnl4x1 N t K Z k x p.1 p.2.1 p.2.2.1 p.2.2.2 acc
 | 0,_,_,_,_,_,_,_,h,_,_,_,_=>absurd h (Nat.not_lt_zero _)
 | k+1,b,x,acc,p,hb,hx,hp,hk,hl,hxl,hS,hZ=>by
  obtain ⟨p1,p2,p3,p4⟩:=p
  unfold pfnl4x1 pfnl4x1b
  refine ⟨hp.1,stepN (fun h2 e2=>?_) fun h2 e2=>?_⟩
  ·rw [e2]
   obtain ⟨h5,h6,h7⟩:=hS acc (onS _) (by unfold loopS; rw [if_pos h2]) (on_A hp.1 h2).lev (by omega)
   have hh:∀ r,boN N (onS (p1,p2,p3,p4)) true=some r→_:=fun r hr=>addP (q:=r.1) (acc:=acc) (C:=K (Tree.mk (9,0,t) ((acc++([Tree.mk (0,0,[]) []]:List JN)).set (Int.toNat (acc.length:Int)) r.1)) r.2) (D:=K (Tree.mk (9,0,t) ((acc++([Tree.mk (0,0,[]) []]:List JN)).set (Int.toNat (acc.length:Int)) r.1)) r.2) (by omega) (by rw [setEnd]; exact h6 r hr) (by rw [setEnd]; exact h6 r hr)
   exact ⟨⟨h5,hh,h7⟩,⟨h5,hh,h7⟩⟩
  rw [e2]
  have hj:∀ q,Lev (p1,p2,p3,p4) q→(if b=true then some (p1,p2,p3,p4) else pmuS (p1,p2,p3,p4) [44])=some q→pfnj13i12 Z x acc q.1 q.2.1 q.2.2.1 q.2.2.2 (pfnl4x1 N t K Z k):=by
   intro q a hq
   have hr:=a.rem hp.1
   have ho:=hp.le a
   have e:∀ T,loopS parS [41] (k+1) b acc (p1,p2,p3,p4)=T↔(match parS q with | none=>none | some r=>loopS parS [41] k false (acc++[r.1]) r.2)=T:=by
    intro T
    rw [loopS,if_neg (nb h2),hq]
    exact Iff.rfl
   have key:∀ r,parS q=some r→pfnji10 x (pfnl4x1 N t K Z k) r.2.1 r.2.2.1 r.2.2.2.1 r.2.2.2.2 ((acc++([Tree.mk (0,0,[]) []]:List JN)).set (Int.toNat (acc.length:Int)) r.1):=by
    intro r hr2
    have a2:=par_A _ _ ho.1 hr2
    have hr3:=a2.rem ho.1
    rw [setEnd]
    unfold pfnji10
    rw [w6e (by omega)]
    refine pfnS k false (x+1) _ r.2 ⟨fun h=>(by cases h),fun h=>absurd (show x+1>0 by omega) h⟩ (by omega) (ho.le a2.lev) (by omega) (by simp only [List.length_append,List.length_singleton]; omega) (by omega) (fun l q2 h h5=>hS l q2 ((e _).2 (by rw [hr2]; exact h)) (a.trans (a2.lev.trans h5))) fun h=>hZ ((e _).2 (by rw [hr2]; exact h))
   have z:parS q=none→Z:=fun h=>hZ ((e _).2 (by rw [h]))
   have hh:∀ r,pnmS q=some r→_:=fun r hr2 =>
    have h8:parS q=some (nd 10 0 r.1 [],r.2):=by unfold parS; rw [hr2]; rfl
    addP (q:=nd 10 0 r.1 []) (acc:=acc) (by omega) (key _ h8) (key _ h8)
   have z:pnmS q=none→Z:=fun h=>z (by unfold parS; rw [h]; rfl)
   exact ⟨⟨ho.1,hh,z⟩,⟨ho.1,hh,z⟩⟩
  refine ⟨fun h3=>⟨hp.1,fun q hq=>?_,fun h=>?_⟩,fun h3=>?_⟩
  ·have hb':b=false:=by cases b with | false=>rfl | true=>exact absurd (of_decide_eq_true h3) (hb.1 rfl)
   exact hj q (mu_A hp.1 hq).lev (by rw [hb',if_neg (by decide)]; exact hq)
  ·have hb':b=false:=by cases b with | false=>rfl | true=>exact absurd (of_decide_eq_true h3) (hb.1 rfl)
   refine hZ ?_
   rw [loopS,if_neg (nb h2),hb',if_neg (by decide),h]
  have hb':b=true:=hb.2 (of_decide_eq_false h3)
  exact hj (p1,p2,p3,p4) (Lev.refl hp.1) (by rw [hb',if_pos rfl])
theorem pfn_F (N:Nat) (p:PS) (t:Bs) (hp:fnP (N+1) p t):pfnF N p t (fun a b=>fnN (N+1) p t=some (a,b)) (fnN (N+1) p t=none):=by
 refine ⟨hp.1,stepB (by rw [fnN]) fun q1 h1 e=>?_⟩
 have a:=mu_A hp.1 h1
 have hq:=a.ok hp.1
 refine ⟨fuel q1,?_⟩
 refine pfnS (fuel q1) true 0 [] q1 (by simp) (by decide) (okP.adv hp a) (by unfold fuel; omega) (by have:=hq.2.2; simp only [List.length_nil]; omega) (by have:=hq.2.2; simp only [Int.toNat_zero]; omega) (fun l q h hl _=>?_) fun h=>by rw [e,h]; rfl
 rw [h] at e
 refine ⟨okP.adv hp (a.trans hl),stepB e fun q3 h4 e=>e⟩
theorem pfn_0 (p:PS) (t:Bs) (hp:fnP 0 p t):False:=absurd hp.2 (Nat.not_lt_zero _)
theorem pfi_F (N:Nat) (p:PS) (hp:fiP (N+1) p):pfiF N p (fun a b=>fiN (N+1) p=some (a,b)) (fiN (N+1) p=none):=by
 have e:fiN (N+1) p=_:=fiN.eq_2 p N
 have on:∀ {k:Int},((ppkS p).1==k)=true→k≠0→(p.1,w6 (p.2.1+1),p.2.2.1,p.2.2.2)=onS p:=fun h hk=>by
  have a:=pk_A hp.1 (by rw [eq_of_beq h]; exact hk)
  have h1:=a.2.2.1
  have h2:p.2.1+1≤(p.1.length:Int):=h1
  rw [wat hp.1 (by omega)]
  rfl
 unfold pfiF
 refine ⟨hp.1,fun h2=>?_,fun h2=>?_⟩
 ·rw [on h2 (by decide)]; exact e.trans (if_pos h2)
 have e:=e.trans (if_neg (nb h2))
 clear h2
 refine ⟨fun h2=>?_,fun h2=>?_⟩
 ·rw [on h2 (by decide)]; exact e.trans (if_pos h2)
 have e:=e.trans (if_neg (nb h2))
 clear h2
 refine ⟨fun h2=>?_,fun h2=>?_⟩
 ·rw [on h2 (by decide)]; exact e.trans (if_pos h2)
 have e:=e.trans (if_neg (nb h2))
 clear h2
 refine ⟨hp.1,stepI (fun h2 e2=>?_) fun h2 e2=>?_⟩
 ·rw [e2]; exact e.trans (if_pos h2)
 have e:=e.trans (if_neg (nb h2))
 simp only [e2]
 clear h2 e2
 refine ⟨hp.1,stepI (fun h2 e2=>?_) fun h2 e2=>?_⟩
 ·rw [e2]; exact e.trans (if_pos h2)
 have e:=e.trans (if_neg (nb h2))
 simp only [e2]
 clear h2 e2
 refine ⟨hp.1,stepI (fun h2 e2=>?_) fun h2 e2=>?_⟩
 ·rw [e2]; exact e.trans (if_pos h2)
 have e:=e.trans (if_neg (nb h2))
 simp only [e2]
 clear h2 e2
 refine ⟨hp.1,stepI (fun h2 e2=>?_) fun h2 e2=>?_⟩
 ·have a:=on_A hp.1 h2
  have e:=e.trans (if_pos h2)
  rw [e2]
  exact ⟨okP.adv hp a,stepE e fun q3 h4=>h4⟩
 have e:=e.trans (if_neg (nb h2))
 simp only [e2]
 clear h2 e2
 refine ⟨hp.1,stepI (fun h2 e2=>?_) fun h2 e2=>?_⟩
 ·have a:=on_A hp.1 h2
  have hq:=a.ok hp.1
  have hr:=a.rem hp.1
  have e:=e.trans (if_pos h2)
  rw [e2]
  refine ⟨fuel p,?_⟩
  refine pfiS (fuel p) true 0 [] (onS p) (by simp) (by decide) (okP.adv hp a) (by unfold fuel; omega) (by have:=hq.2.2; simp only [List.length_nil]; omega) (by have:=hq.2.2; simp only [Int.toNat_zero]; omega) (fun l q h=>?_) fun h=>by rw [e,h]; rfl
  rw [h] at e
  exact e
 have e:=e.trans (if_neg (nb h2))
 simp only [e2]
 clear h2 e2
 refine ⟨hp.1,stepI (fun h2 e2=>?_) fun h2 e2=>?_⟩
 ·have a:=on_A hp.1 h2
  have hq:=a.ok hp.1
  have hr:=a.rem hp.1
  have e:=e.trans (if_pos h2)
  rw [e2]
  refine ⟨fuel p,?_⟩
  refine pfiR (fuel p) true 0 [] (onS p) (by simp) (by decide) (okP.adv hp a) (by unfold fuel; omega) (by have:=hq.2.2; simp only [List.length_nil]; omega) (by have:=hq.2.2; simp only [Int.toNat_zero]; omega) (fun l q h=>?_) fun h=>by rw [e,h]; rfl
  rw [h] at e
  exact e
 have e:=e.trans (if_neg (nb h2))
 simp only [e2]
 exact ⟨okP.same hp,stepE e fun q3 h4=>h4⟩
theorem pfi_0 (p:PS) (hp:fiP 0 p):False:=absurd hp.2 (Nat.not_lt_zero _)
theorem punL {N:Nat} {T:RJ}:∀ (k:Nat) (x:JN) (p:PS),okP 12 N p→p.1.length - p.2.1.toNat<k→T=loopU (exN N) k x p →
  punl29 N (fun a b=>T=some (a,b)) (T=none) k x.lab.1 x.lab.2.1 x.lab.2.2 x.kids p.1 p.2.1 p.2.2.1 p.2.2.2
 | 0,_,_,_,h,_=>absurd h (Nat.not_lt_zero _)
 | k+1,x,p,hp,hk,e=>by
  obtain ⟨p1,p2,p3,p4⟩:=p
  obtain ⟨⟨x1,x2,x3⟩,xl⟩:=x
  unfold punl29 punl29b
  rw [loopU] at e
  refine ⟨hp.1,stepI (fun h2 e2=>?_) fun h2 e2=>?_⟩
  ·rw [if_pos h2] at e
   rw [e2]
   have a:=on_A hp.1 h2
   have hq:=a.ok hp.1
   have hr:=a.rem hp.1
   refine ⟨fuel (p1,p2,p3,p4),?_⟩
   refine punS (fuel (p1,p2,p3,p4)) true 0 _ (onS (p1,p2,p3,p4)) (by simp) (by decide) (hp.le a.lev) (by unfold fuel; dsimp only at *; omega) (by have:=hq.2.2; simp only [List.length_singleton]; omega) (by have:=hq.2.2; simp only [Int.toNat_zero]; omega) (fun l q h=>?_) fun h=>by rw [e]; show (match loopS _ _ _ _ _ _ with | none=>none | some r=>_)=none; rw [show ([Tree.mk (x1,x2,x3) xl]:List JN)=[Tree.mk ((Tree.mk (x1,x2,x3) xl:JN).lab.1,(Tree.mk (x1,x2,x3) xl:JN).lab.2.1,(Tree.mk (x1,x2,x3) xl:JN).lab.2.2) (Tree.mk (x1,x2,x3) xl:JN).kids] from rfl,h]
   have h':loopS (exN N) [41] (fuel (p1,p2,p3,p4)) true [Tree.mk (x1,x2,x3) xl] (onS (p1,p2,p3,p4))=some (l,q):=h
   rw [h'] at e
   have a3:=loopS_A (allA N).ex _ _ _ _ _ hq h'
   have hr3:=a3.rem hq
   exact punL k (nd 11 0 [] l) q (hp.le (a.trans a3.lev).lev) (Nat.lt_of_succ_lt_succ (Nat.lt_of_le_of_lt (Nat.succ_le_of_lt hr3) (Nat.lt_trans hr hk))) e
  have h2':=h2
  rw [if_neg (nb h2)] at e
  simp only [e2]
  clear h2 e2
  refine ⟨hp.1,stepI (fun h2 e2=>?_) fun h2 e2=>?_⟩
  ·rw [if_pos h2] at e
   rw [e2]
   have a:=on_A hp.1 h2
   refine ⟨hp.le a.lev,fun q h3=>?_,fun h3=>by rw [h3] at e; exact e⟩
   rw [h3] at e
   have a:=a.trans ((allA N).ex _ _ (a.ok hp.1) h3).lev
   refine ⟨a.ok hp.1,fun q2 h4=>?_,fun h4=>by rw [show (Option.bind (some q) _:Option (JN×PS))=Option.bind (pmuS q.2 [93]) _ from rfl,h4] at e; exact e⟩
   rw [show (Option.bind (some q) _:Option (JN×PS))=Option.bind (pmuS q.2 [93]) _ from rfl,h4] at e
   have a:=a.trans (mu_A (a.ok hp.1) h4).lev
   have hr:=a.rem hp.1
   exact punL k (nd 12 0 [] [Tree.mk (x1,x2,x3) xl,q.1]) q2 (hp.le a.lev) (by omega) e
  rw [if_neg (nb h2)] at e
  simp only [e2]
  clear h2 e2
  refine ⟨hp.1,stepI (fun h2 e2=>?_) fun h2 e2=>?_⟩
  ·rw [if_pos h2] at e
   rw [e2]
   have a:=on_A hp.1 h2
   have w:psP (onS (p1,p2,p3,p4))∧(∀ q,pnmS (onS (p1,p2,p3,p4))=some q→punl29 N (fun a b=>T=some (a,b)) (T=none) k 13 0 q.1 [Tree.mk (x1,x2,x3) xl] q.2.1 q.2.2.1 q.2.2.2.1 q.2.2.2.2)∧(pnmS (onS (p1,p2,p3,p4))=none→T=none):=by
    refine ⟨a.ok hp.1,fun q h3=>?_,fun h3=>by rw [h3] at e; exact e⟩
    rw [h3] at e
    have a:=a.trans (nm_A (a.ok hp.1) h3).1.lev
    have hr:=a.rem hp.1
    exact punL k (nd 13 0 q.1 [Tree.mk (x1,x2,x3) xl]) q.2 (hp.le a.lev) (by omega) e
   exact ⟨w,w,w⟩
  rw [if_neg (nb h2)] at e
  simp only [e2]
  exact e
theorem pun_F (N:Nat) (p:PS) (hp:unP (N+1) p):punF N p (fun a b=>unN (N+1) p=some (a,b)) (unN (N+1) p=none):=by
 refine ⟨3,?_⟩
 obtain ⟨p1,p2,p3,p4⟩:=p
 have e:unN (N+1) (p1,p2,p3,p4)=_:=unN.eq_2 (p1,p2,p3,p4) N
 unfold punl7 punl7b
 refine ⟨fun _=>⟨by decide,by decide,hp.1,stepI (fun h2 e2=>?_) fun h2 e2=>?_⟩,fun h=>by simp at h⟩
 ·rw [e2]
  have h2:isB (p1,p2,p3,p4) [33]=true:=h2
  rw [sgn,if_pos h2] at e
  have a:=on_A hp.1 h2
  exact ⟨okP.adv hp a,stepB e fun q3 h4 e=>e⟩
 have h2:isB (p1,p2,p3,p4) [33]=false:=h2
 rw [e2]
 clear e2
 unfold punl7 punl7b
 have w1:w6 ((0:Int)+1)=1:=w64 (by decide)
 rw [w1]
 refine ⟨fun _=>⟨by decide,by decide,hp.1,stepI (fun h3 e3=>?_) fun h3 e3=>?_⟩,fun h=>by simp at h⟩
 ·rw [e3]
  have h3:isB (p1,p2,p3,p4) [45]=true:=h3
  rw [sgn,if_neg (nb h2),sgn,if_pos h3] at e
  have a:=on_A hp.1 h3
  exact ⟨okP.adv hp a,stepB e fun q3 h4 e=>e⟩
 have h3:isB (p1,p2,p3,p4) [45]=false:=h3
 rw [e3]
 clear e3
 unfold punl7 punl7b
 have w2:w6 ((1:Int)+1)=2:=w64 (by decide)
 rw [w2]
 rw [sgn,if_neg (nb h2),sgn,if_neg (nb h3),sgn] at e
 refine ⟨fun h=>by simp at h,fun _=>⟨okP.same hp,stepB e fun q h4 e=>?_⟩⟩
 have a:=(allA N).fi _ _ hp.1 h4
 have hr:=a.rem hp.1
 refine ⟨fuel (p1,p2,p3,p4),?_⟩
 exact punL _ q.1 q.2 (okP.adv hp a) (by unfold fuel; dsimp only at *; omega) e
theorem pun_0 (p:PS) (hp:unP 0 p):False:=absurd hp.2 (Nat.not_lt_zero _)
theorem ranks_list:([prkS.1,prkS.2.1,prkS.2.2.1,prkS.2.2.2.1,prkS.2.2.2.2.1,prkS.2.2.2.2.2]:List (List Bs))=ranks:=rfl
theorem ranks_ne:∀ (l:List Bs),l ∈ ranks→∀ s ∈ l,s≠[]:=by decide
theorem ranks_len:∀ (l:List Bs),l ∈ ranks→l.length≤4:=by decide
theorem ranks_at {r:Int} (h0:0≤r) (h6:r<6):ranks.getD r.toNat [] ∈ ranks:=by
 have:r.toNat<ranks.length:=by show r.toNat<6; omega
 rw [List.getD_eq_getElem?_getD,List.getElem?_eq_getElem this]
 exact List.getElem_mem _
/-- what is asked when all signs of a rank are tried -/
def pbiE (N:Nat) (r:Int) (K:JN→PS→Prop) (Z:Prop) (e1 e2:Int) (e3:Bs) (e4:List JN) (C:Int→Int→Bs→List JN→List TK→Int→Bool→Bool→Prop) (s:Bs) (p:PS):Prop :=
 ((s==([]:Bs))=true→K (Tree.mk (e1,e2,e3) e4) p)∧((s==([]:Bs))=false→biP N p (w6 (r+1))∧(∀ q,biN N p (w6 (r+1))=some q→C (pjoS s (Tree.mk (e1,e2,e3) e4) q.1).lab.1 (pjoS s (Tree.mk (e1,e2,e3) e4) q.1).lab.2.1 (pjoS s (Tree.mk (e1,e2,e3) e4) q.1).lab.2.2 (pjoS s (Tree.mk (e1,e2,e3) e4) q.1).kids q.2.1 q.2.2.1 q.2.2.2.1 q.2.2.2.2)∧(biN N p (w6 (r+1))=none→Z))
section
variable {N:Nat} {r:Int} {K:JN→PS→Prop} {Z:Prop} {e1 e2:Int} {e3:Bs} {e4:List JN} {C:Int→Int→Bs→List JN→List TK→Int→Bool→Bool→Prop}
theorem pbi_next (l:List Bs) (hl:ranks.getD r.toNat []=l) (h4:l.length≤4) (k:Nat) (i:Nat) (s:Bs) (p:PS) (hp:psP p) (hi:i<l.length)
  (h:∀ s' p',(s',p')=(if s=[] then (if isB p (l.getD i default)=true then (l.getD i default,onS p) else (s,p)) else (s,p))→pbil22 N r K Z e1 e2 e3 e4 C k s' ((i+1:Nat):Int) p'.1 p'.2.1 p'.2.2.1 p'.2.2.2):pbil22 N r K Z e1 e2 e3 e4 C (k+1) s (i:Int) p.1 p.2.1 p.2.2.1 p.2.2.2:=by
 obtain ⟨p1,p2,p3,p4⟩:=p
 have w:w6 ((i:Int)+1)=((i+1:Nat):Int):=w64 (by omega)
 unfold pbil22 pbil22b
 rw [ranks_list,hl]
 refine ⟨fun _=>⟨by omega,by rw [tnc]; exact hi,?_⟩,fun h=>absurd (of_decide_eq_false h) (by omega)⟩
 have hj:pbij33 r ((ranks.getD r.toNat []).getD i default) s (i:Int) p1 p2 p3 p4 (pbil22 N r K Z e1 e2 e3 e4 C k):=by
  have h:=h (pbiV17 r s (i:Int) p1 p2 p3 p4) (pbiV18 r s (i:Int) p1 p2 p3 p4,pbiV19 r s (i:Int) p1 p2 p3 p4,pbiV20 r s (i:Int) p1 p2 p3 p4,pbiV21 r s (i:Int) p1 p2 p3 p4) (by
   simp only [pbiV17,pbiV18,pbiV19,pbiV20,pbiV21,pbiV5,pbiV6,pbiV7,pbiV8,pbiV9,ranks_list,hl,tnc]
   by_cases hs:s=[]
   ·subst hs
    cases h5:isB (p1,p2,p3,p4) (l.getD i default) with
    | true=>rw [pis_t h5]; rfl
    | false=>rw [pis_f h5]; rfl
   have hs2:(s==([]:Bs))=false:=by simpa using hs
   simp only [hs2,hs,Bool.false_and,if_false,Bool.false_eq_true])
  have h:pbij29 r s (i:Int) p1 p2 p3 p4 (pbil22 N r K Z e1 e2 e3 e4 C k):=by
   unfold pbij29
   rw [w]
   exact h
  exact ⟨fun _=>h,fun _=>h⟩
 rw [hl] at hj
 rw [tnc]
 exact ⟨fun _=>⟨hp,hj⟩,fun _=>hj⟩
theorem pbi_end (l:List Bs) (hl:ranks.getD r.toNat []=l) (k:Nat) (s:Bs) (p:PS) (h:pbiE N r K Z e1 e2 e3 e4 C s p):pbil22 N r K Z e1 e2 e3 e4 C (k+1) s (l.length:Int) p.1 p.2.1 p.2.2.1 p.2.2.2:=by
 obtain ⟨p1,p2,p3,p4⟩:=p
 unfold pbil22 pbil22b
 rw [ranks_list,hl]
 exact ⟨fun h=>absurd (of_decide_eq_true h) (by omega),fun _=>h⟩
theorem pbi_found (l:List Bs) (hl:ranks.getD r.toNat []=l) (h4:l.length≤4) (s:Bs) (hs:s≠[]) (p:PS) (hp:psP p) (h:pbiE N r K Z e1 e2 e3 e4 C s p):∀ (k i:Nat),l.length - i<k→i≤l.length→pbil22 N r K Z e1 e2 e3 e4 C k s (i:Int) p.1 p.2.1 p.2.2.1 p.2.2.2
 | 0,_,h,_=>absurd h (Nat.not_lt_zero _)
 | k+1,i,hk,hi=>by
  rcases Nat.lt_or_ge i l.length with h1 | h1
  ·refine pbi_next l hl h4 k i s p hp h1 fun s' p' e=>?_
   rw [if_neg hs] at e
   injection e with e5 e6
   subst e5; subst e6
   exact pbi_found l hl h4 s' hs p' hp h k (i+1) (by omega) h1
  have:i=l.length:=by omega
  subst this
  exact pbi_end l hl k s p h
theorem pbi_try (l:List Bs) (hl:ranks.getD r.toNat []=l) (h4:l.length≤4) (hne:∀ s ∈ l,s≠[]) (p:PS) (hp:psP p):∀ (k i:Nat),l.length - i<k→i≤l.length →
  (match sgn p (l.drop i) with | none=>pbiE N r K Z e1 e2 e3 e4 C [] p | some s=>pbiE N r K Z e1 e2 e3 e4 C s (onS p))→pbil22 N r K Z e1 e2 e3 e4 C k [] (i:Int) p.1 p.2.1 p.2.2.1 p.2.2.2
 | 0,_,h,_,_=>absurd h (Nat.not_lt_zero _)
 | k+1,i,hk,hi,h=>by
  rcases Nat.lt_or_ge i l.length with h1 | h1
  ·refine pbi_next l hl h4 k i [] p hp h1 fun s' p' e=>?_
   rw [if_pos rfl] at e
   have hd:l.drop i=l.getD i default::l.drop (i+1):=by
    rw [List.drop_eq_getElem_cons h1,List.getD_eq_getElem?_getD,List.getElem?_eq_getElem h1]; rfl
   rw [hd,sgn] at h
   by_cases h5:isB p (l.getD i default)=true
   ·rw [if_pos h5] at h e
    injection e with e5 e6
    subst e5; subst e6
    exact pbi_found l hl h4 _ (hne _ (by rw [List.getD_eq_getElem?_getD,List.getElem?_eq_getElem h1]; exact List.getElem_mem _)) (onS p) ((on_A hp h5).ok hp) h k (i+1) (by omega) h1
   rw [if_neg h5] at h e
   injection e with e5 e6
   subst e5; subst e6
   exact pbi_try l hl h4 hne p' hp k (i+1) (by omega) h1 h
  have:i=l.length:=by omega
  subst this
  rw [List.drop_length,sgn] at h
  exact pbi_end l hl k [] p h
end
theorem pbiL {N:Nat} {r:Int} {T:RJ} (h0:0≤r) (h6:r<6):∀ (k:Nat) (x:JN) (p:PS),okP (9 - r.toNat) N p→p.1.length - p.2.1.toNat<k→T=loopR (fun q=>biN N q (r+1)) (ranks.getD r.toNat []) k x p →
  pbil14 N r (fun a b=>T=some (a,b)) (T=none) k x.lab.1 x.lab.2.1 x.lab.2.2 x.kids p.1 p.2.1 p.2.2.1 p.2.2.2
 | 0,_,_,_,h,_=>absurd h (Nat.not_lt_zero _)
 | k+1,x,p,hp,hk,e=>by
  have w:w6 (r+1)=r+1:=w64 (by omega)
  have hm:=ranks_at h0 h6
  rw [loopR] at e
  unfold pbil14 pbil14b
  refine ⟨h0,h6,5,?_⟩
  refine pbi_try (p:=p) _ rfl (ranks_len _ hm) (ranks_ne _ hm) hp.1 5 0 (by have:=ranks_len _ hm; omega) (Nat.zero_le _) ?_
  rw [List.drop_zero]
  obtain ⟨⟨x1,x2,x3⟩,xl⟩:=x
  cases hs:sgn p (ranks.getD r.toNat []) with
  | none =>
   rw [hs] at e
   exact ⟨fun _=>e,fun h=>by cases h⟩
  | some s =>
   rw [hs] at e
   have h5:=sgn_some hs
   have a:=on_A hp.1 h5.1
   have hne:(s==([]:Bs))=false:=by simpa using ranks_ne _ hm s h5.2
   refine ⟨fun h=>(by rw [hne] at h; cases h),fun _=>?_⟩
   rw [w]
   refine ⟨⟨by have:=hp.le a.lev; exact ⟨this.1,by have:=this.2; omega⟩,by omega,by omega⟩,fun q hq=>?_,fun hq=>?_⟩
   ·have e:T=(match biN N (onS p) (r+1) with | none=>none | some q=>loopR (fun q=>biN N q (r+1)) (ranks.getD r.toNat []) k (joinS s (Tree.mk (x1,x2,x3) xl) q.1) q.2):=e
    rw [hq] at e
    have a:=a.trans ((allA N).bi _ _ _ (a.ok hp.1) hq).lev
    have hr:=a.rem hp.1
    exact pbiL h0 h6 k (joinS s (Tree.mk (x1,x2,x3) xl) q.1) q.2 (hp.le a.lev) (by omega) e
   have e:T=(match biN N (onS p) (r+1) with | none=>none | some q=>loopR (fun q=>biN N q (r+1)) (ranks.getD r.toNat []) k (joinS s (Tree.mk (x1,x2,x3) xl) q.1) q.2):=e
   rw [hq] at e
   exact e
theorem pbi_F (N:Nat) (p:PS) (r:Int) (hp:biP (N+1) p r):pbiF N p r (fun a b=>biN (N+1) p r=some (a,b)) (biN (N+1) p r=none):=by
 obtain ⟨hp,h0,h6⟩:=hp
 have e:biN (N+1) p r=_:=biN.eq_2 p r N
 refine ⟨fun h=>?_,fun h=>?_⟩
 ·have e:=e.trans (if_pos h)
  have h:=eq_of_beq h
  subst h
  exact ⟨okP.same hp (by decide),stepE e fun q3 h4=>h4⟩
 have e:=e.trans (if_neg (nb h))
 have h:r≠6:=by simpa using h
 have w:w6 (r+1)=r+1:=w64 (by omega)
 rw [w]
 refine ⟨⟨okP.same hp (by omega),by omega,by omega⟩,stepB e fun q h1 e=>?_⟩
 have a:=(allA N).bi _ _ _ hp.1 h1
 have hr:=a.rem hp.1
 refine ⟨fuel p,?_⟩
 exact pbiL h0 (by omega) _ q.1 q.2 (okP.adv hp a (by omega)) (by unfold fuel; omega) e
theorem pbi_0 (p:PS) (r:Int) (hp:biP 0 p r):False:=absurd hp.1.2 (Nat.not_lt_zero _)
end Go.Proofs.YtalnampdiegmoaaDoor.Ps
