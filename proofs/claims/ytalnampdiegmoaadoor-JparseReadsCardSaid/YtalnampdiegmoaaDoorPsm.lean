/- The parser of scripts: what is read has no more nodes than tokens were passed. No program in it. -/
import Derived.Test.YtalnampdiegmoaaDoorPsj
namespace Go.Proofs.YtalnampdiegmoaaDoor.Ps
open Go Go.Eng Go.RowKit
set_option linter.unusedVariables false
mutual
/-- how many nodes a tree has -/
def siz:JN→Nat
 | .mk _ l=>sizL l+1
def sizL:List JN→Nat
 | []=>0
 | x::l=>siz x+sizL l
end
theorem siz_nd (k n:Int) (t:Bs) (l:List JN):siz (nd k n t l)=sizL l+1:=by unfold nd; rw [siz]
theorem siz_kids (x:JN):siz x=sizL x.kids+1:=by cases x; rw [siz]; rfl
theorem sizL_nil:sizL []=0:=by rw [sizL]
theorem sizL_cons (x:JN) (l:List JN):sizL (x::l)=siz x+sizL l:=by rw [sizL]
theorem sizL_app:∀ (l m:List JN),sizL (l++m)=sizL l+sizL m
 | [],m=>by rw [List.nil_append,sizL_nil]; omega
 | x::l,m=>by rw [List.cons_append,sizL_cons,sizL_cons,sizL_app l m]; omega
theorem siz_len:∀ l:List JN,l.length≤sizL l
 | []=>Nat.zero_le _
 | x::l=>by
  rw [sizL_cons,siz_kids]
  have:=siz_len l
  simp only [List.length_cons]; omega
def PD (f:PS→RJ):Prop:=∀ p r,psP p→f p=some r→p.2.1+(siz r.1:Int)≤r.2.2.1
theorem par_D:PD parS:=fun p r hp h=>by
 obtain ⟨q,h1,h2⟩:=Option.bind_eq_some_iff.1 h
 injection h2 with h2
 subst h2
 have b:=(nm_A hp h1).1.2.1
 simp only [siz_nd,sizL_nil]; (try dsimp only at *); omega
theorem loopB_D {f:PS→RJ} {e:Bs} (hf:PA f) (hd:PD f):∀ k acc p r,psP p→loopB f e k acc p=some r→(sizL r.1:Int)≤(sizL acc:Int)+(r.2.2.1 - p.2.1)
 | 0,_,_,_,_,h=>by cases h
 | k+1,acc,p,r,hp,h=>by
  unfold loopB at h
  split at h
  ·rename_i h1
   injection h with h
   subst h
   have e0:(onS p).2.1=p.2.1+1:=rfl
   (try dsimp only at *); omega
  split at h
  ·cases h
  rename_i q hq
  have a:=hf _ _ hp hq
  have d:=hd _ _ hp hq
  have b:=a.2.1
  have ih:=loopB_D hf hd k _ _ _ (a.ok hp) h
  have b2:=(loopB_A hf k _ _ _ (a.ok hp) h).2.1
  rw [sizL_app,sizL_cons,sizL_nil] at ih
  omega
theorem loopS_D {f:PS→RJ} {e:Bs} (hf:PA f) (hd:PD f):∀ k b acc p r,psP p→loopS f e k b acc p=some r→(sizL r.1:Int)≤(sizL acc:Int)+(r.2.2.1 - p.2.1)
 | 0,_,_,_,_,_,h=>by cases h
 | k+1,b,acc,p,r,hp,h=>by
  unfold loopS at h
  split at h
  ·rename_i h1
   injection h with h
   subst h
   have e0:(onS p).2.1=p.2.1+1:=rfl
   (try dsimp only at *); omega
  split at h
  ·cases h
  rename_i p2 h2
  have l2:Lev p p2:=by
   split at h2
   ·injection h2 with h2; subst h2; exact Lev.refl hp
   exact (mu_A hp h2).lev
  split at h
  ·cases h
  rename_i q hq
  have a2:=hf _ _ (l2.ok hp) hq
  have a:=l2.adv a2
  have d:=hd _ _ (l2.ok hp) hq
  have b1:=l2.2.1
  have b:=a2.2.1
  have ih:=loopS_D hf hd k _ _ _ _ (a.ok hp) h
  have b2:=(loopS_A hf k _ _ _ _ (a.ok hp) h).2.1
  rw [sizL_app,sizL_cons,sizL_nil] at ih
  omega
theorem siz_join (s:Bs) (a b:JN):siz (joinS s a b)=siz a+siz b+1:=by
 unfold joinS
 split
 ·rw [siz_nd,sizL_cons,sizL_cons,sizL_nil]; omega
 split <;> (rw [siz_nd,sizL_cons,sizL_cons,sizL_nil]; omega)
theorem loopR_D {f:PS→RJ} {l:List Bs} (hf:PA f) (hd:PD f):∀ (s0:Int) k e p r,psP p→s0≤p.2.1→s0+(siz e:Int)≤p.2.1→loopR f l k e p=some r→s0+(siz r.1:Int)≤r.2.2.1
 | _,0,_,_,_,_,_,_,h=>by cases h
 | s0,k+1,e,p,r,hp,h0,h1,h=>by
  unfold loopR at h
  split at h
  ·injection h with h; subst h; exact h1
  rename_i s hs
  have a0:=on_A hp (sgn_some hs).1
  split at h
  ·cases h
  rename_i q hq
  have a2:=hf _ _ (a0.ok hp) hq
  have a:=a0.trans a2.lev
  have d:=hd _ _ (a0.ok hp) hq
  have b0:=a0.2.1
  have b2:=a2.2.1
  refine loopR_D hf hd s0 k _ _ _ (a.ok hp) (by omega) ?_ h
  rw [siz_join]
  have e0:(onS p).2.1=p.2.1+1:=rfl
  omega
theorem loopU_D {f:PS→RJ} (hf:PA f) (hd:PD f):∀ (s0:Int) k e p r,psP p→s0≤p.2.1→s0+(siz e:Int)≤p.2.1→loopU f k e p=some r→s0+(siz r.1:Int)≤r.2.2.1
 | _,0,_,_,_,_,_,_,h=>by cases h
 | s0,k+1,e,p,r,hp,h0,h1,h=>by
  have e0:(onS p).2.1=p.2.1+1:=rfl
  unfold loopU at h
  split at h
  ·rename_i h2
   have a0:=on_A hp h2
   split at h
   ·cases h
   rename_i q hq
   have a2:=loopS_A hf _ _ _ _ _ (a0.ok hp) hq
   have a:=a0.trans a2.lev
   have d:=loopS_D hf hd _ _ _ _ _ (a0.ok hp) hq
   have b2:=a2.2.1
   refine loopU_D hf hd s0 k _ _ _ (a.ok hp) (by omega) ?_ h
   rw [sizL_cons,sizL_nil] at d
   rw [siz_nd]
   omega
  split at h
  ·rename_i h2
   have a0:=on_A hp h2
   split at h
   ·cases h
   rename_i q hq
   obtain ⟨r1,hr1,hq⟩:=Option.bind_eq_some_iff.1 hq
   obtain ⟨p2,hp2,hq⟩:=Option.bind_eq_some_iff.1 hq
   injection hq with hq
   subst hq
   have a2:=hf _ _ (a0.ok hp) hr1
   have a:=a0.trans a2.lev
   have a3:=mu_A (a.ok hp) hp2
   have d:=hd _ _ (a0.ok hp) hr1
   have b2:=a2.2.1
   have b3:=a3.2.1
   refine loopU_D hf hd s0 k _ _ _ ((a.trans a3.lev).ok hp) (by (try dsimp only); omega) ?_ h
   rw [siz_nd,sizL_cons,sizL_cons,sizL_nil]
   (try dsimp only)
   omega
  split at h
  ·rename_i h2
   have a0:=on_A hp h2
   split at h
   ·cases h
   rename_i q hq
   have a2:=(nm_A (a0.ok hp) hq).1
   have b2:=a2.2.1
   refine loopU_D hf hd s0 k _ _ _ ((a0.trans a2.lev).ok hp) (by omega) ?_ h
   rw [siz_nd,sizL_cons,sizL_nil]
   omega
  injection h with h; subst h; exact h1
theorem blk_D {f:PS→RJ} (hf:PA f) (hd:PD f):PD (blkS f):=fun p r hp h=>by
 obtain ⟨q,h1,h⟩:=Option.bind_eq_some_iff.1 h
 obtain ⟨l,h2,h⟩:=Option.bind_eq_some_iff.1 h
 injection h with h
 subst h
 have a:=mu_A hp h1
 have b:=a.2.1
 have d:=loopB_D hf hd _ _ _ _ (a.ok hp) h2
 have b2:=(loopB_A hf _ _ _ _ (a.ok hp) h2).2.1
 rw [sizL_nil] at d
 rw [siz_nd]
 (try dsimp only at *)
 omega
theorem pair_D {f:PS→RJ} (hf:PA f) (hd:PD f):PD (pairS f):=fun p r hp h=>by
 obtain ⟨q,h1,h⟩:=Option.bind_eq_some_iff.1 h
 obtain ⟨q2,h2,h⟩:=Option.bind_eq_some_iff.1 h
 obtain ⟨q3,h3,h⟩:=Option.bind_eq_some_iff.1 h
 injection h with h
 subst h
 have a1:=(nm_A hp h1).1
 have a2:=mu_A (a1.ok hp) h2
 have a:=a1.trans a2.lev
 have d:=hd _ _ (a.ok hp) h3
 have b1:=a1.2.1
 have b2:=a2.2.1
 rw [siz_nd,sizL_cons,sizL_nil]
 (try dsimp only at *)
 omega
structure AllD (N:Nat):Prop where
 st:PD (stN N)
 bl:PD (blN N)
 bo:∀ b,PD fun p=>boN N p b
 fn:∀ t,PD fun p=>fnN N p t
 inn:∀ p r,psP p→inN N p=some r→p.2.1+(siz r.1:Int)+2≤r.2.2.1
 if_:PD (ifN N)
 fo:PD (foN N)
 ty:PD (tyN N)
 ex:PD (exN N)
 co:PD (coN N)
 bi:∀ r,PD fun p=>biN N p r
 un:PD (unN N)
 fi:PD (fiN N)
theorem allD:∀ N,AllD N
 | 0=>⟨nofun,nofun,nofun,nofun,nofun,nofun,nofun,nofun,nofun,nofun,nofun,nofun,nofun⟩
 | N+1=>by
  have ih:=allA N
  have dh:=allD N
  refine ⟨fun p r hp h=>?_,fun p r hp h=>?_,fun b p r hp h=>?_,fun t p r hp h=>?_,fun p r hp h=>?_,fun p r hp h=>?_,fun p r hp h=>?_,fun p r hp h=>?_,fun p r hp h=>?_,fun p r hp h=>?_,fun rk p r hp h=>?_,fun p r hp h=>?_,fun p r hp h=>?_⟩
  ·unfold stN at h
   by_cases h1:isB p [108,101,116]=true
   ·rw [if_pos h1] at h
    obtain ⟨t,h2,h⟩:=Option.bind_eq_some_iff.1 h
    obtain ⟨q,h3,h⟩:=Option.bind_eq_some_iff.1 h
    obtain ⟨e,h4,h⟩:=Option.bind_eq_some_iff.1 h
    have s:=on_A hp h1
    have b:=s.2.1
    have a:=s
    have s:=(nm_A (a.ok hp) h2).1
    have b:=s.2.1
    have a:=a.trans s.lev
    have s:=mu_A (a.ok hp) h3
    have b:=s.2.1
    have a:=a.trans s.lev
    have s:=ih.ex _ _ (a.ok hp) h4
    have d:=dh.ex _ _ (a.ok hp) h4
    have b:=s.2.1
    have a:=a.trans s.lev
    obtain ⟨q9,h9,h⟩:=Option.bind_eq_some_iff.1 h
    injection h with h; subst h
    have s:=mu_A (a.ok hp) h9
    have b:=s.2.1
    exact (by (try simp only [siz_nd,sizL_cons,sizL_nil,sizL_app] at *); (try dsimp only at *); omega)
   rw [if_neg h1] at h
   clear h1
   by_cases h1:isB p [102,110]=true
   ·rw [if_pos h1] at h
    obtain ⟨t,h2,h⟩:=Option.bind_eq_some_iff.1 h
    obtain ⟨e,h4,h⟩:=Option.bind_eq_some_iff.1 h
    have s:=on_A hp h1
    have b:=s.2.1
    have a:=s
    have s:=(nm_A (a.ok hp) h2).1
    have b:=s.2.1
    have a:=a.trans s.lev
    have s:=ih.fn _ _ _ (a.ok hp) h4
    have d:=dh.fn _ _ _ (a.ok hp) h4
    have b:=s.2.1
    have a:=a.trans s.lev
    injection h with h; subst h; exact (by (try simp only [siz_nd,sizL_cons,sizL_nil,sizL_app] at *); (try dsimp only at *); omega)
   rw [if_neg h1] at h
   clear h1
   by_cases h1:isB p [105,102]=true
   ·rw [if_pos h1] at h
    have s:=on_A hp h1
    have b:=s.2.1
    have a:=s
    have b:=(ih.if_ _ _ (a.ok hp) h).2.1
    have d:=dh.if_ _ _ (a.ok hp) h
    exact (by (try simp only [siz_nd,sizL_cons,sizL_nil,sizL_app] at *); (try dsimp only at *); omega)
   rw [if_neg h1] at h
   clear h1
   by_cases h1:isB p [119,104,105,108,101]=true
   ·rw [if_pos h1] at h
    obtain ⟨c,h2,h⟩:=Option.bind_eq_some_iff.1 h
    obtain ⟨b,h4,h⟩:=Option.bind_eq_some_iff.1 h
    have s:=on_A hp h1
    have b:=s.2.1
    have a:=s
    have s:=ih.inn _ _ (a.ok hp) h2
    have d:=dh.inn _ _ (a.ok hp) h2
    have b:=s.2.1
    have a:=a.trans s.lev
    have s:=ih.bo _ _ _ (a.ok hp) h4
    have d:=dh.bo _ _ _ (a.ok hp) h4
    have b:=s.2.1
    have a:=a.trans s.lev
    injection h with h; subst h; exact (by (try simp only [siz_nd,sizL_cons,sizL_nil,sizL_app] at *); (try dsimp only at *); omega)
   rw [if_neg h1] at h
   clear h1
   by_cases h1:isB p [102,111,114]=true
   ·rw [if_pos h1] at h
    have s:=on_A hp h1
    have b:=s.2.1
    have a:=s
    have b:=(ih.fo _ _ (a.ok hp) h).2.1
    have d:=dh.fo _ _ (a.ok hp) h
    exact (by (try simp only [siz_nd,sizL_cons,sizL_nil,sizL_app] at *); (try dsimp only at *); omega)
   rw [if_neg h1] at h
   clear h1
   by_cases h1:isB p [114,101,116,117,114,110]=true
   ·rw [if_pos h1] at h
    have s:=on_A hp h1
    have b:=s.2.1
    have a:=s
    split at h
    ·split at h
     ·rename_i h2
      injection h with h; subst h
      have b:=(on_A (a.ok hp) h2).2.1
      exact (by (try simp only [siz_nd,sizL_cons,sizL_nil,sizL_app] at *); (try dsimp only at *); omega)
     obtain ⟨c,h2,h⟩:=Option.bind_eq_some_iff.1 h
     have s:=ih.ex _ _ (a.ok hp) h2
     have d:=dh.ex _ _ (a.ok hp) h2
     have b:=s.2.1
     have a:=a.trans s.lev
     obtain ⟨q9,h9,h⟩:=Option.bind_eq_some_iff.1 h
     injection h with h; subst h
     have s:=mu_A (a.ok hp) h9
     have b:=s.2.1
     exact (by (try simp only [siz_nd,sizL_cons,sizL_nil,sizL_app] at *); (try dsimp only at *); omega)
    cases h
   rw [if_neg h1] at h
   clear h1
   by_cases h1:isB p [98,114,101,97,107]=true
   ·rw [if_pos h1] at h
    have s:=on_A hp h1
    have b:=s.2.1
    have a:=s
    split at h
    ·
     obtain ⟨q9,h9,h⟩:=Option.bind_eq_some_iff.1 h
     injection h with h; subst h
     have s:=mu_A (a.ok hp) h9
     have b:=s.2.1
     exact (by (try simp only [siz_nd,sizL_cons,sizL_nil,sizL_app] at *); (try dsimp only at *); omega)
    cases h
   rw [if_neg h1] at h
   clear h1
   by_cases h1:isB p [99,111,110,116,105,110,117,101]=true
   ·rw [if_pos h1] at h
    have s:=on_A hp h1
    have b:=s.2.1
    have a:=s
    split at h
    ·
     obtain ⟨q9,h9,h⟩:=Option.bind_eq_some_iff.1 h
     injection h with h; subst h
     have s:=mu_A (a.ok hp) h9
     have b:=s.2.1
     exact (by (try simp only [siz_nd,sizL_cons,sizL_nil,sizL_app] at *); (try dsimp only at *); omega)
    cases h
   rw [if_neg h1] at h
   clear h1
   by_cases h1:isB p [116,104,114,111,119]=true
   ·rw [if_pos h1] at h
    have s:=on_A hp h1
    have b:=s.2.1
    have a:=s
    obtain ⟨c,h2,h⟩:=Option.bind_eq_some_iff.1 h
    have s:=ih.ex _ _ (a.ok hp) h2
    have d:=dh.ex _ _ (a.ok hp) h2
    have b:=s.2.1
    have a:=a.trans s.lev
    obtain ⟨q9,h9,h⟩:=Option.bind_eq_some_iff.1 h
    injection h with h; subst h
    have s:=mu_A (a.ok hp) h9
    have b:=s.2.1
    exact (by (try simp only [siz_nd,sizL_cons,sizL_nil,sizL_app] at *); (try dsimp only at *); omega)
   rw [if_neg h1] at h
   clear h1
   by_cases h1:isB p [116,114,121]=true
   ·rw [if_pos h1] at h
    have s:=on_A hp h1
    have b:=s.2.1
    have a:=s
    have b:=(ih.ty _ _ (a.ok hp) h).2.1
    have d:=dh.ty _ _ (a.ok hp) h
    exact (by (try simp only [siz_nd,sizL_cons,sizL_nil,sizL_app] at *); (try dsimp only at *); omega)
   rw [if_neg h1] at h
   clear h1
   split at h
   ·exact dh.bl _ _ hp h
   obtain ⟨c,h2,h⟩:=Option.bind_eq_some_iff.1 h
   have s:=ih.ex _ _ hp h2
   have d:=dh.ex _ _ hp h2
   have b:=s.2.1
   have a:=s
   obtain ⟨q9,h9,h⟩:=Option.bind_eq_some_iff.1 h
   injection h with h; subst h
   have s:=mu_A (a.ok hp) h9
   have b:=s.2.1
   exact (by (try simp only [siz_nd,sizL_cons,sizL_nil,sizL_app] at *); (try dsimp only at *); omega)
  ·exact blk_D ih.st dh.st _ _ hp h
  ·obtain ⟨c,h2,h⟩:=Option.bind_eq_some_iff.1 h
   injection h with h; subst h
   have s:=ih.bl (inBody b p) _ hp h2
   have d:=dh.bl (inBody b p) _ hp h2
   have b:=s.2.1
   have a:=s
   exact d
  ·obtain ⟨q,h1,h⟩:=Option.bind_eq_some_iff.1 h
   obtain ⟨l,h2,h⟩:=Option.bind_eq_some_iff.1 h
   obtain ⟨b,h3,h⟩:=Option.bind_eq_some_iff.1 h
   have s:=mu_A hp h1
   have b:=s.2.1
   have a:=s
   have s:=loopS_A par_A _ _ _ _ _ (a.ok hp) h2
   have d:=loopS_D par_A par_D _ _ _ _ _ (a.ok hp) h2
   have b:=s.2.1
   have a:=a.trans s.lev
   have s:=ih.bo _ _ _ (a.ok hp) h3
   have d:=dh.bo _ _ _ (a.ok hp) h3
   have b:=s.2.1
   have a:=a.trans s.lev
   injection h with h; subst h; exact (by (try simp only [siz_nd,sizL_cons,sizL_nil,sizL_app] at *); (try dsimp only at *); omega)
  ·obtain ⟨q,h1,h⟩:=Option.bind_eq_some_iff.1 h
   obtain ⟨l,h2,h⟩:=Option.bind_eq_some_iff.1 h
   obtain ⟨b,h3,h⟩:=Option.bind_eq_some_iff.1 h
   have s:=mu_A hp h1
   have b:=s.2.1
   have a:=s
   have s:=ih.ex _ _ (a.ok hp) h2
   have d:=dh.ex _ _ (a.ok hp) h2
   have b:=s.2.1
   have a:=a.trans s.lev
   have s:=mu_A (a.ok hp) h3
   have b:=s.2.1
   have a:=a.trans s.lev
   injection h with h; subst h; exact (by (try simp only [siz_nd,sizL_cons,sizL_nil,sizL_app] at *); (try dsimp only at *); omega)
  ·obtain ⟨c,h1,h⟩:=Option.bind_eq_some_iff.1 h
   obtain ⟨b,h2,h⟩:=Option.bind_eq_some_iff.1 h
   have s:=ih.inn _ _ hp h1
   have d:=dh.inn _ _ hp h1
   have b:=s.2.1
   have a:=s
   have s:=ih.bl _ _ (a.ok hp) h2
   have d:=dh.bl _ _ (a.ok hp) h2
   have b:=s.2.1
   have a:=a.trans s.lev
   split at h
   ·rename_i h3
    have s:=on_A (a.ok hp) h3
    have b:=s.2.1
    have a:=a.trans s.lev
    split at h
    ·rename_i h4
     have s:=on_A (a.ok hp) h4
     have b:=s.2.1
     have a:=a.trans s.lev
     obtain ⟨e,h5,h⟩:=Option.bind_eq_some_iff.1 h
     have s:=ih.if_ _ _ (a.ok hp) h5
     have d:=dh.if_ _ _ (a.ok hp) h5
     have b:=s.2.1
     have a:=a.trans s.lev
     injection h with h; subst h; exact (by (try simp only [siz_nd,sizL_cons,sizL_nil,sizL_app] at *); (try dsimp only at *); omega)
    obtain ⟨e,h5,h⟩:=Option.bind_eq_some_iff.1 h
    have s:=ih.bl _ _ (a.ok hp) h5
    have d:=dh.bl _ _ (a.ok hp) h5
    have b:=s.2.1
    have a:=a.trans s.lev
    injection h with h; subst h; exact (by (try simp only [siz_nd,sizL_cons,sizL_nil,sizL_app] at *); (try dsimp only at *); omega)
   injection h with h; subst h; exact (by (try simp only [siz_nd,sizL_cons,sizL_nil,sizL_app] at *); (try dsimp only at *); omega)
  ·obtain ⟨p1,h1,h⟩:=Option.bind_eq_some_iff.1 h
   obtain ⟨p2,h2,h⟩:=Option.bind_eq_some_iff.1 h
   obtain ⟨p3,h3,h⟩:=Option.bind_eq_some_iff.1 h
   obtain ⟨p4,h4,h⟩:=Option.bind_eq_some_iff.1 h
   obtain ⟨p5,h5,h⟩:=Option.bind_eq_some_iff.1 h
   obtain ⟨p6,h6,h⟩:=Option.bind_eq_some_iff.1 h
   obtain ⟨p7,h7,h⟩:=Option.bind_eq_some_iff.1 h
   have s:=mu_A hp h1
   have b:=s.2.1
   have a:=s
   have s:=mu_A (a.ok hp) h2
   have b:=s.2.1
   have a:=a.trans s.lev
   have s:=(nm_A (a.ok hp) h3).1
   have b:=s.2.1
   have a:=a.trans s.lev
   have s:=mu_A (a.ok hp) h4
   have b:=s.2.1
   have a:=a.trans s.lev
   have s:=ih.ex _ _ (a.ok hp) h5
   have d:=dh.ex _ _ (a.ok hp) h5
   have b:=s.2.1
   have a:=a.trans s.lev
   have s:=mu_A (a.ok hp) h6
   have b:=s.2.1
   have a:=a.trans s.lev
   have s:=ih.bo _ _ _ (a.ok hp) h7
   have d:=dh.bo _ _ _ (a.ok hp) h7
   have b:=s.2.1
   have a:=a.trans s.lev
   injection h with h; subst h; exact (by (try simp only [siz_nd,sizL_cons,sizL_nil,sizL_app] at *); (try dsimp only at *); omega)
  ·obtain ⟨b,h1,h⟩:=Option.bind_eq_some_iff.1 h
   obtain ⟨c,h2,h⟩:=Option.bind_eq_some_iff.1 h
   obtain ⟨f,h3,h⟩:=Option.bind_eq_some_iff.1 h
   have s:=ih.bl _ _ hp h1
   have d:=dh.bl _ _ hp h1
   have b:=s.2.1
   have a:=s
   have a:Adv p c.2∧((c.1.lab.2.1=0∧p.2.1+(siz c.1:Int)≤c.2.2.1+1)∨p.2.1+(siz c.1:Int)≤c.2.2.1):=by
    split at h2
    ·rename_i h4
     obtain ⟨p1,h5,h2⟩:=Option.bind_eq_some_iff.1 h2
     obtain ⟨p2,h6,h2⟩:=Option.bind_eq_some_iff.1 h2
     obtain ⟨p3,h7,h2⟩:=Option.bind_eq_some_iff.1 h2
     obtain ⟨p4,h8,h2⟩:=Option.bind_eq_some_iff.1 h2
     have b0:=a.2.1
     have s1:=on_A (a.ok hp) h4
     have b1:=s1.2.1
     have a:=a.trans s1.lev
     have s2:=mu_A (a.ok hp) h5
     have b2:=s2.2.1
     have a:=a.trans s2.lev
     have s3:=(nm_A (a.ok hp) h6).1
     have b3:=s3.2.1
     have a:=a.trans s3.lev
     have s4:=mu_A (a.ok hp) h7
     have b4:=s4.2.1
     have a:=a.trans s4.lev
     have s5:=ih.bl _ _ (a.ok hp) h8
     have b5:=s5.2.1
     have d5:=dh.bl _ _ (a.ok hp) h8
     have a:=a.trans s5.lev
     injection h2 with h2; subst h2
     refine ⟨a,.inr ?_⟩
     rw [siz_nd,sizL_cons,sizL_cons,sizL_nil]
     (try dsimp only at *)
     omega
    injection h2 with h2; subst h2
    have b0:=a.2.1
    refine ⟨a,.inl ⟨rfl,?_⟩⟩
    rw [siz_nd,sizL_cons,sizL_nil]
    (try dsimp only at *)
    omega
   obtain ⟨a,dc⟩:=a
   have b0:=a.2.1
   have a:(f.1.lab.2.1=0∧p.2.1+(siz f.1:Int)≤f.2.2.1+1)∨p.2.1+(siz f.1:Int)≤f.2.2.1:=by
    split at h3
    ·rename_i h4
     obtain ⟨p1,h5,h3⟩:=Option.bind_eq_some_iff.1 h3
     have s1:=on_A (a.ok hp) h4
     have b1:=s1.2.1
     have a:=a.trans s1.lev
     have s2:=ih.bl _ _ (a.ok hp) h5
     have b2:=s2.2.1
     have d2:=dh.bl _ _ (a.ok hp) h5
     injection h3 with h3; subst h3
     rw [siz_kids] at dc
     right
     rw [siz_nd,sizL_app,sizL_cons,sizL_nil]
     (try dsimp only at *)
     omega
    injection h3 with h3; subst h3; exact dc
   split at h
   ·cases h
   rename_i hn
   injection h with h; subst h
   exact a.resolve_left fun h0=>hn (by rw [h0.1]; rfl)
  ·obtain ⟨e,h1,h⟩:=Option.bind_eq_some_iff.1 h
   have s:=ih.co _ _ hp h1
   have d:=dh.co _ _ hp h1
   have b:=s.2.1
   have a:=s
   split at h
   ·rename_i h2
    split at h
    ·obtain ⟨v,h3,h⟩:=Option.bind_eq_some_iff.1 h
     have s:=on_A (a.ok hp) h2
     have b:=s.2.1
     have a:=a.trans s.lev
     have s:=ih.ex _ _ (a.ok hp) h3
     have d:=dh.ex _ _ (a.ok hp) h3
     have b:=s.2.1
     have a:=a.trans s.lev
     injection h with h; subst h; exact (by (try simp only [siz_nd,sizL_cons,sizL_nil,sizL_app] at *); (try dsimp only at *); omega)
    cases h
   injection h with h; subst h; exact (by (try simp only [siz_nd,sizL_cons,sizL_nil,sizL_app] at *); (try dsimp only at *); omega)
  ·obtain ⟨e,h1,h⟩:=Option.bind_eq_some_iff.1 h
   have s:=ih.bi _ _ _ hp h1
   have d:=dh.bi _ _ _ hp h1
   have b:=s.2.1
   have a:=s
   split at h
   ·rename_i h2
    obtain ⟨x,h3,h⟩:=Option.bind_eq_some_iff.1 h
    obtain ⟨y,h4,h⟩:=Option.bind_eq_some_iff.1 h
    obtain ⟨z,h5,h⟩:=Option.bind_eq_some_iff.1 h
    have s:=on_A (a.ok hp) h2
    have b:=s.2.1
    have a:=a.trans s.lev
    have s:=ih.ex _ _ (a.ok hp) h3
    have d:=dh.ex _ _ (a.ok hp) h3
    have b:=s.2.1
    have a:=a.trans s.lev
    have s:=mu_A (a.ok hp) h4
    have b:=s.2.1
    have a:=a.trans s.lev
    have s:=ih.ex _ _ (a.ok hp) h5
    have d:=dh.ex _ _ (a.ok hp) h5
    have b:=s.2.1
    have a:=a.trans s.lev
    injection h with h; subst h; exact (by (try simp only [siz_nd,sizL_cons,sizL_nil,sizL_app] at *); (try dsimp only at *); omega)
   injection h with h; subst h; exact (by (try simp only [siz_nd,sizL_cons,sizL_nil,sizL_app] at *); (try dsimp only at *); omega)
  ·unfold biN at h
   split at h
   ·exact dh.un _ _ hp h
   obtain ⟨e,h1,h⟩:=Option.bind_eq_some_iff.1 h
   have s:=ih.bi _ _ _ hp h1
   have d:=dh.bi _ _ _ hp h1
   have b:=s.2.1
   have a:=s
   exact loopR_D (ih.bi _) (dh.bi _) _ _ _ _ _ (a.ok hp) (by have:=s.2.1; omega) d h
  ·unfold unN at h
   split at h
   ·rename_i s hs
    obtain ⟨e,h1,h⟩:=Option.bind_eq_some_iff.1 h
    have s:=on_A hp (sgn_some hs).1
    have b:=s.2.1
    have a:=s
    have s:=ih.un _ _ (a.ok hp) h1
    have d:=dh.un _ _ (a.ok hp) h1
    have b:=s.2.1
    have a:=a.trans s.lev
    injection h with h; subst h; exact (by (try simp only [siz_nd,sizL_cons,sizL_nil,sizL_app] at *); (try dsimp only at *); omega)
   obtain ⟨e,h1,h⟩:=Option.bind_eq_some_iff.1 h
   have s:=ih.fi _ _ hp h1
   have d:=dh.fi _ _ hp h1
   have b:=s.2.1
   have a:=s
   exact loopU_D ih.ex dh.ex _ _ _ _ _ (a.ok hp) (by have:=s.2.1; omega) d h
  unfold fiN at h
  by_cases h1:((ppkS p).1==2)=true
  ·rw [if_pos h1] at h
   injection h with h; subst h
   have b:=(pk_A hp (by intro h2; rw [h2] at h1; cases h1)).2.1
   exact (by (try simp only [siz_nd,sizL_cons,sizL_nil,sizL_app] at *); (try dsimp only at *); omega)
  rw [if_neg h1] at h; clear h1
  by_cases h1:((ppkS p).1==3)=true
  ·rw [if_pos h1] at h
   injection h with h; subst h
   have b:=(pk_A hp (by intro h2; rw [h2] at h1; cases h1)).2.1
   exact (by (try simp only [siz_nd,sizL_cons,sizL_nil,sizL_app] at *); (try dsimp only at *); omega)
  rw [if_neg h1] at h; clear h1
  by_cases h1:((ppkS p).1==1)=true
  ·rw [if_pos h1] at h
   injection h with h; subst h
   have b:=(pk_A hp (by intro h2; rw [h2] at h1; cases h1)).2.1
   exact (by (try simp only [siz_nd,sizL_cons,sizL_nil,sizL_app] at *); (try dsimp only at *); omega)
  rw [if_neg h1] at h; clear h1
  by_cases h1:isB p [116,114,117,101]=true
  ·rw [if_pos h1] at h
   injection h with h; subst h
   have b:=(on_A hp h1).2.1
   exact (by (try simp only [siz_nd,sizL_cons,sizL_nil,sizL_app] at *); (try dsimp only at *); omega)
  rw [if_neg h1] at h; clear h1
  by_cases h1:isB p [102,97,108,115,101]=true
  ·rw [if_pos h1] at h
   injection h with h; subst h
   have b:=(on_A hp h1).2.1
   exact (by (try simp only [siz_nd,sizL_cons,sizL_nil,sizL_app] at *); (try dsimp only at *); omega)
  rw [if_neg h1] at h; clear h1
  by_cases h1:isB p [110,117,108,108]=true
  ·rw [if_pos h1] at h
   injection h with h; subst h
   have b:=(on_A hp h1).2.1
   exact (by (try simp only [siz_nd,sizL_cons,sizL_nil,sizL_app] at *); (try dsimp only at *); omega)
  rw [if_neg h1] at h; clear h1
  by_cases h1:isB p [102,110]=true
  ·rw [if_pos h1] at h
   have s:=on_A hp h1
   have b:=s.2.1
   have a:=s
   have b:=(ih.fn _ _ _ (a.ok hp) h).2.1
   have d:=dh.fn _ _ _ (a.ok hp) h
   exact (by (try simp only [siz_nd,sizL_cons,sizL_nil,sizL_app] at *); (try dsimp only at *); omega)
  rw [if_neg h1] at h; clear h1
  by_cases h1:isB p [91]=true
  ·rw [if_pos h1] at h
   have s:=on_A hp h1
   have b:=s.2.1
   have a:=s
   obtain ⟨e,h2,h⟩:=Option.bind_eq_some_iff.1 h
   have s:=loopS_A ih.ex _ _ _ _ _ (a.ok hp) h2
   have d:=loopS_D ih.ex dh.ex _ _ _ _ _ (a.ok hp) h2
   have b:=s.2.1
   have a:=a.trans s.lev
   injection h with h; subst h; exact (by (try simp only [siz_nd,sizL_cons,sizL_nil,sizL_app] at *); (try dsimp only at *); omega)
  rw [if_neg h1] at h; clear h1
  by_cases h1:isB p [123]=true
  ·rw [if_pos h1] at h
   have s:=on_A hp h1
   have b:=s.2.1
   have a:=s
   obtain ⟨e,h2,h⟩:=Option.bind_eq_some_iff.1 h
   have s:=loopS_A (pair_A ih.ex) _ _ _ _ _ (a.ok hp) h2
   have d:=loopS_D (pair_A ih.ex) (pair_D ih.ex dh.ex) _ _ _ _ _ (a.ok hp) h2
   have b:=s.2.1
   have a:=a.trans s.lev
   injection h with h; subst h; exact (by (try simp only [siz_nd,sizL_cons,sizL_nil,sizL_app] at *); (try dsimp only at *); omega)
  rw [if_neg h1] at h; clear h1
  have d:=dh.inn _ _ hp h
  omega
end Go.Proofs.YtalnampdiegmoaaDoor.Ps
