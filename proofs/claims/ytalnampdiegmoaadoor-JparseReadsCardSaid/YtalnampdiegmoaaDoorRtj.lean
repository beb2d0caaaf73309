/- The document's reader of scripts: its laws. -/
import Derived.Test.YtalnampdiegmoaaDoorRtd
import Derived.Test.YtalnampdiegmoaaDoorRtg
namespace Go.Proofs.YtalnampdiegmoaaDoor.Rf
open Go Go.Eng Go.RowKit Ps
set_option linter.unusedVariables false
noncomputable section
theorem pa_hit {t:TT} {s:Bs} (hs:s≠[]) (h:hitB t s=true):(rpaS t).2=tlT t∧(rpaS t).1.2.2.2.1=s∧rwdS t=s:=by
 obtain ⟨x,l,rfl⟩:=hit_len hs h
 unfold hitB at h
 rw [Bool.and_eq_true] at h
 have h1:rwdS (x::l,false)=s:=by simpa using h.1
 refine ⟨rfl,?_,h1⟩
 unfold rwdS at h1
 split at h1
 ·exact h1
 exact absurd h1.symm hs
theorem hit_wd {t:TT} (hb:t.2=false) (s:Bs):hitB t s=(rwdS t==s):=by unfold hitB; rw [hb]; simp
theorem isB_one {q:PS} {s u:Bs} (h:isB q s=true) (hu:u≠s):isB q u=false:=by
 unfold isB at h ⊢
 rw [Bool.and_eq_true] at h
 have e:(ppkS q).2.2.2.1=s:=by simpa using h.2
 rw [e,Bool.and_eq_false_iff]
 exact .inr (beq_false_of_ne (fun e=>hu e.symm))
theorem wa_three (t:TT) (s u v:Bs):waS t [s,u,v]=if hitB t s=true then (0,tlT t) else if hitB t u=true then (1,tlT t) else if hitB t v=true then (2,tlT t) else (-1,t):=by rw [waS_eq]; rfl
theorem wa3 (t:TT):waP t [[40],[91],[46]]:=⟨by decide,by decide⟩
/-- does a loop through commas go on? -/
def goB (t:TT) (e:Bs):Bool:=decide ((waS t [e]).1<0)&&!(waS t [e]).2.2
/-- behind the comma -/
def ctT (acc:List JN) (t:TT):TT:=if decide (acc.length=0)=true then t else neS t [[44]]
theorem ct_eq {t:TT} {e:Bs} (h:(waS t [e]).2=t) (acc:List JN) :
  ((if decide ((acc.length:Int)>0)=true then (neS (waS t [e]).2 [[44]]).1 else (waS t [e]).2.1),(if decide ((acc.length:Int)>0)=true then (neS (waS t [e]).2 [[44]]).2 else (waS t [e]).2.2))=ctT acc t:=by
 rw [h]
 unfold ctT
 by_cases h0:acc.length=0
 ·have hd:decide ((acc.length:Int)>0)=false:=decide_eq_false (by omega)
  rw [if_neg (by rw [hd]; decide),if_neg (by rw [hd]; decide),if_pos (decide_eq_true h0)]
 have hd:decide ((acc.length:Int)>0)=true:=decide_eq_true (by omega)
 rw [if_pos hd,if_pos hd,if_neg (by rw [decide_eq_false h0]; decide)]
theorem go_wa {t:TT} {e:Bs} (h:goB t e=true):(waS t [e]).2=t∧t.2=false∧hitB t e=false:=by
 unfold goB at h
 rw [wa_one] at h ⊢
 split at h
 ·cases h
 rename_i h1
 rw [if_neg h1]
 exact ⟨rfl,by simpa using h,by simpa using h1⟩
theorem ct_len (acc:List JN) (t:TT):(ctT acc t).1.length≤t.1.length:=by
 unfold ctT; split
 ·exact Nat.le_refl _
 exact ne_len t [44]
section
variable {fl:Bool×Bool→Prop} {f:Nat→PS→RJ} {c:Nat} {t0:TT} {g:Nat→PS→RJ} {e:Bs} {pre:List JN} {tl:Nat→List JN×PS→RJ} {L:Nat→List JN→List TK→Bool→Prop} {END:List JN→TT→Prop} {ONE:List JN→TT→(List JN→TT→Prop)→Prop}
/-- a loop through commas -/
theorem com_loop (n:Nat) (he:e≠[]) (hg:∀ M,PA (g M)) (ht0:t0.1.length≤1000000)
  (hend:∀ k acc t,goB t e=false→END acc (waS t [e]).2→L (k+1) acc t.1 t.2)
  (hone:∀ k acc t,goB t e=true→ONE acc (ctT acc t) (fun acc' t'=>L k acc' t'.1 t'.2)→L (k+1) acc t.1 t.2)
  (hE:∀ acc t',acc.length≤1000001→t'.1.length≤n→t'.1.length≤t0.1.length→(t'.2=false→t'.1.length+1≤t0.1.length)→Inv fl f c t0 t' (fun M q=>tl M (pre++acc,q))→END acc t')
  (hO:∀ acc t2 C,acc.length≤1000000→t2.1.length+1≤t0.1.length→Inv fl f c t0 t2 (fun M q=>(g M q).bind fun r=>(loopS (g M) e (fuel r.2) false (pre++acc++[r.1]) r.2).bind (tl M)) →
   (∀ x t3,t3.1.length≤t2.1.length→(t3.2=false→t3.1.length+1≤t2.1.length)→Inv fl f c t0 t3 (fun M q=>(loopS (g M) e (fuel q) false (pre++acc++[x]) q).bind (tl M))→C (acc++[x]) t3)→ONE acc t2 C) :
  ∀ (k:Nat) (acc:List JN) (t:TT),(t.2=false→t.1.length+1<k)→0<k→t.1.length≤n→t.1.length≤t0.1.length→(t.2=false→t.1.length+1≤t0.1.length)→acc.length≤1000001→(t.2=false→acc.length+t.1.length≤1000000) →
  Inv fl f c t0 t (fun M q=>(loopS (g M) e (fuel q) (decide (acc.length=0)) (pre++acc) q).bind (tl M))→L k acc t.1 t.2
 | 0,_,_,_,h,_,_,_,_,_,_=>absurd h (Nat.not_lt_zero _)
 | k+1,acc,t,hk,_,hn,hl,hl1,ha,ha1,i=>by
  cases hv:goB t e with
  | false =>
   refine hend k acc t hv ?_
   cases h1:hitB t e with
   | true =>
    have l1:=tl_lt he h1
    rw [show (waS t [e]).2=tlT t by rw [wa_one,if_pos h1]]
    exact hE acc (tlT t) ha (by omega) (by omega) (fun _=>by omega) (i.commaEnd hg he h1)
   | false =>
    have e1:waS t [e]=(-1,t):=by rw [wa_one,if_neg (by rw [h1]; decide)]
    have ht:t.2=true:=by
     unfold goB at hv
     rw [e1] at hv
     simpa using hv
    rw [e1]
    exact hE acc t ha hn hl hl1 (i.step id fun h=>by rw [ht] at h; cases h)
  | true =>
   obtain ⟨h1,h2,h3⟩:=go_wa hv
   have h4:=hl1 h2; have h5:=ha1 h2; have h6:=hk h2
   have lc:=ct_len acc t
   refine hone k acc t hv (hO acc _ _ (by omega) (by omega) (i.comma hg he h3) fun x t3 h7 h8 i=>?_)
   refine com_loop n he hg ht0 hend hone hE hO k (acc++[x]) t3 (fun h=>by have:=h8 h; omega) (by omega) (by omega) (by omega) (fun h=>by have:=h8 h; omega) (by rw [List.length_append]; simp; omega) (fun h=>by have:=h8 h; rw [List.length_append]; simp; omega) ?_
   have e0:decide ((acc++[x]).length=0)=false:=by simp
   rw [e0,← List.append_assoc]
   exact i
/-- one of a loop through commas: an expression -/
theorem com_ex {acc:List JN} {t2:TT} {C:List JN→TT→Prop} {N:Nat} (hN:okT 2 N t0) (hc:c≤3) (ha:acc.length≤1000000) (h2:t2.1.length+1≤t0.1.length)
  (i:Inv fl f c t0 t2 (fun M q=>(exN M q).bind fun r=>(loopS (exN M) e (fuel r.2) false (pre++acc++[r.1]) r.2).bind (tl M)))
  (hC:∀ x t3,t3.1.length≤t2.1.length→(t3.2=false→t3.1.length+1≤t2.1.length)→Inv fl f c t0 t3 (fun M q=>(loopS (exN M) e (fuel q) false (pre++acc++[x]) q).bind (tl M))→C (acc++[x]) t3) :
  rexP N t2 0∧∀ q,rexR t2 0 q→(acc++[q.1]).length≤2513169434916∧C (acc++[q.1]) q.2 :=
 ⟨⟨⟨by have:=hN.1; omega,by have:=hN.2; omega⟩,.inl rfl⟩,fun r hr=>⟨by rw [List.length_append]; simp; omega,by
  have hr:=rex0 hr
  exact hC _ _ hr.1 hr.2.1 (i.call (fun M=>M) hr (fun _ _=>trivial) (fun _ M h=>by omega) (fun M=>(allA M).ex) fun M q _=>rfl)⟩⟩
end

theorem run_end {N:Nat} {t0:TT} (hN:okT 4 (N+1) t0) {K:JN→TT→Prop} (hK:∀ a b,runR t0 (a,b)→K a b):∀ (k:Nat) (a:JN) (t:TT),(t.2=false→t.1.length+1<k)→0<k→t.1.length≤t0.1.length→(t.2=false→t.1.length+1≤t0.1.length) →
  Inv anyF unN 3 t0 t (fun M q=>loopU (exN M) (fuel q) a q)→runl19 N K k a.lab.1 a.lab.2.1 a.lab.2.2 a.kids t.1 t.2
 | 0,_,_,_,h,_,_,_=>absurd h (Nat.not_lt_zero _)
 | k+1,a,t,hk,_,hl,hl1,i=>by
  have ea:Tree.mk (a.lab.1,a.lab.2.1,a.lab.2.2) a.kids=a:=by cases a; rfl
  unfold runl19 runl19b
  rw [ea]
  cases ht:t.2 with
  | true =>
   refine ⟨fun h=>(by cases h),fun _=>?_⟩
   refine hK a (t.1,true) ?_
   rw [← ht]
   exact i.fin _ hl hl1 fun h=>by rw [ht] at h; cases h
  | false =>
   refine ⟨fun _=>⟨wa3 _,?_⟩,fun h=>(by cases h)⟩
   rw [show (t.1,false)=t by rw [← ht],wa_three]
   have h4:=hl1 ht; have h6:=hk ht
   have hrec:∀ (x:JN) (t':TT),t'.1.length+1≤t.1.length→Inv anyF unN 3 t0 t' (fun M q=>loopU (exN M) (fuel q) x q)→runl19 N K k x.lab.1 x.lab.2.1 x.lab.2.2 x.kids t'.1 t'.2:=fun x t' h1 i=>run_end hN hK k x t' (fun _=>by omega) (by omega) (by omega) (fun _=>by omega) i
   cases h1:hitB t [40] with
   | true =>
    rw [if_pos rfl]
    refine ⟨fun _=>?_,fun h=>(by cases h)⟩
    have l1:=tl_lt (s:=[40]) (by decide) h1
    have i:=i.hit (s:=[40]) (by decide) h1 (k':=fun M q=>(loopS (exN M) [41] (fuel q) (decide (([]:List JN).length=0)) ([a]++[]) q).bind fun r=>loopU (exN M) (fuel r.2) (nd 11 0 [] r.1) r.2) fun M q hc hi=>by
     rw [loopU_un (allA M).ex hc.ps,if_pos hi]; rfl
    have hl:∀ (L:Nat→List JN→List TK→Bool→Prop)
      (hend:∀ k' acc t',goB t' [41]=false→(([a]++acc).length≤2513169434916∧runl19 N K k 11 0 [] ([a]++acc) (waS t' [[41]]).2.1 (waS t' [[41]]).2.2)→L (k'+1) acc t'.1 t'.2)
      (hone:∀ k' acc t',goB t' [41]=true→(rexP N (ctT acc t') 0∧∀ q,rexR (ctT acc t') 0 q→(acc++[q.1]).length≤2513169434916∧L k' (acc++[q.1]) q.2.1 q.2.2)→L (k'+1) acc t'.1 t'.2),∃ k',L k' [] (tlT t).1 (tlT t).2:=fun L hend hone=>by
     refine ⟨t.1.length+3,com_loop (t0:=t0) (g:=exN) (e:=[41]) (pre:=[a]) (END:=fun acc t'=>([a]++acc).length≤2513169434916∧runl19 N K k 11 0 [] ([a]++acc) t'.1 t'.2)
      (ONE:=fun acc t2 C=>rexP N t2 0∧∀ q,rexR t2 0 q→(acc++[q.1]).length≤2513169434916∧C (acc++[q.1]) q.2) (tlT t).1.length (by decide) (fun M=>(allA M).ex) hN.1 hend hone (fun acc t' h1 hn h2 h3 i=>?_) (fun acc t2 C ha h2 i hC=>?_) _ [] (tlT t) (fun _=>by omega) (by omega) (Nat.le_refl _) (by omega) (fun _=>by omega) (by simp) (fun _=>by have:=hN.1; simp; omega) i⟩
     ·exact ⟨by rw [List.length_append]; simp; omega,hrec (nd 11 0 [] ([a]++acc)) t' (by omega) i⟩
     exact com_ex ⟨hN.1,by have:=hN.2; omega⟩ (by decide) ha h2 i hC
    refine ⟨⟨hl (runl7x2 N a.lab.1 a.lab.2.1 a.lab.2.2 a.kids (runl19 N K k)) ?_ ?_,hl (runl7x3y N a.lab.1 a.lab.2.1 a.lab.2.2 a.kids (runl19 N K k)) ?_ ?_⟩,hl (runl7x4y N a.lab.1 a.lab.2.1 a.lab.2.2 a.kids (runl19 N K k)) ?_ ?_⟩
    ·intro k' acc t' hv h
     have hj:runj9i47 N acc t'.1 t'.2 a.lab.1 a.lab.2.1 a.lab.2.2 a.kids (runl19 N K k) (runl7x2 N a.lab.1 a.lab.2.1 a.lab.2.2 a.kids (runl19 N K k) k'):=by
      unfold runj9i47; rw [ea]; exact ⟨fun h1=>absurd (hv.symm.trans (h1:goB t' [41]=true)) (by decide),fun _=>h⟩
     exact ⟨wa1 _ (by decide),fun _=>hj,fun _=>hj⟩
    ·intro k' acc t' hv h
     have hx:runj15i47 N acc t'.1 t'.2 (runl7x2 N a.lab.1 a.lab.2.1 a.lab.2.2 a.kids (runl19 N K k) k'):=by
      have e7:(runV15 acc t'.1 t'.2,runV16 acc t'.1 t'.2)=ctT acc t':=ct_eq (go_wa hv).1 acc
      unfold runj15i47; rw [e7]; exact h
     have hj:runj9i47 N acc t'.1 t'.2 a.lab.1 a.lab.2.1 a.lab.2.2 a.kids (runl19 N K k) (runl7x2 N a.lab.1 a.lab.2.1 a.lab.2.2 a.kids (runl19 N K k) k'):=⟨fun _=>⟨fun _=>⟨wa1 _ (by decide),hx⟩,fun _=>hx⟩,fun h=>absurd (hv.symm.trans (h:goB t' [41]=false)) (by decide)⟩
     exact ⟨wa1 _ (by decide),fun _=>hj,fun _=>hj⟩
    ·intro k' acc t' hv h
     have hj:runj9i47a N t'.1 t'.2 a.lab.1 a.lab.2.1 a.lab.2.2 a.kids (runl19 N K k) acc (runl7x3y N a.lab.1 a.lab.2.1 a.lab.2.2 a.kids (runl19 N K k) k'):=by
      unfold runj9i47a; rw [ea]; exact ⟨fun h1=>absurd (hv.symm.trans (h1:goB t' [41]=true)) (by decide),fun _=>h⟩
     exact ⟨wa1 _ (by decide),fun _=>hj,fun _=>hj⟩
    ·intro k' acc t' hv h
     have hx:runj15i47a N t'.1 t'.2 acc (runl7x3y N a.lab.1 a.lab.2.1 a.lab.2.2 a.kids (runl19 N K k) k'):=by
      have e7:(runV19 t'.1 t'.2 acc,runV20 t'.1 t'.2 acc)=ctT acc t':=ct_eq (go_wa hv).1 acc
      unfold runj15i47a; rw [e7]; exact h
     have hj:runj9i47a N t'.1 t'.2 a.lab.1 a.lab.2.1 a.lab.2.2 a.kids (runl19 N K k) acc (runl7x3y N a.lab.1 a.lab.2.1 a.lab.2.2 a.kids (runl19 N K k) k'):=⟨fun _=>⟨fun _=>⟨wa1 _ (by decide),hx⟩,fun _=>hx⟩,fun h=>absurd (hv.symm.trans (h:goB t' [41]=false)) (by decide)⟩
     exact ⟨wa1 _ (by decide),fun _=>hj,fun _=>hj⟩
    ·intro k' acc t' hv h
     have hj:runj9i47b N t'.1 t'.2 a.lab.1 a.lab.2.1 a.lab.2.2 a.kids (runl19 N K k) acc (runl7x4y N a.lab.1 a.lab.2.1 a.lab.2.2 a.kids (runl19 N K k) k'):=by
      unfold runj9i47b; rw [ea]; exact ⟨fun h1=>absurd (hv.symm.trans (h1:goB t' [41]=true)) (by decide),fun _=>h⟩
     exact ⟨wa1 _ (by decide),fun _=>hj,fun _=>hj⟩
    intro k' acc t' hv h
    have hx:runj15i47b N t'.1 t'.2 acc (runl7x4y N a.lab.1 a.lab.2.1 a.lab.2.2 a.kids (runl19 N K k) k'):=by
     have e7:(runV23 t'.1 t'.2 acc,runV24 t'.1 t'.2 acc)=ctT acc t':=ct_eq (go_wa hv).1 acc
     unfold runj15i47b; rw [e7]; exact h
    have hj:runj9i47b N t'.1 t'.2 a.lab.1 a.lab.2.1 a.lab.2.2 a.kids (runl19 N K k) acc (runl7x4y N a.lab.1 a.lab.2.1 a.lab.2.2 a.kids (runl19 N K k) k'):=⟨fun _=>⟨fun _=>⟨wa1 _ (by decide),hx⟩,fun _=>hx⟩,fun h=>absurd (hv.symm.trans (h:goB t' [41]=false)) (by decide)⟩
    exact ⟨wa1 _ (by decide),fun _=>hj,fun _=>hj⟩
   | false =>
    rw [if_neg (by decide)]
    cases h2:hitB t [91] with
    | true =>
     rw [if_pos rfl]
     refine ⟨fun h=>(by cases h),fun _=>⟨fun _=>?_,fun h=>(by cases h)⟩⟩
     have l1:=tl_lt (s:=[91]) (by decide) h2
     have i:=i.hit (s:=[91]) (by decide) h2 (k':=fun M q=>(exN M q).bind fun r=>(pmuS r.2 [93]).bind fun p=>loopU (exN M) (fuel p) (nd 12 0 [] [a,r.1]) p) fun M q hc hi=>by
      rw [loopU_un (allA M).ex hc.ps,if_neg (by rw [isB_one hi (by decide)]; decide),if_pos hi]
     refine ⟨⟨⟨by have:=hN.1; show (tlT t).1.length≤_; omega,by have:=hN.2; show 40 * (tlT t).1.length+_<_; omega⟩,.inl rfl⟩,fun r hr=>⟨wa1 _ (by decide),?_⟩⟩
     have hr:Rl anyF exN 12 (tlT t) r:=rex0 hr
     have i:=i.call (fun M=>M) hr (fun _ _=>trivial) (fun hb M h=>by omega) (fun M=>(allA M).ex) fun M q _=>rfl
     have i:=i.need (s:=[93]) (k':=fun M q=>loopU (exN M) (fuel q) (nd 12 0 [] [a,r.1]) q) (by decide) fun M q _=>rfl
     have l2:=ne_len r.2 [93]; have l3:=hr.1
     exact hrec (nd 12 0 [] [a,r.1]) (neS r.2 [[93]]) (by omega) i
    | false =>
     rw [if_neg (by decide)]
     cases h3:hitB t [46] with
     | true =>
      rw [if_pos rfl]
      have l1:=tl_lt (s:=[46]) (by decide) h3
      have i:=i.hit (s:=[46]) (by decide) h3 (k':=fun M q=>(pnmS q).bind fun r=>loopU (exN M) (fuel r.2) (nd 13 0 r.1 [a]) r.2) fun M q hc hi=>by
       rw [loopU_un (allA M).ex hc.ps,if_neg (by rw [isB_one hi (by decide)]; decide),if_neg (by rw [isB_one hi (by decide)]; decide),if_pos hi]
      have i:=i.nameOf (k':=fun n M q=>loopU (exN M) (fuel q) (nd 13 0 n [a]) q) fun M q _=>rfl
      have l2:=nm_len (tlT t)
      have:=hrec (nd 13 0 (rnmS (tlT t)).1 [a]) (rnmS (tlT t)).2 (by omega) i
      exact ⟨fun h=>(by cases h),fun _=>⟨fun h=>(by cases h),fun _=>⟨fun _=>⟨this,this,this⟩,fun h=>(by cases h)⟩⟩⟩
     | false =>
      rw [if_neg (by decide)]
      refine ⟨fun h=>(by cases h),fun _=>⟨fun h=>(by cases h),fun _=>⟨fun h=>(by cases h),fun _=>?_⟩⟩⟩
      refine hK a t (i.fin a hl hl1 fun hb M q hc=>?_)
      have e1:=h1; have e2:=h2; have e3:=h3
      rw [hit_is hc.ps hc.tk hc.dp hb (by decide)] at e1 e2 e3
      rw [loopU_un (allA M).ex hc.ps,if_neg (by rw [e1]; decide),if_neg (by rw [e2]; decide),if_neg (by rw [e3]; decide)]
theorem run_F (N:Nat) (t:TT) (hp:runP (N+1) t):runF N t (fun a b=>runR t (a,b)) False:=by
 have hp:okT 4 (N+1) t:=hp
 have i0:Inv anyF unN 3 t t fun M q=>match sgn q [[33],[45]] with
  | some s=>(unN M (onS q)).bind fun e=>some (nd 14 0 s [e.1],e.2)
  | none=>(fiN M q).bind fun e=>loopU (exN M) (fuel q) e.1 e.2:=Inv.start fun _ M q _=>rfl
 have hj:runj4 N t (fun a b=>runR t (a,b)):=by
  refine ⟨fun h=>?_,fun h=>?_⟩
  ·unfold runV0 at h
   rw [Bool.and_eq_true,Bool.or_eq_true] at h
   have hb:t.2=false:=by simpa using h.1
   have hs:∃ s:Bs,s≠[]∧hitB t s=true∧∀ q,isB q s=true→sgn q [[33],[45]]=some s:=by
    rcases h.2 with h | h
    ·exact ⟨[33],by decide,by rw [hit_wd hb]; exact h,fun q hq=>by unfold sgn; rw [if_pos hq]⟩
    exact ⟨[45],by decide,by rw [hit_wd hb]; exact h,fun q hq=>by unfold sgn; rw [if_neg (by rw [isB_one hq (by decide)]; decide)]; unfold sgn; rw [if_pos hq]⟩
   obtain ⟨s,hs,h1,h2⟩:=hs
   obtain ⟨e1,e2,_⟩:=pa_hit hs h1
   have l1:=tl_lt hs h1
   rw [e1,e2]
   refine ⟨⟨by have:=hp.1; omega,by have:=hp.2; omega⟩,fun r hr=>?_⟩
   have hr:Rl anyF unN 3 (tlT t) r:=hr
   have i:=i0.hit hs h1 (k':=fun M q=>(unN M q).bind fun e=>some (nd 14 0 s [e.1],e.2)) fun M q hc hi=>by rw [h2 q hi]
   have i:=i.call (fun M=>M) hr (fun _ _=>trivial) (fun hb M h=>by omega) (fun M=>(allA M).un) fun M q _=>rfl
   have l2:=hr.1
   exact i.fin (nd 14 0 s [r.1]) (by omega) (fun _=>by omega) fun _ M q _=>rfl
  refine ⟨⟨hp.1,by have:=hp.2; omega⟩,fun r hr=>⟨r.2.1.length+3,?_⟩⟩
  have hr:Rl anyF fiN 2 t r:=hr
  have i:=i0.same (k':=fun M q=>(fiN M q).bind fun e=>loopU (exN M) (fuel e.2) e.1 e.2) fun hb M q hc=>by
   unfold runV0 at h
   rw [hb,Bool.not_false,Bool.true_and,Bool.or_eq_false_iff,wd_is hc.ps hc.tk hc.dp (by decide),wd_is hc.ps hc.tk hc.dp (by decide)] at h
   have e:sgn q [[33],[45]]=none:=by
    unfold sgn; rw [if_neg (by rw [h.1]; decide)]
    unfold sgn; rw [if_neg (by rw [h.2]; decide)]; rfl
   rw [e]
   show (fiN M q).bind _=(fiN M q).bind _
   cases hf:fiN M q with
   | none=>rfl
   | some x =>
    have a:=(allA M).fi _ _ hc.ps hf
    show loopU _ (fuel q) _ _=loopU _ (fuel x.2) _ _
    unfold fuel; rw [a.1]
  have i:=i.call (fun M=>M) hr (fun _ _=>trivial) (fun hb M h=>by omega) (fun M=>(allA M).fi) fun M q _=>rfl
  exact run_end hp (fun a b h=>h) _ r.1 r.2 (fun _=>by omega) (by omega) hr.1 hr.2.1 i
 exact ⟨fun _=>⟨fun _=>hj,fun _=>hj⟩,fun _=>hj⟩
theorem run_0 (t:TT) (hp:runP 0 t):False:=absurd hp.2 (Nat.not_lt_zero _)
end
end Go.Proofs.YtalnampdiegmoaaDoor.Rf
namespace Go.Proofs.YtalnampdiegmoaaDoor.Rf
open Go Go.Eng Go.RowKit Ps
set_option linter.unusedVariables false
noncomputable section
theorem fi_un (M:Nat) (p:PS):fiN (M+1) p =
  if ((ppkS p).1==2)=true then some (nd 1 (ppkS p).2.2.2.2 [] [],onS p) else
  if ((ppkS p).1==3)=true then some (nd 2 0 (ppkS p).2.2.2.1 [],onS p) else
  if ((ppkS p).1==1)=true then some (nd 5 0 (ppkS p).2.2.2.1 [],onS p) else
  if isB p [116,114,117,101]=true then some (nd 3 1 [] [],onS p) else
  if isB p [102,97,108,115,101]=true then some (nd 3 0 [] [],onS p) else
  if isB p [110,117,108,108]=true then some (nd 4 0 [] [],onS p) else
  if isB p [102,110]=true then fnN M (onS p) [] else
  if isB p [91]=true then (loopS (exN M) [93] (fuel p) true [] (onS p)).bind fun l=>some (nd 6 0 [] l.1,l.2) else
  if isB p [123]=true then (loopS (pairS (exN M)) [125] (fuel p) true [] (onS p)).bind fun l=>some (nd 7 0 [] l.1,l.2) else inN M p:=rfl
section
variable {fl:Bool×Bool→Prop} {f:Nat→PS→RJ} {c:Nat} {t0 t:TT} {k:Nat→PS→RJ}
/-- a token is taken -/
theorem Inv.take {k':Nat→PS→RJ} (h:Inv fl f c t0 t k) (hz:(rpaS t).1≠(0,0,0,[],0)) (hk:∀ M q,Cx fl (40 * t0.1.length+c) t M q→(rpaS t).1=ppkS q→1≤(ppkS q).1∧(ppkS q).1≤5→k M q=k' M (onS q)):Inv fl f c t0 (rpaS t).2 k' :=
 h.step (fun hb=>(pa_bad hb).2) fun hb M q hc=>by
  rcases pa_dp hc.ps hc.dp hb with ⟨hl,e⟩ | ⟨_,e⟩
  ·right
   have hk:=hk M q hc (by rw [e]) (pk_kind hc.ps hc.tk hl)
   rw [e]
   exact ⟨rfl,onS q,lev_on hc.ps hl,rfl,hk⟩
  rw [e] at hz; exact absurd rfl hz
theorem pa_lt (hz:(rpaS t).1≠(0,0,0,[],0)):(rpaS t).2.1.length+1≤t.1.length:=by
 obtain ⟨l,b⟩:=t
 cases l with
 | nil=>exact absurd rfl hz
 | cons x l=>cases b with
  | true=>exact absurd rfl hz
  | false=>exact Nat.le_refl _
end
theorem is_tx {q:PS} (h4:(ppkS q).1=4∨(ppkS q).1=5) (s:Bs):isB q s=((ppkS q).2.2.2.1==s):=by
 unfold isB
 rcases h4 with e | e <;> rw [e] <;> rfl
theorem kz {t:TT} {s:Bs} (hs:s≠[]) (h:((rpaS t).1.2.2.2.1==s)=true):(rpaS t).1≠(0,0,0,[],0):=fun e=>by
 rw [e] at h
 have:s=[]:=by simpa using h
 exact hs this
theorem kn {t:TT} {n:Int} (hn:n≠0) (h:((rpaS t).1.1==n)=true):(rpaS t).1≠(0,0,0,[],0):=fun e=>by
 rw [e] at h
 have:0=n:=by simpa using h
 exact hn this.symm
theorem pair_bind {f:PS→RJ} {q:PS} {β:Type} (k:JN×PS→Option β):(pairS f q).bind k=(pnmS q).bind fun r=>(pmuS r.2 [58]).bind fun p=>(f p).bind fun x=>k (nd 8 0 r.1 [x.1],x.2):=by
 unfold pairS; rw [Option.bind_assoc]; congr 1; funext r; rw [Option.bind_assoc]; congr 1; funext p; rw [Option.bind_assoc]; rfl
theorem rfi_F (N:Nat) (t:TT) (hp:rfiP (N+1) t):rfiF N t (fun a b=>rfiR t (a,b)):=by
 have hp:okT 3 (N+1) t:=hp
 have hp1:=hp.1; have hp2:=hp.2
 have lp:=pa_len t
 have i0:Inv anyF fiN 2 t t fun M q=>fiN (M+1) q:=Inv.start fun _ M q _=>rfl
 have done:∀ (n:JN),(rpaS t).1≠(0,0,0,[],0)→(∀ M q,(rpaS t).1=ppkS q→1≤(ppkS q).1∧(ppkS q).1≤5→fiN (M+1) q=some (n,onS q))→rfiR t (n,(rpaS t).2):=fun n hz h=>by
  have l1:=pa_lt hz
  exact (i0.take hz (k':=fun M q=>some (n,q)) fun M q _ h1 h2=>h M q h1 h2).fin n (by omega) (fun _=>l1) fun _ M q _=>rfl
 refine ⟨fun h1=>done _ (kn (by decide) h1) fun M q e _=>?_,fun h1=>⟨fun h2=>done _ (kn (by decide) h2) fun M q e _=>?_,fun h2=>⟨fun h3=>done _ (kn (by decide) h3) fun M q e _=>?_,fun h3=>?_⟩⟩⟩
 ·rw [e] at h1 ⊢
  have e1:(ppkS q).1=1:=by simpa using h1
  rw [fi_un,if_neg (by rw [e1]; decide),if_neg (by rw [e1]; decide),if_pos h1]; rfl
 ·rw [e] at h2 ⊢
  rw [fi_un,if_pos h2]; rfl
 ·rw [e] at h3 ⊢
  have e1:(ppkS q).1=3:=by simpa using h3
  rw [fi_un,if_neg (by rw [e1]; decide),if_pos h3]; rfl
 have hw:∀ M q,(rpaS t).1=ppkS q→1≤(ppkS q).1∧(ppkS q).1≤5→(∀ s,isB q s=((rpaS t).1.2.2.2.1==s))∧fiN (M+1) q =
   if isB q [116,114,117,101]=true then some (nd 3 1 [] [],onS q) else
   if isB q [102,97,108,115,101]=true then some (nd 3 0 [] [],onS q) else
   if isB q [110,117,108,108]=true then some (nd 4 0 [] [],onS q) else
   if isB q [102,110]=true then fnN M (onS q) [] else
   if isB q [91]=true then (loopS (exN M) [93] (fuel q) true [] (onS q)).bind fun l=>some (nd 6 0 [] l.1,l.2) else
   if isB q [123]=true then (loopS (pairS (exN M)) [125] (fuel q) true [] (onS q)).bind fun l=>some (nd 7 0 [] l.1,l.2) else inN M q:=fun M q e hk=>by
  rw [e] at h1 h2 h3 ⊢
  have e1:(ppkS q).1≠1:=by simpa using h1
  have e2:(ppkS q).1≠2:=by simpa using h2
  have e3:(ppkS q).1≠3:=by simpa using h3
  refine ⟨is_tx (by omega),?_⟩
  rw [fi_un,if_neg (by rw [h2]; decide),if_neg (by rw [h3]; decide),if_neg (by rw [h1]; decide)]
 have wn:∀ {s:Bs} {q:PS},((rpaS t).1.2.2.2.1==s)=false→isB q s=((rpaS t).1.2.2.2.1==s)→¬ isB q s=true:=fun h e=>by rw [e,h]; decide
 refine ⟨fun h4=>done _ (kz (by decide) h4) fun M q e hk=>?_,fun h4=>⟨fun h5=>done _ (kz (by decide) h5) fun M q e hk=>?_,fun h5=>⟨fun h6=>done _ (kz (by decide) h6) fun M q e hk=>?_,fun h6=>⟨fun h7=>?_,fun h7=>⟨fun h8=>?_,fun h8=>⟨fun h9=>?_,fun h9=>⟨fun h10=>?_,fun h10=>?_⟩⟩⟩⟩⟩⟩⟩
 ·obtain ⟨w,e2⟩:=hw M q e hk
  rw [e2,if_pos (by rw [w]; exact h4)]; rfl
 ·obtain ⟨w,e2⟩:=hw M q e hk
  rw [e2,if_neg (wn h4 (w _)),if_pos (by rw [w]; exact h5)]; rfl
 ·obtain ⟨w,e2⟩:=hw M q e hk
  rw [e2,if_neg (wn h4 (w _)),if_neg (wn h5 (w _)),if_pos (by rw [w]; exact h6)]; rfl
 ·have hz:=kz (by decide) h7
  have l1:=pa_lt hz
  refine ⟨⟨by omega,by omega⟩,fun r hr=>?_⟩
  have hr:Rl anyF (fun M p=>fnN M p []) 3 (rpaS t).2 r:=hr
  have i:=i0.take hz (k':=fun M q=>(fnN M q []).bind fun x=>some x) fun M q hc e hk=>by
   obtain ⟨w,e2⟩:=hw M q e hk
   rw [e2,if_neg (wn h4 (w _)),if_neg (wn h5 (w _)),if_neg (wn h6 (w _)),if_pos (by rw [w]; exact h7)]
   cases fnN M (onS q) [] <;> rfl
  have i:=i.call (fun M=>M) hr (fun _ _=>trivial) (fun hb M h=>by omega) (fun M=>(allA M).fn []) fun M q _=>rfl
  have l2:=hr.1
  exact i.fin r.1 (by omega) (fun _=>by omega) fun _ M q _=>rfl
 ·have hz:=kz (by decide) h8
  have l1:=pa_lt hz
  have i:=i0.take hz (k':=fun M q=>(loopS (exN M) [93] (fuel q) (decide (([]:List JN).length=0)) ([]++[]) q).bind fun l=>some (nd 6 0 [] l.1,l.2)) fun M q hc e hk=>by
   obtain ⟨w,e2⟩:=hw M q e hk
   rw [e2,if_neg (wn h4 (w _)),if_neg (wn h5 (w _)),if_neg (wn h6 (w _)),if_neg (wn h7 (w _)),if_pos (by rw [w]; exact h8)]; rfl
  refine ⟨t.1.length+3,com_loop (t0:=t) (g:=exN) (e:=[93]) (pre:=[]) (END:=fun acc t'=>rfiR t (nd 6 0 [] acc,t'))
   (ONE:=fun acc t2 C=>rexP N t2 0∧∀ q,rexR t2 0 q→(acc++[q.1]).length≤2513169434916∧C (acc++[q.1]) q.2) (rpaS t).2.1.length (by decide) (fun M=>(allA M).ex) hp1 ?_ ?_ (fun acc t' _ _ h2 h3 i=>i.fin (nd 6 0 [] acc) h2 h3 fun _ M q _=>rfl) (fun acc t2 C ha h2 i hC=>com_ex ⟨hp1,by omega⟩ (by decide) ha h2 i hC) _ [] (rpaS t).2 (fun _=>by omega) (by omega) (Nat.le_refl _) (by omega) (fun _=>by omega) (by simp) (fun _=>by simp; omega) i⟩
  ·intro k' acc t' hv h
   have hj:rfij9i49 N (fun a b=>rfiR t (a,b)) t'.1 t'.2 acc (rfil7x1 N (fun a b=>rfiR t (a,b)) k'):=⟨fun h1=>absurd (hv.symm.trans (h1:goB t' [93]=true)) (by decide),fun _=>h⟩
   exact ⟨wa1 _ (by decide),fun _=>hj,fun _=>hj⟩
  intro k' acc t' hv h
  have hx:rfij15i49 N t'.1 t'.2 acc (rfil7x1 N (fun a b=>rfiR t (a,b)) k'):=by
   have e7:(rfiV15 t'.1 t'.2 acc,rfiV16 t'.1 t'.2 acc)=ctT acc t':=ct_eq (go_wa hv).1 acc
   unfold rfij15i49; rw [e7]; exact h
  have hj:rfij9i49 N (fun a b=>rfiR t (a,b)) t'.1 t'.2 acc (rfil7x1 N (fun a b=>rfiR t (a,b)) k'):=⟨fun _=>⟨fun _=>⟨wa1 _ (by decide),hx⟩,fun _=>hx⟩,fun h=>absurd (hv.symm.trans (h:goB t' [93]=false)) (by decide)⟩
  exact ⟨wa1 _ (by decide),fun _=>hj,fun _=>hj⟩
 ·have hz:=kz (by decide) h9
  have l1:=pa_lt hz
  have i:=i0.take hz (k':=fun M q=>(loopS (pairS (exN M)) [125] (fuel q) (decide (([]:List JN).length=0)) ([]++[]) q).bind fun l=>some (nd 7 0 [] l.1,l.2)) fun M q hc e hk=>by
   obtain ⟨w,e2⟩:=hw M q e hk
   rw [e2,if_neg (wn h4 (w _)),if_neg (wn h5 (w _)),if_neg (wn h6 (w _)),if_neg (wn h7 (w _)),if_neg (wn h8 (w _)),if_pos (by rw [w]; exact h9)]; rfl
  refine ⟨t.1.length+3,com_loop (t0:=t) (g:=fun M=>pairS (exN M)) (e:=[125]) (pre:=[]) (END:=fun acc t'=>rfiR t (nd 7 0 [] acc,t'))
   (ONE:=fun acc t2 C=>waP (rnmS t2).2 [[58]]∧rexP N (neS (rnmS t2).2 [[58]]) 0∧∀ q,rexR (neS (rnmS t2).2 [[58]]) 0 q→(acc++[nd 8 0 (rnmS t2).1 [q.1]]).length≤2513169434916∧C (acc++[nd 8 0 (rnmS t2).1 [q.1]]) q.2) (rpaS t).2.1.length (by decide) (fun M=>pair_A (allA M).ex) hp1 ?_ ?_ (fun acc t' _ _ h2 h3 i=>i.fin (nd 7 0 [] acc) h2 h3 fun _ M q _=>rfl) (fun acc t2 C ha h2 i hC=>?_) _ [] (rpaS t).2 (fun _=>by omega) (by omega) (Nat.le_refl _) (by omega) (fun _=>by omega) (by simp) (fun _=>by simp; omega) i⟩
  ·intro k' acc t' hv h
   have hj:rfij9i55 N (fun a b=>rfiR t (a,b)) t'.1 t'.2 acc (rfil7x2 N (fun a b=>rfiR t (a,b)) k'):=⟨fun h1=>absurd (hv.symm.trans (h1:goB t' [125]=true)) (by decide),fun _=>h⟩
   exact ⟨wa1 _ (by decide),fun _=>hj,fun _=>hj⟩
  ·intro k' acc t' hv h
   have hx:rfij15i55 N t'.1 t'.2 acc (rfil7x2 N (fun a b=>rfiR t (a,b)) k'):=by
    have e7:(rfiV20 t'.1 t'.2 acc,rfiV21 t'.1 t'.2 acc)=ctT acc t':=ct_eq (go_wa hv).1 acc
    unfold rfij15i55; rw [e7]; exact h
   have hj:rfij9i55 N (fun a b=>rfiR t (a,b)) t'.1 t'.2 acc (rfil7x2 N (fun a b=>rfiR t (a,b)) k'):=⟨fun _=>⟨fun _=>⟨wa1 _ (by decide),hx⟩,fun _=>hx⟩,fun h=>absurd (hv.symm.trans (h:goB t' [125]=false)) (by decide)⟩
   exact ⟨wa1 _ (by decide),fun _=>hj,fun _=>hj⟩
  have l3:=nm_len t2; have l4:=ne_len (rnmS t2).2 [58]
  have i:=i.same (k':=fun M q=>(pnmS q).bind fun r=>(pmuS r.2 [58]).bind fun p=>(exN M p).bind fun x=>(loopS (pairS (exN M)) [125] (fuel x.2) false ([]++acc++[nd 8 0 r.1 [x.1]]) x.2).bind fun l=>some (nd 7 0 [] l.1,l.2)) fun _ M q _=>pair_bind _
  have i:=i.nameOf (k':=fun n M q=>(pmuS q [58]).bind fun p=>(exN M p).bind fun x=>(loopS (pairS (exN M)) [125] (fuel x.2) false ([]++acc++[nd 8 0 n [x.1]]) x.2).bind fun l=>some (nd 7 0 [] l.1,l.2)) fun M q _=>rfl
  have i:=i.need (s:=[58]) (by decide) fun M q _=>rfl
  refine ⟨wa1 _ (by decide),⟨⟨by omega,by omega⟩,.inl rfl⟩,fun r hr=>⟨by rw [List.length_append]; simp; omega,?_⟩⟩
  have hr:=rex0 hr
  have i:=i.call (fun M=>M) hr (fun _ _=>trivial) (fun hb M h=>by omega) (fun M=>(allA M).ex) fun M q _=>rfl
  have l5:=hr.1; have l6:=hr.2.1
  exact hC (nd 8 0 (rnmS t2).1 [r.1]) r.2 (by omega) (fun hb=>by have:=l6 hb; omega) i
 ·have hz:=kz (by decide) h10
  have l1:=pa_lt hz
  have i:=i0.step (t':=(rpaS t).2) (k':=fun M q=>(exN (M - 1) q).bind fun e=>(pmuS e.2 [41]).bind fun p=>some (e.1,p)) (fun hb=>(pa_bad hb).2) fun hb M q hc=>by
   rcases pa_dp hc.ps hc.dp hb with ⟨hl,e⟩ | ⟨_,e⟩
   ·right
    obtain ⟨w,e2⟩:=hw M q (by rw [e]) (pk_kind hc.ps hc.tk hl)
    have hM:40 * t.1.length+2<M+1:=hc.fu
    obtain ⟨M,rfl⟩:∃ M',M=M'+1:=⟨M - 1,by omega⟩
    rw [e2,if_neg (wn h4 (w _)),if_neg (wn h5 (w _)),if_neg (wn h6 (w _)),if_neg (wn h7 (w _)),if_neg (wn h8 (w _)),if_neg (wn h9 (w _)),e]
    refine ⟨rfl,onS q,lev_on hc.ps hl,rfl,?_⟩
    show (pmuS q [40]).bind _=_
    unfold pmuS
    rw [if_pos (by rw [w]; exact h10)]; rfl
   rw [e] at hz; exact absurd rfl hz
  refine ⟨⟨⟨by omega,by omega⟩,.inl rfl⟩,fun r hr=>⟨wa1 _ (by decide),?_⟩⟩
  have hr:=rex0 hr
  have i:=i.call (fun M=>M - 1) hr (fun _ _=>trivial) (fun hb M h=>by omega) (fun M=>(allA M).ex) fun M q _=>rfl
  have i:=i.need (s:=[41]) (k':=fun M q=>some (r.1,q)) (by decide) fun M q _=>rfl
  have l2:=ne_len r.2 [41]; have l3:=hr.1
  exact i.fin r.1 (by omega) (fun _=>by omega) fun _ M q _=>rfl
 have i:=i0.step (t':=((rpaS t).2.1,true)) (k':=fun M q=>none) (fun hb=>rfl) fun hb M q hc=>by
  left
  refine ⟨rfl,?_⟩
  have hM:40 * t.1.length+2<M+1:=hc.fu
  obtain ⟨M,rfl⟩:∃ M',M=M'+1:=⟨M - 1,by omega⟩
  have hf:fiN (M+1+1) q=inN (M+1) q∧isB q [40]=false:=by
   rcases pa_dp hc.ps hc.dp hb with ⟨hl,e⟩ | ⟨hz,e⟩
   ·obtain ⟨w,e2⟩:=hw (M+1) q (by rw [e]) (pk_kind hc.ps hc.tk hl)
    rw [e2,if_neg (wn h4 (w _)),if_neg (wn h5 (w _)),if_neg (wn h6 (w _)),if_neg (wn h7 (w _)),if_neg (wn h8 (w _)),if_neg (wn h9 (w _))]
    exact ⟨rfl,by rw [w]; exact h10⟩
   have hn:∀ s,isB q s=false:=fun s=>by unfold isB; rw [hz]; rfl
   rw [fi_un,hz,if_neg (by decide),if_neg (by decide),if_neg (by decide),if_neg (by rw [hn]; decide),if_neg (by rw [hn]; decide),if_neg (by rw [hn]; decide),if_neg (by rw [hn]; decide),if_neg (by rw [hn]; decide),if_neg (by rw [hn]; decide)]
   exact ⟨rfl,hn _⟩
  rw [hf.1]
  show (pmuS q [40]).bind _=none
  unfold pmuS
  rw [if_neg (by rw [hf.2]; decide)]; rfl
 exact i.fin _ lp (fun h=>(by cases h)) fun h=>(by cases h)
theorem rfi_0 (t:TT) (hp:rfiP 0 t):False:=absurd hp.2 (Nat.not_lt_zero _)
end
end Go.Proofs.YtalnampdiegmoaaDoor.Rf
namespace Go.Proofs.YtalnampdiegmoaaDoor.Rf
open Go Go.Eng Go.RowKit Ps
set_option linter.unusedVariables false
noncomputable section
/-- what stands behind a first operand, up to a rank -/
def nst (M F:Nat):Nat→JN→PS→RJ
 | 0,a,p=>some (a,p)
 | j+1,a,p=>(nst M F j a p).bind fun e=>loopR (fun q=>biN (M+j+1) q (6 - (j:Int))) (ranks.getD (5 - j) []) F e.1 e.2
theorem bi_nst (M:Nat) (p:PS):∀ j:Nat,j≤6→biN (M+j+1) p (6 - (j:Int))=(unN M p).bind fun u=>nst M (fuel p) j u.1 u.2
 | 0,_=>by
  show unN M p=_
  cases unN M p <;> rfl
 | j+1,h=>by
  have h1:(((6:Int) - ((j+1:Nat):Int))==6)=false:=beq_false_of_ne (by omega)
  have h2:((6:Int) - ((j+1:Nat):Int))+1=6 - (j:Int):=by omega
  have h3:((6:Int) - ((j+1:Nat):Int)).toNat=5 - j:=by omega
  show (if ((6:Int) - ((j+1:Nat):Int)==6)=true then unN (M+j+1) p else (biN (M+j+1) p (6 - ((j+1:Nat):Int)+1)).bind fun e=>loopR (fun q=>biN (M+j+1) q (6 - ((j+1:Nat):Int)+1)) (ranks.getD (6 - ((j+1:Nat):Int)).toNat []) (fuel p) e.1 e.2)=_
  rw [if_neg (by rw [h1]; decide),h2,h3,bi_nst M p j (by omega),Option.bind_assoc]
  rfl
theorem nst_A (M F:Nat):∀ (j:Nat) (a:JN) (p:PS) (x:JN×PS),psP p→nst M F j a p=some x→Lev p x.2
 | 0,_,_,_,hp,h=>by injection h with h; subst h; exact Lev.refl hp
 | j+1,a,p,x,hp,h=>by
  obtain ⟨e,h1,h2⟩:=Option.bind_eq_some_iff.1 h
  have l1:=nst_A M F j a p e hp h1
  exact l1.trans (loopR_A ((allA _).bi _) _ _ _ _ (l1.ok hp) h2)
/-- no sign of the ranks below j levels stands here -/
def Cl (j:Nat) (p:PS):Prop:=∀ i,i<j→sgn p (ranks.getD (5 - i) [])=none
theorem loopR_cl {f:PS→RJ} {l:List Bs} {j:Nat} (hf:PA f) (hc:∀ q x,psP q→f q=some x→Cl j x.2):∀ (k:Nat) (e:JN) (p:PS) (x:JN×PS),psP p→Cl j p→loopR f l k e p=some x→Cl j x.2∧sgn x.2 l=none
 | 0,_,_,_,_,_,h=>by cases h
 | k+1,e,p,x,hp,hl,h=>by
  unfold loopR at h
  split at h
  ·rename_i h1
   injection h with h; subst h; exact ⟨hl,h1⟩
  rename_i s hs
  have a0:=on_A hp (sgn_some hs).1
  split at h
  ·cases h
  rename_i q hq
  have a:=a0.trans (hf _ _ (a0.ok hp) hq).lev
  exact loopR_cl hf hc k _ _ _ (a.ok hp) (hc _ _ (a0.ok hp) hq) h
theorem nst_cl:∀ j:Nat,j≤6→(∀ M F a p x,psP p→nst M F j a p=some x→Cl j x.2)∧(∀ M p x,psP p→biN (M+j+1) p (6 - (j:Int))=some x→Cl j x.2)
 | 0,_=>⟨fun _ _ _ _ _ _ _ i hi=>absurd hi (Nat.not_lt_zero _),fun _ _ _ _ _ i hi=>absurd hi (Nat.not_lt_zero _)⟩
 | j+1,h=>by
  obtain ⟨h1,h2⟩:=nst_cl j (by omega)
  have hn:∀ M F a p x,psP p→nst M F (j+1) a p=some x→Cl (j+1) x.2:=fun M F a p x hp hx=>by
   obtain ⟨e,h3,h4⟩:=Option.bind_eq_some_iff.1 hx
   have l1:=nst_A M F j a p e hp h3
   have:=loopR_cl ((allA _).bi _) (fun q x hq hx=>h2 M q x hq hx) _ _ _ _ (l1.ok hp) (h1 M F a p e hp h3) h4
   intro i hi
   by_cases e:i=j
   ·subst e; exact this.2
   exact this.1 i (by omega)
  refine ⟨hn,fun M p x hp hx=>?_⟩
  rw [bi_nst M p (j+1) h] at hx
  obtain ⟨u,h3,h4⟩:=Option.bind_eq_some_iff.1 hx
  exact hn M _ _ _ _ (((allA M).un _ _ hp h3).ok hp) h4
theorem nst_none {M F:Nat} (hF:0<F) {a:JN} {p:PS}:∀ j:Nat,Cl j p→nst M F j a p=some (a,p)
 | 0,_=>rfl
 | j+1,h=>by
  show (nst M F j a p).bind _=_
  rw [nst_none hF j (fun i hi=>h i (by omega))]
  obtain ⟨F,rfl⟩:∃ F',F=F'+1:=⟨F - 1,by omega⟩
  show (match sgn p (ranks.getD (5 - j) []) with | none=>some (a,p) | some s=>_)=_
  rw [h j (by omega)]
theorem climb {M F i:Nat} {a:JN} {q:PS} {s:Bs} (hq:psP q) (hi:i<6) (hs:sgn q (ranks.getD (5 - i) [])=some s) (hno:∀ i',i'<6→i'≠i→sgn q (ranks.getD (5 - i') [])=none) (hF:q.1.length - q.2.1.toNat<F) :
  ∀ j:Nat,i<j→j≤6→nst M F j a q=(biN (M+i+1) (onS q) (6 - (i:Int))).bind fun b=>nst M F j (joinS s a b.1) b.2
 | 0,h,_=>absurd h (Nat.not_lt_zero _)
 | j+1,h,h6=>by
  by_cases e:i=j
  ·subst e
   show (nst M F i a q).bind _=_
   rw [nst_none (by omega) i (fun i' hi'=>hno i' (by omega) (by omega))]
   obtain ⟨F,rfl⟩:∃ F',F=F'+1:=⟨F - 1,by omega⟩
   have a0:=on_A hq (sgn_some hs).1
   have e1:∀ f:PS→RJ,loopR f (ranks.getD (5 - i) []) (F+1) a q=(f (onS q)).bind fun b=>loopR f (ranks.getD (5 - i) []) F (joinS s a b.1) b.2:=fun f=>by
    show (match sgn q (ranks.getD (5 - i) []) with | none=>some (a,q) | some s=>_)=_
    rw [hs]
    show (match f (onS q) with | none=>none | some b=>_)=_
    cases f (onS q) with
    | none=>rfl
    | some b=>rfl
   show loopR (fun q=>biN (M+i+1) q (6 - (i:Int))) (ranks.getD (5 - i) []) (F+1) a q=_
   rw [e1]
   cases hb:biN (M+i+1) (onS q) (6 - (i:Int)) with
   | none=>rfl
   | some b =>
    have a1:=a0.trans ((allA _).bi _ _ _ (a0.ok hq) hb).lev
    have:=a1.rem hq
    have hcl:=(nst_cl i (by omega)).2 M _ _ (a0.ok hq) hb
    show loopR _ _ F _ _=(nst M (F+1) i _ _).bind _
    rw [nst_none (by omega) i hcl]
    exact loopR_fuel ((allA _).bi _) F (F+1) _ _ (a1.ok hq) (by omega) (by omega)
  show (nst M F j a q).bind _=_
  rw [climb hq hi hs hno hF j (by omega) (by omega),Option.bind_assoc]
  rfl
/-- the sign that stands here -/
theorem sgn_wd {q:PS} {t:TT} (hq:psP q) (ht:tkP q) (hd:t.1=dp q):∀ l:List Bs,(∀ s ∈ l,s≠[])→sgn q l=if l.contains (rwdS t)=true then some (rwdS t) else none
 | [],_=>rfl
 | s::l,h=>by
  unfold sgn
  rw [← wd_is hq ht hd (h s (List.mem_cons_self ..)),List.contains_cons]
  by_cases e:(rwdS t==s)=true
  ·rw [if_pos e,e,Bool.true_or,if_pos rfl]
   have:rwdS t=s:=by simpa using e
   rw [this]
  rw [if_neg e,Bool.eq_false_iff.2 e,Bool.false_or]
  exact sgn_wd hq ht hd l fun s hs=>h s (List.mem_cons_of_mem _ hs)
def signs:List Bs:=[[124,124],[38,38],[61,61],[33,61],[60],[60,61],[62],[62,61],[43],[45],[42],[47],[37]]
theorem sg_cases (w:Bs):w ∈ signs∨(w ∉ signs∧sgS w=0):=by
 by_cases h:w ∈ signs
 ·exact .inl h
 refine .inr ⟨h,?_⟩
 unfold signs at h
 simp only [List.mem_cons,List.not_mem_nil,or_false,not_or] at h
 unfold sgS
 simp [h]
theorem rank_all:∀ w ∈ signs,(∀ i,i<6→(ranks.getD (5 - i) []).contains w=(sgS w==8 - (i:Int)))∧∃ i:Nat,i<6∧sgS w=8 - (i:Int):=by
 have h:signs.all (fun w=>(List.range 6).all (fun i=>(ranks.getD (5 - i) []).contains w==(sgS w==8 - (i:Int)))&&(List.range 6).any (fun i=>sgS w==8 - (i:Int)))=true:=by decide +kernel
 intro w hw
 have h:=List.all_eq_true.1 h w hw
 rw [Bool.and_eq_true] at h
 refine ⟨fun i hi=>?_,?_⟩
 ·have:=List.all_eq_true.1 h.1 i (List.mem_range.2 hi)
  simpa using this
 obtain ⟨i,hi,e⟩:=List.any_eq_true.1 h.2
 exact ⟨i,List.mem_range.1 hi,by simpa using e⟩
theorem ranks_in:∀ i,i<6→∀ s ∈ ranks.getD (5 - i) [],s ∈ signs:=by
 have h:(List.range 6).all (fun i=>(ranks.getD (5 - i) []).all fun s=>signs.contains s)=true:=by decide +kernel
 intro i hi s hs
 have:=List.all_eq_true.1 (List.all_eq_true.1 h i (List.mem_range.2 hi)) s hs
 simpa using this
theorem rank_wd (w:Bs) (i:Nat) (hi:i<6):(ranks.getD (5 - i) []).contains w=(sgS w==8 - (i:Int)):=by
 rcases sg_cases w with h | ⟨h,h0⟩
 ·exact (rank_all w h).1 i hi
 rw [h0]
 have e1:((0:Int)==8 - (i:Int))=false:=beq_false_of_ne (by omega)
 rw [e1]
 rw [Bool.eq_false_iff]
 intro hc
 exact h (ranks_in i hi w (by simpa using hc))
theorem rank_ne (i:Nat):∀ s ∈ ranks.getD (5 - i) [],s≠[]:=by
 by_cases hi:i<6
 ·intro s hs e
  subst e
  exact absurd (ranks_in i hi [] hs) (by decide)
 have:5 - i=0:=by omega
 rw [this]; decide
theorem sgn_rank {q:PS} {t:TT} (hq:psP q) (ht:tkP q) (hd:t.1=dp q) {i:Nat} (hi:i<6):sgn q (ranks.getD (5 - i) [])=if (sgS (rwdS t)==8 - (i:Int))=true then some (rwdS t) else none:=by
 rw [sgn_wd hq ht hd _ (rank_ne i),rank_wd _ i hi]
end
end Go.Proofs.YtalnampdiegmoaaDoor.Rf
