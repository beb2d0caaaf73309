/- The document's reader of scripts: expressions. -/
import Derived.Test.YtalnampdiegmoaaDoorRtj
import Derived.Test.YtalnampdiegmoaaDoorRte
namespace Go.Proofs.YtalnampdiegmoaaDoor.Rf
open Go Go.Eng Go.RowKit Ps
set_option linter.unusedVariables false
noncomputable section
def coT (M:Nat) (e:JN×PS):RJ:=if isB e.2 [63]=true then (exN M (onS e.2)).bind fun a=>(pmuS a.2 [58]).bind fun p=>(exN M p).bind fun b=>some (nd 18 0 [] [e.1,a.1,b.1],b.2) else some e
def exT (M:Nat) (e:JN×PS):RJ:=if isB e.2 [61]=true then
  (if (e.1.lab.1==5||e.1.lab.1==12||e.1.lab.1==13)=true then (exN M (onS e.2)).bind fun v=>some (nd 19 0 [] [e.1,v.1],v.2) else none) else some e
theorem ex_un (M:Nat) (p:PS):exN (M+1) p=(coN M p).bind (exT M):=rfl
theorem co_un (M:Nat) (p:PS):coN (M+1) p=(biN M p 0).bind (coT M):=rfl
theorem ex_end:∀ (N:Nat) (p:PS) (x:JN×PS),psP p→exN N p=some x→isB x.2 [61]=false
 | 0,_,_,_,h=>by cases h
 | N+1,p,x,hp,h=>by
  rw [ex_un] at h
  obtain ⟨e,h1,h2⟩:=Option.bind_eq_some_iff.1 h
  have a:=(allA N).co _ _ hp h1
  unfold exT at h2
  split at h2
  ·rename_i hi
   have a0:=on_A (a.ok hp) hi
   split at h2
   ·obtain ⟨v,h3,h4⟩:=Option.bind_eq_some_iff.1 h2
    injection h4 with h4
    subst h4
    exact ex_end N _ v (a0.ok (a.ok hp)) h3
   cases h2
  rename_i hi
  injection h2 with h2; subst h2; simpa using hi
theorem wa_two (t:TT) (s u:Bs):waS t [s,u]=if hitB t s=true then (0,tlT t) else if hitB t u=true then (1,tlT t) else (-1,t):=by rw [waS_eq]; rfl
theorem join_cells (w:Bs) (a b:JN):joinS w a b=nd (if (w==[124,124])=true then 17 else if (w==[38,38])=true then 16 else 15) 0 (if (w==[124,124])=true then [] else if (w==[38,38])=true then [] else w) [a,b]:=by
 unfold joinS
 by_cases h1:w=[124,124]
 ·subst h1; rfl
 by_cases h2:w=[38,38]
 ·subst h2; rfl
 have b1:(w==[124,124])=false:=by simpa using h1
 have b2:(w==[38,38])=false:=by simpa using h2
 rw [if_neg h1,if_neg h2,b1,b2]; rfl
theorem sg_ge (w:Bs):0≤sgS w∧sgS w≤8:=by
 rcases sg_cases w with h | ⟨_,h⟩
 ·obtain ⟨_,i,hi,e⟩:=rank_all w h
  omega
 omega
theorem rex_loop {N:Nat} {l:Int} {t0:TT} {j c0:Nat} {tl:Nat→JN×PS→RJ} (hN:okT 12 (N+1) t0) (hj:j≤6) (hl:l=0∧j=6∨4≤l∧(j:Int)=9 - l) (hc0:c0≤8)
  (hend:∀ (a:JN) (t:TT),t.1.length≤t0.1.length→(t.2=false→t.1.length+1≤t0.1.length)→Inv anyF (exF l) 12 t0 t (fun M q=>tl M (a,q))→rexj40 N l (fun a b=>rexR t0 l (a,b)) a.lab.1 a.lab.2.1 a.lab.2.2 a.kids t.1 t.2) :
  ∀ (k:Nat) (a:JN) (t:TT),(t.2=false→t.1.length+1<k)→0<k→t.1.length≤t0.1.length→(t.2=false→t.1.length+1≤t0.1.length) →
  Inv anyF (exF l) 12 t0 t (fun M q=>(nst (M - c0) (fuel q) j a q).bind (tl M))→rexl7 N l (fun a b=>rexR t0 l (a,b)) k a.lab.1 a.lab.2.1 a.lab.2.2 a.kids t.1 t.2
 | 0,_,_,_,h,_,_,_=>absurd h (Nat.not_lt_zero _)
 | k+1,a,t,hk,_,ht,ht1,i=>by
  have ea:Tree.mk (a.lab.1,a.lab.2.1,a.lab.2.2) a.kids=a:=by cases a; rfl
  have hx:rexj14 N l (fun a b=>rexR t0 l (a,b)) a.lab.1 a.lab.2.1 a.lab.2.2 a.kids t.1 t.2 (rexl7 N l (fun a b=>rexR t0 l (a,b)) k):=by
   have hv:rexV3 l t.1 t.2=((sgS (rwdS t)==0||decide (sgS (rwdS t)<l))||t.2):=rfl
   refine ⟨fun h=>?_,fun h=>?_⟩
   ·rw [hv,Bool.or_eq_true] at h
    have hf:=hend a t ht ht1 (i.same fun hb M q hc=>by
     rw [nst_none (show 0<fuel q by unfold fuel; omega) j fun i' hi'=>?_]; rfl
     rw [sgn_rank hc.ps hc.tk hc.dp (by omega),if_neg]
     have h:=h.resolve_right (by rw [hb]; decide)
     rw [Bool.or_eq_true] at h
     have g:=sg_ge (rwdS t)
     intro he
     have he:sgS (rwdS t)=8 - (i':Int):=by simpa using he
     rcases h with h | h
     ·have h:sgS (rwdS t)=0:=by simpa using h
      omega
     have h:=of_decide_eq_true h
     omega)
    exact ⟨fun _=>hf,fun _=>hf⟩
   rw [hv,Bool.or_eq_false_iff,Bool.or_eq_false_iff] at h
   obtain ⟨⟨h1,h2⟩,hb⟩:=h
   have h1:sgS (rwdS t)≠0:=by simpa using h1
   have h2:=of_decide_eq_false h2
   obtain ⟨i',hi',e⟩:=(rank_all (rwdS t) ((sg_cases (rwdS t)).resolve_right fun h=>h1 h.2)).2
   have hw:rwdS t≠[]:=fun e0=>h1 (by rw [e0]; rfl)
   have hh:hitB t (rwdS t)=true:=by rw [hit_wd hb]; exact beq_self_eq_true _
   have hn:neS t [rwdS t]=tlT t:=by rw [ne_one,if_pos hh]
   have l1:=tl_lt hw hh
   have ew:w6 (sgS (rwdS t)+1)=9 - (i':Int):=by rw [w6e (by omega)]; omega
   have i:=i.hit hw hh (k':=fun M q=>(biN (M - c0+i'+1) q (6 - (i':Int))).bind fun b=>(nst (M - c0) (fuel b.2) j (joinS (rwdS t) a b.1) b.2).bind (tl M)) fun M q hc hi=>by
    have hs:=sgn_rank hc.ps hc.tk hc.dp hi'
    rw [if_pos (by rw [e]; exact beq_self_eq_true _)] at hs
    have hno:∀ i2,i2<6→i2≠i'→sgn q (ranks.getD (5 - i2) [])=none:=fun i2 h3 h4=>by
     rw [sgn_rank hc.ps hc.tk hc.dp h3,e,if_neg]
     intro he
     have:(8:Int) - i'=8 - i2:=by simpa using he
     omega
    rw [climb hc.ps hi' hs hno (by unfold fuel; omega) j (by omega) hj,Option.bind_assoc]
    cases hb2:biN (M - c0+i'+1) (onS q) (6 - (i':Int)) with
    | none=>rfl
    | some b =>
     have a0:=on_A hc.ps hi
     have a1:=a0.trans ((allA _).bi _ _ _ (a0.ok hc.ps) hb2).lev
     show (nst _ (fuel q) _ _ _).bind _=(nst _ (fuel b.2) _ _ _).bind _
     unfold fuel; rw [a1.1]
   show waP t [rwdS t]∧rexP N (neS t [rwdS t]) (w6 (sgS (rwdS t)+1))∧∀ q43,rexR (neS t [rwdS t]) (w6 (sgS (rwdS t)+1)) q43→_
   rw [hn,ew]
   have hN1:=hN.1; have hN2:=hN.2
   refine ⟨wa1 _ hw,⟨⟨by omega,by omega⟩,.inr (by omega)⟩,fun r hr=>?_⟩
   have hr:Rl anyF (fun M p=>biN M p (6 - (i':Int))) 12 (tlT t) r:=by
    have hr:Rl anyF (exF (9 - (i':Int))) 12 (tlT t) r:=hr
    unfold exF at hr
    rw [if_neg (by simp; omega),show (9:Int) - i' - 3=6 - i' by omega] at hr
    exact hr
   have i:=i.call (fun M=>M - c0+i'+1) hr (fun _ _=>trivial) (fun hb M h=>by have:=ht1 ‹_›; omega) (fun M=>(allA M).bi _) fun M q _=>rfl
   have h5:=hr.1; have h6:=hr.2.1; have h7:=hk hb; have h8:=ht1 hb
   have hz:rexj25 a.lab.1 a.lab.2.1 a.lab.2.2 a.kids t.1 t.2 (rexl7 N l (fun a b=>rexR t0 l (a,b)) k) r:=by
    have:=rex_loop hN hj hl hc0 hend k (joinS (rwdS t) a r.1) r.2 (fun h=>by have:=h6 h; omega) (by omega) (by omega) (fun h=>by omega) i
    rw [join_cells] at this
    unfold rexj25
    rw [ea]
    exact this
   exact ⟨fun _=>hz,fun _=>⟨fun _=>hz,fun _=>hz⟩⟩
  exact ⟨fun _=>hx,fun _=>hx⟩
theorem rex_F (N:Nat) (t:TT) (l:Int) (hp:rexP (N+1) t l):rexF N t l (fun a b=>rexR t l (a,b)):=by
 obtain ⟨hp,hl⟩:=hp
 have hp1:=hp.1; have hp2:=hp.2
 refine ⟨⟨hp1,by omega⟩,fun r hr=>⟨r.2.1.length+3,?_⟩⟩
 have hr:Rl anyF unN 3 t r:=hr
 rcases hl with rfl | ⟨hl1,hl2⟩
 ·-- a whole expression
  have i:Inv anyF (exF 0) 12 t t fun M q=>(unN (M - 8) q).bind fun u=>(nst (M - 8) (fuel u.2) 6 u.1 u.2).bind fun e=>(coT (M - 1) e).bind (exT M):=Inv.start fun _ M q hc=>by
   have hM:40 * t.1.length+12<M+1:=hc.fu
   obtain ⟨M,rfl⟩:∃ M',M=M'+8:=⟨M - 8,by omega⟩
   show exN (M+8+1) q=_
   rw [ex_un,show M+8=(M+6+1)+1 by omega,co_un]
   have:=bi_nst M q 6 (by omega)
   rw [show (6:Int) - ((6:Nat):Int)=0 by decide] at this
   rw [this,Option.bind_assoc,Option.bind_assoc]
   show (unN M q).bind _=(unN M q).bind _
   cases hu:unN M q with
   | none=>rfl
   | some u =>
    have a:=(allA M).un _ _ hc.ps hu
    show (nst M (fuel q) 6 u.1 u.2).bind _=(nst M (fuel u.2) 6 u.1 u.2).bind _
    unfold fuel; rw [a.1]; rfl
  have i:=i.call (fun M=>M - 8) hr (fun _ _=>trivial) (fun hb M h=>by omega) (fun M=>(allA M).un) fun M q _=>rfl
  refine rex_loop (j:=6) (c0:=8) (tl:=fun M e=>(coT (M - 1) e).bind (exT M)) hp (by decide) (.inl ⟨rfl,rfl⟩) (by decide) (fun a t' h1 h2 i=>?_) _ r.1 r.2 (fun _=>by omega) (by omega) hr.1 hr.2.1 i
  have ea:Tree.mk (a.lab.1,a.lab.2.1,a.lab.2.2) a.kids=a:=by cases a; rfl
  unfold rexj40
  rw [ea,show decide ((0:Int)>0)=false from rfl,Bool.false_or]
  cases hb:t'.2 with
  | true =>
   refine ⟨fun _=>?_,fun h=>(by cases h)⟩
   rw [← hb]
   exact i.fin a h1 h2 fun h=>by rw [hb] at h; cases h
  | false =>
   refine ⟨fun h=>(by cases h),fun _=>?_⟩
   rw [show (t'.1,false)=t' by rw [← hb]]
   have h3:=h2 hb
   have hwp:waP t' [[63],[61]]:=⟨by decide,by decide⟩
   refine ⟨hwp,?_⟩
   have ew:=wa_two t' [63] [61]
   cases h63:hitB t' [63] with
   | true =>
    rw [h63,if_pos rfl] at ew
    rw [ew]
    have l1:=tl_lt (s:=[63]) (by decide) h63
    refine ⟨fun _=>?_,fun h=>(by cases h)⟩
    have i:=i.hit (s:=[63]) (by decide) h63 (k':=fun M q=>(exN (M - 1) q).bind fun a'=>(pmuS a'.2 [58]).bind fun p=>(exN (M - 1) p).bind fun b=>some (nd 18 0 [] [a,a'.1,b.1],b.2)) fun M q hc hi=>by
     show (coT (M - 1) (a,q)).bind (exT M)=_
     unfold coT
     have a0:=on_A hc.ps hi
     rw [if_pos hi,Option.bind_assoc]
     cases hx:exN (M - 1) (onS q) with
     | none=>rfl
     | some a' =>
      have a1:=a0.trans ((allA _).ex _ _ (a0.ok hc.ps) hx).lev
      show ((pmuS a'.2 [58]).bind _).bind _=(pmuS a'.2 [58]).bind _
      rw [Option.bind_assoc]
      cases hy:pmuS a'.2 [58] with
      | none=>rfl
      | some p =>
       have a2:=a1.trans (mu_A (a1.ok hc.ps) hy).lev
       show ((exN (M - 1) p).bind _).bind _=(exN (M - 1) p).bind _
       rw [Option.bind_assoc]
       cases hz:exN (M - 1) p with
       | none=>rfl
       | some b =>
        have:=ex_end _ _ _ (a2.ok hc.ps) hz
        show exT M (nd 18 0 [] [a,a'.1,b.1],b.2)=_
        unfold exT
        rw [if_neg (by show ¬ isB b.2 [61]=true; rw [this]; decide)]; rfl
    refine ⟨⟨⟨by show (tlT t').1.length≤_; omega,by show 40 * (tlT t').1.length+_<_; omega⟩,.inl rfl⟩,fun q15 hq15=>⟨wa1 _ (by decide),?_⟩⟩
    have hq15:Rl anyF exN 12 (tlT t') q15:=rex0 hq15
    have l2:=hq15.1
    have l3:=ne_len q15.2 [58]
    have i:=i.call (fun M=>M - 1) hq15 (fun _ _=>trivial) (fun hb M h=>by omega) (fun M=>(allA M).ex) fun M q _=>rfl
    have i:=i.need (s:=[58]) (k':=fun M p=>(exN (M - 1) p).bind fun b=>some (nd 18 0 [] [a,q15.1,b.1],b.2)) (by decide) fun M q _=>rfl
    refine ⟨⟨⟨by omega,by omega⟩,.inl rfl⟩,fun q23 hq23=>?_⟩
    have hq23:=rex0 hq23
    have l4:=hq23.1
    have i:=i.call (fun M=>M - 1) hq23 (fun _ _=>trivial) (fun hb M h=>by omega) (fun M=>(allA M).ex) fun M q _=>rfl
    exact i.fin (nd 18 0 [] [a,q15.1,q23.1]) (by omega) (fun _=>by omega) fun _ M q _=>rfl
   | false =>
    rw [h63,if_neg (by decide)] at ew
    cases h61:hitB t' [61] with
    | true =>
     rw [h61,if_pos rfl] at ew
     have l1:=tl_lt (s:=[61]) (by decide) h61
     have e6:rexV6 a.lab.1 t'.1 t'.2=(a.lab.1 != 5&&(a.lab.1 != 12&&a.lab.1 != 13)):=by
      unfold rexV6
      show ((waS t' [[63],[61]]).2.2||_)=_
      rw [ew]
      obtain ⟨x,m,rfl⟩:=hit_len (w:=[61]) (by decide) h61
      rfl
     have h2e:(tlT t').2=false:=by
      obtain ⟨x,m,rfl⟩:=hit_len (w:=[61]) (by decide) h61
      rfl
     have hjj:rexj66 N (fun a b=>rexR t 0 (a,b)) a.lab.1 a.lab.2.1 a.lab.2.2 a.kids t'.1 t'.2:=by
      show rexP N ((waS t' [[63],[61]]).2.1,rexV6 a.lab.1 t'.1 t'.2) 0∧∀ q30,rexR ((waS t' [[63],[61]]).2.1,rexV6 a.lab.1 t'.1 t'.2) 0 q30→rexR t 0 (Tree.mk (19,0,[]) [Tree.mk (a.lab.1,a.lab.2.1,a.lab.2.2) a.kids,q30.1],q30.2)
      rw [e6,ew,ea]
      have i:=i.miss (s:=[63]) (by decide) h63 (k':=fun M q=>exT M (a,q)) fun M q hc hi=>by
       show (coT (M - 1) (a,q)).bind (exT M)=_
       unfold coT
       rw [if_neg (by rw [hi]; decide)]; rfl
      refine ⟨⟨⟨by show (tlT t').1.length≤_; omega,by show 40 * (tlT t').1.length+_<_; omega⟩,.inl rfl⟩,fun r2 hr2=>?_⟩
      have hr2:=rex0 hr2
      have i:Inv anyF (exF 0) 12 t ((tlT t').1,(a.lab.1 != 5&&(a.lab.1 != 12&&a.lab.1 != 13))) (fun M q=>(exN M q).bind fun v=>some (nd 19 0 [] [a,v.1],v.2)):=by
       cases hk:(a.lab.1 != 5&&(a.lab.1 != 12&&a.lab.1 != 13)) with
       | true =>
        refine i.step (fun hb=>rfl) fun hb M q hc=>.inl ⟨rfl,?_⟩
        have hi:=h61
        rw [hit_is hc.ps hc.tk hc.dp hb (by decide)] at hi
        show exT M (a,q)=none
        unfold exT
        rw [if_pos hi,if_neg]
        show ¬ (a.lab.1==5||a.lab.1==12||a.lab.1==13)=true
        simp only [bne,Bool.and_eq_true,Bool.not_eq_true'] at hk
        rw [hk.1,hk.2.1,hk.2.2]; decide
       | false =>
        have i:=i.hit (s:=[61]) (by decide) h61 (k':=fun M q=>(exN M q).bind fun v=>some (nd 19 0 [] [a,v.1],v.2)) fun M q hc hi=>by
         show exT M (a,q)=_
         unfold exT
         rw [if_pos hi,if_pos]
         show (a.lab.1==5||a.lab.1==12||a.lab.1==13)=true
         revert hk
         simp only [bne]
         cases a.lab.1==5 <;> cases a.lab.1==12 <;> cases a.lab.1==13 <;> decide
        rw [← h2e]; exact i
      have i:=i.call (fun M=>M) hr2 (fun _ _=>trivial) (fun hb M h=>by show 40 * (tlT t').1.length+12<M; omega) (fun M=>(allA M).ex) fun M q _=>rfl
      have l2:r2.2.1.length≤(tlT t').1.length:=hr2.1
      exact i.fin (nd 19 0 [] [a,r2.1]) (by omega) (fun _=>by omega) fun _ M q _=>rfl
     rw [hb] at hjj
     rw [ew]
     refine ⟨fun h=>(by cases h),fun _=>⟨fun _=>⟨fun _=>hjj,fun _=>⟨fun _=>⟨fun _=>hjj,fun _=>hjj⟩,fun _=>hjj⟩⟩,fun h=>(by cases h)⟩⟩
    | false =>
     rw [h61,if_neg (by decide)] at ew
     rw [ew]
     refine ⟨fun h=>(by cases h),fun _=>⟨fun h=>(by cases h),fun _=>?_⟩⟩
     have i:=i.miss (s:=[63]) (by decide) h63 (k':=fun M q=>exT M (a,q)) fun M q hc hi=>by
      show (coT (M - 1) (a,q)).bind (exT M)=_
      unfold coT
      rw [if_neg (by rw [hi]; decide)]; rfl
     have i:=i.miss (s:=[61]) (by decide) h61 (k':=fun M q=>some (a,q)) fun M q hc hi=>by
      show exT M (a,q)=_
      unfold exT
      rw [if_neg (by rw [hi]; decide)]
     exact i.fin a h1 h2 fun _ M q _=>rfl
 -- what holds together by strengths
 obtain ⟨j,hj⟩:∃ j:Nat,(j:Int)=9 - l:=⟨(9 - l).toNat,by omega⟩
 have hf:exF l=fun M p=>biN M p (l - 3):=by unfold exF; rw [if_neg (by simp; omega)]
 have i:Inv anyF (exF l) 12 t t fun M q=>(unN (M - j) q).bind fun u=>(nst (M - j) (fuel u.2) j u.1 u.2).bind some:=Inv.start fun _ M q hc=>by
  have hM:40 * t.1.length+12<M+1:=hc.fu
  obtain ⟨M,rfl⟩:∃ M',M=M'+j:=⟨M - j,by omega⟩
  rw [hf]
  show biN (M+j+1) q (l - 3)=_
  rw [show l - 3=6 - (j:Int) by omega,bi_nst M q j (by omega),show M+j - j=M by omega]
  cases hu:unN M q with
  | none=>rfl
  | some u =>
   have a:=(allA M).un _ _ hc.ps hu
   show nst M (fuel q) j u.1 u.2=(nst M (fuel u.2) j u.1 u.2).bind some
   unfold fuel; rw [a.1]; cases nst M (q.1.length+2) j u.1 u.2 <;> rfl
 have i:=i.call (fun M=>M - j) hr (fun _ _=>trivial) (fun hb M h=>by omega) (fun M=>(allA M).un) fun M q _=>rfl
 refine rex_loop (j:=j) (c0:=j) (tl:=fun M e=>some e) hp (by omega) (.inr ⟨hl1,hj⟩) (by omega) (fun a t' h1 h2 i=>?_) _ r.1 r.2 (fun _=>by omega) (by omega) hr.1 hr.2.1 i
 have ea:Tree.mk (a.lab.1,a.lab.2.1,a.lab.2.2) a.kids=a:=by cases a; rfl
 unfold rexj40
 rw [ea,show decide (l>0)=true from decide_eq_true (by omega),Bool.true_or]
 refine ⟨fun _=>i.fin a h1 h2 fun _ M q _=>rfl,fun h=>(by cases h)⟩
theorem rex_0 (t:TT) (l:Int) (hp:rexP 0 t l):False:=absurd hp.1.2 (Nat.not_lt_zero _)
end
end Go.Proofs.YtalnampdiegmoaaDoor.Rf
namespace Go.Proofs.YtalnampdiegmoaaDoor.Rf
open Go Go.Eng Go.RowKit Ps
set_option linter.unusedVariables false
noncomputable section
def ten:List Bs:=[[108,101,116],[102,110],[105,102],[119,104,105,108,101],[102,111,114],[114,101,116,117,114,110],[98,114,101,97,107],[99,111,110,116,105,110,117,101],[116,104,114,111,119],[116,114,121]]
theorem wa_ten (t:TT):waS t ten=if hitB t [108,101,116]=true then (0,tlT t) else if hitB t [102,110]=true then (1,tlT t) else if hitB t [105,102]=true then (2,tlT t) else
  if hitB t [119,104,105,108,101]=true then (3,tlT t) else if hitB t [102,111,114]=true then (4,tlT t) else if hitB t [114,101,116,117,114,110]=true then (5,tlT t) else
  if hitB t [98,114,101,97,107]=true then (6,tlT t) else if hitB t [99,111,110,116,105,110,117,101]=true then (7,tlT t) else if hitB t [116,104,114,111,119]=true then (8,tlT t) else
  if hitB t [116,114,121]=true then (9,tlT t) else (-1,t):=by rw [waS_eq]; rfl
theorem st_un (N:Nat) (p:PS):stN (N+1) p =
  if isB p [108,101,116]=true then (pnmS (onS p)).bind fun t=>(pmuS t.2 [61]).bind fun p=>(exN N p).bind fun e=>endS (nd 20 0 t.1 [e.1]) e.2 else
  if isB p [102,110]=true then (pnmS (onS p)).bind fun t=>(fnN N t.2 t.1).bind fun e=>some (nd 21 0 [] [e.1],e.2) else
  if isB p [105,102]=true then ifN N (onS p) else
  if isB p [119,104,105,108,101]=true then (inN N (onS p)).bind fun c=>(boN N c.2 false).bind fun b=>some (nd 23 0 [] [c.1,b.1],b.2) else
  if isB p [102,111,114]=true then foN N (onS p) else
  if isB p [114,101,116,117,114,110]=true then (if p.2.2.1=true then (if isB (onS p) [59]=true then some (nd 25 0 [] [],onS (onS p)) else (exN N (onS p)).bind fun e=>endS (nd 25 0 [] [e.1]) e.2) else none) else
  if isB p [98,114,101,97,107]=true then (if p.2.2.2=true then endS (nd 26 0 [] []) (onS p) else none) else
  if isB p [99,111,110,116,105,110,117,101]=true then (if p.2.2.2=true then endS (nd 27 0 [] []) (onS p) else none) else
  if isB p [116,104,114,111,119]=true then (exN N (onS p)).bind fun e=>endS (nd 28 0 [] [e.1]) e.2 else
  if isB p [116,114,121]=true then tyN N (onS p) else
  if ((ppkS p).1==4&&(ppkS p).2.2.2.1==[123])=true then blN N p else (exN N p).bind fun e=>endS (nd 31 0 [] [e.1]) e.2:=rfl
theorem ni {q:PS} {s u:Bs} (h:isB q s=true) (hu:u≠s):¬ isB q u=true:=by rw [isB_one h hu]; decide
theorem nb {b:Bool} (h:b=false):¬ b=true:=by rw [h]; decide
/-- what a state is, behind a word -/
theorem hit_good {t:TT} {s:Bs} (hs:s≠[]) (h:hitB t s=true):(tlT t).2=false:=by
 obtain ⟨x,m,rfl⟩:=hit_len hs h
 rfl
theorem wh_or {w:Int} (hw:0≤w∧w≤3):(0≤bitOr .i64 w 2∧bitOr .i64 w 2≤3)∧∀ x,whF w x→whF (bitOr .i64 w 2) (x.1||false,!false):=by
 rcases (by omega:w=0∨w=1∨w=2∨w=3) with rfl | rfl | rfl | rfl
 ·rw [show bitOr .i64 0 2=2 by decide +kernel]; exact ⟨by decide,fun x h=>by rw [h]; rfl⟩
 ·rw [show bitOr .i64 1 2=3 by decide +kernel]; exact ⟨by decide,fun x h=>by rw [h]; rfl⟩
 ·rw [show bitOr .i64 2 2=2 by decide +kernel]; exact ⟨by decide,fun x h=>by rw [h]; rfl⟩
 rw [show bitOr .i64 3 2=3 by decide +kernel]; exact ⟨by decide,fun x h=>by rw [h]; rfl⟩
theorem wh_and {w:Int} (hw:0≤w∧w≤3) {x:Bool×Bool} (h:whF w x):x.1 = !(bitAnd .i64 w 1==0)∧x.2 = !(bitAnd .i64 w 2==0):=by
 rcases (by omega:w=0∨w=1∨w=2∨w=3) with rfl | rfl | rfl | rfl
 ·rw [show bitAnd .i64 0 1=0 by decide +kernel,show bitAnd .i64 0 2=0 by decide +kernel,h]; exact ⟨rfl,rfl⟩
 ·rw [show bitAnd .i64 1 1=1 by decide +kernel,show bitAnd .i64 1 2=0 by decide +kernel,h]; exact ⟨rfl,rfl⟩
 ·rw [show bitAnd .i64 2 1=0 by decide +kernel,show bitAnd .i64 2 2=2 by decide +kernel,h]; exact ⟨rfl,rfl⟩
 rw [show bitAnd .i64 3 1=1 by decide +kernel,show bitAnd .i64 3 2=2 by decide +kernel,h]; exact ⟨rfl,rfl⟩
theorem wa1i {t:TT} {s:Bs} (h:((waS t [s]).1==0)=true):hitB t s=true∧(waS t [s]).2=tlT t:=wa_pos h
section
variable {N:Nat} {t:TT} {w:Int}
theorem rst_fin {k:Nat→PS→RJ} {s:TT} (i:Inv (whF w) stN 13 t s k) {n num:Int} {tx:Bs} {kids:List JN} (e5:rstV5 t=n) (hl:s.1.length+1≤t.1.length) (hk:∀ M q,Cx (whF w) (40 * t.1.length+13) s M q→k M q=some (nd n num tx kids,q)):rstj15 t (fun a b=>rstR t w (a,b)) s.1 s.2 kids num tx:=by
 show rstR t w (Tree.mk (rstV5 t,num,tx) kids,(s.1,s.2))
 rw [e5]
 exact i.fin (nd n num tx kids) (by omega) (fun _=>hl) fun _ M q hc=>hk M q hc
/-- `if` -/
theorem rst_if {t1:TT} (hp:okT 14 (N+1) t) (hw:0≤w∧w≤3) (l1:t1.1.length+1≤t.1.length) (e5:rstV5 t=22) (i:Inv (whF w) stN 13 t t1 fun M q=>ifN M q) :
  rbrP N t1∧∀ q47,rbrR t1 q47→rblP N q47.2 w∧∀ q52,rblR q47.2 w q52→waP q52.2 [[101,108,115,101]] ∧
   (((rstV8 q52).1==0)=true→((rwdS (rstV8 q52).2==[105,102])=true→rstP N (rstV8 q52).2 w∧∀ q63,rstR (rstV8 q52).2 w q63→([q47.1,q52.1]++[q63.1]).length≤2513169434916∧rstj15 t (fun a b=>rstR t w (a,b)) q63.2.1 q63.2.2 ([q47.1,q52.1]++[q63.1]) 0 []) ∧
    ((rwdS (rstV8 q52).2==[105,102])=false→rblP N (rstV8 q52).2 w∧∀ q68,rblR (rstV8 q52).2 w q68→([q47.1,q52.1]++[q68.1]).length≤2513169434916∧rstj15 t (fun a b=>rstR t w (a,b)) q68.2.1 q68.2.2 ([q47.1,q52.1]++[q68.1]) 0 [])) ∧
   (((rstV8 q52).1==0)=false→rstj15 t (fun a b=>rstR t w (a,b)) (rstV8 q52).2.1 (rstV8 q52).2.2 [q47.1,q52.1] 0 []):=by
 have hp1:=hp.1; have hp2:=hp.2
 refine ⟨⟨by omega,by omega⟩,fun c hc=>?_⟩
 have hc:Rl anyF inN 1 t1 c:=hc
 have i:=i.same (k':=fun M q=>(inN (M - 1) q).bind fun c=>(blN (M - 1) c.2).bind fun b =>
  if isB b.2 [101,108,115,101]=true then
   (if isB (onS b.2) [105,102]=true then (ifN (M - 1) (onS (onS b.2))).bind fun e=>some (nd 22 0 [] [c.1,b.1,e.1],e.2) else (blN (M - 1) (onS b.2)).bind fun e=>some (nd 22 0 [] [c.1,b.1,e.1],e.2))
  else some (nd 22 0 [] [c.1,b.1],b.2)) fun hb M q hx=>by
   have hM:=hx.fu
   obtain ⟨M,rfl⟩:∃ M',M=M'+1:=⟨M - 1,by omega⟩
   rfl
 have i:=i.call (fun M=>M - 1) hc (fun _ _=>trivial) (fun hb M h=>by omega) (fun M=>(allA M).inn) fun M q _=>rfl
 dsimp only at i
 have l2:=hc.1
 refine ⟨⟨⟨by omega,by omega⟩,hw.1,hw.2⟩,fun b hb=>⟨wa1 _ (by decide),fun h=>?_,fun h=>?_⟩⟩
 ·have hb:Rl (whF w) blN 1 c.2 b:=hb
  have i:=i.call (fun M=>M - 1) hb (fun _ h=>h) (fun hb M h=>by omega) (fun M=>(allA M).bl) fun M q _=>rfl
  have l3:=hb.1
  obtain ⟨h1,h2⟩:=wa1i (t:=b.2) h
  have e8:(rstV8 b).2=tlT b.2:=h2
  rw [e8]
  have l4:=tl_lt (s:=[101,108,115,101]) (by decide) h1
  have g4:=hit_good (s:=[101,108,115,101]) (by decide) h1
  have i:=i.hit (s:=[101,108,115,101]) (by decide) h1 (k':=fun M q=>if isB q [105,102]=true then (ifN (M - 1) (onS q)).bind fun e=>some (nd 22 0 [] [c.1,b.1,e.1],e.2) else (blN (M - 1) q).bind fun e=>some (nd 22 0 [] [c.1,b.1,e.1],e.2)) fun M q hx hi=>by
   show (if isB q _=true then _ else _)=_
   rw [if_pos hi]
  refine ⟨fun h3=>?_,fun h3=>?_⟩
  ·have i:=i.same (k':=fun M q=>(stN M q).bind fun e=>some (nd 22 0 [] [c.1,b.1,e.1],e.2)) fun hb M q hx=>by
    have hi:=h3
    rw [wd_is hx.ps hx.tk hx.dp (by decide)] at hi
    have hM:=hx.fu
    obtain ⟨M,rfl⟩:∃ M',M=M'+1:=⟨M - 1,by omega⟩
    rw [if_pos hi,st_un,if_neg (ni hi (by decide)),if_neg (ni hi (by decide)),if_pos hi]; rfl
   refine ⟨⟨⟨by omega,by omega⟩,hw.1,hw.2⟩,fun r hr=>⟨by simp,?_⟩⟩
   have hr:Rl (whF w) stN 13 (tlT b.2) r:=hr
   have i:=i.call (fun M=>M) hr (fun _ h=>h) (fun hb M h=>by omega) (fun M=>(allA M).st) fun M q _=>rfl
   have l5:=hr.1
   exact rst_fin i e5 (by omega) fun M q _=>rfl
  have i:=i.same (k':=fun M q=>(blN (M - 1) q).bind fun e=>some (nd 22 0 [] [c.1,b.1,e.1],e.2)) fun hb M q hx=>by
   have hi:=h3
   rw [wd_is hx.ps hx.tk hx.dp (by decide)] at hi
   rw [if_neg (nb hi)]
  refine ⟨⟨⟨by omega,by omega⟩,hw.1,hw.2⟩,fun r hr=>⟨by simp,?_⟩⟩
  have hr:Rl (whF w) blN 1 (tlT b.2) r:=hr
  have i:=i.call (fun M=>M - 1) hr (fun _ h=>h) (fun hb M h=>by omega) (fun M=>(allA M).bl) fun M q _=>rfl
  have l5:=hr.1
  exact rst_fin i e5 (by omega) fun M q _=>rfl
 have hb:Rl (whF w) blN 1 c.2 b:=hb
 have i:=i.call (fun M=>M - 1) hb (fun _ h=>h) (fun hb M h=>by omega) (fun M=>(allA M).bl) fun M q _=>rfl
 have l3:=hb.1
 obtain ⟨h1,h2⟩:=wa_neg (t:=b.2) h
 have e8:(rstV8 b).2=b.2:=h2
 rw [e8]
 have i:=i.miss (s:=[101,108,115,101]) (by decide) h1 (k':=fun M q=>some (nd 22 0 [] [c.1,b.1],q)) fun M q hx hi=>by
  show (if isB q _=true then _ else _)=_
  rw [if_neg (nb hi)]
 exact rst_fin i e5 (by omega) fun M q _=>rfl
/-- `while` -/
theorem rst_while {t1:TT} (hp:okT 14 (N+1) t) (hw:0≤w∧w≤3) (l1:t1.1.length+1≤t.1.length) (e5:rstV5 t=23) (i:Inv (whF w) stN 13 t t1 fun M q=>(inN M q).bind fun c=>(boN M c.2 false).bind fun b=>some (nd 23 0 [] [c.1,b.1],b.2)) :
  rbrP N t1∧∀ q74,rbrR t1 q74→rblP N q74.2 (bitOr .i64 w 2)∧∀ q79,rblR q74.2 (bitOr .i64 w 2) q79→rstj15 t (fun a b=>rstR t w (a,b)) q79.2.1 q79.2.2 [q74.1,q79.1] 0 []:=by
 have hp1:=hp.1; have hp2:=hp.2
 obtain ⟨w1,w2⟩:=wh_or hw
 refine ⟨⟨by omega,by omega⟩,fun c hc=>?_⟩
 have hc:Rl anyF inN 1 t1 c:=hc
 have i:=i.call (fun M=>M) hc (fun _ _=>trivial) (fun hb M h=>by omega) (fun M=>(allA M).inn) fun M q _=>rfl
 dsimp only at i
 have l2:=hc.1
 refine ⟨⟨⟨by omega,by omega⟩,w1.1,w1.2⟩,fun b hb=>?_⟩
 have hb:Rl (whF (bitOr .i64 w 2)) blN 1 c.2 b:=hb
 have i:=i.body (fun M=>M) hb w2 (fun hb M h=>by omega) fun M q _=>rfl
 have l3:=hb.1
 exact rst_fin i e5 (by omega) fun M q _=>rfl
/-- `for` -/
theorem rst_for {t1:TT} (hp:okT 14 (N+1) t) (hw:0≤w∧w≤3) (l1:t1.1.length+1≤t.1.length) (e5:rstV5 t=24) (i:Inv (whF w) stN 13 t t1 fun M q=>foN M q) :
  waP t1 [[40],[108,101,116]]∧waP (rnmS (neS t1 [[40],[108,101,116]])).2 [[111,102]]∧rexP N (neS (rnmS (neS t1 [[40],[108,101,116]])).2 [[111,102]]) 0 ∧
   ∀ q93,rexR (neS (rnmS (neS t1 [[40],[108,101,116]])).2 [[111,102]]) 0 q93→waP q93.2 [[41]]∧rblP N (neS q93.2 [[41]]) (bitOr .i64 w 2)∧∀ q102,rblR (neS q93.2 [[41]]) (bitOr .i64 w 2) q102 →
    rstj15 t (fun a b=>rstR t w (a,b)) q102.2.1 q102.2.2 [q93.1,q102.1] 0 (rnmS (neS t1 [[40],[108,101,116]])).1:=by
 have hp1:=hp.1; have hp2:=hp.2
 obtain ⟨w1,w2⟩:=wh_or hw
 have i:=i.same (k':=fun M q=>(pmuS q [40]).bind fun p=>(pmuS p [108,101,116]).bind fun p=>(pnmS p).bind fun t=>(pmuS t.2 [111,102]).bind fun p=>(exN (M - 1) p).bind fun e=>(pmuS e.2 [41]).bind fun p=>(boN (M - 1) p false).bind fun b=>some (nd 24 0 t.1 [e.1,b.1],b.2)) fun hb M q hx=>by
  have hM:=hx.fu
  obtain ⟨M,rfl⟩:∃ M',M=M'+1:=⟨M - 1,by omega⟩
  rfl
 have i:=i.need (s:=[40]) (by decide) fun M q _=>rfl
 have i:=i.need (s:=[108,101,116]) (by decide) fun M q _=>rfl
 rw [← ne_two] at i
 have i:=i.nameOf (k':=fun n M q=>(pmuS q [111,102]).bind fun p=>(exN (M - 1) p).bind fun e=>(pmuS e.2 [41]).bind fun p=>(boN (M - 1) p false).bind fun b=>some (nd 24 0 n [e.1,b.1],b.2)) fun M q _=>rfl
 have i:=i.need (s:=[111,102]) (by decide) fun M q _=>rfl
 have l2:(neS t1 [[40],[108,101,116]]).1.length≤t1.1.length:=by rw [ne_two]; exact Nat.le_trans (ne_len _ _) (ne_len _ _)
 have l3:=nm_len (neS t1 [[40],[108,101,116]])
 have l4:=ne_len (rnmS (neS t1 [[40],[108,101,116]])).2 [111,102]
 refine ⟨⟨by decide,by decide⟩,wa1 _ (by decide),⟨⟨by omega,by omega⟩,.inl rfl⟩,fun e he=>⟨wa1 _ (by decide),?_⟩⟩
 have he:=rex0 he
 have l5:=he.1; have l6:=ne_len e.2 [41]
 have i:=i.call (fun M=>M - 1) he (fun _ _=>trivial) (fun hb M h=>by omega) (fun M=>(allA M).ex) fun M q _=>rfl
 dsimp only at i
 have i:=i.need (s:=[41]) (by decide) fun M q _=>rfl
 refine ⟨⟨⟨by omega,by omega⟩,w1.1,w1.2⟩,fun b hb=>?_⟩
 have hb:Rl (whF (bitOr .i64 w 2)) blN 1 (neS e.2 [[41]]) b:=hb
 have i:=i.body (fun M=>M - 1) hb w2 (fun hb M h=>by omega) fun M q _=>rfl
 have l7:=hb.1
 exact rst_fin i e5 (by omega) fun M q _=>rfl
/-- `return` -/
theorem rst_ret {t1:TT} (hp:okT 14 (N+1) t) (hw:0≤w∧w≤3) (l1:t1.1.length+1≤t.1.length) (g1:t1.2=false) (e5:rstV5 t=25) (i:Inv (whF w) stN 13 t t1 fun M q=>if q.2.2.1=true then (if isB q [59]=true then some (nd 25 0 [] [],onS q) else (exN M q).bind fun e=>endS (nd 25 0 [] [e.1]) e.2) else none) :
  ((!(rwdS t1==[59]))=true→rexP N t1 0∧∀ q121,rexR t1 0 q121→rstj74 t w (fun a b=>rstR t w (a,b)) q121.2.1 q121.2.2 [q121.1])∧((!(rwdS t1==[59]))=false→rstj74 t w (fun a b=>rstR t w (a,b)) t1.1 t1.2 []):=by
 have hp1:=hp.1; have hp2:=hp.2
 have h74:∀ (s:TT) (kids:List JN),s.1.length+1≤t.1.length→((bitAnd .i64 w 1==0)=false→Inv (whF w) stN 13 t s fun M q=>(pmuS q [59]).bind fun p=>some (nd 25 0 [] kids,p))→rstj74 t w (fun a b=>rstR t w (a,b)) s.1 s.2 kids:=fun s kids l2 i2=>by
  refine ⟨wa1 _ (by decide),?_⟩
  show rstj15 t _ (neS s [[59]]).1 ((neS s [[59]]).2||(bitAnd .i64 w 1==0)) kids 0 []
  have l3:=ne_len s [59]
  cases hx:(bitAnd .i64 w 1==0) with
  | true =>
   rw [Bool.or_true]
   have i:Inv (whF w) stN 13 t ((neS s [[59]]).1,true) fun M q=>some (nd 25 0 [] kids,q):=i.step (fun _=>rfl) fun hb M q hc=>.inl ⟨rfl,by
    have h1:=(wh_and hw hc.fl).1
    rw [hx] at h1
    rw [if_neg (nb h1)]⟩
   exact rst_fin i e5 (by show (neS s [[59]]).1.length+1≤_; omega) fun M q _=>rfl
  | false =>
   rw [Bool.or_false]
   have i:=(i2 hx).need (s:=[59]) (k':=fun M q=>some (nd 25 0 [] kids,q)) (by decide) fun M q _=>rfl
   exact rst_fin i e5 (by omega) fun M q _=>rfl
 refine ⟨fun h=>?_,fun h=>?_⟩
 ·have h:(rwdS t1==[59])=false:=by simpa using h
  refine ⟨⟨⟨by omega,by omega⟩,.inl rfl⟩,fun e he=>?_⟩
  have he:=rex0 he
  have l2:=he.1
  refine h74 e.2 [e.1] (by omega) fun hx=>?_
  have i:=i.same (k':=fun M q=>(exN M q).bind fun e=>endS (nd 25 0 [] [e.1]) e.2) fun hb M q hc=>by
   have h1:=(wh_and hw hc.fl).1
   rw [hx] at h1
   rw [if_pos (show q.2.2.1=true from h1),if_neg (nb (by rw [← wd_is hc.ps hc.tk hc.dp (by decide)]; exact h))]
  exact i.call (fun M=>M) he (fun _ _=>trivial) (fun hb M h=>by omega) (fun M=>(allA M).ex) fun M q _=>rfl
 have h:(rwdS t1==[59])=true:=by simpa using h
 refine h74 t1 [] l1 fun hx=>i.same fun hb M q hc=>by
  have h1:=(wh_and hw hc.fl).1
  rw [hx] at h1
  have h2:isB q [59]=true:=by rw [← wd_is hc.ps hc.tk hc.dp (by decide)]; exact h
  rw [if_pos (show q.2.2.1=true from h1),if_pos h2]
  unfold pmuS
  rw [if_pos h2]; rfl
/-- `break`, `continue` -/
theorem rst_brk {t1:TT} {n:Int} (hw:0≤w∧w≤3) (l1:t1.1.length+1≤t.1.length) (g1:t1.2=false) (e5:rstV5 t=n) (i:Inv (whF w) stN 13 t t1 fun M q=>if q.2.2.2=true then endS (nd n 0 [] []) q else none) :
  waP (t1.1,t1.2||(bitAnd .i64 w 2==0)) [[59]]∧rstj15 t (fun a b=>rstR t w (a,b)) (neS (t1.1,t1.2||(bitAnd .i64 w 2==0)) [[59]]).1 (neS (t1.1,t1.2||(bitAnd .i64 w 2==0)) [[59]]).2 [] 0 []:=by
 refine ⟨wa1 _ (by decide),?_⟩
 have i:Inv (whF w) stN 13 t (t1.1,t1.2||(bitAnd .i64 w 2==0)) fun M q=>endS (nd n 0 [] []) q:=by
  cases hx:(bitAnd .i64 w 2==0) with
  | true =>
   rw [Bool.or_true]
   exact i.step (fun _=>rfl) fun hb M q hc=>.inl ⟨rfl,by
    have h1:=(wh_and hw hc.fl).2
    rw [hx] at h1
    rw [if_neg (nb h1)]⟩
  | false =>
   rw [Bool.or_false]
   exact i.same fun hb M q hc=>by
    have h1:=(wh_and hw hc.fl).2
    rw [hx] at h1
    rw [if_pos (show q.2.2.2=true from h1)]
 have i:=i.need (s:=[59]) (k':=fun M q=>some (nd n 0 [] [],q)) (by decide) fun M q _=>rfl
 have l2:=ne_len (t1.1,t1.2||(bitAnd .i64 w 2==0)) [59]
 exact rst_fin i e5 (by have:(neS (t1.1,t1.2||(bitAnd .i64 w 2==0)) [[59]]).1.length≤t1.1.length:=l2; omega) fun M q _=>rfl
/-- an expression, and a semicolon -/
theorem rst_ex {t1:TT} {n:Int} (hN:t1.1.length≤1000000∧40 * t1.1.length+12<N) (hs:40 * t1.1.length≤40 * t.1.length) (e5:rstV5 t=n) (i:Inv (whF w) stN 13 t t1 fun M q=>(exN M q).bind fun e=>endS (nd n 0 [] [e.1]) e.2) :
  rexP N t1 0∧∀ q133,rexR t1 0 q133→waP q133.2 [[59]]∧rstj15 t (fun a b=>rstR t w (a,b)) (neS q133.2 [[59]]).1 (neS q133.2 [[59]]).2 [q133.1] 0 []:=by
 refine ⟨⟨⟨hN.1,hN.2⟩,.inl rfl⟩,fun e he=>⟨wa1 _ (by decide),?_⟩⟩
 have he:=rex0 he
 have i:=i.call (fun M=>M) he (fun _ _=>trivial) (fun hb M h=>by omega) (fun M=>(allA M).ex) fun M q _=>rfl
 have i:=i.need (s:=[59]) (k':=fun M q=>some (nd n 0 [] [e.1],q)) (by decide) fun M q _=>rfl
 have l1:=he.1; have l2:=ne_len e.2 [59]; have l3:=he.2.1
 show rstR t w (Tree.mk (rstV5 t,0,[]) [e.1],_)
 rw [e5]
 exact i.fin (nd n 0 [] [e.1]) (by omega) (fun hb=>by have:=ne_lt (s:=[59]) (by decide) hb; omega) fun _ M q _=>rfl
end
end
end Go.Proofs.YtalnampdiegmoaaDoor.Rf
