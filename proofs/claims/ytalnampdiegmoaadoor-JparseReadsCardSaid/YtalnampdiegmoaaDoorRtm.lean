/- The document's reader of scripts: a statement is the program's. -/
import Derived.Test.YtalnampdiegmoaaDoorRtl
namespace Go.Proofs.YtalnampdiegmoaaDoor.Rf
open Go Go.Eng Go.RowKit Ps
set_option linter.unusedVariables false
noncomputable section
section
variable {N:Nat} {t:TT} {w:Int}
theorem rst_118 {s:TT} {b:TT} {q:JN×TT} {num:Int} {tx:Bs} {kids:List JN} (hl:s.1.length+1≤t.1.length) (e5:rstV5 t=29) (h15:rstV15 b.1 b.2 q=num) (h14:rstV14 q=tx)
  (i:Inv (whF w) stN 13 t s fun M q=>if (num==0)=true then none else some (nd 29 num tx kids,q)):rstj118 t (fun a b=>rstR t w (a,b)) b.1 b.2 s.1 s.2 q kids:=by
 unfold rstj118
 rw [h15,h14]
 refine ⟨fun h=>?_,fun h=>?_⟩
 ·rw [← h]
  show rstR t w (Tree.mk (rstV5 t,num,tx) kids,s)
  rw [e5]
  exact i.fin (nd 29 num tx kids) (by omega) (fun _=>hl) fun h2=>by rw [h] at h2; cases h2
 have i:Inv (whF w) stN 13 t (s.1,num==0) fun M q=>some (nd 29 num tx kids,q):=by
  cases hn:num==0 with
  | true=>exact i.step (fun _=>rfl) fun hb M q hc=>.inl ⟨rfl,by rw [if_pos hn]⟩
  | false =>
   rw [← h]
   exact i.same fun hb M q hc=>by rw [if_neg (nb hn)]
 exact rst_fin i e5 hl fun M q _=>rfl
theorem rst_106 {s:TT} {q:JN×TT} {num:Int} {tx:Bs} {kids:List JN} (hp:okT 14 (N+1) t) (hw:0≤w∧w≤3) (hl:s.1.length+1≤t.1.length) (e5:rstV5 t=29) (h13:rstV13 q=num) (hn:num=0∨num=1) (h14:rstV14 q=tx) (hk:kids.length≤2)
  (i:Inv (whF w) stN 13 t s fun M q=>(if isB q [102,105,110,97,108,108,121]=true then (blN (M - 1) (onS q)).bind fun f=>some (nd 29 (num+2) tx (kids++[f.1]),f.2) else some (nd 29 num tx kids,q)).bind fun f=>if (f.1.lab.2.1==0)=true then none else some f) :
  rstj106 N t w (fun a b=>rstR t w (a,b)) s.1 s.2 q kids:=by
 have hp1:=hp.1; have hp2:=hp.2
 refine ⟨wa1 _ (by decide),fun h=>?_,fun h=>?_⟩
 ·obtain ⟨h1,h2⟩:=wa1i (t:=s) h
  have e16:(rstV16 s.1 s.2).2=tlT s:=h2
  have e15:rstV15 s.1 s.2 q=num+2:=by
   unfold rstV15
   rw [show (waS (s.1,s.2) [[102,105,110,97,108,108,121]])=waS s [[102,105,110,97,108,108,121]] from rfl,if_pos (show ((waS s [[102,105,110,97,108,108,121]]).1==0)=true from h),h13,w6e (by omega)]
  rw [e16]
  have l4:=tl_lt (s:=[102,105,110,97,108,108,121]) (by decide) h1
  have i:=i.hit (s:=[102,105,110,97,108,108,121]) (by decide) h1 (k':=fun M q=>(blN (M - 1) q).bind fun f=>some (nd 29 (num+2) tx (kids++[f.1]),f.2)) fun M q hx hi=>by
   show Option.bind (if isB q _=true then _ else _) _=_
   rw [if_pos hi,Option.bind_assoc]
   congr 1; funext f
   show (if (num+2==0)=true then none else _)=_
   rw [if_neg (by simp; omega)]
  refine ⟨⟨⟨by omega,by omega⟩,hw.1,hw.2⟩,fun r hr=>⟨by rw [List.length_append]; simp; omega,?_⟩⟩
  have hr:Rl (whF w) blN 1 (tlT s) r:=hr
  have l5:=hr.1
  have i:=i.call (fun M=>M - 1) hr (fun _ h=>h) (fun hb M h=>by omega) (fun M=>(allA M).bl) fun M q _=>rfl
  refine rst_118 (s:=r.2) (b:=s) (by omega) e5 e15 h14 (i.same fun hb M q hc=>?_)
  rw [if_neg (by simp; omega)]
 obtain ⟨h1,h2⟩:=wa_neg (t:=s) h
 have e16:(rstV16 s.1 s.2).2=s:=h2
 have e15:rstV15 s.1 s.2 q=num:=by
  unfold rstV15
  rw [show (waS (s.1,s.2) [[102,105,110,97,108,108,121]])=waS s [[102,105,110,97,108,108,121]] from rfl,if_neg (nb (show ((waS s [[102,105,110,97,108,108,121]]).1==0)=false from h)),h13]
 rw [e16]
 have i:=i.miss (s:=[102,105,110,97,108,108,121]) (by decide) h1 (k':=fun M q=>if (num==0)=true then none else some (nd 29 num tx kids,q)) fun M q hx hi=>by
  show Option.bind (if isB q _=true then _ else _) _=_
  rw [if_neg (nb hi)]; rfl
 exact rst_118 (s:=s) (b:=s) hl e5 e15 h14 i
/-- `try` -/
theorem rst_try {t1:TT} (hp:okT 14 (N+1) t) (hw:0≤w∧w≤3) (l1:t1.1.length+1≤t.1.length) (e5:rstV5 t=29) (i:Inv (whF w) stN 13 t t1 fun M q=>tyN M q) :
  rblP N t1 w∧∀ q142,rblR t1 w q142→waP q142.2 [[99,97,116,99,104]] ∧
   (((rstV17 q142).1==0)=true→waP (rstV17 q142).2 [[40]]∧waP (rnmS (rstV18 q142)).2 [[41]]∧rblP N (rstV19 q142) w∧∀ q171,rblR (rstV19 q142) w q171→([q142.1]++[q171.1]).length≤2513169434916∧rstj106 N t w (fun a b=>rstR t w (a,b)) q171.2.1 q171.2.2 q142 ([q142.1]++[q171.1])) ∧
   (((rstV17 q142).1==0)=false→rstj106 N t w (fun a b=>rstR t w (a,b)) (rstV17 q142).2.1 (rstV17 q142).2.2 q142 [q142.1]):=by
 have hp1:=hp.1; have hp2:=hp.2
 have i:=i.same (k':=fun M q=>(blN (M - 1) q).bind fun b =>
  (if isB b.2 [99,97,116,99,104]=true then (pmuS (onS b.2) [40]).bind fun p=>(pnmS p).bind fun t=>(pmuS t.2 [41]).bind fun p=>(blN (M - 1) p).bind fun c=>some (nd 29 1 t.1 [b.1,c.1],c.2) else some (nd 29 0 [] [b.1],b.2)).bind fun c =>
  (if isB c.2 [102,105,110,97,108,108,121]=true then (blN (M - 1) (onS c.2)).bind fun f=>some (nd 29 (c.1.lab.2.1+2) c.1.lab.2.2 (c.1.kids++[f.1]),f.2) else some c).bind fun f =>
  if (f.1.lab.2.1==0)=true then none else some f) fun hb M q hx=>by
   have hM:=hx.fu
   obtain ⟨M,rfl⟩:∃ M',M=M'+1:=⟨M - 1,by omega⟩
   rfl
 refine ⟨⟨⟨by omega,by omega⟩,hw.1,hw.2⟩,fun b hb=>?_⟩
 have hb:Rl (whF w) blN 1 t1 b:=hb
 have i:=i.call (fun M=>M - 1) hb (fun _ h=>h) (fun hb M h=>by omega) (fun M=>(allA M).bl) fun M q _=>rfl
 dsimp only at i
 have l2:=hb.1
 refine ⟨wa1 _ (by decide),fun h=>?_,fun h=>?_⟩
 ·obtain ⟨h1,h2⟩:=wa1i (t:=b.2) h
  have h13:rstV13 b=1:=if_pos h
  have e17:(rstV17 b).2=tlT b.2:=h2
  have e18:rstV18 b=neS (tlT b.2) [[40]]:=by unfold rstV18; rw [e17]
  have e19:rstV19 b=neS (rnmS (neS (tlT b.2) [[40]])).2 [[41]]:=by unfold rstV19; rw [e18]
  have h14:rstV14 b=(rnmS (neS (tlT b.2) [[40]])).1:=(if_pos h).trans (by rw [h2])
  rw [e17,e18,e19]
  have l4:=tl_lt (s:=[99,97,116,99,104]) (by decide) h1
  have l5:=ne_len (tlT b.2) [40]
  have l6:=nm_len (neS (tlT b.2) [[40]])
  have l7:=ne_len (rnmS (neS (tlT b.2) [[40]])).2 [41]
  have i:=i.hit (s:=[99,97,116,99,104]) (by decide) h1 (k':=fun M q=>(pmuS q [40]).bind fun p=>(pnmS p).bind fun t=>(pmuS t.2 [41]).bind fun p=>(blN (M - 1) p).bind fun c =>
   (if isB c.2 [102,105,110,97,108,108,121]=true then (blN (M - 1) (onS c.2)).bind fun f=>some (nd 29 (1+2) t.1 ([b.1,c.1]++[f.1]),f.2) else some (nd 29 1 t.1 [b.1,c.1],c.2)).bind fun f =>
   if (f.1.lab.2.1==0)=true then none else some f) fun M q hx hi=>by
    show Option.bind (if isB q _=true then _ else _) _=_
    rw [if_pos hi,Option.bind_assoc]
    congr 1; funext p
    rw [Option.bind_assoc]
    congr 1; funext t
    rw [Option.bind_assoc]
    congr 1; funext p
    rw [Option.bind_assoc]; rfl
  have i:=i.need (s:=[40]) (by decide) fun M q _=>rfl
  have i:=i.nameOf (k':=fun n M q=>(pmuS q [41]).bind fun p=>(blN (M - 1) p).bind fun c =>
   (if isB c.2 [102,105,110,97,108,108,121]=true then (blN (M - 1) (onS c.2)).bind fun f=>some (nd 29 (1+2) n ([b.1,c.1]++[f.1]),f.2) else some (nd 29 1 n [b.1,c.1],c.2)).bind fun f =>
   if (f.1.lab.2.1==0)=true then none else some f) fun M q _=>rfl
  have i:=i.need (s:=[41]) (by decide) fun M q _=>rfl
  refine ⟨wa1 _ (by decide),wa1 _ (by decide),⟨⟨by omega,by omega⟩,hw.1,hw.2⟩,fun c hc=>⟨by simp,?_⟩⟩
  have hc:Rl (whF w) blN 1 (neS (rnmS (neS (tlT b.2) [[40]])).2 [[41]]) c:=hc
  have l8:=hc.1
  have i:=i.call (fun M=>M - 1) hc (fun _ h=>h) (fun hb M h=>by omega) (fun M=>(allA M).bl) fun M q _=>rfl
  dsimp only at i
  exact rst_106 (s:=c.2) hp hw (by omega) e5 h13 (.inr rfl) h14 (by simp) i
 obtain ⟨h1,h2⟩:=wa_neg (t:=b.2) h
 have h13:rstV13 b=0:=if_neg (nb h)
 have h14:rstV14 b=[]:=if_neg (nb h)
 have e17:(rstV17 b).2=b.2:=h2
 rw [e17]
 have i:=i.miss (s:=[99,97,116,99,104]) (by decide) h1 (k':=fun M q=>(if isB q [102,105,110,97,108,108,121]=true then (blN (M - 1) (onS q)).bind fun f=>some (nd 29 (0+2) [] ([b.1]++[f.1]),f.2) else some (nd 29 0 [] [b.1],q)).bind fun f=>if (f.1.lab.2.1==0)=true then none else some f) fun M q hx hi=>by
  show Option.bind (if isB q _=true then _ else _) _=_
  rw [if_neg (nb hi)]; rfl
 exact rst_106 (s:=b.2) hp hw (by omega) e5 h13 (.inl rfl) h14 (by simp) i
end
theorem rst_F (N:Nat) (t:TT) (w:Int) (hp:rstP (N+1) t w):rstF N t w (fun a b=>rstR t w (a,b)) False:=by
 obtain ⟨hp,hw⟩:=hp
 have hp1:=hp.1; have hp2:=hp.2
 have i0:Inv (whF w) stN 13 t t fun M q=>stN (M+1) q:=Inv.start fun _ M q _=>rfl
 have hj:rstj9 N t w (fun a b=>rstR t w (a,b)):=by
  have ew:=wa_ten t
  have ev:rstV6 t=waS t ten:=rfl
  have e5:rstV5 t=(if ((waS t ten).1==0)=true then 20 else (if ((waS t ten).1==1)=true then 21 else (if ((waS t ten).1==2)=true then 22 else (if ((waS t ten).1==3)=true then 23 else (if ((waS t ten).1==4)=true then 24 else (if ((waS t ten).1==5)=true then 25 else
   (if ((waS t ten).1==6||(waS t ten).1==7)=true then rstV0 t else (if ((waS t ten).1==8)=true then 28 else (if ((waS t ten).1==9)=true then 29 else 31))))))))):=rfl
  refine ⟨⟨by decide,by decide⟩,?_⟩
  unfold rstV7 rstV10 rstV9
  rw [ev]
  cases h0:hitB t [108,101,116] with
  | true =>
   rw [h0,if_pos rfl] at ew
   rw [ew] at e5 ⊢
   have e5:rstV5 t=20:=e5
   have l1:=tl_lt (s:=[108,101,116]) (by decide) h0
   refine ⟨fun _=>?_,fun h=>(by cases h)⟩
   have i:=i0.hit (s:=[108,101,116]) (by decide) h0 (k':=fun M q=>(pnmS q).bind fun t=>(pmuS t.2 [61]).bind fun p=>(exN M p).bind fun e=>endS (nd 20 0 t.1 [e.1]) e.2) fun M q hc hi=>by rw [st_un,if_pos hi]
   have i:=i.nameOf (k':=fun n M q=>(pmuS q [61]).bind fun p=>(exN M p).bind fun e=>endS (nd 20 0 n [e.1]) e.2) fun M q _=>rfl
   have i:=i.need (s:=[61]) (by decide) fun M q _=>rfl
   have l2:=nm_len (tlT t); have l3:=ne_len (rnmS (tlT t)).2 [61]
   refine ⟨wa1 _ (by decide),⟨⟨by show (neS (rnmS (tlT t)).2 [[61]]).1.length≤_; omega,by show 40 * (neS (rnmS (tlT t)).2 [[61]]).1.length+_<_; omega⟩,.inl rfl⟩,fun e he=>⟨wa1 _ (by decide),?_⟩⟩
   have he:Rl anyF exN 12 (neS (rnmS (tlT t)).2 [[61]]) e:=rex0 he
   have i:=i.call (fun M=>M) he (fun _ _=>trivial) (fun hb M h=>by omega) (fun M=>(allA M).ex) fun M q _=>rfl
   have i:=i.need (s:=[59]) (k':=fun M q=>some (nd 20 0 (rnmS (tlT t)).1 [e.1],q)) (by decide) fun M q _=>rfl
   have l4:=he.1; have l5:=ne_len e.2 [59]
   exact rst_fin i e5 (by omega) fun M q _=>rfl
  | false =>
  rw [h0,if_neg (by decide)] at ew
  cases h1:hitB t [102,110] with
  | true =>
   rw [h1,if_pos rfl] at ew
   rw [ew] at e5 ⊢
   have e5:rstV5 t=21:=e5
   have l1:=tl_lt (s:=[102,110]) (by decide) h1
   refine ⟨fun h=>(by cases h),fun _=>⟨fun _=>?_,fun h=>(by cases h)⟩⟩
   have i:=i0.hit (s:=[102,110]) (by decide) h1 (k':=fun M q=>(pnmS q).bind fun t=>(fnN M t.2 t.1).bind fun e=>some (nd 21 0 [] [e.1],e.2)) fun M q hc hi=>by rw [st_un,if_neg (ni hi (by decide)),if_pos hi]
   have i:=i.nameOf (k':=fun n M q=>(fnN M q n).bind fun e=>some (nd 21 0 [] [e.1],e.2)) fun M q _=>rfl
   have l2:=nm_len (tlT t)
   refine ⟨⟨by show (rnmS (tlT t)).2.1.length≤_; omega,by show 40 * (rnmS (tlT t)).2.1.length+_<_; omega⟩,fun e he=>?_⟩
   have he:Rl anyF (fun M p=>fnN M p (rnmS (tlT t)).1) 3 (rnmS (tlT t)).2 e:=he
   have i:=i.call (fun M=>M) he (fun _ _=>trivial) (fun hb M h=>by omega) (fun M=>(allA M).fn _) fun M q _=>rfl
   have l4:=he.1
   exact rst_fin i e5 (by omega) fun M q _=>rfl
  | false =>
  rw [h1,if_neg (by decide)] at ew
  cases h2:hitB t [105,102] with
  | true =>
   rw [h2,if_pos rfl] at ew
   rw [ew] at e5 ⊢
   have l1:=tl_lt (s:=[105,102]) (by decide) h2
   refine ⟨fun h=>(by cases h),fun _=>⟨fun h=>(by cases h),fun _=>⟨fun _=>?_,fun h=>(by cases h)⟩⟩⟩
   have i:=i0.hit (s:=[105,102]) (by decide) h2 (k':=fun M q=>ifN M q) fun M q hc hi=>by rw [st_un,if_neg (ni hi (by decide)),if_neg (ni hi (by decide)),if_pos hi]
   exact rst_if hp hw l1 e5 i
  | false =>
  rw [h2,if_neg (by decide)] at ew
  cases h3:hitB t [119,104,105,108,101] with
  | true =>
   rw [h3,if_pos rfl] at ew
   rw [ew] at e5 ⊢
   have l1:=tl_lt (s:=[119,104,105,108,101]) (by decide) h3
   refine ⟨fun h=>(by cases h),fun _=>⟨fun h=>(by cases h),fun _=>⟨fun h=>(by cases h),fun _=>⟨fun _=>?_,fun h=>(by cases h)⟩⟩⟩⟩
   have i:=i0.hit (s:=[119,104,105,108,101]) (by decide) h3 (k':=fun M q=>(inN M q).bind fun c=>(boN M c.2 false).bind fun b=>some (nd 23 0 [] [c.1,b.1],b.2)) fun M q hc hi=>by rw [st_un,if_neg (ni hi (by decide)),if_neg (ni hi (by decide)),if_neg (ni hi (by decide)),if_pos hi]
   exact rst_while hp hw l1 e5 i
  | false =>
  rw [h3,if_neg (by decide)] at ew
  cases h4:hitB t [102,111,114] with
  | true =>
   rw [h4,if_pos rfl] at ew
   rw [ew] at e5 ⊢
   have l1:=tl_lt (s:=[102,111,114]) (by decide) h4
   refine ⟨fun h=>(by cases h),fun _=>⟨fun h=>(by cases h),fun _=>⟨fun h=>(by cases h),fun _=>⟨fun h=>(by cases h),fun _=>⟨fun _=>?_,fun h=>(by cases h)⟩⟩⟩⟩⟩
   have i:=i0.hit (s:=[102,111,114]) (by decide) h4 (k':=fun M q=>foN M q) fun M q hc hi=>by rw [st_un,if_neg (ni hi (by decide)),if_neg (ni hi (by decide)),if_neg (ni hi (by decide)),if_neg (ni hi (by decide)),if_pos hi]
   exact rst_for hp hw l1 e5 i
  | false =>
  rw [h4,if_neg (by decide)] at ew
  cases h5:hitB t [114,101,116,117,114,110] with
  | true =>
   rw [h5,if_pos rfl] at ew
   rw [ew] at e5 ⊢
   have l1:=tl_lt (s:=[114,101,116,117,114,110]) (by decide) h5
   refine ⟨fun h=>(by cases h),fun _=>⟨fun h=>(by cases h),fun _=>⟨fun h=>(by cases h),fun _=>⟨fun h=>(by cases h),fun _=>⟨fun h=>(by cases h),fun _=>⟨fun _=>?_,fun h=>(by cases h)⟩⟩⟩⟩⟩⟩
   have i:=i0.hit (s:=[114,101,116,117,114,110]) (by decide) h5 (k':=fun M q=>if q.2.2.1=true then (if isB q [59]=true then some (nd 25 0 [] [],onS q) else (exN M q).bind fun e=>endS (nd 25 0 [] [e.1]) e.2) else none) fun M q hc hi=>by
    rw [st_un,if_neg (ni hi (by decide)),if_neg (ni hi (by decide)),if_neg (ni hi (by decide)),if_neg (ni hi (by decide)),if_neg (ni hi (by decide)),if_pos hi]; rfl
   exact rst_ret hp hw l1 (hit_good (by decide) h5) e5 i
  | false =>
  rw [h5,if_neg (by decide)] at ew
  have hj83:rstj83 N t w (fun a b=>rstR t w (a,b)):=by
   unfold rstj83 rstV12
   rw [ev]
   cases h6:hitB t [98,114,101,97,107] with
   | true =>
    rw [h6,if_pos rfl] at ew
    rw [ew] at e5 ⊢
    have l1:=tl_lt (s:=[98,114,101,97,107]) (by decide) h6
    have g1:=hit_good (s:=[98,114,101,97,107]) (by decide) h6
    refine ⟨fun _=>?_,fun h=>(by cases h)⟩
    have e0:rstV0 t=26:=by
     unfold rstV0
     rw [if_neg]
     intro hc
     have e1:rwdS t=[98,114,101,97,107]:=(pa_hit (by decide) h6).2.2
     rw [e1] at hc
     exact absurd hc (by decide)
    have i:=i0.hit (s:=[98,114,101,97,107]) (by decide) h6 (k':=fun M q=>if q.2.2.2=true then endS (nd 26 0 [] []) q else none) fun M q hc hi=>by
     rw [st_un,if_neg (ni hi (by decide)),if_neg (ni hi (by decide)),if_neg (ni hi (by decide)),if_neg (ni hi (by decide)),if_neg (ni hi (by decide)),if_neg (ni hi (by decide)),if_pos hi]; rfl
    exact rst_brk hw l1 g1 (Eq.trans e5 e0) i
   | false =>
   rw [h6,if_neg (by decide)] at ew
   cases h7:hitB t [99,111,110,116,105,110,117,101] with
   | true =>
    rw [h7,if_pos rfl] at ew
    rw [ew] at e5 ⊢
    have l1:=tl_lt (s:=[99,111,110,116,105,110,117,101]) (by decide) h7
    have g1:=hit_good (s:=[99,111,110,116,105,110,117,101]) (by decide) h7
    refine ⟨fun _=>?_,fun h=>(by cases h)⟩
    have e0:rstV0 t=27:=by
     unfold rstV0
     have e1:rwdS t=[99,111,110,116,105,110,117,101]:=(pa_hit (by decide) h7).2.2
     rw [e1,if_pos (by decide)]
    have i:=i0.hit (s:=[99,111,110,116,105,110,117,101]) (by decide) h7 (k':=fun M q=>if q.2.2.2=true then endS (nd 27 0 [] []) q else none) fun M q hc hi=>by
     rw [st_un,if_neg (ni hi (by decide)),if_neg (ni hi (by decide)),if_neg (ni hi (by decide)),if_neg (ni hi (by decide)),if_neg (ni hi (by decide)),if_neg (ni hi (by decide)),if_neg (ni hi (by decide)),if_pos hi]; rfl
    exact rst_brk hw l1 g1 (Eq.trans e5 e0) i
   | false =>
   rw [h7,if_neg (by decide)] at ew
   cases h8:hitB t [116,104,114,111,119] with
   | true =>
    rw [h8,if_pos rfl] at ew
    rw [ew] at e5 ⊢
    have l1:=tl_lt (s:=[116,104,114,111,119]) (by decide) h8
    refine ⟨fun h=>(by cases h),fun _=>⟨fun _=>?_,fun h=>(by cases h)⟩⟩
    have i:=i0.hit (s:=[116,104,114,111,119]) (by decide) h8 (k':=fun M q=>(exN M q).bind fun e=>endS (nd 28 0 [] [e.1]) e.2) fun M q hc hi=>by
     rw [st_un,if_neg (ni hi (by decide)),if_neg (ni hi (by decide)),if_neg (ni hi (by decide)),if_neg (ni hi (by decide)),if_neg (ni hi (by decide)),if_neg (ni hi (by decide)),if_neg (ni hi (by decide)),if_neg (ni hi (by decide)),if_pos hi]
    exact rst_ex (t1:=tlT t) ⟨by omega,by omega⟩ (by omega) e5 i
   | false =>
   rw [h8,if_neg (by decide)] at ew
   cases h9:hitB t [116,114,121] with
   | true =>
    rw [h9,if_pos rfl] at ew
    rw [ew] at e5 ⊢
    have l1:=tl_lt (s:=[116,114,121]) (by decide) h9
    refine ⟨fun h=>(by cases h),fun _=>⟨fun h=>(by cases h),fun _=>⟨fun _=>?_,fun h=>(by cases h)⟩⟩⟩
    have i:=i0.hit (s:=[116,114,121]) (by decide) h9 (k':=fun M q=>tyN M q) fun M q hc hi=>by
     rw [st_un,if_neg (ni hi (by decide)),if_neg (ni hi (by decide)),if_neg (ni hi (by decide)),if_neg (ni hi (by decide)),if_neg (ni hi (by decide)),if_neg (ni hi (by decide)),if_neg (ni hi (by decide)),if_neg (ni hi (by decide)),if_neg (ni hi (by decide)),if_pos hi]
    exact rst_try hp hw l1 e5 i
   | false =>
   rw [h9,if_neg (by decide)] at ew
   rw [ew] at e5 ⊢
   refine ⟨fun h=>(by cases h),fun _=>⟨fun h=>(by cases h),fun _=>⟨fun h=>(by cases h),fun _=>?_⟩⟩⟩
   have i:Inv (whF w) stN 13 t t fun M q=>if (rwdS t==[123])=true then blN M q else (exN M q).bind fun e=>endS (nd 31 0 [] [e.1]) e.2:=i0.same fun hb M q hc=>by
    rw [hit_is hc.ps hc.tk hc.dp hb (by decide)] at h0 h1 h2 h3 h4 h5 h6 h7 h8 h9
    rw [st_un,if_neg (nb h0),if_neg (nb h1),if_neg (nb h2),if_neg (nb h3),if_neg (nb h4),if_neg (nb h5),if_neg (nb h6),if_neg (nb h7),if_neg (nb h8),if_neg (nb h9),wd_is hc.ps hc.tk hc.dp (by decide)]
    have e:((ppkS q).1==4&&(ppkS q).2.2.2.1==[123])=isB q [123]:=by
     unfold isB
     by_cases hl:q.2.1<q.1.length
     ·have h5:=(hc.tk _ (pk_mem hc.ps hl)).2.2
      cases e5:((ppkS q).1==5) with
      | true =>
       have e5':(ppkS q).1=5:=by simpa using e5
       have:=h5 e5'
       rw [e5',beq_false_of_ne this]; rfl
      | false=>rw [Bool.or_false]
     rw [pk_zero hc.ps hl]; rfl
    rw [e]
   refine ⟨fun h=>?_,fun h=>?_⟩
   ·have h:(rwdS t==[123])=true:=h
    have i:=i.same (k':=fun M q=>blN M q) fun _ M q _=>by rw [if_pos h]
    refine ⟨⟨⟨hp1,by show 40 * t.1.length+1<N; omega⟩,hw.1,hw.2⟩,fun r hr=>?_⟩
    have hr:Rl (whF w) blN 1 t r:=hr
    have i:=(i.same (k':=fun M q=>(blN M q).bind some) fun hb M q hc=>by cases blN M q <;> rfl).call (fun M=>M) hr (fun _ h=>h) (fun hb M h=>by omega) (fun M=>(allA M).bl) fun M q _=>rfl
    exact i.fin r.1 hr.1 hr.2.1 fun _ M q _=>rfl
   have h:(rwdS t==[123])=false:=h
   have i:=i.same (k':=fun M q=>(exN M q).bind fun e=>endS (nd 31 0 [] [e.1]) e.2) fun _ M q _=>by rw [if_neg (nb h)]
   exact rst_ex (t1:=t) ⟨hp1,by omega⟩ (Nat.le_refl _) e5 i
  have hx:6≤(waS t ten).1∨(waS t ten).1 = -1:=by
   rw [ew]
   split
   ·exact .inl (show (6:Int)≤6 by decide)
   split
   ·exact .inl (show (6:Int)≤7 by decide)
   split
   ·exact .inl (show (6:Int)≤8 by decide)
   split
   ·exact .inl (show (6:Int)≤9 by decide)
   exact .inr rfl
  have hn:∀ k:Int,0≤k→k<6→¬ ((waS t ten).1==k)=true:=fun k h1 h2 h=>by
   have:(waS t ten).1=k:=by simpa using h
   omega
  exact ⟨fun h=>absurd h (hn 0 (by decide) (by decide)),fun _=>⟨fun h=>absurd h (hn 1 (by decide) (by decide)),fun _=>⟨fun h=>absurd h (hn 2 (by decide) (by decide)),fun _=>⟨fun h=>absurd h (hn 3 (by decide) (by decide)),fun _=>⟨fun h=>absurd h (hn 4 (by decide) (by decide)),fun _=>⟨fun h=>absurd h (hn 5 (by decide) (by decide)),fun _=>⟨fun _=>hj83,fun _=>hj83⟩⟩⟩⟩⟩⟩⟩
 exact ⟨fun _=>hj,fun _=>hj⟩
theorem rst_0 (t:TT) (w:Int) (hp:rstP 0 t w):False:=absurd hp.1.2 (Nat.not_lt_zero _)
theorem rst_rec:∀ N,rst_C N∧rbl_C N∧rfn_C N∧rbr_C N∧rex_C N∧run_C N∧rfi_C N
 | 0=>⟨(by intro g bxt axt_0 cxt_0 xt xwhere hRxt_0 hp; exact (rst_0 xt xwhere hp).elim),(by intro g bxt axt_0 cxt_0 xt xwhere hRxt_0 hp; exact (rbl_0 xt xwhere hp).elim),(by intro g bxt axt_0 cxt_0 xt xname hRxt_0 hp; exact (rfn_0 xt xname hp).elim),(by intro g bxt axt_0 cxt_0 xt hRxt_0 hp; exact (rbr_0 xt hp).elim),(by intro g bxt axt_0 cxt_0 xt xleast hRxt_0 hp; exact (rex_0 xt xleast hp).elim),(by intro g bxt axt_0 cxt_0 xt hRxt_0 hp; exact (run_0 xt hp).elim),(by intro g bxt axt_0 cxt_0 xt hRxt_0 hp; exact (rfi_0 xt hp).elim)⟩
 | N+1 =>
  have ih:=rst_rec N
  ⟨(by intro g bxt axt_0 cxt_0 xt xwhere hRxt_0 hp; exact (CallsP.noZ <| rst_ok N ih.1 ih.2.1 ih.2.2.1 ih.2.2.2.1 ih.2.2.2.2.1 ih.2.2.2.2.2.1 ih.2.2.2.2.2.2 xt xwhere hRxt_0 _ _ (rst_F N xt xwhere hp)).mono (by rintro g' H' v _ ⟨r0,fxt,ar0_0,cr0_0,afxt_0,cfxt_0,rfl,hRr0_0,hRfxt_0,rfl,hK⟩; exact ⟨(r0,fxt),hK,ar0_0,cr0_0,afxt_0,cfxt_0,rfl,hRr0_0,hRfxt_0,rfl⟩)),(by intro g bxt axt_0 cxt_0 xt xwhere hRxt_0 hp; exact (rbl_ok N ih.1 ih.2.1 ih.2.2.1 ih.2.2.2.1 ih.2.2.2.2.1 ih.2.2.2.2.2.1 ih.2.2.2.2.2.2 xt xwhere hRxt_0 _ (rbl_F N xt xwhere hp)).mono (by rintro g' H' v _ ⟨r0,fxt,ar0_0,cr0_0,afxt_0,cfxt_0,rfl,hRr0_0,hRfxt_0,rfl,hK⟩; exact ⟨(r0,fxt),hK,ar0_0,cr0_0,afxt_0,cfxt_0,rfl,hRr0_0,hRfxt_0,rfl⟩)),(by intro g bxt axt_0 cxt_0 xt xname hRxt_0 hp; exact (rfn_ok N ih.1 ih.2.1 ih.2.2.1 ih.2.2.2.1 ih.2.2.2.2.1 ih.2.2.2.2.2.1 ih.2.2.2.2.2.2 xt xname hRxt_0 _ (rfn_F N xt xname hp)).mono (by rintro g' H' v _ ⟨r0,fxt,ar0_0,cr0_0,afxt_0,cfxt_0,rfl,hRr0_0,hRfxt_0,rfl,hK⟩; exact ⟨(r0,fxt),hK,ar0_0,cr0_0,afxt_0,cfxt_0,rfl,hRr0_0,hRfxt_0,rfl⟩)),(by intro g bxt axt_0 cxt_0 xt hRxt_0 hp; exact (rbr_ok N ih.1 ih.2.1 ih.2.2.1 ih.2.2.2.1 ih.2.2.2.2.1 ih.2.2.2.2.2.1 ih.2.2.2.2.2.2 xt hRxt_0 _ (rbr_F N xt hp)).mono (by rintro g' H' v _ ⟨r0,fxt,ar0_0,cr0_0,afxt_0,cfxt_0,rfl,hRr0_0,hRfxt_0,rfl,hK⟩; exact ⟨(r0,fxt),hK,ar0_0,cr0_0,afxt_0,cfxt_0,rfl,hRr0_0,hRfxt_0,rfl⟩)),(by intro g bxt axt_0 cxt_0 xt xleast hRxt_0 hp; exact (rex_ok N ih.1 ih.2.1 ih.2.2.1 ih.2.2.2.1 ih.2.2.2.2.1 ih.2.2.2.2.2.1 ih.2.2.2.2.2.2 xt xleast hRxt_0 _ (rex_F N xt xleast hp)).mono (by rintro g' H' v _ ⟨r0,fxt,ar0_0,cr0_0,afxt_0,cfxt_0,rfl,hRr0_0,hRfxt_0,rfl,hK⟩; exact ⟨(r0,fxt),hK,ar0_0,cr0_0,afxt_0,cfxt_0,rfl,hRr0_0,hRfxt_0,rfl⟩)),(by intro g bxt axt_0 cxt_0 xt hRxt_0 hp; exact (CallsP.noZ <| run_ok N ih.1 ih.2.1 ih.2.2.1 ih.2.2.2.1 ih.2.2.2.2.1 ih.2.2.2.2.2.1 ih.2.2.2.2.2.2 xt hRxt_0 _ _ (run_F N xt hp)).mono (by rintro g' H' v _ ⟨r0,fxt,ar0_0,cr0_0,afxt_0,cfxt_0,rfl,hRr0_0,hRfxt_0,rfl,hK⟩; exact ⟨(r0,fxt),hK,ar0_0,cr0_0,afxt_0,cfxt_0,rfl,hRr0_0,hRfxt_0,rfl⟩)),(by intro g bxt axt_0 cxt_0 xt hRxt_0 hp; exact (rfi_ok N ih.1 ih.2.1 ih.2.2.1 ih.2.2.2.1 ih.2.2.2.2.1 ih.2.2.2.2.2.1 ih.2.2.2.2.2.2 xt hRxt_0 _ (rfi_F N xt hp)).mono (by rintro g' H' v _ ⟨r0,fxt,ar0_0,cr0_0,afxt_0,cfxt_0,rfl,hRr0_0,hRfxt_0,rfl,hK⟩; exact ⟨(r0,fxt),hK,ar0_0,cr0_0,afxt_0,cfxt_0,rfl,hRr0_0,hRfxt_0,rfl⟩))⟩
theorem rst_c (N:Nat) {g:Ghost} {bxt:Nat} {axt_0:Option Addr} {cxt_0:Nat} (xt:(List (Int×Int×Int×List UInt8×Int))×Bool) (xwhere:Int) (hRxt_0:Rep g yTs [.slice axt_0 xt.1.length cxt_0] xt.1)  (hp:rstP N xt xwhere):CallsH Tryd.prog 23 #[.pointer (some ⟨bxt,0,none⟩),.int .i64 xwhere] g [.blk bxt (.cells #[.slice axt_0 xt.1.length cxt_0,.bool xt.2] 58)] (fun g' H' v=>∃ q0:(Tree (Int×Int×List UInt8))×((List (Int×Int×Int×List UInt8×Int))×Bool),(rstR xt xwhere) q0∧∃ (ar0_0:Option Addr) (cr0_0:Nat),∃ (afxt_0:Option Addr) (cfxt_0:Nat),v=.agg #[.int .i64 q0.1.lab.1,.int .i64 q0.1.lab.2.1,.string ⟨⟨q0.1.lab.2.2⟩⟩,.slice ar0_0 q0.1.kids.length cr0_0]∧Rep g' yJs [.slice ar0_0 q0.1.kids.length cr0_0] q0.1.kids∧Rep g' yTs [.slice afxt_0 q0.2.1.length cfxt_0] q0.2.1∧H'=[.blk bxt (.cells #[.slice afxt_0 q0.2.1.length cfxt_0,.bool q0.2.2] 58)]):=(rst_rec N).1 _ xt xwhere hRxt_0 hp
end
end Go.Proofs.YtalnampdiegmoaaDoor.Rf
