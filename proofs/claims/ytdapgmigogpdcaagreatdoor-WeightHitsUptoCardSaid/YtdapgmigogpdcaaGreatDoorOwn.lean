
import Derived.Test.YtdapgmigogpdcaaGreatDoorEng
import Derived.Maps.AppendAt
namespace Go.iT
open Go.RowKit (Below)
set_option linter.unusedVariables false
section
variable {P:Program} {pos:String} {after:Array Edge} {gd:Option (Nat×Bool)} {n:nQ} {w0:Base} {m:Env} {H:List cu} {g:ak} {R:Act→World→Prop} {Q:Exit→Act→World→Prop} {ops:Array Oper}

theorem dm.grown {W W':World} {i:Nat} {e e':cu} (h:dm w0 H g W) (hi:H[i]? = some e) (hg:W.grownBy W' e.block) (he':e'.ok W') (hb':e'.block=e.block∨e'.block=some W.heap.size):dm w0 (H.set i e') g W':=by
 have hmem:=iq hi;have hil:i<H.length:=(jh.1 hi).1;have hbl:Kept w0 W':=h.below.grown hg fun k hk=>h.mine e hmem k hk
 have hother:∀ (j:Nat) (x:cu),j≠i→H[j]? = some x→∀ b,x.block=some b→W'.heap[b]? = W.heap[b]?∧b<W.heap.size∧some b≠e.block:=fun j x hj hx b hb=>by
  have hlt:=iR (h.f_ x (iq hx)) hb;have hne:some b≠e.block:=fun he=>eQ h.nodup hx hi hj hb he.symm;exact ⟨hg.block b hlt hne,hlt,hne⟩
 have hfresh:g W.heap.size=none:=by
  cases hc:g W.heap.size with
  | none=>rfl
  | some o=>exact absurd (lt_of_some (h.ghost _ _ hc)) (sI _)
 refine ⟨fun x hx=>?_,?_,fun b o hb=>?_,fun x hx b hb=>?_,fun x hx b hb=>?_,hbl⟩
 ·obtain ⟨j,hj⟩:=sJ.1 hx;rw [uU] at hj
  split at hj
  ·injection hj with hj; subst hj; exact he'
  rename_i hne
  exact gI (h.f_ x (iq hj)) fun b hb=>(hother j x (fun e=>hne e.symm) hj b hb).1
 ·have hsplit:H=H.take i++e::H.drop (i+1):=by
   have:=(jh.1 hi).2; rw [← this,← List.drop_eq_getElem_cons hil,uR]
  rw [List.set_eq_take_append_cons_drop,bB hil];have hnd:=h.nodup;rw [hsplit] at hnd
  rcases hb' with hb' | hb'
  ·rw [List.filterMap_append,xy] at hnd ⊢;rw [hb']; exact hnd
  rw [List.filterMap_append,xy,hb'];rw [List.filterMap_append,xy] at hnd
  have aox:((H.take i).filterMap cu.block++(H.drop (i+1)).filterMap cu.block).Nodup:=by
   refine hnd.sublist ((List.Sublist.refl _).append ?_)
   split
   ·exact List.Sublist.refl _
   exact List.sublist_cons_self _ _
  have hnot:∀ x ∈ H,x.block≠some W.heap.size:=fun x hx hb=>absurd (iR (h.f_ x hx) hb) (sI _)
  have hn1:W.heap.size ∉ (H.take i).filterMap cu.block++(H.drop (i+1)).filterMap cu.block:=fun hc=>by
   rw [← List.filterMap_append,List.mem_filterMap] at hc;obtain ⟨x,hx,hb⟩:=hc
   rcases lu.1 hx with hx | hx
   ·exact hnot x (Ee hx) hb
   exact hnot x (List.mem_of_mem_drop hx) hb
  exact (List.perm_middle.nodup_iff).2 (zS.2 ⟨hn1,aox⟩)
 ·have hb2:=h.ghost b o hb
  have hne:some b≠e.block:=fun he=>by rw [h.apart e hmem b he.symm] at hb; cases hb
  rw [hg.block b (lt_of_some hb2) hne]; exact hb2
 ·obtain ⟨j,hj⟩:=sJ.1 hx;rw [uU] at hj
  split at hj
  ·injection hj with hj; subst hj
   rcases hb' with hb' | hb'
   ·exact h.apart e hmem b (by rw [← hb']; exact hb)
   rw [hb'] at hb; injection hb with hb; subst hb; exact hfresh
  exact h.apart x (iq hj) b hb
 obtain ⟨j,hj⟩:=sJ.1 hx;rw [uU] at hj
 split at hj
 ·injection hj with hj; subst hj
  rcases hb' with hb' | hb'
  ·exact h.mine e hmem b (by rw [← hb']; exact hb)
  rw [hb'] at hb; injection hb with hb; subst hb; exact .inl h.below.size
 exact h.mine x (iq hj) b hb
theorem dm.Xe {W:World} (h:dm w0 H g W) (cs:Array Value) (E:TypeId) {size len:Nat} (hm:len≤maxLen) (hs:cs.size=len * size) :
  dm w0 (.own (.slice (some ⟨W.heap.size,0,none⟩) len len) E size len cs.toList::H) g (W.alloc (.cells cs E)):=by
 have h2:=h.push (.cells cs E);refine ⟨fun e he=>?_,?_,h2.ghost,fun e he b hb=>?_,fun e he b hb=>?_,h2.below⟩
 ·rcases eO.1 he with rfl | he
  ·exact World.ownsRow_lit W cs len (ik _) hm hs
  exact h2.f_ e (dK _ he)
 ·exact h2.nodup
 ·rcases eO.1 he with rfl | he
  ·exact h2.apart _ (cz ..) b hb
  exact h2.apart e (dK _ he) b hb
 rcases eO.1 he with rfl | he
 ·exact h2.mine _ (cz ..) b hb
 exact h2.mine e (dK _ he) b hb

def yw (P:Program) (t:TypeId) (len:Nat) (parts:List (Nat×Value)):Option (TypeId×Array Value) :=
 match P.underlying t with
 | some (.slice E)=>match P.info? E with
  | some i=>match Nat.ble (len * i.size) 16777216 with
   | false=>none
   | true=>match (if len * i.size=0 then some #[] else i.zero.map (·.cells)) with
    | some zero=>(Instr.fill (fun k=>some (k * i.size,i.size)) ((Array.range (len * i.size)).map (zero[· % zero.size]!)) parts).map fun cs=>(E,cs)
    | none=>none
  | none=>none
 | _=>none

theorem WM {t:TypeId} {len:Nat} {parts:Array (Nat×Value)} {E:TypeId} {cs:Array Value} (h:yw P t len parts.toList=some (E,cs)) (W:World) :
  (Instr.buildSlice t len parts).run P W=.ok (.slice (some ⟨W.heap.size,0,none⟩) len len) (W.alloc (.cells cs E)):=by
 unfold yw at h
 split at h
 ·rename_i E' hu
  split at h
  ·rename_i i hi
   split at h
   ·cases h
   rename_i hb
   have hb:=gy hb
   split at h
   ·rename_i zero hz
    obtain ⟨cs',hf,he⟩:=gP.1 h;simp only [qF] at he;obtain ⟨rfl,rfl⟩:=he;have hb':¬ (len * i.size>16777216):=om
    by_cases h0:len * i.size=0
    ·rw [bB h0] at hz
     injection hz with hz
     subst hz;simp [Instr.buildSlice,underlying,hu,sizeOf,typeInfo,hi,h0,newRow,go_sem] at hf ⊢;simp [hf,go_sem]
    rw [aQ h0] at hz;obtain ⟨z,hz1,hz2⟩:=gP.1 hz;subst hz2;simp [Instr.buildSlice,underlying,hu,sizeOf,typeInfo,hi,hb',h0,hz1,zeroValue,newRow,go_sem] at hf ⊢;simp [hf,go_sem]
   cases h
  cases h
 cases h

theorem af.lit {K:Act→World→Prop} {d len:Nat} {T E ty:TypeId} {parts:Array (Nat×Operand)} (e:Ty) (l:List e.den) (xs:List Value)
  (hk:known m ⟨some d,.buildSlice T len parts,ty,pos,after,gd⟩=true) (hc:yw P T len (parts.map fun (i,x)=>(i,JR m x)).toList=some (E,⟨xs⟩)) (hlen:l.length=len) (hm:Nat.ble len maxLen=true) (hR:aW g e xs l)
  (hn:Nat.ble (d+1) n=true)
  (h:∀ b,Ok n w0 ((d,.slice (some ⟨b,0,none⟩) l.length len)::m) (.own (.slice (some ⟨b,0,none⟩) l.length len) E e.size l.length xs::H) g K) :
  af P K Q ⟨some d,.buildSlice T len parts,ty,pos,after,gd⟩ n w0 m H g:=fun a W hA hW=>by
 subst hlen;show Oper.upon P _ a _ Q (Sem.run P (execOp a.eval _) W)
 have e1:(execOp (JR m) ⟨some d,.buildSlice T l.length parts,ty,pos,after,gd⟩).run P W=.ok (.value (.slice (some ⟨W.heap.size,0,none⟩) l.length l.length)) (W.alloc (.cells ⟨xs⟩ E)):=by
  simp only [execOp,Sem.run_bind,WM hc W,Result.andThen]; rfl
 rw [jS hA hk,e1,Oper.upon_value];exact h _ _ _ (hA.put (gy hn) _) (hW.Xe ⟨xs⟩ E (gy hm) (by simpa using hR.size))

theorem bE.one {e:Ty}:∀ {c:List Value} {x:e.den},bE g e c x→∀ u ∈ c,u.oneCell'=true:=by
 induction e with
 | int=>intro c x h u hu; rw [show c=_ from h] at hu; rw [il.1 hu]; rfl
 | bool=>intro c x h u hu; rw [show c=_ from h] at hu; rw [il.1 hu]; rfl
 | str=>intro c x h u hu; rw [show c=_ from h] at hu; rw [il.1 hu]; rfl
 | slice e _=>intro c x h u hu; obtain ⟨a,k,h1,_⟩:=h; rw [h1] at hu; rw [il.1 hu]; rfl
 | pair a b iha ihb =>
  intro c x h u hu;obtain ⟨c1,c2,h1,h2,h3⟩:=h;rw [h1] at hu
  rcases lu.1 hu with hu | hu
  ·exact iha h2 u hu
  exact ihb h3 u hu
 | unit=>intro c x h u hu; rw [show c=_ from h] at hu; cases hu
 | tst a iha =>
  intro c x h u hu;obtain ⟨c1,c2,h1,h2,ad,k,h3,_⟩:=bE.tst.1 h;rw [h1] at hu
  rcases lu.1 hu with hu | hu
  ·exact iha h2 u hu
  rw [h3] at hu; rw [il.1 hu]; rfl
theorem aW.ones {e:Ty}:∀ {l:List e.den} {xs:List Value},aW g e xs l→∀ u ∈ xs,u.oneCell'=true
 | [],_,h,u,hu=>by rw [show _=_ from h] at hu; cases hu
 | _::_,_,⟨c,r,h1,h2,h3⟩,u,hu=>by
  rw [h1] at hu
  rcases lu.1 hu with hu | hu
  ·exact h2.one u hu
  exact aW.ones h3 u hu

theorem qZ {W:World} {B:Nat} {E:TypeId} {size k:Nat} {v:Value} {xs:List Value} (h:W.ownsRow B E size v k xs):∃ a c,v=.slice a k c:=by
 rcases h.2 with ⟨rfl,rfl⟩ | ⟨b,cap,cur,rfl,_⟩
 ·exact ⟨none,0,rfl⟩
 exact ⟨_,_,rfl⟩

theorem af.append {K:Act→World→Prop} {d:Nat} {T E ty:TypeId} {s x:Operand} {e:Ty} {l l':List e.den} {xs ys:List Value} {a a':Option Addr} {c c' bytes:Nat} {inf:TypeInfo} {z:Value}
  (i j:Nat) (hs:val m s=some (.slice a l.length c)) (hx:val m x=some (.slice a' l'.length c')) (hi:H[i]? = some (.own (.slice a l.length c) E e.size l.length xs)) (hj:H[j]? = some (.own (.slice a' l'.length c') E e.size l'.length ys))
  (hR:aW g e xs l) (hR':aW g e ys l') (hu:P.underlying T=some (.slice E)) (gW:P.info? E=some inf) (hz:inf.zero=some z) (hsz:Nat.beq inf.size e.size=true) (hby:inf.bytes=bytes) (hzc:Nat.beq z.cells.size e.size=true) (h0:Nat.ble 1 e.size=true)
  (hlen:(l++l').length≤maxLen) (hbytes:(l++l').length * bytes≤140737488355328) (hn:Nat.ble (d+1) n=true)
  (h:∀ a2 c2 y5,aW g e y5 (l++l')→Ok n w0 ((d,.slice a2 (l++l').length c2)::m) (H.set i (.own (.slice a2 (l++l').length c2) E e.size (l++l').length y5)) g K) :
  af P K Q ⟨some d,.call { callee:=.builtin .append,args:=#[s,x],argTypes:=#[T,T] },ty,pos,after,gd⟩ n w0 m H g:=fun ac W hA hW=>by
 have hsz:=iW hsz;have hzc:=iW hzc;have h0:=gy h0;have hown:W.ownsRow 0 E e.size (.slice a l.length c) l.length xs:=hW.f_ _ (iq hi);have hown':W.ownsRow 0 E e.size (.slice a' l'.length c') l'.length ys:=hW.f_ _ (iq hj);rw [bD] at hlen hbytes;show Oper.upon P _ ac _ Q (Sem.run P (execOp ac.eval _) W)
 have key:∃ v' W',(Builtin.append_ #[T,T] ty #[.slice a l.length c,.slice a' l'.length c']).run P W=.ok v' W'∧W'.ownsRow 0 E e.size v' (l.length+l'.length) (xs++ys)∧W.grownBy W' (Value.slice a l.length c).ownBlock ∧
   (v'.ownBlock=(Value.slice a l.length c).ownBlock∨v'.ownBlock=some W.heap.size):=by
  cases a' with
  | none =>
   have hl0:l'.length=0∧c'=0:=by
    rcases hown'.2 with ⟨he,hl⟩ | ⟨b,cap,cur,he,_⟩
    ·simp only [Value.slice.injEq,true_and] at he; exact he
    simp at he
   have hy:ys=[]:=iO (by rw [hown'.1,hl0.1]; simp);rw [hl0.1,hl0.2,hy,gK,nC];exact ⟨_,W,run_append_owned_none W 0 T ty E inf e.size hu gW _ _ xs hown,hown,⟨rfl,rfl,rfl,fP _,fun _ _ _=>rfl⟩,.inl rfl⟩
  | some ad =>
   have hcells:∀ j u,ys[j]? = some u→W.cell? (ad.add j)=some u:=by
    have hb:∃ b,ad=⟨b,0,none⟩:=by
     rcases hown'.2 with ⟨he,hl⟩ | ⟨b,cap,cur,he,_⟩
     ·simp at he
     simp only [Value.slice.injEq,jB] at he; exact ⟨b,he.1⟩
    obtain ⟨b,rfl⟩:=hb;exact hown'.cells rfl
   obtain ⟨v',W',h1,h2,h3,-,h4⟩:=run_append_own_at (P:=P) W 0 T ty E inf z e.size bytes hu gW hz hsz hby hzc om _ _ xs hown ad l'.length c' ys hown'.1 hcells hR'.ones hlen hbytes (ik _);exact ⟨v',W',h1,h2,h3,h4⟩
 obtain ⟨v',W',h1,h2,h3,h4⟩:=key;obtain ⟨a2,c2,rfl⟩:=qZ h2
 have e1:(execOp ac.eval ⟨some d,.call { callee:=.builtin .append,args:=#[s,x],argTypes:=#[T,T] },ty,pos,after,gd⟩).run P W=.ok (.value (.slice a2 (l.length+l'.length) c2)) W':=by
  simp only [execOp,resolve,invoke,builtin,Sem.run_bind,Sem.run_pure,Result.andThen_ok,uS,jL,qH,hA.eval hs,hA.eval hx,h1]
 rw [e1,Oper.upon_value];have h:=h a2 c2 (xs++ys) (hR.append hR');rw [bD] at h;exact h _ W' (hA.put (gy hn) _) (hW.grown (e':=.own (.slice a2 (l.length+l'.length) c2) E e.size (l.length+l'.length) (xs++ys)) hi h3 h2 h4)

theorem J9 {W:World} {B:Nat} {E:TypeId} {e:Ty} {a:Option Addr} {l:List e.den} {c:Nat} {xs:List Value} (hok:W.ownsRow B E e.size (.slice a l.length c) l.length xs) (hR:aW g e xs l) (hg:Gh g W)
  (hap:∀ b,(Value.slice a l.length c).ownBlock=some b→g b=none) :
  ∃ g',lG g g'∧Gh g' W∧bE g' (.slice e) [.slice a l.length c] l∧(∀ b o,g' b=some o→g b=some o∨(Value.slice a l.length c).ownBlock=some b):=by
 rcases hok.2 with ⟨he,hl⟩ | ⟨b,cap,cur,he,hB,hh,hcap,hmax,hsize,htake⟩
 ·simp only [Value.slice.injEq] at he;obtain ⟨rfl,-,rfl⟩:=he;have:l=[]:=iO hl;subst this;exact ⟨g,lG.refl g,hg,bE.nil,fun _ _ h=>.inl h⟩
 simp only [Value.slice.injEq,true_and] at he;obtain ⟨rfl,rfl⟩:=he;have hgb:=hap b rfl
 have hle:lG g (fun k=>if k=b then some (.cells cur E (0,0)) else g k):=fun k o hk=>by
  have:k≠b:=fun h=>by rw [h,hgb] at hk; cases hk
  simp only [aQ this]; exact hk
 refine ⟨_,hle,fun k o hk=>?_,?_,fun k o hk=>?_⟩
 ·by_cases hkb:k=b
  ·subst hkb; simp only [if_true,jB] at hk; rw [hh,hk]
  simp only [aQ hkb] at hk; exact hg k o hk
 ·refine ⟨some ⟨b,0,none⟩,c,rfl,⟨hcap,hmax⟩,fun i x hx=>?_⟩;obtain ⟨cs,hl,hr,hj⟩:=hR.get hx;refine ⟨b,0,rfl,cs,hl,fun j v hv=>?_,hr.mono hle⟩
  have hjl:j<e.size:=by rw [← hl]; exact (jh.1 hv).1
  have h1:=hj j hjl;rw [hv,← htake,List.getElem?_take] at h1
  split at h1
  ·simp only [lM,if_true];rw [sH];simpa using h1
  cases h1
 by_cases hkb:k=b
 ·subst hkb; exact .inr rfl
 simp only [aQ hkb] at hk; exact .inl hk

theorem dm.drop {H':List cu} {W:World} (h:dm w0 H g W) (i:Nat) (hi:H.eraseIdx i=H'):dm w0 H' g W:=h.sub (hi ▸ List.eraseIdx_sublist ..)

theorem Ok.freeze {E:TypeId} {e:Ty} {a:Option Addr} {l:List e.den} {c:Nat} {xs:List Value} {H':List cu} (i:Nat) (hi:H[i]? = some (.own (.slice a l.length c) E e.size l.length xs)) (hR:aW g e xs l) (hH:H.eraseIdx i=H')
  (h:∀ g',bf w0 g g'→bE g' (.slice e) [.slice a l.length c] l→Ok n w0 m H' g' R):Ok n w0 m H g R:=fun ac W hA hW=>by
 have hmem:=iq hi;have hok:W.ownsRow 0 E e.size (.slice a l.length c) l.length xs:=hW.f_ _ hmem;obtain ⟨g',h1,h2,h3,h4⟩:=J9 hok hR hW.ghost fun b hb=>hW.apart _ hmem b hb;have hd:=hW.drop i hH
 have hnot:∀ x ∈ H',∀ b,x.block=some b→(Value.slice a l.length c).ownBlock≠some b:=fun x hx b hb hc=>by
  subst hH;obtain ⟨j,hj⟩:=sJ.1 hx;rw [List.getElem?_eraseIdx] at hj
  split at hj
  ·rename_i hlt
   exact eQ hW.nodup hj hi om hb hc
  rename_i hlt
  exact eQ hW.nodup hj hi om hb hc
 refine h g' ⟨h1,fun b o hb=>(h4 b o hb).imp id fun hc=>hW.mine _ hmem b hc⟩ h3 ac W hA ⟨hd.f_,hd.nodup,h2,fun x hx b hb=>?_,hd.mine,hd.below⟩
 cases hc:g' b with
 | none=>rfl
 | some o =>
  rcases h4 b o hc with h5 | h5
  ·rw [hd.apart x hx b hb] at h5; cases h5
  exact absurd h5 (hnot x hx b hb)

theorem dm.Sm {W:World} (hW:dm w0 H g W) {E:TypeId} {e:Ty} {a:Option Addr} {l:List e.den} {c:Nat} {xs:List Value} (i:Nat) (hi:H[i]? = some (.own (.slice a l.length c) E e.size l.length xs)) (hR:aW g e xs l) :
  bE (eG W) (.slice e) [.slice a l.length c] l:=by
 have hmem:=iq hi;have hok:W.ownsRow 0 E e.size (.slice a l.length c) l.length xs:=hW.f_ _ hmem;obtain ⟨g',-,h2,h3,_⟩:=J9 hok hR hW.ghost fun b hb=>hW.apart _ hmem b hb;exact h3.mono h2
theorem fu {K:Act→World→Prop} {d:Nat} {T E ty:TypeId} {s x:Operand} {e:Ty} {l l':List e.den} {xs ys:List Value} {a a':Option Addr} {c c':Nat} (bytes cap:Nat)
  (i j:Nat) (hs:val m s=some (.slice a l.length c)) (hx:val m x=some (.slice a' l'.length c')) (hi:H[i]? = some (.own (.slice a l.length c) E e.size l.length xs)) (hj:H[j]? = some (.own (.slice a' l'.length c') E e.size l'.length ys))
  (hR:aW g e xs l) (hR':aW g e ys l') (hu:P.underlying T=some (.slice E)) (gW:(P.info? E).map (fun i=>(i.size,i.bytes,i.zero.map (·.cells.size)))=some (e.size,bytes,some e.size)) (h0:Nat.ble 1 e.size=true)
  (hcap:(Nat.ble cap maxLen&&Nat.ble (cap * bytes) 140737488355328)=true) (hlen:(l++l').length≤cap) (hn:Nat.ble (d+1) n=true)
  (h:∀ a2 c2 y5,aW g e y5 (l++l')→Ok n w0 ((d,.slice a2 (l++l').length c2)::m) (H.set i (.own (.slice a2 (l++l').length c2) E e.size (l++l').length y5)) g K) :
  af P K Q ⟨some d,.call { callee:=.builtin .append,args:=#[s,x],argTypes:=#[T,T] },ty,pos,after,gd⟩ n w0 m H g:=by
 rw [aH] at hcap;obtain ⟨inf,h1,h2⟩:=gP.1 gW;simp only [qF] at h2;obtain ⟨h3,h4,h5⟩:=h2;obtain ⟨z,h6,h7⟩:=gP.1 h5;refine af.append i j hs hx hi hj hR hR' hu h1 h6 (by rw [h3]; exact Nat.beq_refl _) h4 (by rw [h7]; exact Nat.beq_refl _) h0 (gQ hlen (gy hcap.1)) (gQ (qG _ hlen) (gy hcap.2)) hn h

def sN (a:Option Addr):Nat:=(a.map (·.block)).getD 0

theorem CS {W:World} {B:Nat} {E:TypeId} {size k:Nat} {a:Option Addr} {c:Nat} {xs:List Value} (h:W.ownsRow B E size (.slice a k c) k xs) {j:Nat} {v:Value} (hj:xs[j]? = some v):a=some ⟨sN a,0,none⟩∧W.cell? ⟨sN a,j,none⟩=some v:=by
 rcases h.2 with ⟨he,hk⟩ | ⟨b,cap,cur,he,_⟩
 ·have:xs=[]:=iO (by rw [h.1,hk]; simp);rw [this] at hj; simp at hj
 simp only [Value.slice.injEq,true_and] at he;obtain ⟨rfl,rfl⟩:=he
 have hjl:j<k * size:=by rw [← h.1]; exact (jh.1 hj).1
 exact ⟨rfl,by rw [← hj]; exact h.cellAt j hjl⟩

theorem yB {dst:Option Nat} {T E ty:TypeId} {x ix:Operand} {e:Ty} {a:Option Addr} {l:List e.den} {c:Nat} {xs:List Value} {k:IntKind} {q:Int} {el:e.den}
  (i:Nat) (hi:H[i]? = some (.own (.slice a l.length c) E e.size l.length xs)) (hR:aW g e xs l) (hx:val m x=some (.slice a l.length c)) (hix:val m ix=some (.int k q)) (hu:P.underlying T=some (.slice E)) (hs:(P.info? E).map (·.size)=some e.size)
  (h1:Nat.ble 1 e.size=true) (h0:0≤q) (he:l[q.toNat]? = some el) :
  ∃ cells,cells.length=e.size∧bE g e cells el∧(∀ j v,cells[j]? = some v→xs[q.toNat * e.size+j]? = some v)∧Yields P n w0 m H g ⟨dst,.indexAddr T x ix,ty,pos,after,gd⟩ (.pointer (some ⟨sN a,q.toNat * e.size,none⟩)):=by
 obtain ⟨cells,hl,hr,hc⟩:=hR.get he
 have hc':∀ j v,cells[j]? = some v→xs[q.toNat * e.size+j]? = some v:=fun j v hj=>by
  rw [hc j (by rw [← hl]; exact (jh.1 hj).1)]; exact hj
 refine ⟨cells,hl,hr,hc',fun ac W hA hW=>?_⟩;have hlt:q.toNat<l.length:=(jh.1 he).1;have hb:0≤q∧q<(l.length:Int):=⟨h0,om⟩;have h1:=gy h1;have hok:W.ownsRow 0 E e.size (.slice a l.length c) l.length xs:=hW.f_ _ (iq hi);obtain ⟨ha,-⟩:=CS hok (hc' 0 cells[0] (by simp))
 cases gW:P.info? E with
 | none=>simp [gW] at hs
 | some inf =>
  simp only [gW,mP,jB] at hs;rw [ha] at hx;simp only [execOp,hA.eval hx,hA.eval hix];simp [Instr.indexAt,asIntOf,underlying,hu,hb,sizeOf,typeInfo,gW,hs,Addr.add_plain,sN,go_sem]

theorem af.fZ {K:Act→World→Prop} {d:Nat} {T E ty:TypeId} {x ix:Operand} {e:Ty} {a:Option Addr} {l:List e.den} {c:Nat} {xs:List Value} {k:IntKind} {q:Int} {el:e.den}
  (i:Nat) (hi:H[i]? = some (.own (.slice a l.length c) E e.size l.length xs)) (hR:aW g e xs l) (hx:val m x=some (.slice a l.length c)) (hix:val m ix=some (.int k q)) (hu:P.underlying T=some (.slice E)) (hs:(P.info? E).map (·.size)=some e.size)
  (h1:Nat.ble 1 e.size=true) (h0:0≤q) (he:l[q.toNat]? = some el) (hn:Nat.ble (d+1) n=true)
  (h:∀ cells,cells.length=e.size→bE g e cells el→(∀ j v,cells[j]? = some v→xs[q.toNat * e.size+j]? = some v)→Ok n w0 ((d,.pointer (some ⟨sN a,q.toNat * e.size,none⟩))::m) H g K) :
  af P K Q ⟨some d,.indexAddr T x ix,ty,pos,after,gd⟩ n w0 m H g:=by
 obtain ⟨cells,hl,hr,hc,hy⟩:=yB (P:=P) (n:=n) (w0:=w0) (dst:=some d) (ty:=ty) (pos:=pos) (after:=after) (gd:=gd) i hi hR hx hix hu hs h1 h0 he;exact af.s hy rfl hn (h cells hl hr hc)

theorem fK.fZ {KQ:Act→Prop} {d:Nat} {T E ty:TypeId} {x ix:Operand} {e:Ty} {a:Option Addr} {l:List e.den} {c:Nat} {xs:List Value} {k:IntKind} {q:Int} {el:e.den}
  (i:Nat) (hi:H[i]? = some (.own (.slice a l.length c) E e.size l.length xs)) (hR:aW g e xs l) (hx:val m x=some (.slice a l.length c)) (hix:val m ix=some (.int k q)) (hu:P.underlying T=some (.slice E)) (hs:(P.info? E).map (·.size)=some e.size)
  (h1:Nat.ble 1 e.size=true) (h0:0≤q) (he:l[q.toNat]? = some el) (hn:Nat.ble (d+1) n=true)
  (h:∀ cells,cells.length=e.size→bE g e cells el→(∀ j v,cells[j]? = some v→xs[q.toNat * e.size+j]? = some v)→Y5 n ((d,.pointer (some ⟨sN a,q.toNat * e.size,none⟩))::m) KQ) :
  fK P KQ ⟨some d,.indexAddr T x ix,ty,pos,after,gd⟩ n w0 m H g:=by
 obtain ⟨cells,hl,hr,hc,hy⟩:=yB (P:=P) (n:=n) (w0:=w0) (dst:=some d) (ty:=ty) (pos:=pos) (after:=after) (gd:=gd) i hi hR hx hix hu hs h1 h0 he;exact fK.s hy rfl hn (h cells hl hr hc)

theorem dP {dst:Option Nat} {T E ty:TypeId} {x:Operand} {size k:Nat} {a:Option Addr} {c o:Nat} {xs cells:List Value} {v:Value} {d:TypeDesc}
  (i j:Nat) (hi:H[i]? = some (.own (.slice a k c) E size k xs)) (hc:∀ j v,cells[j]? = some v→xs[o+j]? = some v) (hx:val m x=some (.pointer (some ⟨sN a,o+j,none⟩))) (hu:P.underlying T=some d) (hd:d.isRow=false) (hv:cells[j]? = some v) :
  Yields P n w0 m H g ⟨dst,.load T x,ty,pos,after,gd⟩ v:=fun ac W hA hW=>by
 have hok:W.ownsRow 0 E size (.slice a k c) k xs:=hW.f_ _ (iq hi);obtain ⟨-,hcell⟩:=CS hok (hc j v hv);simp only [execOp,Instr.loadAt,hA.eval hx,Sem.run_bind,Instr.sureAddr];simp [jX W (sN a) (o+j) T v d hcell hu hd]

theorem fT (E:TypeId) (size:Nat) (h:Ok n w0 m (.own (.slice none 0 0) E size 0 []::H) g R):Ok n w0 m H g R:=fun ac W hA hW =>
 h ac W hA ⟨fun x hx=>by
  rcases eO.1 hx with rfl | hx
  ·exact World.ownsRow_nil W _ E size
  ·exact hW.f_ x hx,(show (List.filterMap cu.block H).Nodup from hW.nodup),hW.ghost,fun x hx b hb=>by
  rcases eO.1 hx with rfl | hx
  ·simp [cu.block,Value.ownBlock] at hb
  ·exact hW.apart x hx b hb,fun x hx b hb=>by
  rcases eO.1 hx with rfl | hx
  ·simp [cu.block,Value.ownBlock] at hb
  exact hW.mine x hx b hb,hW.below⟩

theorem vo {e:Ty} {b off:Nat}:∀ (l:List e.den) (i0:Nat),(∀ i x,l[i]? = some x→∃ jC,jC.length=e.size∧At g b (off+(i0+i) * e.size) jC∧bE g e jC x) →
  ∃ ys,aW g e ys l∧∀ j v,ys[j]? = some v→lM g ⟨b,off+i0 * e.size+j,none⟩=some v
 | [],_,_=>⟨[],rfl,fun j v h=>by simp at h⟩
 | x::l,i0,h=>by
  obtain ⟨jC,hl,hat,hr⟩:=h 0 x rfl
  obtain ⟨ys,h1,h2⟩:=vo l (i0+1) fun i y hy=>by
   obtain ⟨jC,hl,hat,hr⟩:=h (i+1) y (by simpa using hy);exact ⟨jC,hl,by rw [show i0+1+i=i0+(i+1) by omega]; exact hat,hr⟩
  refine ⟨jC++ys,⟨jC,ys,rfl,hr,h1⟩,fun j v hj=>?_⟩;rw [List.getElem?_append] at hj
  split at hj
  ·have:=hat j v hj
   rwa [nC] at this
  rename_i hge
  have:=h2 (j - jC.length) v hj;rw [uQ] at this;rw [← this];congr 2;omega

theorem wG {K:Act→World→Prop} {d:Nat} {T E ty:TypeId} {s x:Operand} {e:Ty} {l l':List e.den} {xs:List Value} {a a':Option Addr} {c c':Nat} (bytes cap:Nat)
  (i:Nat) (hs:val m s=some (.slice a l.length c)) (hx:val m x=some (.slice a' l'.length c')) (hi:H[i]? = some (.own (.slice a l.length c) E e.size l.length xs))
  (hR:aW g e xs l) (hR':bE g (.slice e) [.slice a' l'.length c'] l') (hu:P.underlying T=some (.slice E)) (gW:(P.info? E).map (fun i=>(i.size,i.bytes,i.zero.map (·.cells.size)))=some (e.size,bytes,some e.size)) (h0:Nat.ble 1 e.size=true)
  (hcap:(Nat.ble cap maxLen&&Nat.ble (cap * bytes) 140737488355328)=true) (hlen:(l++l').length≤cap) (hn:Nat.ble (d+1) n=true)
  (h:∀ a2 c2 y5,aW g e y5 (l++l')→Ok n w0 ((d,.slice a2 (l++l').length c2)::m) (H.set i (.own (.slice a2 (l++l').length c2) E e.size (l++l').length y5)) g K) :
  af P K Q ⟨some d,.call { callee:=.builtin .append,args:=#[s,x],argTypes:=#[T,T] },ty,pos,after,gd⟩ n w0 m H g:=fun ac W hA hW=>by
 rw [aH] at hcap;obtain ⟨inf,h1,h2⟩:=gP.1 gW;simp only [qF] at h2;obtain ⟨h3,h4,h5⟩:=h2;obtain ⟨z,h6,h7⟩:=gP.1 h5;have h0:=gy h0;have hown:W.ownsRow 0 E e.size (.slice a l.length c) l.length xs:=hW.f_ _ (iq hi);have hb:=gQ (qG bytes hlen) (gy hcap.2);have hml:=gQ hlen (gy hcap.1);rw [bD] at hml hb;show Oper.upon P _ ac _ Q (Sem.run P (execOp ac.eval _) W)
 have key:∃ v' W' ys,(Builtin.append_ #[T,T] ty #[.slice a l.length c,.slice a' l'.length c']).run P W=.ok v' W'∧W'.ownsRow 0 E e.size v' (l.length+l'.length) (xs++ys)∧W.grownBy W' (Value.slice a l.length c).ownBlock ∧
   (v'.ownBlock=(Value.slice a l.length c).ownBlock∨v'.ownBlock=some W.heap.size)∧aW g e ys l':=by
  obtain ⟨a1,c1,he,hc1,hel⟩:=hR';simp only [uW,Value.slice.injEq,nA] at he;obtain ⟨rfl,-,rfl⟩:=he
  cases a' with
  | none =>
   have hl0:l'=[]:=by
    cases l' with
    | nil=>rfl
    | cons y l'=>obtain ⟨b,off,hb,_⟩:=hel 0 y rfl; cases hb
   subst hl0;refine ⟨_,W,[],?_,by simpa using hown,⟨rfl,rfl,rfl,fP _,fun _ _ _=>rfl⟩,.inl rfl,rfl⟩
   rcases hown.2 with ⟨he,hk⟩ | ⟨b,cap2,cur,he,_,_,hnc,_⟩
   ·rw [he];simp [Builtin.append_,run_underlying hu,sizeOf,typeInfo,h1,Builtin.lenOf,Builtin.firstCells]
   simp only [Value.slice.injEq,true_and] at he;obtain ⟨rfl,rfl⟩:=he;simp [Builtin.append_,run_underlying hu,sizeOf,typeInfo,h1,Builtin.lenOf,Builtin.firstCells,hnc,storeCells]
  | some ad =>
   have hys:∃ ys,aW g e ys l'∧∀ j v,ys[j]? = some v→lM g (ad.add j)=some v:=by
    cases l' with
    | nil=>exact ⟨[],rfl,fun j v h=>by simp at h⟩
    | cons y l' =>
     obtain ⟨b,off,hb,_⟩:=hel 0 y rfl
     injection hb with hb
     subst hb
     obtain ⟨ys,h1,h2⟩:=vo (g:=g) (b:=b) (off:=off) (y::l') 0 fun i x hx=>by
      obtain ⟨b',off',hb',jC,hl,hat,hr⟩:=hel i x hx
      injection hb' with hb'
      simp only [Addr.mk.injEq,nA] at hb';obtain ⟨rfl,rfl⟩:=hb';exact ⟨jC,hl,by rw [sH]; exact hat,hr⟩
     refine ⟨ys,h1,fun j v hj=>?_⟩;have:=h2 j v hj;rw [xm,nC] at this;rw [Addr.add_plain]; exact this
   obtain ⟨ys,hR2,hcell⟩:=hys;obtain ⟨v',W',r1,r2,r3,-,r4⟩:=run_append_own_at (P:=P) W 0 T ty E inf z e.size bytes hu h1 h6 h3 h4 h7 om _ _ xs hown ad l'.length c' ys hR2.size (fun j u hj=>l5 hW.ghost (hcell j u hj)) hR2.ones hml hb (ik _);exact ⟨v',W',ys,r1,r2,r3,r4,hR2⟩
 obtain ⟨v',W',ys,r1,r2,r3,r4,r5⟩:=key;obtain ⟨a2,c2,rfl⟩:=qZ r2
 have e1:(execOp ac.eval ⟨some d,.call { callee:=.builtin .append,args:=#[s,x],argTypes:=#[T,T] },ty,pos,after,gd⟩).run P W=.ok (.value (.slice a2 (l.length+l'.length) c2)) W':=by
  simp only [execOp,resolve,invoke,builtin,Sem.run_bind,Sem.run_pure,Result.andThen_ok,uS,jL,qH,hA.eval hs,hA.eval hx,r1]
 rw [e1,Oper.upon_value];have h:=h a2 c2 (xs++ys) (hR.append r5);rw [bD] at h;exact h _ W' (hA.put (gy hn) _) (hW.grown (e':=.own (.slice a2 (l.length+l'.length) c2) E e.size (l.length+l'.length) (xs++ys)) hi r3 r2 r4)

def Ty.flat:Ty→Bool
 | .int _=>true | .bool=>true | .str=>true | .unit=>true | .slice _=>false | .pair a b=>a.flat&&b.flat
 | .tst _=>false
def Ty.put:(e:Ty)→e.den→List Value
 | .int k,x=>[.int k x] | .bool,x=>[.bool x] | .str,x=>[.string ⟨⟨x⟩⟩] | .unit,_=>[] | .slice _,_=>[] | .pair a b,x=>a.put x.1++b.put x.2
 | .tst _,_=>[]
def putL (e:Ty):List e.den→List Value
 | []=>[]
 | x::l=>e.put x++putL e l
theorem bE.put {g:ak}:∀ (e:Ty) (x:e.den),e.flat=true→bE g e (e.put x) x
 | .int _,_,_=>rfl | .bool,_,_=>rfl | .str,_,_=>rfl | .unit,_,_=>rfl | .slice _,_,h=>by cases h
 | .tst _,_,h=>by cases h
 | .pair a b,x,h=>⟨_,_,rfl,bE.put a x.1 (Bool.and_eq_true_iff.1 h).1,bE.put b x.2 (Bool.and_eq_true_iff.1 h).2⟩
theorem aW.flat {g:ak} {e:Ty} (hf:e.flat=true):∀ {l:List e.den} {xs:List Value},putL e l=xs→aW g e xs l
 | [],_,h=>h.symm
 | x::l,_,h=>⟨_,_,h.symm,bE.put e x hf,aW.flat hf rfl⟩
theorem dx {e:Ty} {c r:List Value} {x:e.den} {l:List e.den} (h:bE g e c x) (t:aW g e r l):aW g e (c++r) (x::l):=⟨c,r,rfl,h,t⟩
end
section
variable {P:Program} {pos:String} {after:Array Edge} {gd:Option (Nat×Bool)} {n:nQ} {w0:Base} {m:Env} {H:List cu} {g:ak} {R:Act→World→Prop}
theorem sQ {E:TypeId} {e:Ty} {a:Option Addr} {l:List e.den} {c:Nat} {xs:List Value} {H':List cu} (i:Nat) (hi:H[i]? = some (.own (.slice a l.length c) E e.size l.length xs)) (hR:aW g e xs l)
    (h:∀ g',bf w0 g g'→bE g' (.slice e) [.slice a l.length c] l→Ok n w0 m H' g' R) (hs:F3 H i H':=by repeat constructor):Ok n w0 m H g R:=Ok.freeze i hi hR hs.eq h
end
section
variable {P:Program} {pos:String} {after:Array Edge} {gd:Option (Nat×Bool)} {n:nQ} {w0:Base} {m:Env} {H:List cu} {g:ak} {R:Act→World→Prop} {Q:Exit→Act→World→Prop} {ops:Array Oper}
theorem gz {K:Act→World→Prop} {d len:Nat} {T E ty:TypeId} {parts:Array (Nat×Operand)} {e:Ty} {l:List e.den} {xs:List Value} (hR:aW g e xs l)
    (h:∀ b,Ok n w0 ((d,.slice (some ⟨b,0,none⟩) l.length len)::m) (.own (.slice (some ⟨b,0,none⟩) l.length len) E e.size l.length xs::H) g K)
    (hk:known m ⟨some d,.buildSlice T len parts,ty,pos,after,gd⟩=true:=by kernel_rfl) (hu:P.underlying T=some (.slice E):=by rfl) (hc:yw P T len (parts.map fun (i,x)=>(i,JR m x)).toList=some (E,⟨xs⟩):=by kernel_rfl) (hlen:l.length=len:=by rfl) (hm:Nat.ble len maxLen=true:=by kernel_rfl)
    (hn:Nat.ble (d+1) n=true:=by kernel_rfl):af P K Q ⟨some d,.buildSlice T len parts,ty,pos,after,gd⟩ n w0 m H g:=af.lit e l xs hk hc hlen hm hR hn h
end
end Go.iT
