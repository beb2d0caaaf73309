import Derived.Test.YtalnampdiegmoaaDoorEng
import Derived.Maps.AppendAt
namespace Go.Eng
open Go.RowKit (Below)
set_option linter.unusedVariables false
section
variable {P:Program} {pos:String} {after:Array Edge} {gd:Option (Nat×Bool)} {n:Fsz} {w0:Base} {m:Env} {H:List Ent} {g:Ghost} {R:Act→World→Prop} {Q:Exit→Act→World→Prop} {ops:Array Oper}

theorem StW.grown {W W':World} {i:Nat} {e e':Ent} (h:StW w0 H g W) (hi:H[i]? = some e) (hg:W.grownBy W' e.block) (he':e'.ok W') (hb':e'.block=e.block∨e'.block=some W.heap.size):StW w0 (H.set i e') g W':=by
 have hmem:=List.mem_of_getElem? hi
 have hil:i<H.length:=(List.getElem?_eq_some_iff.1 hi).1
 have hbl:Kept w0 W':=h.below.grown hg fun k hk=>h.mine e hmem k hk
 have hother:∀ (j:Nat) (x:Ent),j≠i→H[j]? = some x→∀ b,x.block=some b→W'.heap[b]? = W.heap[b]?∧b<W.heap.size∧some b≠e.block:=fun j x hj hx b hb=>by
  have hlt:=Ent.ok_lt (h.ents x (List.mem_of_getElem? hx)) hb
  have hne:some b≠e.block:=fun he=>nodup_filterMap_clash h.nodup hx hi hj hb he.symm
  exact ⟨hg.block b hlt hne,hlt,hne⟩
 have hfresh:g W.heap.size=none:=by
  cases hc:g W.heap.size with
  | none=>rfl
  | some o=>exact absurd (lt_of_some (h.ghost _ _ hc)) (Nat.lt_irrefl _)
 refine ⟨fun x hx=>?_,?_,fun b o hb=>?_,fun x hx b hb=>?_,fun x hx b hb=>?_,hbl⟩
 ·obtain ⟨j,hj⟩:=List.mem_iff_getElem?.1 hx
  rw [List.getElem?_set] at hj
  split at hj
  ·injection hj with hj; subst hj; exact he'
  rename_i hne
  exact Ent.ok_of_block (h.ents x (List.mem_of_getElem? hj)) fun b hb=>(hother j x (fun e=>hne e.symm) hj b hb).1
 ·have hsplit:H=H.take i++e::H.drop (i+1):=by
   have:=(List.getElem?_eq_some_iff.1 hi).2; rw [← this,← List.drop_eq_getElem_cons hil,List.take_append_drop]
  rw [List.set_eq_take_append_cons_drop,if_pos hil]
  have hnd:=h.nodup
  rw [hsplit] at hnd
  rcases hb' with hb' | hb'
  ·rw [List.filterMap_append,List.filterMap_cons] at hnd ⊢
   rw [hb']; exact hnd
  rw [List.filterMap_append,List.filterMap_cons,hb']
  rw [List.filterMap_append,List.filterMap_cons] at hnd
  have hnd2:((H.take i).filterMap Ent.block++(H.drop (i+1)).filterMap Ent.block).Nodup:=by
   refine hnd.sublist ((List.Sublist.refl _).append ?_)
   split
   ·exact List.Sublist.refl _
   exact List.sublist_cons_self _ _
  have hnot:∀ x ∈ H,x.block≠some W.heap.size:=fun x hx hb=>absurd (Ent.ok_lt (h.ents x hx) hb) (Nat.lt_irrefl _)
  have hn1:W.heap.size ∉ (H.take i).filterMap Ent.block++(H.drop (i+1)).filterMap Ent.block:=fun hc=>by
   rw [← List.filterMap_append,List.mem_filterMap] at hc
   obtain ⟨x,hx,hb⟩:=hc
   rcases List.mem_append.1 hx with hx | hx
   ·exact hnot x (List.mem_of_mem_take hx) hb
   exact hnot x (List.mem_of_mem_drop hx) hb
  exact (List.perm_middle.nodup_iff).2 (List.nodup_cons.2 ⟨hn1,hnd2⟩)
 ·have hb2:=h.ghost b o hb
  have hne:some b≠e.block:=fun he=>by rw [h.apart e hmem b he.symm] at hb; cases hb
  rw [hg.block b (lt_of_some hb2) hne]; exact hb2
 ·obtain ⟨j,hj⟩:=List.mem_iff_getElem?.1 hx
  rw [List.getElem?_set] at hj
  split at hj
  ·injection hj with hj; subst hj
   rcases hb' with hb' | hb'
   ·exact h.apart e hmem b (by rw [← hb']; exact hb)
   rw [hb'] at hb; injection hb with hb; subst hb; exact hfresh
  exact h.apart x (List.mem_of_getElem? hj) b hb
 obtain ⟨j,hj⟩:=List.mem_iff_getElem?.1 hx
 rw [List.getElem?_set] at hj
 split at hj
 ·injection hj with hj; subst hj
  rcases hb' with hb' | hb'
  ·exact h.mine e hmem b (by rw [← hb']; exact hb)
  rw [hb'] at hb; injection hb with hb; subst hb; exact .inl h.below.size
 exact h.mine x (List.mem_of_getElem? hj) b hb
theorem StW.pushOwn {W:World} (h:StW w0 H g W) (cs:Array Value) (E:TypeId) {size len:Nat} (hm:len≤maxLen) (hs:cs.size=len * size) :
  StW w0 (.own (.slice (some ⟨W.heap.size,0,none⟩) len len) E size len cs.toList::H) g (W.alloc (.cells cs E)):=by
 have h2:=h.push (.cells cs E)
 refine ⟨fun e he=>?_,?_,h2.ghost,fun e he b hb=>?_,fun e he b hb=>?_,h2.below⟩
 ·rcases List.mem_cons.1 he with rfl | he
  ·exact World.ownsRow_lit W cs len (Nat.zero_le _) hm hs
  exact h2.ents e (List.mem_cons_of_mem _ he)
 ·exact h2.nodup
 ·rcases List.mem_cons.1 he with rfl | he
  ·exact h2.apart _ (List.mem_cons_self ..) b hb
  exact h2.apart e (List.mem_cons_of_mem _ he) b hb
 rcases List.mem_cons.1 he with rfl | he
 ·exact h2.mine _ (List.mem_cons_self ..) b hb
 exact h2.mine e (List.mem_cons_of_mem _ he) b hb

/-- the cells of a slice that is written out -/
def litCells (P:Program) (t:TypeId) (len:Nat) (parts:List (Nat×Value)):Option (TypeId×Array Value) :=
 match P.underlying t with
 | some (.slice E)=>match P.info? E with
  | some i=>match Nat.ble (len * i.size) 16777216 with
   | false=>none
   | true=>match (if len * i.size=0 then some #[] else i.zero.map (·.cells)) with
    | some zero=>(Instr.fill (fun k=>some (k * i.size,i.size)) ((Array.range (len * i.size)).map (zero[· % zero.size]!)) parts).map fun cs=>(E,cs)
    | none=>none
  | none=>none
 | _=>none

theorem run_lit {t:TypeId} {len:Nat} {parts:Array (Nat×Value)} {E:TypeId} {cs:Array Value} (h:litCells P t len parts.toList=some (E,cs)) (W:World) :
  (Instr.buildSlice t len parts).run P W=.ok (.slice (some ⟨W.heap.size,0,none⟩) len len) (W.alloc (.cells cs E)):=by
 unfold litCells at h
 split at h
 ·rename_i E' hu
  split at h
  ·rename_i i hi
   split at h
   ·cases h
   rename_i hb
   have hb:=Nat.le_of_ble_eq_true hb
   split at h
   ·rename_i zero hz
    obtain ⟨cs',hf,he⟩:=Option.map_eq_some_iff.1 h
    simp only [Prod.mk.injEq] at he
    obtain ⟨rfl,rfl⟩:=he
    have hb':¬ (len * i.size>16777216):=by omega
    by_cases h0:len * i.size=0
    ·rw [if_pos h0] at hz
     injection hz with hz
     subst hz
     simp [Instr.buildSlice,underlying,hu,sizeOf,typeInfo,hi,h0,newRow,go_sem] at hf ⊢
     simp [hf,go_sem]
    rw [if_neg h0] at hz
    obtain ⟨z,hz1,hz2⟩:=Option.map_eq_some_iff.1 hz
    subst hz2
    simp [Instr.buildSlice,underlying,hu,sizeOf,typeInfo,hi,hb',h0,hz1,zeroValue,newRow,go_sem] at hf ⊢
    simp [hf,go_sem]
   cases h
  cases h
 cases h

theorem OpOk.lit {K:Act→World→Prop} {d len:Nat} {T E ty:TypeId} {parts:Array (Nat×Operand)} (e:Ty) (l:List e.den) (xs:List Value)
  (hk:known m ⟨some d,.buildSlice T len parts,ty,pos,after,gd⟩=true) (hc:litCells P T len (parts.map fun (i,x)=>(i,rho m x)).toList=some (E,⟨xs⟩)) (hlen:l.length=len) (hm:Nat.ble len maxLen=true) (hR:RepL g e xs l)
  (hn:Nat.ble (d+1) n=true)
  (h:∀ b,Ok n w0 ((d,.slice (some ⟨b,0,none⟩) l.length len)::m) (.own (.slice (some ⟨b,0,none⟩) l.length len) E e.size l.length xs::H) g K) :
  OpOk P K Q ⟨some d,.buildSlice T len parts,ty,pos,after,gd⟩ n w0 m H g:=fun a W hA hW=>by
 subst hlen
 show Oper.upon P _ a _ Q (Sem.run P (execOp a.eval _) W)
 have e1:(execOp (rho m) ⟨some d,.buildSlice T l.length parts,ty,pos,after,gd⟩).run P W=.ok (.value (.slice (some ⟨W.heap.size,0,none⟩) l.length l.length)) (W.alloc (.cells ⟨xs⟩ E)):=by
  simp only [execOp,Sem.run_bind,run_lit hc W,Result.andThen]; rfl
 rw [exec_known hA hk,e1,Oper.upon_value]
 exact h _ _ _ (hA.put (Nat.le_of_ble_eq_true hn) _) (hW.pushOwn ⟨xs⟩ E (Nat.le_of_ble_eq_true hm) (by simpa using hR.size))

theorem Rep.one {e:Ty}:∀ {c:List Value} {x:e.den},Rep g e c x→∀ u ∈ c,u.oneCell'=true:=by
 induction e with
 | int=>intro c x h u hu; rw [show c=_ from h] at hu; rw [List.mem_singleton.1 hu]; rfl
 | bool=>intro c x h u hu; rw [show c=_ from h] at hu; rw [List.mem_singleton.1 hu]; rfl
 | str=>intro c x h u hu; rw [show c=_ from h] at hu; rw [List.mem_singleton.1 hu]; rfl
 | slice e _=>intro c x h u hu; obtain ⟨a,k,h1,_⟩:=h; rw [h1] at hu; rw [List.mem_singleton.1 hu]; rfl
 | pair a b iha ihb =>
  intro c x h u hu
  obtain ⟨c1,c2,h1,h2,h3⟩:=h
  rw [h1] at hu
  rcases List.mem_append.1 hu with hu | hu
  ·exact iha h2 u hu
  exact ihb h3 u hu
 | unit=>intro c x h u hu; rw [show c=_ from h] at hu; cases hu
 | tree a iha =>
  intro c x h u hu
  obtain ⟨c1,c2,h1,h2,ad,k,h3,_⟩:=Rep.tree.1 h
  rw [h1] at hu
  rcases List.mem_append.1 hu with hu | hu
  ·exact iha h2 u hu
  rw [h3] at hu; rw [List.mem_singleton.1 hu]; rfl
theorem RepL.ones {e:Ty}:∀ {l:List e.den} {xs:List Value},RepL g e xs l→∀ u ∈ xs,u.oneCell'=true
 | [],_,h,u,hu=>by rw [show _=_ from h] at hu; cases hu
 | _::_,_,⟨c,r,h1,h2,h3⟩,u,hu=>by
  rw [h1] at hu
  rcases List.mem_append.1 hu with hu | hu
  ·exact h2.one u hu
  exact RepL.ones h3 u hu

theorem own_shape {W:World} {B:Nat} {E:TypeId} {size k:Nat} {v:Value} {xs:List Value} (h:W.ownsRow B E size v k xs):∃ a c,v=.slice a k c:=by
 rcases h.2 with ⟨rfl,rfl⟩ | ⟨b,cap,cur,rfl,_⟩
 ·exact ⟨none,0,rfl⟩
 exact ⟨_,_,rfl⟩

/-- append onto a slice of the call's own: what is appended is another one of the call's own -/
theorem OpOk.append {K:Act→World→Prop} {d:Nat} {T E ty:TypeId} {s x:Operand} {e:Ty} {l l':List e.den} {xs ys:List Value} {a a':Option Addr} {c c' bytes:Nat} {inf:TypeInfo} {z:Value}
  (i j:Nat) (hs:val m s=some (.slice a l.length c)) (hx:val m x=some (.slice a' l'.length c')) (hi:H[i]? = some (.own (.slice a l.length c) E e.size l.length xs)) (hj:H[j]? = some (.own (.slice a' l'.length c') E e.size l'.length ys))
  (hR:RepL g e xs l) (hR':RepL g e ys l') (hu:P.underlying T=some (.slice E)) (hinf:P.info? E=some inf) (hz:inf.zero=some z) (hsz:Nat.beq inf.size e.size=true) (hby:inf.bytes=bytes) (hzc:Nat.beq z.cells.size e.size=true) (h0:Nat.ble 1 e.size=true)
  (hlen:(l++l').length≤maxLen) (hbytes:(l++l').length * bytes≤140737488355328) (hn:Nat.ble (d+1) n=true)
  (h:∀ a2 c2 xs2,RepL g e xs2 (l++l')→Ok n w0 ((d,.slice a2 (l++l').length c2)::m) (H.set i (.own (.slice a2 (l++l').length c2) E e.size (l++l').length xs2)) g K) :
  OpOk P K Q ⟨some d,.call { callee:=.builtin .append,args:=#[s,x],argTypes:=#[T,T] },ty,pos,after,gd⟩ n w0 m H g:=fun ac W hA hW=>by
 have hsz:=Nat.eq_of_beq_eq_true hsz
 have hzc:=Nat.eq_of_beq_eq_true hzc
 have h0:=Nat.le_of_ble_eq_true h0
 have hown:W.ownsRow 0 E e.size (.slice a l.length c) l.length xs:=hW.ents _ (List.mem_of_getElem? hi)
 have hown':W.ownsRow 0 E e.size (.slice a' l'.length c') l'.length ys:=hW.ents _ (List.mem_of_getElem? hj)
 rw [List.length_append] at hlen hbytes
 show Oper.upon P _ ac _ Q (Sem.run P (execOp ac.eval _) W)
 have key:∃ v' W',(Builtin.append_ #[T,T] ty #[.slice a l.length c,.slice a' l'.length c']).run P W=.ok v' W'∧W'.ownsRow 0 E e.size v' (l.length+l'.length) (xs++ys)∧W.grownBy W' (Value.slice a l.length c).ownBlock ∧
   (v'.ownBlock=(Value.slice a l.length c).ownBlock∨v'.ownBlock=some W.heap.size):=by
  cases a' with
  | none =>
   have hl0:l'.length=0∧c'=0:=by
    rcases hown'.2 with ⟨he,hl⟩ | ⟨b,cap,cur,he,_⟩
    ·simp only [Value.slice.injEq,true_and] at he; exact he
    simp at he
   have hy:ys=[]:=List.eq_nil_of_length_eq_zero (by rw [hown'.1,hl0.1]; simp)
   rw [hl0.1,hl0.2,hy,List.append_nil,Nat.add_zero]
   exact ⟨_,W,run_append_owned_none W 0 T ty E inf e.size hu hinf _ _ xs hown,hown,⟨rfl,rfl,rfl,Nat.le_refl _,fun _ _ _=>rfl⟩,.inl rfl⟩
  | some ad =>
   have hcells:∀ j u,ys[j]? = some u→W.cell? (ad.add j)=some u:=by
    have hb:∃ b,ad=⟨b,0,none⟩:=by
     rcases hown'.2 with ⟨he,hl⟩ | ⟨b,cap,cur,he,_⟩
     ·simp at he
     simp only [Value.slice.injEq,Option.some.injEq] at he; exact ⟨b,he.1⟩
    obtain ⟨b,rfl⟩:=hb
    exact hown'.cells rfl
   obtain ⟨v',W',h1,h2,h3,-,h4⟩:=run_append_own_at (P:=P) W 0 T ty E inf z e.size bytes hu hinf hz hsz hby hzc (by omega) _ _ xs hown ad l'.length c' ys hown'.1 hcells hR'.ones hlen hbytes (Nat.zero_le _)
   exact ⟨v',W',h1,h2,h3,h4⟩
 obtain ⟨v',W',h1,h2,h3,h4⟩:=key
 obtain ⟨a2,c2,rfl⟩:=own_shape h2
 have e1:(execOp ac.eval ⟨some d,.call { callee:=.builtin .append,args:=#[s,x],argTypes:=#[T,T] },ty,pos,after,gd⟩).run P W=.ok (.value (.slice a2 (l.length+l'.length) c2)) W':=by
  simp only [execOp,resolve,invoke,builtin,Sem.run_bind,Sem.run_pure,Result.andThen_ok,List.map_toArray,List.map_cons,List.map_nil,hA.eval hs,hA.eval hx,h1]
 rw [e1,Oper.upon_value]
 have h:=h a2 c2 (xs++ys) (hR.append hR')
 rw [List.length_append] at h
 exact h _ W' (hA.put (Nat.le_of_ble_eq_true hn) _) (hW.grown (e':=.own (.slice a2 (l.length+l'.length) c2) E e.size (l.length+l'.length) (xs++ys)) hi h3 h2 h4)

/-- what is owned can be read as data that stays -/
theorem own_core {W:World} {B:Nat} {E:TypeId} {e:Ty} {a:Option Addr} {l:List e.den} {c:Nat} {xs:List Value} (hok:W.ownsRow B E e.size (.slice a l.length c) l.length xs) (hR:RepL g e xs l) (hg:Gh g W)
  (hap:∀ b,(Value.slice a l.length c).ownBlock=some b→g b=none) :
  ∃ g',Gle g g'∧Gh g' W∧Rep g' (.slice e) [.slice a l.length c] l∧(∀ b o,g' b=some o→g b=some o∨(Value.slice a l.length c).ownBlock=some b):=by
 rcases hok.2 with ⟨he,hl⟩ | ⟨b,cap,cur,he,hB,hh,hcap,hmax,hsize,htake⟩
 ·simp only [Value.slice.injEq] at he
  obtain ⟨rfl,-,rfl⟩:=he
  have:l=[]:=List.eq_nil_of_length_eq_zero hl
  subst this
  exact ⟨g,Gle.refl g,hg,Rep.nil,fun _ _ h=>.inl h⟩
 simp only [Value.slice.injEq,true_and] at he
 obtain ⟨rfl,rfl⟩:=he
 have hgb:=hap b rfl
 have hle:Gle g (fun k=>if k=b then some (.cells cur E (0,0)) else g k):=fun k o hk=>by
  have:k≠b:=fun h=>by rw [h,hgb] at hk; cases hk
  simp only [if_neg this]; exact hk
 refine ⟨_,hle,fun k o hk=>?_,?_,fun k o hk=>?_⟩
 ·by_cases hkb:k=b
  ·subst hkb; simp only [if_true,Option.some.injEq] at hk; rw [hh,hk]
  simp only [if_neg hkb] at hk; exact hg k o hk
 ·refine ⟨some ⟨b,0,none⟩,c,rfl,⟨hcap,hmax⟩,fun i x hx=>?_⟩
  obtain ⟨cs,hl,hr,hj⟩:=hR.get hx
  refine ⟨b,0,rfl,cs,hl,fun j v hv=>?_,hr.mono hle⟩
  have hjl:j<e.size:=by rw [← hl]; exact (List.getElem?_eq_some_iff.1 hv).1
  have h1:=hj j hjl
  rw [hv,← htake,List.getElem?_take] at h1
  split at h1
  ·simp only [gcell,if_true]
   rw [Nat.zero_add]
   simpa using h1
  cases h1
 by_cases hkb:k=b
 ·subst hkb; exact .inr rfl
 simp only [if_neg hkb] at hk; exact .inl hk

theorem StW.drop {H':List Ent} {W:World} (h:StW w0 H g W) (i:Nat) (hi:H.eraseIdx i=H'):StW w0 H' g W:=h.sub (hi ▸ List.eraseIdx_sublist ..)

/-- a slice of the call's own is not written any more -/
theorem Ok.freeze {E:TypeId} {e:Ty} {a:Option Addr} {l:List e.den} {c:Nat} {xs:List Value} {H':List Ent} (i:Nat) (hi:H[i]? = some (.own (.slice a l.length c) E e.size l.length xs)) (hR:RepL g e xs l) (hH:H.eraseIdx i=H')
  (h:∀ g',Gext w0 g g'→Rep g' (.slice e) [.slice a l.length c] l→Ok n w0 m H' g' R):Ok n w0 m H g R:=fun ac W hA hW=>by
 have hmem:=List.mem_of_getElem? hi
 have hok:W.ownsRow 0 E e.size (.slice a l.length c) l.length xs:=hW.ents _ hmem
 obtain ⟨g',h1,h2,h3,h4⟩:=own_core hok hR hW.ghost fun b hb=>hW.apart _ hmem b hb
 have hd:=hW.drop i hH
 have hnot:∀ x ∈ H',∀ b,x.block=some b→(Value.slice a l.length c).ownBlock≠some b:=fun x hx b hb hc=>by
  subst hH
  obtain ⟨j,hj⟩:=List.mem_iff_getElem?.1 hx
  rw [List.getElem?_eraseIdx] at hj
  split at hj
  ·rename_i hlt
   exact nodup_filterMap_clash hW.nodup hj hi (by omega) hb hc
  rename_i hlt
  exact nodup_filterMap_clash hW.nodup hj hi (by omega) hb hc
 refine h g' ⟨h1,fun b o hb=>(h4 b o hb).imp id fun hc=>hW.mine _ hmem b hc⟩ h3 ac W hA ⟨hd.ents,hd.nodup,h2,fun x hx b hb=>?_,hd.mine,hd.below⟩
 cases hc:g' b with
 | none=>rfl
 | some o =>
  rcases h4 b o hc with h5 | h5
  ·rw [hd.apart x hx b hb] at h5; cases h5
  exact absurd h5 (hnot x hx b hb)

theorem OpOk.append' {K:Act→World→Prop} {d:Nat} {T E ty:TypeId} {s x:Operand} {e:Ty} {l l':List e.den} {xs ys:List Value} {a a':Option Addr} {c c':Nat} (bytes cap:Nat)
  (i j:Nat) (hs:val m s=some (.slice a l.length c)) (hx:val m x=some (.slice a' l'.length c')) (hi:H[i]? = some (.own (.slice a l.length c) E e.size l.length xs)) (hj:H[j]? = some (.own (.slice a' l'.length c') E e.size l'.length ys))
  (hR:RepL g e xs l) (hR':RepL g e ys l') (hu:P.underlying T=some (.slice E)) (hinf:(P.info? E).map (fun i=>(i.size,i.bytes,i.zero.map (·.cells.size)))=some (e.size,bytes,some e.size)) (h0:Nat.ble 1 e.size=true)
  (hcap:(Nat.ble cap maxLen&&Nat.ble (cap * bytes) 140737488355328)=true) (hlen:(l++l').length≤cap) (hn:Nat.ble (d+1) n=true)
  (h:∀ a2 c2 xs2,RepL g e xs2 (l++l')→Ok n w0 ((d,.slice a2 (l++l').length c2)::m) (H.set i (.own (.slice a2 (l++l').length c2) E e.size (l++l').length xs2)) g K) :
  OpOk P K Q ⟨some d,.call { callee:=.builtin .append,args:=#[s,x],argTypes:=#[T,T] },ty,pos,after,gd⟩ n w0 m H g:=by
 rw [Bool.and_eq_true] at hcap
 obtain ⟨inf,h1,h2⟩:=Option.map_eq_some_iff.1 hinf
 simp only [Prod.mk.injEq] at h2
 obtain ⟨h3,h4,h5⟩:=h2
 obtain ⟨z,h6,h7⟩:=Option.map_eq_some_iff.1 h5
 refine OpOk.append i j hs hx hi hj hR hR' hu h1 h6 (by rw [h3]; exact Nat.beq_refl _) h4 (by rw [h7]; exact Nat.beq_refl _) h0 (Nat.le_trans hlen (Nat.le_of_ble_eq_true hcap.1)) (Nat.le_trans (Nat.mul_le_mul_right _ hlen) (Nat.le_of_ble_eq_true hcap.2)) hn h

def ablk (a:Option Addr):Nat:=(a.map (·.block)).getD 0

theorem own_cell {W:World} {B:Nat} {E:TypeId} {size k:Nat} {a:Option Addr} {c:Nat} {xs:List Value} (h:W.ownsRow B E size (.slice a k c) k xs) {j:Nat} {v:Value} (hj:xs[j]? = some v):a=some ⟨ablk a,0,none⟩∧W.cell? ⟨ablk a,j,none⟩=some v:=by
 rcases h.2 with ⟨he,hk⟩ | ⟨b,cap,cur,he,_⟩
 ·have:xs=[]:=List.eq_nil_of_length_eq_zero (by rw [h.1,hk]; simp)
  rw [this] at hj; simp at hj
 simp only [Value.slice.injEq,true_and] at he
 obtain ⟨rfl,rfl⟩:=he
 have hjl:j<k * size:=by rw [← h.1]; exact (List.getElem?_eq_some_iff.1 hj).1
 exact ⟨rfl,by rw [← hj]; exact h.cellAt j hjl⟩

theorem indexOwn_aux {dst:Option Nat} {T E ty:TypeId} {x ix:Operand} {e:Ty} {a:Option Addr} {l:List e.den} {c:Nat} {xs:List Value} {k:IntKind} {q:Int} {el:e.den}
  (i:Nat) (hi:H[i]? = some (.own (.slice a l.length c) E e.size l.length xs)) (hR:RepL g e xs l) (hx:val m x=some (.slice a l.length c)) (hix:val m ix=some (.int k q)) (hu:P.underlying T=some (.slice E)) (hs:(P.info? E).map (·.size)=some e.size)
  (h1:Nat.ble 1 e.size=true) (h0:0≤q) (he:l[q.toNat]? = some el) :
  ∃ cells,cells.length=e.size∧Rep g e cells el∧(∀ j v,cells[j]? = some v→xs[q.toNat * e.size+j]? = some v)∧Yields P n w0 m H g ⟨dst,.indexAddr T x ix,ty,pos,after,gd⟩ (.pointer (some ⟨ablk a,q.toNat * e.size,none⟩)):=by
 obtain ⟨cells,hl,hr,hc⟩:=hR.get he
 have hc':∀ j v,cells[j]? = some v→xs[q.toNat * e.size+j]? = some v:=fun j v hj=>by
  rw [hc j (by rw [← hl]; exact (List.getElem?_eq_some_iff.1 hj).1)]; exact hj
 refine ⟨cells,hl,hr,hc',fun ac W hA hW=>?_⟩
 have hlt:q.toNat<l.length:=(List.getElem?_eq_some_iff.1 he).1
 have hb:0≤q∧q<(l.length:Int):=⟨h0,by omega⟩
 have h1:=Nat.le_of_ble_eq_true h1
 have hok:W.ownsRow 0 E e.size (.slice a l.length c) l.length xs:=hW.ents _ (List.mem_of_getElem? hi)
 obtain ⟨ha,-⟩:=own_cell hok (hc' 0 cells[0] (by simp))
 cases hinf:P.info? E with
 | none=>simp [hinf] at hs
 | some inf =>
  simp only [hinf,Option.map_some,Option.some.injEq] at hs
  rw [ha] at hx
  simp only [execOp,hA.eval hx,hA.eval hix]
  simp [Instr.indexAt,asIntOf,underlying,hu,hb,sizeOf,typeInfo,hinf,hs,Addr.add_plain,ablk,go_sem]

theorem OpOk.indexOwn {K:Act→World→Prop} {d:Nat} {T E ty:TypeId} {x ix:Operand} {e:Ty} {a:Option Addr} {l:List e.den} {c:Nat} {xs:List Value} {k:IntKind} {q:Int} {el:e.den}
  (i:Nat) (hi:H[i]? = some (.own (.slice a l.length c) E e.size l.length xs)) (hR:RepL g e xs l) (hx:val m x=some (.slice a l.length c)) (hix:val m ix=some (.int k q)) (hu:P.underlying T=some (.slice E)) (hs:(P.info? E).map (·.size)=some e.size)
  (h1:Nat.ble 1 e.size=true) (h0:0≤q) (he:l[q.toNat]? = some el) (hn:Nat.ble (d+1) n=true)
  (h:∀ cells,cells.length=e.size→Rep g e cells el→(∀ j v,cells[j]? = some v→xs[q.toNat * e.size+j]? = some v)→Ok n w0 ((d,.pointer (some ⟨ablk a,q.toNat * e.size,none⟩))::m) H g K) :
  OpOk P K Q ⟨some d,.indexAddr T x ix,ty,pos,after,gd⟩ n w0 m H g:=by
 obtain ⟨cells,hl,hr,hc,hy⟩:=indexOwn_aux (P:=P) (n:=n) (w0:=w0) (dst:=some d) (ty:=ty) (pos:=pos) (after:=after) (gd:=gd) i hi hR hx hix hu hs h1 h0 he
 exact OpOk.s hy rfl hn (h cells hl hr hc)

theorem Yields.loadOwn {dst:Option Nat} {T E ty:TypeId} {x:Operand} {size k:Nat} {a:Option Addr} {c o:Nat} {xs cells:List Value} {v:Value} {d:TypeDesc}
  (i j:Nat) (hi:H[i]? = some (.own (.slice a k c) E size k xs)) (hc:∀ j v,cells[j]? = some v→xs[o+j]? = some v) (hx:val m x=some (.pointer (some ⟨ablk a,o+j,none⟩))) (hu:P.underlying T=some d) (hd:d.isRow=false) (hv:cells[j]? = some v) :
  Yields P n w0 m H g ⟨dst,.load T x,ty,pos,after,gd⟩ v:=fun ac W hA hW=>by
 have hok:W.ownsRow 0 E size (.slice a k c) k xs:=hW.ents _ (List.mem_of_getElem? hi)
 obtain ⟨-,hcell⟩:=own_cell hok (hc j v hv)
 simp only [execOp,Instr.loadAt,hA.eval hx,Sem.run_bind,Instr.sureAddr]
 simp [run_loadVar_one W (ablk a) (o+j) T v d hcell hu hd]

/-- nothing yet -/
theorem Ok.ownNil (E:TypeId) (size:Nat) (h:Ok n w0 m (.own (.slice none 0 0) E size 0 []::H) g R):Ok n w0 m H g R:=fun ac W hA hW =>
 h ac W hA ⟨fun x hx=>by
  rcases List.mem_cons.1 hx with rfl | hx
  ·exact World.ownsRow_nil W _ E size
  ·exact hW.ents x hx,(show (List.filterMap Ent.block H).Nodup from hW.nodup),hW.ghost,fun x hx b hb=>by
  rcases List.mem_cons.1 hx with rfl | hx
  ·simp [Ent.block,Value.ownBlock] at hb
  ·exact hW.apart x hx b hb,fun x hx b hb=>by
  rcases List.mem_cons.1 hx with rfl | hx
  ·simp [Ent.block,Value.ownBlock] at hb
  exact hW.mine x hx b hb,hW.below⟩

/-- one element more in front, its cells in a row -/
def Ty.flat:Ty→Bool
 | .int _=>true | .bool=>true | .str=>true | .unit=>true | .slice _=>false | .pair a b=>a.flat&&b.flat
 | .tree _=>false
/-- the cells of a datum without slices -/
def Ty.put:(e:Ty)→e.den→List Value
 | .int k,x=>[.int k x] | .bool,x=>[.bool x] | .str,x=>[.string ⟨⟨x⟩⟩] | .unit,_=>[] | .slice _,_=>[] | .pair a b,x=>a.put x.1++b.put x.2
 | .tree _,_=>[]
def putL (e:Ty):List e.den→List Value
 | []=>[]
 | x::l=>e.put x++putL e l
theorem Rep.put {g:Ghost}:∀ (e:Ty) (x:e.den),e.flat=true→Rep g e (e.put x) x
 | .int _,_,_=>rfl | .bool,_,_=>rfl | .str,_,_=>rfl | .unit,_,_=>rfl | .slice _,_,h=>by cases h
 | .tree _,_,h=>by cases h
 | .pair a b,x,h=>⟨_,_,rfl,Rep.put a x.1 (Bool.and_eq_true_iff.1 h).1,Rep.put b x.2 (Bool.and_eq_true_iff.1 h).2⟩
theorem Rep.flatEq {g:Ghost}:∀ {e:Ty} {cs ys:List Value} {x:e.den},e.flat=true→Rep g e cs x→e.put x=ys→cs=ys
 | .int _,_,_,_,_,h,hy=>by rw [← hy]; exact h
 | .bool,_,_,_,_,h,hy=>by rw [← hy]; exact h
 | .str,_,_,_,_,h,hy=>by rw [← hy]; exact h
 | .unit,_,_,_,_,h,hy=>by rw [← hy]; exact h
 | .slice _,_,_,_,h,_,_=>by cases h
 | .tree _,_,_,_,h,_,_=>by cases h
 | .pair a b,_,_,_,hf,⟨c1,c2,h0,h1,h2⟩,hy=>by
  rw [h0,Rep.flatEq (Bool.and_eq_true_iff.1 hf).1 h1 rfl,Rep.flatEq (Bool.and_eq_true_iff.1 hf).2 h2 rfl,← hy]; rfl
theorem RepL.flat {g:Ghost} {e:Ty} (hf:e.flat=true):∀ {l:List e.den} {xs:List Value},putL e l=xs→RepL g e xs l
 | [],_,h=>h.symm
 | x::l,_,h=>⟨_,_,h.symm,Rep.put e x hf,RepL.flat hf rfl⟩
theorem RepL.consN {e:Ty} {c r:List Value} {x:e.den} {l:List e.den} (h:Rep g e c x) (t:RepL g e r l):RepL g e (c++r) (x::l):=⟨c,r,rfl,h,t⟩
end
section
variable {P:Program} {pos:String} {after:Array Edge} {gd:Option (Nat×Bool)} {n:Fsz} {w0:Base} {m:Env} {H:List Ent} {g:Ghost} {R:Act→World→Prop}
theorem Ok.frz {E:TypeId} {e:Ty} {a:Option Addr} {l:List e.den} {c:Nat} {xs:List Value} {H':List Ent} (i:Nat) (hi:H[i]? = some (.own (.slice a l.length c) E e.size l.length xs)) (hR:RepL g e xs l)
    (h:∀ g',Gext w0 g g'→Rep g' (.slice e) [.slice a l.length c] l→Ok n w0 m H' g' R) (hs:DelAt H i H':=by repeat constructor):Ok n w0 m H g R:=Ok.freeze i hi hR hs.eq h
end
section
variable {P:Program} {pos:String} {after:Array Edge} {gd:Option (Nat×Bool)} {n:Fsz} {w0:Base} {m:Env} {H:List Ent} {g:Ghost} {R:Act→World→Prop} {Q:Exit→Act→World→Prop} {ops:Array Oper}
theorem OpOk.li {K:Act→World→Prop} {d len:Nat} {T E ty:TypeId} {parts:Array (Nat×Operand)} {e:Ty} {l:List e.den} {xs:List Value} (hR:RepL g e xs l)
    (h:∀ b,Ok n w0 ((d,.slice (some ⟨b,0,none⟩) l.length len)::m) (.own (.slice (some ⟨b,0,none⟩) l.length len) E e.size l.length xs::H) g K)
    (hk:known m ⟨some d,.buildSlice T len parts,ty,pos,after,gd⟩=true:=by kernel_rfl) (hu:P.underlying T=some (.slice E):=by rfl) (hc:litCells P T len (parts.map fun (i,x)=>(i,rho m x)).toList=some (E,⟨xs⟩):=by kernel_rfl) (hlen:l.length=len:=by rfl) (hm:Nat.ble len maxLen=true:=by kernel_rfl)
    (hn:Nat.ble (d+1) n=true:=by kernel_rfl):OpOk P K Q ⟨some d,.buildSlice T len parts,ty,pos,after,gd⟩ n w0 m H g:=OpOk.lit e l xs hk hc hlen hm hR hn h
end
end Go.Eng
