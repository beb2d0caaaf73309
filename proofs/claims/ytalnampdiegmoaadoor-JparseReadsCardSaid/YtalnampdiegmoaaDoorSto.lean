/-
 Maps of the call's own whose keys are texts: the entries as a list of pairs. No program in sight.
-/
import Derived.Test.YtalnampdiegmoaaDoorOwn
import Derived.MapKept
import Derived.Carry
import Derived.Laws.IdiomStrings
import Derived.Laws.OwnMore
namespace Go.Eng
open Go.RowKit (Below)
set_option linter.unusedVariables false

/-- a value as it stands in a map: a row as one aggregate, all else as it is -/
def ValIs (row:Bool) (v:Value) (cells:List Value):Prop:=if row=true then v=.agg ⟨cells⟩ else cells=[v]

/-- what a kind of key can do -/
structure KeyLaw (d:TypeDesc) {κ:Type} [BEq κ] (kt:κ→Value):Prop where
 isKey:∀ k,MapKept.IsKey d (kt k)
 same:∀ a b,Instr.sameNow d (kt a) (kt b)=some (a==b)
 eq:∀ a b:κ,(a==b)=true→a=b
 bits:∀ k,Instr.sameBits 10000 (kt k) (kt k)=true

def RepMap (g:Ghost) (vt:Ty) (row:Bool) {κ:Type} (kt:κ→Value):List MapEntry→List (κ×vt.den)→Prop
 | [],[]=>True
 | e::es,x::l=>e.key=kt x.1∧(∃ cells,ValIs row e.val cells∧Rep g vt cells x.2)∧RepMap g vt row kt es l
 | _,_=>False

def assocK {κ V:Type} [BEq κ] (k:κ):List (κ×V)→Option V
 | []=>none
 | x::l=>if (k==x.1)=true then some x.2 else assocK k l
def putK {κ V:Type} [BEq κ] (k:κ) (v:V):List (κ×V)→List (κ×V)
 | []=>[(k,v)]
 | x::l=>if (k==x.1)=true then (k,v)::l else x::putK k v l

theorem RepMap.mono {g g':Ghost} (h:Gle g g') {vt:Ty} {row:Bool} {κ:Type} {kt:κ→Value}:∀ {es:List MapEntry} {l:List (κ×vt.den)},RepMap g vt row kt es l→RepMap g' vt row kt es l
 | [],[],_=>trivial
 | _::_,_::_,⟨h1,⟨cells,h2,h3⟩,h4⟩=>⟨h1,⟨cells,h2,h3.mono h⟩,RepMap.mono h h4⟩
 | [],_::_,h=>h.elim
 | _::_,[],h=>h.elim

theorem RepMap.push {g:Ghost} {vt:Ty} {row:Bool} {κ:Type} [BEq κ] {kt:κ→Value} {k:κ} {e:MapEntry} {y:vt.den} (hk:e.key=kt k) (hy:∃ cells,ValIs row e.val cells∧Rep g vt cells y):∀ {es:List MapEntry} {l:List (κ×vt.den)},RepMap g vt row kt es l→assocK k l=none →
  RepMap g vt row kt (es++[e]) (putK k y l)
 | [],[],_,_=>⟨hk,hy,trivial⟩
 | [],_::_,h,_=>h.elim
 | _::_,[],h,_=>h.elim
 | e'::es,x::l,⟨h1,h2,h3⟩,hn=>by
  unfold assocK at hn
  split at hn
  ·cases hn
  rename_i hx
  have hx:(k==x.1)=false:=by simpa using hx
  simp only [putK,hx,Bool.false_eq_true,if_false]
  exact ⟨h1,h2,RepMap.push hk hy h3 hn⟩

section
variable {P:Program} {pos:String} {after:Array Edge} {gd:Option (Nat×Bool)} {n:Fsz} {w0:Base} {m:Env} {H:List Ent} {g:Ghost} {R:Act→World→Prop} {Q:Exit→Act→World→Prop} {ops:Array Oper}

end
end Go.Eng
namespace Go.Eng
open Go.RowKit (Below)
set_option linter.unusedVariables false
section
variable {P:Program} {pos:String} {after:Array Edge} {gd:Option (Nat×Bool)} {n:Fsz} {w0:Base} {m:Env} {H:List Ent} {g:Ghost} {R:Act→World→Prop} {Q:Exit→Act→World→Prop} {ops:Array Oper}

theorem patch_eq {α:Type} {xs c v:List α} {o size j k:Nat} (hc:(xs.drop o).take size=c) (hj:j+k≤size) (hl:o+size≤xs.length) :
  xs.take o++(c.take j++v++c.drop (j+k))++xs.drop (o+size)=xs.take (o+j)++v++xs.drop (o+j+k):=by
 subst hc
 have e1:xs.take (o+j)=xs.take o++((xs.drop o).take size).take j:=by
  rw [List.take_add,List.take_take,Nat.min_eq_left (by omega)]
 have e2:xs.drop (o+j+k)=((xs.drop o).take size).drop (j+k)++xs.drop (o+size):=by
  have d1:xs.drop (o+j+k)=(xs.drop o).drop (j+k):=by rw [List.drop_drop,Nat.add_assoc]
  have d2:xs.drop (o+size)=(xs.drop o).drop size:=by rw [List.drop_drop]
  rw [d1,d2]
  have h:=List.take_append_drop size (xs.drop o)
  conv=>lhs; rw [← h]
  rw [List.drop_append_of_le_length (by simp; omega)]
 rw [e1,e2]
 simp only [List.append_assoc]

theorem OpOk.storeOwn {K:Act→World→Prop} {T E ty:TypeId} {x y:Operand} {e:Ty} {a:Option Addr} {l:List e.den} {c q:Nat} {xs cells vs:List Value} {v:Value} {el':e.den}
  (i j k:Nat) (hi:H[i]? = some (.own (.slice a l.length c) E e.size l.length xs)) (hR:RepL g e xs l) (hc:∀ j v,cells[j]? = some v→xs[q * e.size+j]? = some v) (hcl:Nat.beq cells.length e.size=true)
  (hx:val m x=some (.pointer (some ⟨ablk a,q * e.size+j,none⟩))) (hy:val m y=some v) (hv:v.cells.toList=vs) (hk:(P.info? T).map (·.size)=some k) (hvk:Nat.beq vs.length k=true) (hjk:Nat.ble (j+k) e.size=true) (hone:vs.all (·.oneCell')=true) (h1:Nat.ble 1 e.size=true)
  (hR':Rep g e (cells.take j++vs++cells.drop (j+k)) el')
  (h:∀ xs2,RepL g e xs2 (l.set q el')→Ok n w0 m (H.set i (.own (.slice a (l.set q el').length c) E e.size (l.set q el').length xs2)) g K) :
  OpOk P K Q ⟨none,.store T x y,ty,pos,after,gd⟩ n w0 m H g:=fun ac W hA hW=>by
 have hcl:=Nat.eq_of_beq_eq_true hcl
 have hvk:=Nat.eq_of_beq_eq_true hvk
 have hjk:=Nat.le_of_ble_eq_true hjk
 have h1:=Nat.le_of_ble_eq_true h1
 have hok:W.ownsRow 0 E e.size (.slice a l.length c) l.length xs:=hW.ents _ (List.mem_of_getElem? hi)
 have hsz:=hR.size
 have hlast:=hc (e.size - 1) _ (List.getElem?_eq_getElem (by omega))
 have hlt:q * e.size+(e.size - 1)<xs.length:=(List.getElem?_eq_some_iff.1 hlast).1
 have hq:q<l.length:=by
  rcases Nat.lt_or_ge q l.length with h | h
  ·exact h
  have:=Nat.mul_le_mul_right e.size h
  omega
 have hcs:(xs.drop (q * e.size)).take e.size=cells:=by
  apply List.ext_getElem?
  intro p
  rw [List.getElem?_take,List.getElem?_drop]
  split
  ·rename_i hp
   have hp':p<cells.length:=by omega
   rw [hc p _ (List.getElem?_eq_getElem hp'),List.getElem?_eq_getElem hp']
  rw [List.getElem?_eq_none (by omega)]
 have hpatch:=patch_eq (v:=vs) (j:=j) (k:=k) hcs hjk (by omega)
 have hRn:=hR.set hq hR'
 rw [hpatch] at hRn
 have hset:(l.set q el').length=l.length:=List.length_set ..
 rcases hok.2 with ⟨he,hl0⟩ | ⟨b,cap,cur,he,hB,hh,hcap,hmax,hcsz,htake⟩
 ·omega
 simp only [Value.slice.injEq,true_and] at he
 obtain ⟨rfl,rfl⟩:=he
 have hN:l.length * e.size≤cur.size:=by rw [hcsz]; exact Nat.mul_le_mul_right _ hcap
 show Oper.upon P _ ac _ Q (Sem.run P (execOp ac.eval _) W)
 have hrun:=run_storeCells_at (P:=P) b (q * e.size+j) E vs 0 cur W hh (by omega) (fun u hu=>(List.all_eq_true.1 hone) u hu)
 simp only [Nat.add_zero,hvk] at hrun
 have e1:(execOp ac.eval ⟨none,.store T x y,ty,pos,after,gd⟩).run P W=.ok .skip (W.setRow b (cur.toList.take (q * e.size+j)++vs++cur.toList.drop (q * e.size+j+k)).toArray):=by
  cases hinf:P.info? T with
  | none=>simp [hinf] at hk
  | some inf =>
   simp only [hinf,Option.map_some,Option.some.injEq] at hk
   have hvs:v.cells.size=k:=by rw [← hvk,← hv]; simp
   have hx':val m x=some (.pointer (some ⟨b,q * e.size+j,none⟩)):=hx
   simp only [execOp,Instr.storeAt,hA.eval hx',hA.eval hy,Instr.sureAddr,storeVar,sizeOf,typeInfo]
   simp [hinf,hk,hvs,hv,hrun]
 rw [e1,Oper.upon_skip]
 have hnew:(W.setRow b (cur.toList.take (q * e.size+j)++vs++cur.toList.drop (q * e.size+j+k)).toArray).ownsRow 0 E e.size (.slice (some ⟨b,0,none⟩) (l.set q el').length c) (l.set q el').length (xs.take (q * e.size+j)++vs++xs.drop (q * e.size+j+k)):=by
  rw [hset]
  refine ⟨?_,.inr ⟨b,c,_,rfl,hB,setRow_heap W b cur _ E _ hh,hcap,hmax,?_,?_⟩⟩
  ·simp only [List.length_append,List.length_take,List.length_drop]
   omega
  ·simp only [List.size_toArray,List.length_append,List.length_take,List.length_drop,Array.length_toList]
   omega
  have hA1:(cur.toList.take (q * e.size+j)).length=q * e.size+j:=by simp; omega
  rw [← htake,List.take_take,Nat.min_eq_left (by omega),List.drop_take]
  rw [List.take_append,List.take_of_length_le (by simp; omega)]
  congr 1
  congr 1
  simp only [List.length_append,hA1,hvk]
 exact h _ hRn _ _ (hA.skip none (fun d hd=>by cases hd) undef) (hW.grown (e':=.own (.slice (some ⟨b,0,none⟩) (l.set q el').length c) E e.size (l.set q el').length (xs.take (q * e.size+j)++vs++xs.drop (q * e.size+j+k))) hi
  ⟨rfl,rfl,rfl,by simp [World.setRow],fun k' _ hk'=>setRow_other W b k' _ (fun e=>hk' (by simp [Ent.block,Value.ownBlock,e]))⟩ hnew (.inl (by rw [hset]; rfl)))

/-! ### texts and rows of bytes -/
def bytesOf (l:List Int):List UInt8:=l.map fun x=>UInt8.ofNat x.toNat
def intsOf (s:List UInt8):List Int:=s.map fun c=>(c.toNat:Int)
theorem bytesOf_intsOf (s:List UInt8):bytesOf (intsOf s)=s:=by
 unfold bytesOf intsOf
 rw [List.map_map]
 conv=>rhs; rw [← List.map_id s]
 apply List.map_congr_left
 intro c _
 simp
theorem foldl_push:∀ (ns:List Int) (s:ByteArray),ns.foldl (fun r n=>r.push (UInt8.ofNat n.toNat)) s=⟨s.data++(bytesOf ns).toArray⟩
 | [],s=>by simp [bytesOf]
 | n::ns,s=>by
  rw [List.foldl_cons,foldl_push ns]
  simp [bytesOf,ByteArray.push]

theorem repL_ints {kd:IntKind}:∀ {l:List Int} {xs:List Value},RepL g (.int kd) xs l→xs=l.map (Value.int kd)
 | [],_,h=>h
 | x::l,_,⟨c,r,h1,h2,h3⟩=>by
  rw [h1,show c=_ from h2,repL_ints h3]; rfl

theorem run_str {W:World} {src dst E:TypeId} {a:Option Addr} {l:List Int} {c:Nat} (hs:P.underlying src=some (.slice E)) (hd:P.underlying dst=some .string) (he:P.underlying E=some (.int .u8))
  (h0:a=none→l=[]) (hc:∀ ad,a=some ad→∀ j v,(l.map (Value.int .u8))[j]? = some v→W.cell? (ad.add j)=some v):(convert src dst (.slice a l.length c)).run P W=.ok (.string ⟨⟨bytesOf l⟩⟩) W:=by
 rw [run_convert_bytes_string W src dst E a l.length c hs he hd]
 cases a with
 | none=>rw [h0 rfl]; simp [Conv.bytesToString,bytesOf]; rfl
 | some ad =>
  have hl:=run_loadCells_list (P:=P) W ad (l.map (Value.int .u8)) (hc ad rfl)
  simp only [List.length_map] at hl
  rw [run_bytesToString W ad l.length c _ hl,foldl_push]
  simp

theorem Yields.strOfOwn {dst:Option Nat} {src dt E ty T:TypeId} {x:Operand} {a:Option Addr} {l:List Int} {c:Nat} {xs:List Value} (i:Nat) (hx:val m x=some (.slice a l.length c)) {r:List UInt8} (hr:bytesOf l=r)
  (hi:H[i]? = some (.own (.slice a l.length c) T 1 l.length xs)) (hR:RepL g (.int .u8) xs l) (hs:P.underlying src=some (.slice E)) (hd:P.underlying dt=some .string) (he:P.underlying E=some (.int .u8)):Yields P n w0 m H g ⟨dst,.convert src dt x,ty,pos,after,gd⟩ (.string ⟨⟨r⟩⟩):=fun ac W hA hW=>by
 subst hr
 have hok:W.ownsRow 0 T 1 (.slice a l.length c) l.length xs:=hW.ents _ (List.mem_of_getElem? hi)
 have:=run_str (P:=P) (W:=W) (c:=c) hs hd he (a:=a) (l:=l) (fun ha=>by
  rcases hok.2 with ⟨h1,h2⟩ | ⟨b,cap,cur,h1,_⟩
  ·exact List.eq_nil_of_length_eq_zero h2
  ·simp [ha] at h1) (fun ad ha j v hj=>by
  rw [← repL_ints hR] at hj
  obtain ⟨h1,h2⟩:=own_cell hok hj
  rw [Option.some.inj (ha.symm.trans h1),Addr.add_plain,Nat.zero_add]; exact h2)
 simp only [execOp,hA.eval hx,Sem.run_bind,this,Result.andThen]; rfl

/-- a new block that is only read from then on -/
theorem StW.pushRo {W W':World} (h:StW w0 H g W) {b:Nat} {o:Obj} (hb:b=W.heap.size) (hg:W.grownBy W' none) (ho:W'.heap[b]? = some o) :
  ∃ g',Gext w0 g g'∧g' b=some o∧StW w0 H g' W':=by
 subst hb
 have hnew:g W.heap.size=none:=by
  cases hc:g W.heap.size with
  | none=>rfl
  | some o=>exact absurd (lt_of_some (h.ghost _ _ hc)) (Nat.lt_irrefl _)
 have hsame:∀ k,k<W.heap.size→W'.heap[k]? = W.heap[k]?:=fun k hk=>hg.block k hk (by simp)
 refine ⟨fun k=>if k=W.heap.size then some o else g k,⟨fun k q hk=>?_,fun k q hk=>?_⟩,by simp,⟨fun e he=>Ent.ok_of_block (h.ents e he) fun k hk=>hsame k (Ent.ok_lt (h.ents e he) hk),h.nodup,fun k q hk=>?_,fun e he k hk=>?_,h.mine,h.below.grown hg (by simp)⟩⟩
 ·have:k≠W.heap.size:=fun e=>by rw [e,hnew] at hk; cases hk
  simp only [if_neg this]; exact hk
 ·by_cases e:k=W.heap.size
  ·subst e; exact .inr (.inl h.below.size)
  simp only [if_neg e] at hk; exact .inl hk
 ·by_cases e:k=W.heap.size
  ·subst e; simp only [if_true,Option.some.injEq] at hk; rw [ho,hk]
  simp only [if_neg e] at hk
  rw [hsame k (lt_of_some (h.ghost k q hk))]; exact h.ghost k q hk
 have hlt:=Ent.ok_lt (h.ents e he) hk
 have:k≠W.heap.size:=by omega
 simp only [if_neg this]; exact h.apart e he k hk

theorem OpOk.bytesRo {K:Act→World→Prop} {d:Nat} {src dt E ty:TypeId} {x:Operand} {s:List UInt8} (hx:val m x=some (.string ⟨⟨s⟩⟩)) (hs:P.underlying src=some .string) (hd:P.underlying dt=some (.slice E)) (he:P.underlying E=some (.int .u8))
  (hm:s.length≤maxLen) (hn:Nat.ble (d+1) n=true)
  (h:∀ g' a c,Gext w0 g g'→Rep g' (.slice (.int .u8)) [.slice a (intsOf s).length c] (intsOf s)→Ok n w0 ((d,.slice a (intsOf s).length c)::m) H g' K):OpOk P K Q ⟨some d,.convert src dt x,ty,pos,after,gd⟩ n w0 m H g:=fun ac W hA hW=>by
 show Oper.upon P _ ac _ Q (Sem.run P (execOp ac.eval _) W)
 have hrun:=run_bytes_of_string (P:=P) W src dt E ⟨⟨s⟩⟩ hs hd he
 have e1:(execOp ac.eval ⟨some d,.convert src dt x,ty,pos,after,gd⟩).run P W=.ok (.value (.slice (some ⟨W.heap.size,0,none⟩) s.length (grownCap W s.length 0 E)))
   (W.drew.alloc (.cells (bytesRow ⟨⟨s⟩⟩ (grownCap W s.length 0 E)) E ((bytesRow ⟨⟨s⟩⟩ (grownCap W s.length 0 E)).size,(bytesRow ⟨⟨s⟩⟩ (grownCap W s.length 0 E)).size+1))):=by
  simp only [execOp,hA.eval hx,Sem.run_bind]
  rw [hrun]; rfl
 rw [e1,Oper.upon_value]
 have hh:∀ o,(W.drew.alloc o).heap[W.heap.size]? = some o:=fun o=>by
  show (W.heap.push o)[W.heap.size]? = _
  simp
 obtain ⟨g',h1,h2,h3⟩:=hW.pushRo (b:=W.heap.size) rfl (W':=W.drew.alloc (.cells (bytesRow ⟨⟨s⟩⟩ (grownCap W s.length 0 E)) E ((bytesRow ⟨⟨s⟩⟩ (grownCap W s.length 0 E)).size,(bytesRow ⟨⟨s⟩⟩ (grownCap W s.length 0 E)).size+1)))
  ⟨rfl,rfl,rfl,by show W.heap.size≤(W.heap.push _).size; simp,fun k hk _=>by
   show (W.heap.push _)[k]? = _
   rw [Array.getElem?_push,if_neg (by omega)]⟩ (hh _)
 have hlen:(intsOf s).length=s.length:=by unfold intsOf; simp
 have h:=h g' (some ⟨W.heap.size,0,none⟩) (grownCap W s.length 0 E) h1 ⟨_,_,rfl,⟨by rw [hlen]; exact grownCap_ge W s.length 0 E,grownCap_le_maxLen W s.length 0 E hm⟩,fun i y hy=>⟨W.heap.size,0,rfl,[.int .u8 y],rfl,fun j v hj=>?_,rfl⟩⟩
 ·rw [hlen] at h
  exact h _ _ (hA.put (Nat.le_of_ble_eq_true hn) _) h3
 cases j with
 | zero =>
  simp only [List.getElem?_cons_zero,Option.some.injEq] at hj
  subst hj
  unfold intsOf at hy
  rw [List.getElem?_map,Option.map_eq_some_iff] at hy
  obtain ⟨q,hq,rfl⟩:=hy
  simp only [gcell,h2,Ty.size,Nat.mul_one,Nat.zero_add,Nat.add_zero]
  have hlt:i<s.length:=(List.getElem?_eq_some_iff.1 hq).1
  simp only [bytesRow]
  rw [if_neg (by simp),Array.getElem?_append_left (by simpa using hlt)]
  simp [hq]
 | succ j=>simp at hj

end
end Go.Eng
