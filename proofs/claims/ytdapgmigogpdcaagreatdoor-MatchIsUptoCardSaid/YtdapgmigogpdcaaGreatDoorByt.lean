/-
 Maps of the call's own whose keys are texts: the entries as a list of pairs. No program in sight.
-/
import Derived.Test.YtdapgmigogpdcaaGreatDoorOwn
import Derived.MapKept
import Derived.Carry
import Derived.Laws.IdiomStrings
import Derived.Laws.OwnMore
namespace Go.iQ
open Go.RowKit (Below)
set_option linter.unusedVariables false

def Y9 (row:Bool) (v:Value) (cells:List Value):Prop:=if row=true then v=.agg ⟨cells⟩ else cells=[v]

structure KeyLaw (d:TypeDesc) {κ:Type} [BEq κ] (kt:κ→Value):Prop where
 isKey:∀ k,MapKept.IsKey d (kt k)
 same:∀ a b,Instr.sameNow d (kt a) (kt b)=some (a==b)
 eq:∀ a b:κ,(a==b)=true→a=b
 bits:∀ k,Instr.sameBits 10000 (kt k) (kt k)=true

def sJ (g:ak) (vt:Ty) (row:Bool) {κ:Type} (kt:κ→Value):List MapEntry→List (κ×vt.den)→Prop
 | [],[]=>True
 | e::es,x::l=>e.key=kt x.1∧(∃ cells,Y9 row e.val cells∧bG g vt cells x.2)∧sJ g vt row kt es l
 | _,_=>False

def M_ {κ V:Type} [BEq κ] (k:κ):List (κ×V)→Option V
 | []=>none
 | x::l=>if (k==x.1)=true then some x.2 else M_ k l
def aal {κ V:Type} [BEq κ] (k:κ) (v:V):List (κ×V)→List (κ×V)
 | []=>[(k,v)]
 | x::l=>if (k==x.1)=true then (k,v)::l else x::aal k v l

theorem sJ.mono {g g':ak} (h:lC g g') {vt:Ty} {row:Bool} {κ:Type} {kt:κ→Value}:∀ {es:List MapEntry} {l:List (κ×vt.den)},sJ g vt row kt es l→sJ g' vt row kt es l
 | [],[],_=>trivial
 | _::_,_::_,⟨h1,⟨cells,h2,h3⟩,h4⟩=>⟨h1,⟨cells,h2,h3.mono h⟩,sJ.mono h h4⟩
 | [],_::_,h=>h.elim
 | _::_,[],h=>h.elim

theorem sJ.push {g:ak} {vt:Ty} {row:Bool} {κ:Type} [BEq κ] {kt:κ→Value} {k:κ} {e:MapEntry} {y:vt.den} (hk:e.key=kt k) (hy:∃ cells,Y9 row e.val cells∧bG g vt cells y):∀ {es:List MapEntry} {l:List (κ×vt.den)},sJ g vt row kt es l→M_ k l=none →
  sJ g vt row kt (es++[e]) (aal k y l)
 | [],[],_,_=>⟨hk,hy,trivial⟩
 | [],_::_,h,_=>h.elim
 | _::_,[],h,_=>h.elim
 | e'::es,x::l,⟨h1,h2,h3⟩,hn=>by
  unfold M_ at hn
  split at hn
  ·cases hn
  rename_i hx
  have hx:(k==x.1)=false:=by simpa using hx
  simp only [aal,hx,zS,if_false]
  exact ⟨h1,h2,sJ.push hk hy h3 hn⟩

section
variable {P:Program} {pos:String} {after:Array Edge} {gd:Option (Nat×Bool)} {n:nP} {w0:Base} {m:Env} {H:List b_} {g:ak} {R:Act→World→Prop} {Q:Exit→Act→World→Prop} {ops:Array Oper}

end
end Go.iQ
namespace Go.iQ
open Go.RowKit (Below)
set_option linter.unusedVariables false
section
variable {P:Program} {pos:String} {after:Array Edge} {gd:Option (Nat×Bool)} {n:nP} {w0:Base} {m:Env} {H:List b_} {g:ak} {R:Act→World→Prop} {Q:Exit→Act→World→Prop} {ops:Array Oper}

theorem RH {α:Type} {xs c v:List α} {o size j k:Nat} (hc:(xs.drop o).take size=c) (hj:j+k≤size) (hl:o+size≤xs.length) :
  xs.take o++(c.take j++v++c.drop (j+k))++xs.drop (o+size)=xs.take (o+j)++v++xs.drop (o+j+k):=by
 subst hc
 have e1:xs.take (o+j)=xs.take o++((xs.drop o).take size).take j:=by
  rw [List.take_add,w9,og om]
 have e2:xs.drop (o+j+k)=((xs.drop o).take size).drop (j+k)++xs.drop (o+size):=by
  have d1:xs.drop (o+j+k)=(xs.drop o).drop (j+k):=by rw [xg,Nat.add_assoc]
  have d2:xs.drop (o+size)=(xs.drop o).drop size:=by rw [xg]
  rw [d1,d2]
  have h:=uL size (xs.drop o)
  conv=>lhs; rw [← h]
  rw [IJ (by simp; omega)]
 rw [e1,e2]
 simp only [dL]

theorem j_ {K:Act→World→Prop} {T E ty:TypeId} {x y:Operand} {e:Ty} {a:Option Addr} {l:List e.den} {c q:Nat} {xs cells vs:List Value} {v:Value} {xy:e.den}
  (i j k:Nat) (hi:H[i]? = some (.own (.slice a l.length c) E e.size l.length xs)) (hR:aW g e xs l) (hc:∀ j v,cells[j]? = some v→xs[q * e.size+j]? = some v) (hcl:Nat.beq cells.length e.size=true)
  (hx:val m x=some (.pointer (some ⟨sI a,q * e.size+j,none⟩))) (hy:val m y=some v) (hv:v.cells.toList=vs) (hk:(P.info? T).map (·.size)=some k) (hvk:Nat.beq vs.length k=true) (hjk:Nat.ble (j+k) e.size=true) (hone:vs.all (·.oneCell')=true) (h1:Nat.ble 1 e.size=true)
  (hR':bG g e (cells.take j++vs++cells.drop (j+k)) xy)
  (h:∀ yT,aW g e yT (l.set q xy)→Ok n w0 m (H.set i (.own (.slice a (l.set q xy).length c) E e.size (l.set q xy).length yT)) g K) :
  af P K Q ⟨none,.store T x y,ty,pos,after,gd⟩ n w0 m H g:=fun ac W hA hW=>by
 have hcl:=iU hcl
 have hvk:=iU hvk
 have hjk:=gm hjk
 have h1:=gm h1
 have hok:W.ownsRow 0 E e.size (.slice a l.length c) l.length xs:=hW.fT _ (iq hi)
 have hsz:=hR.size
 have hlast:=hc (e.size - 1) _ (gB om)
 have hlt:q * e.size+(e.size - 1)<xs.length:=(je.1 hlast).1
 have hq:q<l.length:=by
  rcases Nat.lt_or_ge q l.length with h | h
  ·exact h
  have:=qE e.size h
  omega
 have hcs:(xs.drop (q * e.size)).take e.size=cells:=by
  apply zR
  intro p
  rw [List.getElem?_take,D_]
  split
  ·rename_i hp
   have hp':p<cells.length:=om
   rw [hc p _ (gB hp'),gB hp']
  rw [sG om]
 have abu:=RH (v:=vs) (j:=j) (k:=k) hcs hjk om
 have hRn:=hR.set hq hR'
 rw [abu] at hRn
 have hset:(l.set q xy).length=l.length:=kK ..
 rcases hok.2 with ⟨he,hl0⟩ | ⟨b,cap,cur,he,hB,hh,hcap,hmax,hcsz,htake⟩
 ·omega
 simp only [Value.slice.injEq,true_and] at he
 obtain ⟨rfl,rfl⟩:=he
 have hN:l.length * e.size≤cur.size:=by rw [hcsz]; exact qE _ hcap
 show Oper.upon P _ ac _ Q (Sem.run P (execOp ac.eval _) W)
 have hrun:=run_storeCells_at (P:=P) b (q * e.size+j) E vs 0 cur W hh om (fun u hu=>(l5.1 hone) u hu)
 simp only [nz,hvk] at hrun
 have e1:(execOp ac.eval ⟨none,.store T x y,ty,pos,after,gd⟩).run P W=.ok .skip (W.setRow b (cur.toList.take (q * e.size+j)++vs++cur.toList.drop (q * e.size+j+k)).toArray):=by
  cases gQ:P.info? T with
  | none=>simp [gQ] at hk
  | some inf =>
   simp only [gQ,mK,jy] at hk
   have hvs:v.cells.size=k:=by rw [← hvk,← hv]; simp
   have hx':val m x=some (.pointer (some ⟨b,q * e.size+j,none⟩)):=hx
   simp only [execOp,Instr.storeAt,hA.eval hx',hA.eval hy,Instr.sureAddr,storeVar,sizeOf,typeInfo]
   simp [gQ,hk,hvs,hv,hrun]
 rw [e1,Oper.upon_skip]
 have hnew:(W.setRow b (cur.toList.take (q * e.size+j)++vs++cur.toList.drop (q * e.size+j+k)).toArray).ownsRow 0 E e.size (.slice (some ⟨b,0,none⟩) (l.set q xy).length c) (l.set q xy).length (xs.take (q * e.size+j)++vs++xs.drop (q * e.size+j+k)):=by
  rw [hset]
  refine ⟨?_,.inr ⟨b,c,_,rfl,hB,setRow_heap W b cur _ E _ hh,hcap,hmax,?_,?_⟩⟩
  ·simp only [bC,gz,gJ]
   omega
  ·simp only [List.size_toArray,bC,gz,gJ,uU]
   omega
  have hA1:(cur.toList.take (q * e.size+j)).length=q * e.size+j:=by simp; omega
  rw [← htake,w9,og om,List.drop_take]
  rw [List.take_append,jR (by simp; omega)]
  congr 1
  congr 1
  simp only [bC,hA1,hvk]
 exact h _ hRn _ _ (hA.skip none (fun d hd=>by cases hd) undef) (hW.grown (e':=.own (.slice (some ⟨b,0,none⟩) (l.set q xy).length c) E e.size (l.set q xy).length (xs.take (q * e.size+j)++vs++xs.drop (q * e.size+j+k))) hi
  ⟨rfl,rfl,rfl,by simp [World.setRow],fun k' _ hk'=>setRow_other W b k' _ (fun e=>hk' (by simp [b_.block,Value.ownBlock,e]))⟩ hnew (.inl (by rw [hset]; rfl)))

def bytesOf (l:List Int):Bs:=l.map fun x=>UInt8.ofNat x.toNat
def intsOf (s:Bs):List Int:=s.map fun c=>(c.toNat:Int)
theorem kJ (s:Bs):bytesOf (intsOf s)=s:=by
 unfold bytesOf intsOf
 rw [List.map_map]
 conv=>rhs; rw [← List.map_id s]
 apply List.map_congr_left
 intro c _
 simp
theorem iy (s:Bs):(intsOf s).length=s.length:=by unfold intsOf; simp

theorem foldl_push:∀ (ns:List Int) (s:ByteArray),ns.foldl (fun r n=>r.push (UInt8.ofNat n.toNat)) s=⟨s.data++(bytesOf ns).toArray⟩
 | [],s=>by simp [bytesOf]
 | n::ns,s=>by
  rw [List.foldl_cons,foldl_push ns]
  simp [bytesOf,ByteArray.push]

theorem kM {kd:IntKind}:∀ {l:List Int} {xs:List Value},aW g (.int kd) xs l→xs=l.map (Value.int kd)
 | [],_,h=>h
 | x::l,_,⟨c,r,h1,h2,h3⟩=>by
  rw [h1,show c=_ from h2,kM h3]; rfl

theorem FU {W:World} {src dst E:TypeId} {a:Option Addr} {l:List Int} {c:Nat} (hs:P.underlying src=some (.slice E)) (hd:P.underlying dst=some .string) (he:P.underlying E=some (.int .u8))
  (h0:a=none→l=[]) (hc:∀ ad,a=some ad→∀ j v,(l.map (Value.int .u8))[j]? = some v→W.cell? (ad.add j)=some v):(convert src dst (.slice a l.length c)).run P W=.ok (.string ⟨⟨bytesOf l⟩⟩) W:=by
 rw [run_convert_bytes_string W src dst E a l.length c hs he hd]
 cases a with
 | none=>rw [h0 rfl]; simp [Conv.bytesToString,bytesOf]; rfl
 | some ad =>
  have hl:=run_loadCells_list (P:=P) W ad (l.map (Value.int .u8)) (hc ad rfl)
  simp only [iW] at hl
  rw [run_bytesToString W ad l.length c _ hl,foldl_push]
  simp

theorem Ec {dst:Option Nat} {src dt E ty:TypeId} {x:Operand} {a:Option Addr} {l:List Int} {c:Nat} (hx:val m x=some (.slice a l.length c)) {r:Bs} (hr:bytesOf l=r)
  (hR:bG g (.slice (.int .u8)) [.slice a l.length c] l) (hs:P.underlying src=some (.slice E)) (hd:P.underlying dt=some .string) (he:P.underlying E=some (.int .u8)):Yields P n w0 m H g ⟨dst,.convert src dt x,ty,pos,after,gd⟩ (.string ⟨⟨r⟩⟩):=fun ac W hA hW=>by
 subst hr
 obtain ⟨a1,c1,hcs,-,hel⟩:=hR
 simp only [uQ,Value.slice.injEq,ny] at hcs
 obtain ⟨rfl,-,rfl⟩:=hcs
 have:=FU (P:=P) (W:=W) (c:=c) hs hd he (a:=a) (l:=l) (fun ha=>by
  cases l with
  | nil=>rfl
  | cons y l=>obtain ⟨b,off,hb,_⟩:=hel 0 y rfl; rw [ha] at hb; cases hb) (fun ad ha j v hj=>by
  rw [iX,gM] at hj
  obtain ⟨y,hy,rfl⟩:=hj
  obtain ⟨b,off,hb,jA,hl,hat,hr⟩:=hel j y hy
  rw [ha] at hb
  injection hb with hb
  subst hb
  rw [show jA=_ from hr] at hat
  have:=lY hW.ghost (hat 0 _ rfl)
  simp only [Ty.size,Nat.mul_one,nz] at this
  rw [Addr.add_plain]; exact this)
 simp only [execOp,hA.eval hx,Sem.run_bind,this,Result.andThen]; rfl

theorem jX {dst:Option Nat} {src dt E ty T:TypeId} {x:Operand} {a:Option Addr} {l:List Int} {c:Nat} {xs:List Value} (i:Nat) (hx:val m x=some (.slice a l.length c)) {r:Bs} (hr:bytesOf l=r)
  (hi:H[i]? = some (.own (.slice a l.length c) T 1 l.length xs)) (hR:aW g (.int .u8) xs l) (hs:P.underlying src=some (.slice E)) (hd:P.underlying dt=some .string) (he:P.underlying E=some (.int .u8)):Yields P n w0 m H g ⟨dst,.convert src dt x,ty,pos,after,gd⟩ (.string ⟨⟨r⟩⟩):=fun ac W hA hW=>by
 subst hr
 have hok:W.ownsRow 0 T 1 (.slice a l.length c) l.length xs:=hW.fT _ (iq hi)
 have:=FU (P:=P) (W:=W) (c:=c) hs hd he (a:=a) (l:=l) (fun ha=>by
  rcases hok.2 with ⟨h1,h2⟩ | ⟨b,cap,cur,h1,_⟩
  ·exact iL h2
  ·simp [ha] at h1) (fun ad ha j v hj=>by
  rw [← kM hR] at hj
  obtain ⟨h1,h2⟩:=CO hok hj
  rw [uH (ha.symm.trans h1),Addr.add_plain,su]; exact h2)
 simp only [execOp,hA.eval hx,Sem.run_bind,this,Result.andThen]; rfl

theorem dh.aam {W W':World} (h:dh w0 H g W) {b:Nat} {o:Obj} (hb:b=W.heap.size) (hg:W.grownBy W' none) (ho:W'.heap[b]? = some o) :
  ∃ g',aY w0 g g'∧g' b=some o∧dh w0 H g' W':=by
 subst hb
 have hnew:g W.heap.size=none:=by
  cases hc:g W.heap.size with
  | none=>rfl
  | some o=>exact absurd (lt_of_some (h.ghost _ _ hc)) (sD _)
 have hsame:∀ k,k<W.heap.size→W'.heap[k]? = W.heap[k]?:=fun k hk=>hg.block k hk (by simp)
 refine ⟨fun k=>if k=W.heap.size then some o else g k,⟨fun k q hk=>?_,fun k q hk=>?_⟩,by simp,⟨fun e he=>gI (h.fT e he) fun k hk=>hsame k (iP (h.fT e he) hk),h.nodup,fun k q hk=>?_,fun e he k hk=>?_,h.mine,h.below.grown hg (by simp)⟩⟩
 ·have:k≠W.heap.size:=fun e=>by rw [e,hnew] at hk; cases hk
  simp only [aQ this]; exact hk
 ·by_cases e:k=W.heap.size
  ·subst e; exact .inr (.inl h.below.size)
  simp only [aQ e] at hk; exact .inl hk
 ·by_cases e:k=W.heap.size
  ·subst e; simp only [if_true,jy] at hk; rw [ho,hk]
  simp only [aQ e] at hk
  rw [hsame k (lt_of_some (h.ghost k q hk))]; exact h.ghost k q hk
 have hlt:=iP (h.fT e he) hk
 have:k≠W.heap.size:=om
 simp only [aQ this]; exact h.apart e he k hk

theorem oG {K:Act→World→Prop} {d:Nat} {src dt E ty:TypeId} {x:Operand} {s:Bs} (hx:val m x=some (.string ⟨⟨s⟩⟩)) (hs:P.underlying src=some .string) (hd:P.underlying dt=some (.slice E)) (he:P.underlying E=some (.int .u8))
  (hm:s.length≤maxLen) (hn:Nat.ble (d+1) n=true)
  (h:∀ g' a c,aY w0 g g'→bG g' (.slice (.int .u8)) [.slice a (intsOf s).length c] (intsOf s)→Ok n w0 ((d,.slice a (intsOf s).length c)::m) H g' K):af P K Q ⟨some d,.convert src dt x,ty,pos,after,gd⟩ n w0 m H g:=fun ac W hA hW=>by
 show Oper.upon P _ ac _ Q (Sem.run P (execOp ac.eval _) W)
 have hrun:=run_bytes_of_string (P:=P) W src dt E ⟨⟨s⟩⟩ hs hd he
 have e1:(execOp ac.eval ⟨some d,.convert src dt x,ty,pos,after,gd⟩).run P W=.ok (.value (.slice (some ⟨W.heap.size,0,none⟩) s.length (grownCap W s.length 0 E)))
   (W.drew.alloc (.cells (bytesRow ⟨⟨s⟩⟩ (grownCap W s.length 0 E)) E ((bytesRow ⟨⟨s⟩⟩ (grownCap W s.length 0 E)).size,(bytesRow ⟨⟨s⟩⟩ (grownCap W s.length 0 E)).size+1))):=by
  simp only [execOp,hA.eval hx,Sem.run_bind]
  rw [hrun]; rfl
 rw [e1,Oper.upon_value]
 have hh:∀ o,(W.drew.alloc o).heap[W.heap.size]? = some o:=fun o=>by
  show (W.heap.push o)[W.heap.size]? = _
  simp
 obtain ⟨g',h1,h2,h3⟩:=hW.aam (b:=W.heap.size) rfl (W':=W.drew.alloc (.cells (bytesRow ⟨⟨s⟩⟩ (grownCap W s.length 0 E)) E ((bytesRow ⟨⟨s⟩⟩ (grownCap W s.length 0 E)).size,(bytesRow ⟨⟨s⟩⟩ (grownCap W s.length 0 E)).size+1)))
  ⟨rfl,rfl,rfl,by show W.heap.size≤(W.heap.push _).size; simp,fun k hk _=>by
   show (W.heap.push _)[k]? = _
   rw [Array.getElem?_push,aQ om]⟩ (hh _)
 have hlen:(intsOf s).length=s.length:=by unfold intsOf; simp
 have h:=h g' (some ⟨W.heap.size,0,none⟩) (grownCap W s.length 0 E) h1 ⟨_,_,rfl,⟨by rw [hlen]; exact grownCap_ge W s.length 0 E,grownCap_le_maxLen W s.length 0 E hm⟩,fun i y hy=>⟨W.heap.size,0,rfl,[.int .u8 y],rfl,fun j v hj=>?_,rfl⟩⟩
 ·rw [hlen] at h
  exact h _ _ (hA.put (gm hn) _) h3
 cases j with
 | zero =>
  simp only [List.getElem?_cons_zero,jy] at hj
  subst hj
  unfold intsOf at hy
  rw [iX,gM] at hy
  obtain ⟨q,hq,rfl⟩:=hy
  simp only [lJ,h2,Ty.size,Nat.mul_one,su,nz]
  have hlt:i<s.length:=(je.1 hq).1
  simp only [bytesRow]
  rw [aQ (by simp),Array.getElem?_append_left (by simpa using hlt)]
  simp [hq]
 | succ j=>simp at hj

theorem wo {K:Act→World→Prop} {d:Nat} {T E ty:TypeId} {x1 x2:Operand} {e:Ty} {nn:Int} {y:e.den} {z:Value} {kl kc:IntKind} (bytes cap:Nat) (hx:val m x1=some (.int kl nn)) (hx2:val m x2=some (.int kc nn))
  (hu:P.underlying T=some (.slice E)) (gQ:(P.info? E).map (fun i=>(i.size,i.bytes,i.zero.map (·.cells.toList)))=some (e.size,bytes,some z.cells.toList)) (h1:Nat.ble 1 e.size=true) (hcap:(Nat.ble cap maxLen&&Nat.ble (bytes * cap) 281474976710656)=true) (hR:bG g e z.cells.toList y)
  (h0:0≤nn) (hle:nn≤cap) (hn:Nat.ble (d+1) n=true)
  (h:∀ a c xs,aW g e xs (List.replicate nn.toNat y)→Ok n w0 ((d,.slice a (List.replicate nn.toNat y).length c)::m) (.own (.slice a (List.replicate nn.toNat y).length c) E e.size (List.replicate nn.toNat y).length xs::H) g K) :
  af P K Q ⟨some d,.makeSlice T x1 x2,ty,pos,after,gd⟩ n w0 m H g:=fun ac W hA hW=>by
 rw [aG] at hcap
 obtain ⟨inf,i1,i2⟩:=gM.1 gQ
 simp only [qD] at i2
 obtain ⟨i3,i4,i5⟩:=i2
 obtain ⟨z',i6,i7⟩:=gM.1 i5
 have h1:=gm h1
 obtain ⟨k,rfl⟩:∃ k:Nat,nn=k:=⟨nn.toNat,om⟩
 have hk:k≤cap:=om
 have hb:inf.bytes * k≤281474976710656:=by rw [i4]; exact gV (Nat.mul_le_mul_left _ hk) (gm hcap.2)
 have hm:k≤maxLen:=gV hk (gm hcap.1)
 obtain ⟨W',r1,r2,r3⟩:=run_make_full (P:=P) W 0 T E inf z' e.size hu i1 i6 i3 kl kc k hb hm (ik _)
 show Oper.upon P _ ac _ Q (Sem.run P (execOp ac.eval _) W)
 have e1:(execOp ac.eval ⟨some d,.makeSlice T x1 x2,ty,pos,after,gd⟩).run P W=.ok (.value (.slice (some ⟨W.heap.size,0,none⟩) k k)) W':=by
  simp only [execOp,hA.eval hx,hA.eval hx2,Sem.run_bind,r1,Result.andThen]; rfl
 rw [e1,Oper.upon_value]
 simp only [Int.toNat_natCast] at h
 have hzs:z.cells.toList.length=e.size:=hR.size
 have aif:∀ k,(madeCells z'.cells (k * e.size)).toList=(List.replicate k z.cells.toList).flatten:=fun k=>by
  have hzz:z'.cells.toList=z.cells.toList:=i7
  have hsz:z'.cells.size=e.size:=by rw [← uU,hzz,hzs]
  apply zR
  intro j
  have hfl:(List.replicate k z.cells.toList).flatten.length=k * e.size:=by simp [hzs]
  by_cases hj:j<k * e.size
  ·have hpos:0<e.size:=h1
   have hmod:j % e.size<e.size:=Nat.mod_lt _ hpos
   have e2:(List.replicate k z.cells.toList).flatten[j]? = z.cells.toList[j % e.size]?:=by
    have key:∀ (k j:Nat),j<k * e.size→(List.replicate k z.cells.toList).flatten[j]? = z.cells.toList[j % e.size]?:=by
     intro k
     induction k with
     | zero=>intro j hj; simp at hj
     | succ k ih =>
      intro j hj
      rw [zJ,zO,List.getElem?_append]
      split
      ·rename_i hlt; rw [hzs] at hlt; rw [Nat.mod_eq_of_lt hlt]
      rename_i hge
      rw [hzs] at hge ⊢
      rw [ih (j - e.size) (by rw [uK] at hj; omega)]
      rw [Nat.mod_eq_sub_mod (by omega:e.size≤j)]
    exact key k j hj
   rw [e2]
   simp only [madeCells,Array.toList_map,Array.toList_range,iX,hsz]
   rw [List.getElem?_range hj]
   simp only [mK]
   rw [← hzz,Array.getElem?_toList,getElem!_pos z'.cells (j % e.size) om,Array.getElem?_eq_getElem om]
  rw [sG (by rw [uU,size_madeCells]; omega),sG (by rw [hfl]; omega)]
 have hrep:∀ k,aW g e ((List.replicate k z.cells.toList).flatten) (List.replicate k y):=fun k=>by
  induction k with
  | zero=>rfl
  | succ k ih=>exact ⟨z.cells.toList,_,by rw [zJ,zO],hR,ih⟩
 rw [aif k] at r2
 have h:=h (some ⟨W.heap.size,0,none⟩) k _ (hrep k)
 simp only [List.length_replicate] at h
 refine h _ W' (hA.put (gm hn) _) ⟨fun x hx=>?_,?_,fun b o hb=>?_,fun x hx b hb=>?_,fun x hx b hb=>?_,hW.below.grown r3 (by simp)⟩
 ·rcases eG.1 hx with rfl | hx
  ·exact r2
  exact gI (hW.fT x hx) fun b hb=>r3.block b (iP (hW.fT x hx) hb) (by simp)
 ·show (List.filterMap b_.block (_::H)).Nodup
  simp only [xe,b_.block,Value.ownBlock,zL]
  refine ⟨fun hc=>?_,hW.nodup⟩
  obtain ⟨x,hx,hb⟩:=List.mem_filterMap.1 hc
  exact absurd (iP (hW.fT x hx) hb) (sD _)
 ·rw [r3.block b (lt_of_some (hW.ghost b o hb)) (by simp)]; exact hW.ghost b o hb
 ·rcases eG.1 hx with rfl | hx
  ·simp only [b_.block,Value.ownBlock,jy] at hb
   subst hb
   cases hc:g W.heap.size with
   | none=>rfl
   | some o=>exact absurd (lt_of_some (hW.ghost _ _ hc)) (sD _)
  exact hW.apart x hx b hb
 rcases eG.1 hx with rfl | hx
 ·simp only [b_.block,Value.ownBlock,jy] at hb
  subst hb
  exact .inl hW.below.size
 exact hW.mine x hx b hb
end
end Go.iQ
namespace Go.iQ
open Go.RowKit (Below)
set_option linter.unusedVariables false
section
variable {P:Program} {pos:String} {after:Array Edge} {gd:Option (Nat×Bool)} {n:nP} {w0:Base} {m:Env} {H:List b_} {g:ak} {R:Act→World→Prop} {Q:Exit→Act→World→Prop} {ops:Array Oper}

theorem dh.pushB {W W':World} {v:Value} {E:TypeId} {k:Nat} {xs:List Value} (h:dh w0 H g W) (hg:W.grownBy W' none) (hb:v.ownBlock=some W.heap.size) (hok:(b_.lT v E k xs).ok W'):dh w0 (.lT v E k xs::H) g W':=by
 have hnew:g W.heap.size=none:=by
  cases hc:g W.heap.size with
  | none=>rfl
  | some o=>exact absurd (lt_of_some (h.ghost _ _ hc)) (sD _)
 have hsame:∀ k,k<W.heap.size→W'.heap[k]? = W.heap[k]?:=fun k hk=>hg.block k hk (by simp)
 refine ⟨fun e he=>?_,?_,fun b o hk=>?_,fun e he b hk=>?_,fun e he b hk=>?_,h.below.grown hg (by simp)⟩
 ·rcases eG.1 he with rfl | he
  ·exact hok
  exact gI (h.fT e he) fun b hk=>hsame b (iP (h.fT e he) hk)
 ·rw [xe,show (b_.lT v E k xs).block=_ from hb]
  refine zL.2 ⟨fun hc=>?_,h.nodup⟩
  obtain ⟨e,he,hk⟩:=List.mem_filterMap.1 hc
  exact absurd (iP (h.fT e he) hk) (sD _)
 ·rw [hsame b (lt_of_some (h.ghost b o hk))]; exact h.ghost b o hk
 ·rcases eG.1 he with rfl | he
  ·rw [show (b_.lT v E k xs).block=_ from hb] at hk
   injection hk with hk; subst hk; exact hnew
  exact h.apart e he b hk
 rcases eG.1 he with rfl | he
 ·rw [show (b_.lT v E k xs).block=_ from hb] at hk
  injection hk with hk; subst hk; exact .inl h.below.size
 exact h.mine e he b hk

theorem Gb:∀ (l:List Int),aW g (.int .u8) (l.map (Value.int .u8)) l
 | []=>rfl
 | x::l=>⟨[.int .u8 x],l.map (Value.int .u8),rfl,rfl,Gb l⟩

theorem Ar {K:Act→World→Prop} {d:Nat} {src dt E ty:TypeId} {x:Operand} {s:Bs} (hx:val m x=some (.string ⟨⟨s⟩⟩)) (hs:P.underlying src=some .string) (hd:P.underlying dt=some (.slice E)) (he:P.underlying E=some (.int .u8))
  (hn:Nat.ble (d+1) n=true)
  (h:∀ a c xs,aW g (.int .u8) xs (intsOf s)→Ok n w0 ((d,.slice a (intsOf s).length c)::m) (.lT (.slice a (intsOf s).length c) E (intsOf s).length xs::H) g K):af P K Q ⟨some d,.convert src dt x,ty,pos,after,gd⟩ n w0 m H g:=fun ac W hA hW=>by
 show Oper.upon P _ ac _ Q (Sem.run P (execOp ac.eval _) W)
 have hrun:=run_bytes_of_string (P:=P) W src dt E ⟨⟨s⟩⟩ hs hd he
 have hlen:(intsOf s).length=s.length:=iy s
 have e1:(execOp ac.eval ⟨some d,.convert src dt x,ty,pos,after,gd⟩).run P W=.ok (.value (.slice (some ⟨W.heap.size,0,none⟩) (intsOf s).length (grownCap W s.length 0 E)))
   (W.drew.alloc (.cells (bytesRow ⟨⟨s⟩⟩ (grownCap W s.length 0 E)) E ((bytesRow ⟨⟨s⟩⟩ (grownCap W s.length 0 E)).size,(bytesRow ⟨⟨s⟩⟩ (grownCap W s.length 0 E)).size+1))):=by
  rw [hlen]
  simp only [execOp,hA.eval hx,Sem.run_bind]
  rw [hrun]; rfl
 rw [e1,Oper.upon_value]
 have hh:∀ o,(W.drew.alloc o).heap[W.heap.size]? = some o:=fun o=>by
  show (W.heap.push o)[W.heap.size]? = _
  simp
 refine h _ _ _ (Gb _) _ _ (hA.put (gm hn) _) (hW.pushB ⟨rfl,rfl,rfl,by show W.heap.size≤(W.heap.push _).size; simp,fun k hk _=>by
   show (W.heap.push _)[k]? = _
   rw [Array.getElem?_push,aQ om]⟩ rfl ⟨_,_,_,rfl,hh _,?_,by simp,?_⟩)
 ·rw [hlen]; simp [bytesRow,Array.size_append]
 rw [hlen]
 simp [bytesRow,intsOf,Function.comp_def]

theorem Gl {W:World} {a:Option Addr} {E:TypeId} {k c:Nat} {xs:List Value} (h:(b_.lT (.slice a k c) E k xs).ok W):∃ b cur,a=some ⟨b,0,none⟩∧W.heap[b]? = some (.cells cur E (cur.size,cur.size+1))∧k≤cur.size∧xs.length=k∧cur.toList.take k=xs:=by
 obtain ⟨b,cap,cur,he,r⟩:=h
 injection he with h1 h2 h3
 exact ⟨b,cur,h1,r⟩
theorem u7 {W:World} {a:Option Addr} {E:TypeId} {k c:Nat} {xs:List Value} (h:(b_.lT (.slice a k c) E k xs).ok W) {j:Nat} {v:Value} (hj:xs[j]? = some v):a=some ⟨sI a,0,none⟩∧W.cell? ⟨sI a,j,none⟩=some v:=by
 obtain ⟨b,cur,rfl,hh,hk,hx,ht⟩:=Gl h
 refine ⟨rfl,?_⟩
 show W.cell? ⟨b,j,none⟩=_
 rw [← ht,List.getElem?_take] at hj
 split at hj
 ·simpa [World.cell?,hh] using hj
 cases hj

theorem L8 {dst:Option Nat} {T E ty:TypeId} {x ix:Operand} {a:Option Addr} {l:List Int} {c:Nat} {xs:List Value} {k:IntKind} {q:Int} {el:Int}
  (i:Nat) (hi:H[i]? = some (.lT (.slice a l.length c) E l.length xs)) (hR:aW g (.int .u8) xs l) (hx:val m x=some (.slice a l.length c)) (hix:val m ix=some (.int k q)) (hu:P.underlying T=some (.slice E)) (hs:(P.info? E).map (·.size)=some 1)
  (h0:0≤q) (he:l[q.toNat]? = some el) :
  (∀ j v,[Value.int .u8 el][j]? = some v→xs[q.toNat * 1+j]? = some v)∧Yields P n w0 m H g ⟨dst,.indexAddr T x ix,ty,pos,after,gd⟩ (.pointer (some ⟨sI a,q.toNat * 1,none⟩)):=by
 have hxs:=kM hR
 have hc':∀ j v,[Value.int .u8 el][j]? = some v→xs[q.toNat * 1+j]? = some v:=fun j v hj=>by
  cases j with
  | zero=>simp at hj; subst hj; rw [hxs]; simp [he]
  | succ j=>simp at hj
 refine ⟨hc',fun ac W hA hW=>?_⟩
 have hlt:q.toNat<l.length:=(je.1 he).1
 have hb:0≤q∧q<(l.length:Int):=⟨h0,om⟩
 obtain ⟨ha,-⟩:=u7 (hW.fT _ (iq hi)) (hc' 0 _ rfl)
 cases gQ:P.info? E with
 | none=>simp [gQ] at hs
 | some inf =>
  simp only [gQ,mK,jy] at hs
  rw [ha] at hx
  simp only [execOp,hA.eval hx,hA.eval hix]
  simp [Instr.indexAt,asIntOf,underlying,hu,hb,sizeOf,typeInfo,gQ,hs,Addr.add_plain,sI,go_sem]

theorem qb {K:Act→World→Prop} {d:Nat} {T E ty:TypeId} {x ix:Operand} {a:Option Addr} {l:List Int} {c:Nat} {xs:List Value} {k:IntKind} {q:Int} {el:Int}
  (i:Nat) (hi:H[i]? = some (.lT (.slice a l.length c) E l.length xs)) (hR:aW g (.int .u8) xs l) (hx:val m x=some (.slice a l.length c)) (hix:val m ix=some (.int k q)) (hu:P.underlying T=some (.slice E)) (hs:(P.info? E).map (·.size)=some 1)
  (h0:0≤q) (he:l[q.toNat]? = some el) (hn:Nat.ble (d+1) n=true)
  (h:(∀ j v,[Value.int .u8 el][j]? = some v→xs[q.toNat * 1+j]? = some v)→Ok n w0 ((d,.pointer (some ⟨sI a,q.toNat * 1,none⟩))::m) H g K) :
  af P K Q ⟨some d,.indexAddr T x ix,ty,pos,after,gd⟩ n w0 m H g:=by
 obtain ⟨hc,hy⟩:=L8 (P:=P) (n:=n) (w0:=w0) (dst:=some d) (ty:=ty) (pos:=pos) (after:=after) (gd:=gd) i hi hR hx hix hu hs h0 he
 exact af.s hy rfl hn (h hc)

theorem yM {dst:Option Nat} {T E ty:TypeId} {x:Operand} {k:Nat} {a:Option Addr} {c o:Nat} {xs cells:List Value} {v:Value} {d:TypeDesc}
  (i j:Nat) (hi:H[i]? = some (.lT (.slice a k c) E k xs)) (hc:∀ j v,cells[j]? = some v→xs[o+j]? = some v) (hx:val m x=some (.pointer (some ⟨sI a,o+j,none⟩))) (hu:P.underlying T=some d) (hd:d.isRow=false) (hv:cells[j]? = some v) :
  Yields P n w0 m H g ⟨dst,.load T x,ty,pos,after,gd⟩ v:=fun ac W hA hW=>by
 obtain ⟨-,hcell⟩:=u7 (hW.fT _ (iq hi)) (hc j v hv)
 simp only [execOp,Instr.loadAt,hA.eval hx,Sem.run_bind,Instr.sureAddr]
 simp [jU W (sI a) (o+j) T v d hcell hu hd]

theorem Aq {K:Act→World→Prop} {T E ty:TypeId} {x y:Operand} {a:Option Addr} {l:List Int} {c q:Nat} {xs:List Value} {xy:Int} {el:Int}
  (i:Nat) (hi:H[i]? = some (.lT (.slice a l.length c) E l.length xs)) (hR:aW g (.int .u8) xs l) (hc:∀ j v,[Value.int .u8 el][j]? = some v→xs[q * 1+j]? = some v)
  (hx:val m x=some (.pointer (some ⟨sI a,q * 1,none⟩))) (hy:val m y=some (.int .u8 xy)) (hk:(P.info? T).map (·.size)=some 1)
  (h:∀ yT,aW g (.int .u8) yT (l.set q xy)→Ok n w0 m (H.set i (.lT (.slice a (l.set q xy).length c) E (l.set q xy).length yT)) g K) :
  af P K Q ⟨none,.store T x y,ty,pos,after,gd⟩ n w0 m H g:=fun ac W hA hW=>by
 have hok:=hW.fT _ (iq hi)
 obtain ⟨b,cur,rfl,hh,hkc,hxl,ht⟩:=Gl hok
 have hq:q<l.length:=by
  have:=(je.1 (hc 0 _ rfl)).1
  omega
 have hxs:=kM hR
 show Oper.upon P _ ac _ Q (Sem.run P (execOp ac.eval _) W)
 have hset:(l.set q xy).length=l.length:=kK ..
 have hfz:W.frozen? ⟨b,q,none⟩=false:=by
  simp [World.frozen?,hh]
  omega
 have e1:(execOp ac.eval ⟨none,.store T x y,ty,pos,after,gd⟩).run P W=.ok .skip (W.setCell ⟨b,q,none⟩ (.int .u8 xy)):=by
  cases gQ:P.info? T with
  | none=>simp [gQ] at hk
  | some inf =>
   simp only [gQ,mK,jy] at hk
   have hx':val m x=some (.pointer (some ⟨b,q,none⟩)):=by rw [hx]; simp [sI]
   have hcell:W.cell? ⟨b,q,none⟩=some (.int .u8 el):=by
    have:=(u7 hok (hc 0 _ rfl)).2
    simpa [sI] using this
   simp only [execOp,Instr.storeAt,hA.eval hx',hA.eval hy,Instr.sureAddr,storeVar,sizeOf,typeInfo]
   simp [gQ,hk,Value.cells]
   have hrun:=run_storeCells_cells (P:=P) b q [Value.int .u8 xy] 0 W (fun j hj=>by
    have:j=0:=by simpa using hj
    subst this
    simp [hcell]) (fun j hj=>by
    have:j=0:=by simpa using hj
    subst this
    simpa using hfz) (fun v hv=>by simp at hv; subst hv; rfl)
   rw [hrun]
   rfl
 rw [e1,Oper.upon_skip]
 refine h (xs.set q (.int .u8 xy)) (by rw [hxs,← List.map_set]; exact Gb _) _ _ (hA.skip none (fun d hd=>by cases hd) undef) (hW.grown (e':=.lT (.slice (some ⟨b,0,none⟩) (l.set q xy).length c) E (l.set q xy).length (xs.set q (.int .u8 xy))) hi
   ⟨rfl,rfl,rfl,by simp [World.setCell],fun k' _ hk'=>Below.heap_setCell _ _ _ _ (fun e=>hk' (by simp [b_.block,Value.ownBlock,e]))⟩ ?_ (.inl rfl))
 rw [hset]
 refine ⟨b,c,cur.setIfInBounds q (.int .u8 xy),rfl,?_,by simpa using hkc,by simpa using hxl,?_⟩
 ·simp [World.setCell,xq,hh]
 rw [← ht]
 simp [List.take_set]

theorem v_ {dst:Option Nat} {src dt E ty T:TypeId} {x:Operand} {a:Option Addr} {l:List Int} {c:Nat} {xs:List Value} (i:Nat) (hx:val m x=some (.slice a l.length c)) {r:Bs} (hr:bytesOf l=r)
  (hi:H[i]? = some (.lT (.slice a l.length c) T l.length xs)) (hR:aW g (.int .u8) xs l) (hs:P.underlying src=some (.slice E)) (hd:P.underlying dt=some .string) (he:P.underlying E=some (.int .u8)):Yields P n w0 m H g ⟨dst,.convert src dt x,ty,pos,after,gd⟩ (.string ⟨⟨r⟩⟩):=fun ac W hA hW=>by
 subst hr
 have hok:=hW.fT _ (iq hi)
 have:=FU (P:=P) (W:=W) (c:=c) hs hd he (a:=a) (l:=l) (fun ha=>by
  obtain ⟨b,cur,h1,_⟩:=Gl hok
  rw [h1] at ha; cases ha) (fun ad ha j v hj=>by
  rw [← kM hR] at hj
  obtain ⟨h1,h2⟩:=u7 hok hj
  rw [uH (ha.symm.trans h1),Addr.add_plain,su]; exact h2)
 simp only [execOp,hA.eval hx,Sem.run_bind,this,Result.andThen]; rfl
end
end Go.iQ
