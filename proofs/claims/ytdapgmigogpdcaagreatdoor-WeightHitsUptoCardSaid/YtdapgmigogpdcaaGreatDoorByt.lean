/-
 Maps of the call's own whose keys are texts: the entries as a list of pairs. No program in sight.
-/
import Derived.Test.YtdapgmigogpdcaaGreatDoorOwn
import Derived.MapKept
import Derived.Carry
import Derived.Laws.IdiomStrings
import Derived.Laws.OwnMore
set_option linter.unusedVariables false
namespace Go.iT
open Go.RowKit (Below)

def Z4 (row:Bool) (v:Value) (cells:List Value):Prop:=if row=true then v=.agg ⟨cells⟩ else cells=[v]

structure KeyLaw (d:TypeDesc) {κ:Type} [BEq κ] (kt:κ→Value):Prop where
 isKey:∀ k,MapKept.IsKey d (kt k)
 same:∀ a b,Instr.sameNow d (kt a) (kt b)=some (a==b)
 eq:∀ a b:κ,(a==b)=true→a=b
 bits:∀ k,Instr.sameBits 10000 (kt k) (kt k)=true

def sO (g:ak) (vt:Ty) (row:Bool) {κ:Type} (kt:κ→Value):List MapEntry→List (κ×vt.den)→Prop
 | [],[]=>True
 | e::es,x::l=>e.key=kt x.1∧(∃ cells,Z4 row e.val cells∧bE g vt cells x.2)∧sO g vt row kt es l
 | _,_=>False

def NQ {κ V:Type} [BEq κ] (k:κ):List (κ×V)→Option V
 | []=>none
 | x::l=>if (k==x.1)=true then some x.2 else NQ k l
def abm {κ V:Type} [BEq κ] (k:κ) (v:V):List (κ×V)→List (κ×V)
 | []=>[(k,v)]
 | x::l=>if (k==x.1)=true then (k,v)::l else x::abm k v l

theorem sO.mono {g g':ak} (h:lG g g') {vt:Ty} {row:Bool} {κ:Type} {kt:κ→Value}:∀ {es:List MapEntry} {l:List (κ×vt.den)},sO g vt row kt es l→sO g' vt row kt es l
 | [],[],_=>trivial
 | _::_,_::_,⟨h1,⟨cells,h2,h3⟩,h4⟩=>⟨h1,⟨cells,h2,h3.mono h⟩,sO.mono h h4⟩
 | [],_::_,h=>h.elim
 | _::_,[],h=>h.elim

theorem sO.push {g:ak} {vt:Ty} {row:Bool} {κ:Type} [BEq κ] {kt:κ→Value} {k:κ} {e:MapEntry} {y:vt.den} (hk:e.key=kt k) (hy:∃ cells,Z4 row e.val cells∧bE g vt cells y):∀ {es:List MapEntry} {l:List (κ×vt.den)},sO g vt row kt es l→NQ k l=none →
  sO g vt row kt (es++[e]) (abm k y l)
 | [],[],_,_=>⟨hk,hy,trivial⟩
 | [],_::_,h,_=>h.elim
 | _::_,[],h,_=>h.elim
 | e'::es,x::l,⟨h1,h2,h3⟩,hn=>by
  unfold NQ at hn
  split at hn
  ·cases hn
  rename_i hx
  have hx:(k==x.1)=false:=by simpa using hx
  simp only [abm,hx,zY,if_false];exact ⟨h1,h2,sO.push hk hy h3 hn⟩

section
variable {P:Program} {pos:String} {after:Array Edge} {gd:Option (Nat×Bool)} {n:nQ} {w0:Base} {m:Env} {H:List cu} {g:ak} {R:Act→World→Prop} {Q:Exit→Act→World→Prop} {ops:Array Oper}

end
end Go.iT
namespace Go.iT
open Go.RowKit (Below)
section
variable {P:Program} {pos:String} {after:Array Edge} {gd:Option (Nat×Bool)} {n:nQ} {w0:Base} {m:Env} {H:List cu} {g:ak} {R:Act→World→Prop} {Q:Exit→Act→World→Prop} {ops:Array Oper}

theorem SY {α:Type} {xs c v:List α} {o size j k:Nat} (hc:(xs.drop o).take size=c) (hj:j+k≤size) (hl:o+size≤xs.length) :
  xs.take o++(c.take j++v++c.drop (j+k))++xs.drop (o+size)=xs.take (o+j)++v++xs.drop (o+j+k):=by
 subst hc
 have e1:xs.take (o+j)=xs.take o++((xs.drop o).take size).take j:=by
  rw [List.take_add,xq,og om]
 have e2:xs.drop (o+j+k)=((xs.drop o).take size).drop (j+k)++xs.drop (o+size):=by
  have d1:xs.drop (o+j+k)=(xs.drop o).drop (j+k):=by rw [xz,Nat.add_assoc]
  have d2:xs.drop (o+size)=(xs.drop o).drop size:=by rw [xz]
  rw [d1,d2];have h:=uR size (xs.drop o)
  conv=>lhs; rw [← h]
  rw [Jg (by simp; omega)]
 rw [e1,e2];simp only [dM]

theorem ko {K:Act→World→Prop} {T E ty:TypeId} {x y:Operand} {e:Ty} {a:Option Addr} {l:List e.den} {c q:Nat} {xs cells vs:List Value} {v:Value} {xG:e.den}
  (i j k:Nat) (hi:H[i]? = some (.own (.slice a l.length c) E e.size l.length xs)) (hR:aW g e xs l) (hc:∀ j v,cells[j]? = some v→xs[q * e.size+j]? = some v) (hcl:Nat.beq cells.length e.size=true)
  (hx:val m x=some (.pointer (some ⟨sN a,q * e.size+j,none⟩))) (hy:val m y=some v) (hv:v.cells.toList=vs) (hk:(P.info? T).map (·.size)=some k) (hvk:Nat.beq vs.length k=true) (hjk:Nat.ble (j+k) e.size=true) (hone:vs.all (·.oneCell')=true) (h1:Nat.ble 1 e.size=true)
  (hR':bE g e (cells.take j++vs++cells.drop (j+k)) xG)
  (h:∀ y5,aW g e y5 (l.set q xG)→Ok n w0 m (H.set i (.own (.slice a (l.set q xG).length c) E e.size (l.set q xG).length y5)) g K) :
  af P K Q ⟨none,.store T x y,ty,pos,after,gd⟩ n w0 m H g:=fun ac W hA hW=>by
 have hcl:=iW hcl;have hvk:=iW hvk;have hjk:=gy hjk;have h1:=gy h1;have hok:W.ownsRow 0 E e.size (.slice a l.length c) l.length xs:=hW.f_ _ (iq hi);have hsz:=hR.size;have hlast:=hc (e.size - 1) _ (gH om);have hlt:q * e.size+(e.size - 1)<xs.length:=(jh.1 hlast).1
 have hq:q<l.length:=by
  rcases Nat.lt_or_ge q l.length with h | h
  ·exact h
  have:=qG e.size h;omega
 have hcs:(xs.drop (q * e.size)).take e.size=cells:=by
  apply zX;intro p;rw [List.getElem?_take,Ef]
  split
  ·rename_i hp
   have hp':p<cells.length:=om;rw [hc p _ (gH hp'),gH hp']
  rw [sK om]
 have acx:=SY (v:=vs) (j:=j) (k:=k) hcs hjk om;have hRn:=hR.set hq hR';rw [acx] at hRn;have hset:(l.set q xG).length=l.length:=kP ..
 rcases hok.2 with ⟨he,hl0⟩ | ⟨b,cap,cur,he,hB,hh,hcap,hmax,hcsz,htake⟩
 ·omega
 simp only [Value.slice.injEq,true_and] at he;obtain ⟨rfl,rfl⟩:=he
 have hN:l.length * e.size≤cur.size:=by rw [hcsz]; exact qG _ hcap
 show Oper.upon P _ ac _ Q (Sem.run P (execOp ac.eval _) W);have hrun:=run_storeCells_at (P:=P) b (q * e.size+j) E vs 0 cur W hh om (fun u hu=>(l7.1 hone) u hu);simp only [nC,hvk] at hrun
 have e1:(execOp ac.eval ⟨none,.store T x y,ty,pos,after,gd⟩).run P W=.ok .skip (W.setRow b (cur.toList.take (q * e.size+j)++vs++cur.toList.drop (q * e.size+j+k)).toArray):=by
  cases gW:P.info? T with
  | none=>simp [gW] at hk
  | some inf =>
   simp only [gW,mP,jB] at hk
   have hvs:v.cells.size=k:=by rw [← hvk,← hv]; simp
   have hx':val m x=some (.pointer (some ⟨b,q * e.size+j,none⟩)):=hx;simp only [execOp,Instr.storeAt,hA.eval hx',hA.eval hy,Instr.sureAddr,storeVar,sizeOf,typeInfo];simp [gW,hk,hvs,hv,hrun]
 rw [e1,Oper.upon_skip]
 have hnew:(W.setRow b (cur.toList.take (q * e.size+j)++vs++cur.toList.drop (q * e.size+j+k)).toArray).ownsRow 0 E e.size (.slice (some ⟨b,0,none⟩) (l.set q xG).length c) (l.set q xG).length (xs.take (q * e.size+j)++vs++xs.drop (q * e.size+j+k)):=by
  rw [hset];refine ⟨?_,.inr ⟨b,c,_,rfl,hB,setRow_heap W b cur _ E _ hh,hcap,hmax,?_,?_⟩⟩
  ·simp only [bD,gG,gJ];omega
  ·simp only [List.size_toArray,bD,gG,gJ,u6];omega
  have hA1:(cur.toList.take (q * e.size+j)).length=q * e.size+j:=by simp; omega
  rw [← htake,xq,og om,List.drop_take];rw [List.take_append,jU (by simp; omega)];congr 1;congr 1;simp only [bD,hA1,hvk]
 exact h _ hRn _ _ (hA.skip none (fun d hd=>by cases hd) undef) (hW.grown (e':=.own (.slice (some ⟨b,0,none⟩) (l.set q xG).length c) E e.size (l.set q xG).length (xs.take (q * e.size+j)++vs++xs.drop (q * e.size+j+k))) hi
  ⟨rfl,rfl,rfl,by simp [World.setRow],fun k' _ hk'=>setRow_other W b k' _ (fun e=>hk' (by simp [cu.block,Value.ownBlock,e]))⟩ hnew (.inl (by rw [hset]; rfl)))

def bytesOf (l:List Int):Bs:=l.map fun x=>UInt8.ofNat x.toNat
def intsOf (s:Bs):List Int:=s.map fun c=>(c.toNat:Int)
theorem kN (s:Bs):bytesOf (intsOf s)=s:=by
 unfold bytesOf intsOf;rw [List.map_map]
 conv=>rhs; rw [← List.map_id s]
 apply List.map_congr_left;intro c _;simp
theorem iA (s:Bs):(intsOf s).length=s.length:=by unfold intsOf; simp

theorem foldl_push:∀ (ns:List Int) (s:ByteArray),ns.foldl (fun r n=>r.push (UInt8.ofNat n.toNat)) s=⟨s.data++(bytesOf ns).toArray⟩
 | [],s=>by simp [bytesOf]
 | n::ns,s=>by
  rw [List.foldl_cons,foldl_push ns];simp [bytesOf,ByteArray.push]

theorem kS {kd:IntKind}:∀ {l:List Int} {xs:List Value},aW g (.int kd) xs l→xs=l.map (Value.int kd)
 | [],_,h=>h
 | x::l,_,⟨c,r,h1,h2,h3⟩=>by
  rw [h1,show c=_ from h2,kS h3]; rfl

theorem Gg {W:World} {src dst E:TypeId} {a:Option Addr} {l:List Int} {c:Nat} (hs:P.underlying src=some (.slice E)) (hd:P.underlying dst=some .string) (he:P.underlying E=some (.int .u8))
  (h0:a=none→l=[]) (hc:∀ ad,a=some ad→∀ j v,(l.map (Value.int .u8))[j]? = some v→W.cell? (ad.add j)=some v):(convert src dst (.slice a l.length c)).run P W=.ok (.string ⟨⟨bytesOf l⟩⟩) W:=by
 rw [run_convert_bytes_string W src dst E a l.length c hs he hd]
 cases a with
 | none=>rw [h0 rfl]; simp [Conv.bytesToString,bytesOf]; rfl
 | some ad =>
  have hl:=run_loadCells_list (P:=P) W ad (l.map (Value.int .u8)) (hc ad rfl);simp only [iY] at hl;rw [run_bytesToString W ad l.length c _ hl,foldl_push];simp

theorem Ei {dst:Option Nat} {src dt E ty:TypeId} {x:Operand} {a:Option Addr} {l:List Int} {c:Nat} (hx:val m x=some (.slice a l.length c)) {r:Bs} (hr:bytesOf l=r)
  (hR:bE g (.slice (.int .u8)) [.slice a l.length c] l) (hs:P.underlying src=some (.slice E)) (hd:P.underlying dt=some .string) (he:P.underlying E=some (.int .u8)):Yields P n w0 m H g ⟨dst,.convert src dt x,ty,pos,after,gd⟩ (.string ⟨⟨r⟩⟩):=fun ac W hA hW=>by
 subst hr;obtain ⟨a1,c1,hcs,-,hel⟩:=hR;simp only [uW,Value.slice.injEq,nA] at hcs;obtain ⟨rfl,-,rfl⟩:=hcs
 have:=Gg (P:=P) (W:=W) (c:=c) hs hd he (a:=a) (l:=l) (fun ha=>by
  cases l with
  | nil=>rfl
  | cons y l=>obtain ⟨b,off,hb,_⟩:=hel 0 y rfl; rw [ha] at hb; cases hb) (fun ad ha j v hj=>by
  rw [iZ,gP] at hj;obtain ⟨y,hy,rfl⟩:=hj;obtain ⟨b,off,hb,jC,hl,hat,hr⟩:=hel j y hy;rw [ha] at hb
  injection hb with hb
  subst hb;rw [show jC=_ from hr] at hat;have:=l5 hW.ghost (hat 0 _ rfl);simp only [Ty.size,Nat.mul_one,nC] at this
  rw [Addr.add_plain]; exact this)
 simp only [execOp,hA.eval hx,Sem.run_bind,this,Result.andThen]; rfl

theorem j4 {dst:Option Nat} {src dt E ty T:TypeId} {x:Operand} {a:Option Addr} {l:List Int} {c:Nat} {xs:List Value} (i:Nat) (hx:val m x=some (.slice a l.length c)) {r:Bs} (hr:bytesOf l=r)
  (hi:H[i]? = some (.own (.slice a l.length c) T 1 l.length xs)) (hR:aW g (.int .u8) xs l) (hs:P.underlying src=some (.slice E)) (hd:P.underlying dt=some .string) (he:P.underlying E=some (.int .u8)):Yields P n w0 m H g ⟨dst,.convert src dt x,ty,pos,after,gd⟩ (.string ⟨⟨r⟩⟩):=fun ac W hA hW=>by
 subst hr;have hok:W.ownsRow 0 T 1 (.slice a l.length c) l.length xs:=hW.f_ _ (iq hi)
 have:=Gg (P:=P) (W:=W) (c:=c) hs hd he (a:=a) (l:=l) (fun ha=>by
  rcases hok.2 with ⟨h1,h2⟩ | ⟨b,cap,cur,h1,_⟩
  ·exact iO h2
  ·simp [ha] at h1) (fun ad ha j v hj=>by
  rw [← kS hR] at hj;obtain ⟨h1,h2⟩:=CS hok hj
  rw [uN (ha.symm.trans h1),Addr.add_plain,sH]; exact h2)
 simp only [execOp,hA.eval hx,Sem.run_bind,this,Result.andThen]; rfl

theorem dm.abn {W W':World} (h:dm w0 H g W) {b:Nat} {o:Obj} (hb:b=W.heap.size) (hg:W.grownBy W' none) (ho:W'.heap[b]? = some o) :
  ∃ g',bf w0 g g'∧g' b=some o∧dm w0 H g' W':=by
 subst hb
 have hnew:g W.heap.size=none:=by
  cases hc:g W.heap.size with
  | none=>rfl
  | some o=>exact absurd (lt_of_some (h.ghost _ _ hc)) (sI _)
 have hsame:∀ k,k<W.heap.size→W'.heap[k]? = W.heap[k]?:=fun k hk=>hg.block k hk (by simp);refine ⟨fun k=>if k=W.heap.size then some o else g k,⟨fun k q hk=>?_,fun k q hk=>?_⟩,by simp,⟨fun e he=>gI (h.f_ e he) fun k hk=>hsame k (iR (h.f_ e he) hk),h.nodup,fun k q hk=>?_,fun e he k hk=>?_,h.mine,h.below.grown hg (by simp)⟩⟩
 ·have:k≠W.heap.size:=fun e=>by rw [e,hnew] at hk; cases hk
  simp only [aQ this]; exact hk
 ·by_cases e:k=W.heap.size
  ·subst e; exact .inr (.inl h.below.size)
  simp only [aQ e] at hk; exact .inl hk
 ·by_cases e:k=W.heap.size
  ·subst e; simp only [if_true,jB] at hk; rw [ho,hk]
  simp only [aQ e] at hk;rw [hsame k (lt_of_some (h.ghost k q hk))]; exact h.ghost k q hk
 have hlt:=iR (h.f_ e he) hk;have:k≠W.heap.size:=om;simp only [aQ this]; exact h.apart e he k hk

theorem oH {K:Act→World→Prop} {d:Nat} {src dt E ty:TypeId} {x:Operand} {s:Bs} (hx:val m x=some (.string ⟨⟨s⟩⟩)) (hs:P.underlying src=some .string) (hd:P.underlying dt=some (.slice E)) (he:P.underlying E=some (.int .u8))
  (hm:s.length≤maxLen) (hn:Nat.ble (d+1) n=true)
  (h:∀ g' a c,bf w0 g g'→bE g' (.slice (.int .u8)) [.slice a (intsOf s).length c] (intsOf s)→Ok n w0 ((d,.slice a (intsOf s).length c)::m) H g' K):af P K Q ⟨some d,.convert src dt x,ty,pos,after,gd⟩ n w0 m H g:=fun ac W hA hW=>by
 show Oper.upon P _ ac _ Q (Sem.run P (execOp ac.eval _) W);have hrun:=run_bytes_of_string (P:=P) W src dt E ⟨⟨s⟩⟩ hs hd he
 have e1:(execOp ac.eval ⟨some d,.convert src dt x,ty,pos,after,gd⟩).run P W=.ok (.value (.slice (some ⟨W.heap.size,0,none⟩) s.length (grownCap W s.length 0 E)))
   (W.drew.alloc (.cells (bytesRow ⟨⟨s⟩⟩ (grownCap W s.length 0 E)) E ((bytesRow ⟨⟨s⟩⟩ (grownCap W s.length 0 E)).size,(bytesRow ⟨⟨s⟩⟩ (grownCap W s.length 0 E)).size+1))):=by
  simp only [execOp,hA.eval hx,Sem.run_bind];rw [hrun]; rfl
 rw [e1,Oper.upon_value]
 have hh:∀ o,(W.drew.alloc o).heap[W.heap.size]? = some o:=fun o=>by
  show (W.heap.push o)[W.heap.size]? = _;simp
 obtain ⟨g',h1,h2,h3⟩:=hW.abn (b:=W.heap.size) rfl (W':=W.drew.alloc (.cells (bytesRow ⟨⟨s⟩⟩ (grownCap W s.length 0 E)) E ((bytesRow ⟨⟨s⟩⟩ (grownCap W s.length 0 E)).size,(bytesRow ⟨⟨s⟩⟩ (grownCap W s.length 0 E)).size+1)))
  ⟨rfl,rfl,rfl,by show W.heap.size≤(W.heap.push _).size; simp,fun k hk _=>by
   show (W.heap.push _)[k]? = _
   rw [Array.getElem?_push,aQ om]⟩ (hh _)
 have hlen:(intsOf s).length=s.length:=by unfold intsOf; simp
 have h:=h g' (some ⟨W.heap.size,0,none⟩) (grownCap W s.length 0 E) h1 ⟨_,_,rfl,⟨by rw [hlen]; exact grownCap_ge W s.length 0 E,grownCap_le_maxLen W s.length 0 E hm⟩,fun i y hy=>⟨W.heap.size,0,rfl,[.int .u8 y],rfl,fun j v hj=>?_,rfl⟩⟩
 ·rw [hlen] at h;exact h _ _ (hA.put (gy hn) _) h3
 cases j with
 | zero =>
  simp only [List.getElem?_cons_zero,jB] at hj;subst hj;unfold intsOf at hy;rw [iZ,gP] at hy;obtain ⟨q,hq,rfl⟩:=hy;simp only [lM,h2,Ty.size,Nat.mul_one,sH,nC];have hlt:i<s.length:=(jh.1 hq).1;simp only [bytesRow];rw [aQ (by simp),Array.getElem?_append_left (by simpa using hlt)];simp [hq]
 | succ j=>simp at hj

theorem wE {K:Act→World→Prop} {d:Nat} {T E ty:TypeId} {x1 x2:Operand} {e:Ty} {nn:Int} {y:e.den} {z:Value} {kl kc:IntKind} (bytes cap:Nat) (hx:val m x1=some (.int kl nn)) (hx2:val m x2=some (.int kc nn))
  (hu:P.underlying T=some (.slice E)) (gW:(P.info? E).map (fun i=>(i.size,i.bytes,i.zero.map (·.cells.toList)))=some (e.size,bytes,some z.cells.toList)) (h1:Nat.ble 1 e.size=true) (hcap:(Nat.ble cap maxLen&&Nat.ble (bytes * cap) 281474976710656)=true) (hR:bE g e z.cells.toList y)
  (h0:0≤nn) (hle:nn≤cap) (hn:Nat.ble (d+1) n=true)
  (h:∀ a c xs,aW g e xs (List.replicate nn.toNat y)→Ok n w0 ((d,.slice a (List.replicate nn.toNat y).length c)::m) (.own (.slice a (List.replicate nn.toNat y).length c) E e.size (List.replicate nn.toNat y).length xs::H) g K) :
  af P K Q ⟨some d,.makeSlice T x1 x2,ty,pos,after,gd⟩ n w0 m H g:=fun ac W hA hW=>by
 rw [aH] at hcap;obtain ⟨inf,i1,i2⟩:=gP.1 gW;simp only [qF] at i2;obtain ⟨i3,i4,i5⟩:=i2;obtain ⟨z',i6,i7⟩:=gP.1 i5;have h1:=gy h1;obtain ⟨k,rfl⟩:∃ k:Nat,nn=k:=⟨nn.toNat,om⟩;have hk:k≤cap:=om
 have hb:inf.bytes * k≤281474976710656:=by rw [i4]; exact gQ (Nat.mul_le_mul_left _ hk) (gy hcap.2)
 have hm:k≤maxLen:=gQ hk (gy hcap.1);obtain ⟨W',r1,r2,r3⟩:=run_make_full (P:=P) W 0 T E inf z' e.size hu i1 i6 i3 kl kc k hb hm (ik _);show Oper.upon P _ ac _ Q (Sem.run P (execOp ac.eval _) W)
 have e1:(execOp ac.eval ⟨some d,.makeSlice T x1 x2,ty,pos,after,gd⟩).run P W=.ok (.value (.slice (some ⟨W.heap.size,0,none⟩) k k)) W':=by
  simp only [execOp,hA.eval hx,hA.eval hx2,Sem.run_bind,r1,Result.andThen]; rfl
 rw [e1,Oper.upon_value];simp only [Int.toNat_natCast] at h;have hzs:z.cells.toList.length=e.size:=hR.size
 have ajL:∀ k,(madeCells z'.cells (k * e.size)).toList=(List.replicate k z.cells.toList).flatten:=fun k=>by
  have hzz:z'.cells.toList=z.cells.toList:=i7
  have hsz:z'.cells.size=e.size:=by rw [← u6,hzz,hzs]
  apply zX;intro j
  have hfl:(List.replicate k z.cells.toList).flatten.length=k * e.size:=by simp [hzs]
  by_cases hj:j<k * e.size
  ·have hpos:0<e.size:=h1;have hmod:j % e.size<e.size:=Nat.mod_lt _ hpos
   have e2:(List.replicate k z.cells.toList).flatten[j]? = z.cells.toList[j % e.size]?:=by
    have key:∀ (k j:Nat),j<k * e.size→(List.replicate k z.cells.toList).flatten[j]? = z.cells.toList[j % e.size]?:=by
     intro k
     induction k with
     | zero=>intro j hj; simp at hj
     | succ k ih =>
      intro j hj;rw [zR,zV,List.getElem?_append]
      split
      ·rename_i hlt; rw [hzs] at hlt; rw [Nat.mod_eq_of_lt hlt]
      rename_i hge
      rw [hzs] at hge ⊢;rw [ih (j - e.size) (by rw [uQ] at hj; omega)];rw [Nat.mod_eq_sub_mod (by omega:e.size≤j)]
    exact key k j hj
   rw [e2];simp only [madeCells,Array.toList_map,Array.toList_range,iZ,hsz];rw [List.getElem?_range hj];simp only [mP];rw [← hzz,Array.getElem?_toList,getElem!_pos z'.cells (j % e.size) om,Array.getElem?_eq_getElem om]
  rw [sK (by rw [u6,size_madeCells]; omega),sK (by rw [hfl]; omega)]
 have hrep:∀ k,aW g e ((List.replicate k z.cells.toList).flatten) (List.replicate k y):=fun k=>by
  induction k with
  | zero=>rfl
  | succ k ih=>exact ⟨z.cells.toList,_,by rw [zR,zV],hR,ih⟩
 rw [ajL k] at r2;have h:=h (some ⟨W.heap.size,0,none⟩) k _ (hrep k);simp only [List.length_replicate] at h;refine h _ W' (hA.put (gy hn) _) ⟨fun x hx=>?_,?_,fun b o hb=>?_,fun x hx b hb=>?_,fun x hx b hb=>?_,hW.below.grown r3 (by simp)⟩
 ·rcases eO.1 hx with rfl | hx
  ·exact r2
  exact gI (hW.f_ x hx) fun b hb=>r3.block b (iR (hW.f_ x hx) hb) (by simp)
 ·show (List.filterMap cu.block (_::H)).Nodup;simp only [xy,cu.block,Value.ownBlock,zS];refine ⟨fun hc=>?_,hW.nodup⟩;obtain ⟨x,hx,hb⟩:=List.mem_filterMap.1 hc;exact absurd (iR (hW.f_ x hx) hb) (sI _)
 ·rw [r3.block b (lt_of_some (hW.ghost b o hb)) (by simp)]; exact hW.ghost b o hb
 ·rcases eO.1 hx with rfl | hx
  ·simp only [cu.block,Value.ownBlock,jB] at hb;subst hb
   cases hc:g W.heap.size with
   | none=>rfl
   | some o=>exact absurd (lt_of_some (hW.ghost _ _ hc)) (sI _)
  exact hW.apart x hx b hb
 rcases eO.1 hx with rfl | hx
 ·simp only [cu.block,Value.ownBlock,jB] at hb;subst hb;exact .inl hW.below.size
 exact hW.mine x hx b hb
end
end Go.iT
namespace Go.iT
open Go.RowKit (Below)
section
variable {P:Program} {pos:String} {after:Array Edge} {gd:Option (Nat×Bool)} {n:nQ} {w0:Base} {m:Env} {H:List cu} {g:ak} {R:Act→World→Prop} {Q:Exit→Act→World→Prop} {ops:Array Oper}

theorem dm.pushB {W W':World} {v:Value} {E:TypeId} {k:Nat} {xs:List Value} (h:dm w0 H g W) (hg:W.grownBy W' none) (hb:v.ownBlock=some W.heap.size) (hok:(cu.lV v E k xs).ok W'):dm w0 (.lV v E k xs::H) g W':=by
 have hnew:g W.heap.size=none:=by
  cases hc:g W.heap.size with
  | none=>rfl
  | some o=>exact absurd (lt_of_some (h.ghost _ _ hc)) (sI _)
 have hsame:∀ k,k<W.heap.size→W'.heap[k]? = W.heap[k]?:=fun k hk=>hg.block k hk (by simp);refine ⟨fun e he=>?_,?_,fun b o hk=>?_,fun e he b hk=>?_,fun e he b hk=>?_,h.below.grown hg (by simp)⟩
 ·rcases eO.1 he with rfl | he
  ·exact hok
  exact gI (h.f_ e he) fun b hk=>hsame b (iR (h.f_ e he) hk)
 ·rw [xy,show (cu.lV v E k xs).block=_ from hb];refine zS.2 ⟨fun hc=>?_,h.nodup⟩;obtain ⟨e,he,hk⟩:=List.mem_filterMap.1 hc;exact absurd (iR (h.f_ e he) hk) (sI _)
 ·rw [hsame b (lt_of_some (h.ghost b o hk))]; exact h.ghost b o hk
 ·rcases eO.1 he with rfl | he
  ·rw [show (cu.lV v E k xs).block=_ from hb] at hk
   injection hk with hk; subst hk; exact hnew
  exact h.apart e he b hk
 rcases eO.1 he with rfl | he
 ·rw [show (cu.lV v E k xs).block=_ from hb] at hk
  injection hk with hk; subst hk; exact .inl h.below.size
 exact h.mine e he b hk

theorem GG:∀ (l:List Int),aW g (.int .u8) (l.map (Value.int .u8)) l
 | []=>rfl
 | x::l=>⟨[.int .u8 x],l.map (Value.int .u8),rfl,rfl,GG l⟩

theorem Ay {K:Act→World→Prop} {d:Nat} {src dt E ty:TypeId} {x:Operand} {s:Bs} (hx:val m x=some (.string ⟨⟨s⟩⟩)) (hs:P.underlying src=some .string) (hd:P.underlying dt=some (.slice E)) (he:P.underlying E=some (.int .u8))
  (hn:Nat.ble (d+1) n=true)
  (h:∀ a c xs,aW g (.int .u8) xs (intsOf s)→Ok n w0 ((d,.slice a (intsOf s).length c)::m) (.lV (.slice a (intsOf s).length c) E (intsOf s).length xs::H) g K):af P K Q ⟨some d,.convert src dt x,ty,pos,after,gd⟩ n w0 m H g:=fun ac W hA hW=>by
 show Oper.upon P _ ac _ Q (Sem.run P (execOp ac.eval _) W);have hrun:=run_bytes_of_string (P:=P) W src dt E ⟨⟨s⟩⟩ hs hd he;have hlen:(intsOf s).length=s.length:=iA s
 have e1:(execOp ac.eval ⟨some d,.convert src dt x,ty,pos,after,gd⟩).run P W=.ok (.value (.slice (some ⟨W.heap.size,0,none⟩) (intsOf s).length (grownCap W s.length 0 E)))
   (W.drew.alloc (.cells (bytesRow ⟨⟨s⟩⟩ (grownCap W s.length 0 E)) E ((bytesRow ⟨⟨s⟩⟩ (grownCap W s.length 0 E)).size,(bytesRow ⟨⟨s⟩⟩ (grownCap W s.length 0 E)).size+1))):=by
  rw [hlen];simp only [execOp,hA.eval hx,Sem.run_bind];rw [hrun]; rfl
 rw [e1,Oper.upon_value]
 have hh:∀ o,(W.drew.alloc o).heap[W.heap.size]? = some o:=fun o=>by
  show (W.heap.push o)[W.heap.size]? = _;simp
 refine h _ _ _ (GG _) _ _ (hA.put (gy hn) _) (hW.pushB ⟨rfl,rfl,rfl,by show W.heap.size≤(W.heap.push _).size; simp,fun k hk _=>by
   show (W.heap.push _)[k]? = _
   rw [Array.getElem?_push,aQ om]⟩ rfl ⟨_,_,_,rfl,hh _,?_,by simp,?_⟩)
 ·rw [hlen]; simp [bytesRow,Array.size_append]
 rw [hlen];simp [bytesRow,intsOf,Function.comp_def]

theorem GN {W:World} {a:Option Addr} {E:TypeId} {k c:Nat} {xs:List Value} (h:(cu.lV (.slice a k c) E k xs).ok W):∃ b cur,a=some ⟨b,0,none⟩∧W.heap[b]? = some (.cells cur E (cur.size,cur.size+1))∧k≤cur.size∧xs.length=k∧cur.toList.take k=xs:=by
 obtain ⟨b,cap,cur,he,r⟩:=h
 injection he with h1 h2 h3
 exact ⟨b,cur,h1,r⟩
theorem vv {W:World} {a:Option Addr} {E:TypeId} {k c:Nat} {xs:List Value} (h:(cu.lV (.slice a k c) E k xs).ok W) {j:Nat} {v:Value} (hj:xs[j]? = some v):a=some ⟨sN a,0,none⟩∧W.cell? ⟨sN a,j,none⟩=some v:=by
 obtain ⟨b,cur,rfl,hh,hk,hx,ht⟩:=GN h;refine ⟨rfl,?_⟩;show W.cell? ⟨b,j,none⟩=_;rw [← ht,List.getElem?_take] at hj
 split at hj
 ·simpa [World.cell?,hh] using hj
 cases hj

theorem MQ {dst:Option Nat} {T E ty:TypeId} {x ix:Operand} {a:Option Addr} {l:List Int} {c:Nat} {xs:List Value} {k:IntKind} {q:Int} {el:Int}
  (i:Nat) (hi:H[i]? = some (.lV (.slice a l.length c) E l.length xs)) (hR:aW g (.int .u8) xs l) (hx:val m x=some (.slice a l.length c)) (hix:val m ix=some (.int k q)) (hu:P.underlying T=some (.slice E)) (hs:(P.info? E).map (·.size)=some 1)
  (h0:0≤q) (he:l[q.toNat]? = some el) :
  (∀ j v,[Value.int .u8 el][j]? = some v→xs[q.toNat * 1+j]? = some v)∧Yields P n w0 m H g ⟨dst,.indexAddr T x ix,ty,pos,after,gd⟩ (.pointer (some ⟨sN a,q.toNat * 1,none⟩)):=by
 have hxs:=kS hR
 have hc':∀ j v,[Value.int .u8 el][j]? = some v→xs[q.toNat * 1+j]? = some v:=fun j v hj=>by
  cases j with
  | zero=>simp at hj; subst hj; rw [hxs]; simp [he]
  | succ j=>simp at hj
 refine ⟨hc',fun ac W hA hW=>?_⟩;have hlt:q.toNat<l.length:=(jh.1 he).1;have hb:0≤q∧q<(l.length:Int):=⟨h0,om⟩;obtain ⟨ha,-⟩:=vv (hW.f_ _ (iq hi)) (hc' 0 _ rfl)
 cases gW:P.info? E with
 | none=>simp [gW] at hs
 | some inf =>
  simp only [gW,mP,jB] at hs;rw [ha] at hx;simp only [execOp,hA.eval hx,hA.eval hix];simp [Instr.indexAt,asIntOf,underlying,hu,hb,sizeOf,typeInfo,gW,hs,Addr.add_plain,sN,go_sem]

theorem qd {K:Act→World→Prop} {d:Nat} {T E ty:TypeId} {x ix:Operand} {a:Option Addr} {l:List Int} {c:Nat} {xs:List Value} {k:IntKind} {q:Int} {el:Int}
  (i:Nat) (hi:H[i]? = some (.lV (.slice a l.length c) E l.length xs)) (hR:aW g (.int .u8) xs l) (hx:val m x=some (.slice a l.length c)) (hix:val m ix=some (.int k q)) (hu:P.underlying T=some (.slice E)) (hs:(P.info? E).map (·.size)=some 1)
  (h0:0≤q) (he:l[q.toNat]? = some el) (hn:Nat.ble (d+1) n=true)
  (h:(∀ j v,[Value.int .u8 el][j]? = some v→xs[q.toNat * 1+j]? = some v)→Ok n w0 ((d,.pointer (some ⟨sN a,q.toNat * 1,none⟩))::m) H g K) :
  af P K Q ⟨some d,.indexAddr T x ix,ty,pos,after,gd⟩ n w0 m H g:=by
 obtain ⟨hc,hy⟩:=MQ (P:=P) (n:=n) (w0:=w0) (dst:=some d) (ty:=ty) (pos:=pos) (after:=after) (gd:=gd) i hi hR hx hix hu hs h0 he;exact af.s hy rfl hn (h hc)

theorem yV {dst:Option Nat} {T E ty:TypeId} {x:Operand} {k:Nat} {a:Option Addr} {c o:Nat} {xs cells:List Value} {v:Value} {d:TypeDesc}
  (i j:Nat) (hi:H[i]? = some (.lV (.slice a k c) E k xs)) (hc:∀ j v,cells[j]? = some v→xs[o+j]? = some v) (hx:val m x=some (.pointer (some ⟨sN a,o+j,none⟩))) (hu:P.underlying T=some d) (hd:d.isRow=false) (hv:cells[j]? = some v) :
  Yields P n w0 m H g ⟨dst,.load T x,ty,pos,after,gd⟩ v:=fun ac W hA hW=>by
 obtain ⟨-,hcell⟩:=vv (hW.f_ _ (iq hi)) (hc j v hv);simp only [execOp,Instr.loadAt,hA.eval hx,Sem.run_bind,Instr.sureAddr];simp [jX W (sN a) (o+j) T v d hcell hu hd]

theorem Aw {K:Act→World→Prop} {T E ty:TypeId} {x y:Operand} {a:Option Addr} {l:List Int} {c q:Nat} {xs:List Value} {xG:Int} {el:Int}
  (i:Nat) (hi:H[i]? = some (.lV (.slice a l.length c) E l.length xs)) (hR:aW g (.int .u8) xs l) (hc:∀ j v,[Value.int .u8 el][j]? = some v→xs[q * 1+j]? = some v)
  (hx:val m x=some (.pointer (some ⟨sN a,q * 1,none⟩))) (hy:val m y=some (.int .u8 xG)) (hk:(P.info? T).map (·.size)=some 1)
  (h:∀ y5,aW g (.int .u8) y5 (l.set q xG)→Ok n w0 m (H.set i (.lV (.slice a (l.set q xG).length c) E (l.set q xG).length y5)) g K) :
  af P K Q ⟨none,.store T x y,ty,pos,after,gd⟩ n w0 m H g:=fun ac W hA hW=>by
 have hok:=hW.f_ _ (iq hi);obtain ⟨b,cur,rfl,hh,hkc,hxl,ht⟩:=GN hok
 have hq:q<l.length:=by
  have:=(jh.1 (hc 0 _ rfl)).1;omega
 have hxs:=kS hR;show Oper.upon P _ ac _ Q (Sem.run P (execOp ac.eval _) W);have hset:(l.set q xG).length=l.length:=kP ..
 have hfz:W.frozen? ⟨b,q,none⟩=false:=by
  simp [World.frozen?,hh];omega
 have e1:(execOp ac.eval ⟨none,.store T x y,ty,pos,after,gd⟩).run P W=.ok .skip (W.setCell ⟨b,q,none⟩ (.int .u8 xG)):=by
  cases gW:P.info? T with
  | none=>simp [gW] at hk
  | some inf =>
   simp only [gW,mP,jB] at hk
   have hx':val m x=some (.pointer (some ⟨b,q,none⟩)):=by rw [hx]; simp [sN]
   have hcell:W.cell? ⟨b,q,none⟩=some (.int .u8 el):=by
    have:=(vv hok (hc 0 _ rfl)).2;simpa [sN] using this
   simp only [execOp,Instr.storeAt,hA.eval hx',hA.eval hy,Instr.sureAddr,storeVar,sizeOf,typeInfo];simp [gW,hk,Value.cells]
   have hrun:=run_storeCells_cells (P:=P) b q [Value.int .u8 xG] 0 W (fun j hj=>by
    have:j=0:=by simpa using hj
    subst this
    simp [hcell]) (fun j hj=>by
    have:j=0:=by simpa using hj
    subst this
    simpa using hfz) (fun v hv=>by simp at hv; subst hv; rfl)
   rw [hrun];rfl
 rw [e1,Oper.upon_skip]
 refine h (xs.set q (.int .u8 xG)) (by rw [hxs,← List.map_set]; exact GG _) _ _ (hA.skip none (fun d hd=>by cases hd) undef) (hW.grown (e':=.lV (.slice (some ⟨b,0,none⟩) (l.set q xG).length c) E (l.set q xG).length (xs.set q (.int .u8 xG))) hi
   ⟨rfl,rfl,rfl,by simp [World.setCell],fun k' _ hk'=>Below.heap_setCell _ _ _ _ (fun e=>hk' (by simp [cu.block,Value.ownBlock,e]))⟩ ?_ (.inl rfl))
 rw [hset];refine ⟨b,c,cur.setIfInBounds q (.int .u8 xG),rfl,?_,by simpa using hkc,by simpa using hxl,?_⟩
 ·simp [World.setCell,xD,hh]
 rw [← ht];simp [List.take_set]

theorem wB {dst:Option Nat} {src dt E ty T:TypeId} {x:Operand} {a:Option Addr} {l:List Int} {c:Nat} {xs:List Value} (i:Nat) (hx:val m x=some (.slice a l.length c)) {r:Bs} (hr:bytesOf l=r)
  (hi:H[i]? = some (.lV (.slice a l.length c) T l.length xs)) (hR:aW g (.int .u8) xs l) (hs:P.underlying src=some (.slice E)) (hd:P.underlying dt=some .string) (he:P.underlying E=some (.int .u8)):Yields P n w0 m H g ⟨dst,.convert src dt x,ty,pos,after,gd⟩ (.string ⟨⟨r⟩⟩):=fun ac W hA hW=>by
 subst hr;have hok:=hW.f_ _ (iq hi)
 have:=Gg (P:=P) (W:=W) (c:=c) hs hd he (a:=a) (l:=l) (fun ha=>by
  obtain ⟨b,cur,h1,_⟩:=GN hok
  rw [h1] at ha; cases ha) (fun ad ha j v hj=>by
  rw [← kS hR] at hj;obtain ⟨h1,h2⟩:=vv hok hj
  rw [uN (ha.symm.trans h1),Addr.add_plain,sH]; exact h2)
 simp only [execOp,hA.eval hx,Sem.run_bind,this,Result.andThen]; rfl
end
end Go.iT
