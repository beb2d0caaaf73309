/-
 Parts of a slice of the call's own,as the library's functions on slices cut them: what lies behind a part is not forgotten. No program in sight.
-/
import Derived.Test.YtdapgmigogpdcaaGreatDoorDob
import Derived.Lib.SliceRun
import Derived.Laws.CopyRow
import Derived.Lib.AppendZerosOnto
import Derived.Lib.Overlaps
import Derived.Laws.Externs
import Derived.Test.YtdapgmigogpdcaaGreatDoorOwn
import Derived.Test.YtdapgmigogpdcaaGreatDoorByt
import Derived.LoopN
set_option linter.unusedVariables false
namespace Go.iT
open Go.RowKit (Below)
def vwA (a:Option Addr) (size lo c:Nat):Option Addr:=if c=lo then a else a.map (·.add (lo * size))
def vw (a:Option Addr) (size c lo hi:Nat):Value:=.slice (vwA a size lo c) (hi - lo) (c - lo)
theorem BQ {b size lo c:Nat}:∃ o,vwA (some ⟨b,0,none⟩) size lo c=some ⟨b,o,none⟩∧(lo<c→o=lo * size):=by
 unfold vwA
 split
 ·exact ⟨0,rfl,fun h=>om⟩
 exact ⟨lo * size,by simp [Addr.add_plain],fun _=>rfl⟩
theorem uj {W:World} {E:TypeId} {size n c:Nat} {a:Option Addr} {xs:List Value} (h:W.ownsRow 0 E size (.slice a n c) n xs) :
  (a=none∧n=0∧c=0)∨∃ b cur,a=some ⟨b,0,none⟩∧W.heap[b]? = some (.cells cur E)∧n≤c∧c≤maxLen∧cur.size=c * size∧cur.toList.take (n * size)=xs:=by
 rcases h.2 with ⟨he,hl⟩ | ⟨b,cap,cur,he,hB,hh,hcap,hmax,hsize,htake⟩
 ·simp only [Value.slice.injEq] at he;exact .inl ⟨he.1,hl,he.2.2⟩
 simp only [Value.slice.injEq,true_and] at he;obtain ⟨rfl,rfl⟩:=he;exact .inr ⟨b,cur,rfl,hh,hcap,hmax,hsize,htake⟩
section
variable {P:Program} {pos:String} {after:Array Edge} {gd:Option (Nat×Bool)} {n:nQ} {w0:Base} {m:Env} {H:List cu} {g:ak} {R:Act→World→Prop} {Q:Exit→Act→World→Prop} {ops:Array Oper}
theorem zZ {a:Option Addr} {E:TypeId} {size k c:Nat} {xs:List Value} (i:Nat) (hi:H[i]? = some (.own (.slice a k c) E size k xs)) (h:k≤c→c≤maxLen→Ok n w0 m H g R):Ok n w0 m H g R:=fun ac W hA hW=>by
 have hok:W.ownsRow 0 E size (.slice a k c) k xs:=hW.f_ _ (iq hi)
 rcases uj hok with ⟨-,h1,h2⟩ | ⟨b,cur,-,-,h1,h2,-⟩
 ·exact h om (by rw [h2]; exact ik _) ac W hA hW
 exact h h1 h2 ac W hA hW
theorem y_ {dst:Option Nat} {T E ty:TypeId} {x:Operand} {lo hi:Option Operand} {a:Option Addr} {k c size:Nat} {l h:Int}
  (hx:val m x=some (.slice a k c)) (hu:P.underlying T=some (.slice E)) (hs:(P.info? E).map (·.size)=some size)
  (hl:(∃ o k,lo=some o∧val m o=some (.int k l))∨(lo=none∧l=0)) (hh:(∃ o k,hi=some o∧val m o=some (.int k h))∨(hi=none∧h=(k:Int)))
  (h0:0≤l) (h1:l≤h) (h2:h≤(c:Int)):Yields P n w0 m H g ⟨dst,.slice T x lo hi none,ty,pos,after,gd⟩ (vw a size c l.toNat h.toNat):=fun ac W hA hW=>by
 cases gW:P.info? E with
 | none=>simp [gW] at hs
 | some inf =>
  simp only [gW,mP,jB] at hs;unfold vw vwA
  rcases hl with ⟨o,q,rfl,ho⟩ | ⟨rfl,rfl⟩ <;> rcases hh with ⟨o',q',rfl,ho'⟩ | ⟨rfl,rfl⟩
  ·simp only [execOp,hA.eval hx,hA.eval ho,hA.eval ho',mP,Option.map_none];simp [Instr.sliceAt,underlying,hu,Instr.slice,Instr.sliceBounds,Instr.sliceBound,asIntOf,h0,show 0≤h by omega,h2,show ((h.toNat:Nat):Int)=h by omega,h1,sizeOf,typeInfo,gW,hs,go_sem]
  ·simp only [execOp,hA.eval hx,hA.eval ho,mP,Option.map_none];simp [Instr.sliceAt,underlying,hu,Instr.slice,Instr.sliceBounds,Instr.sliceBound,asIntOf,h0,h1,sizeOf,typeInfo,gW,hs,go_sem]
  ·simp only [execOp,hA.eval hx,hA.eval ho',mP,Option.map_none];simp [Instr.sliceAt,underlying,hu,Instr.slice,Instr.sliceBounds,Instr.sliceBound,asIntOf,h1,h2,sizeOf,typeInfo,gW,go_sem]
  simp only [execOp,hA.eval hx,Option.map_none];simp [Instr.sliceAt,underlying,hu,Instr.slice,Instr.sliceBounds,sizeOf,typeInfo,gW,go_sem]
theorem dm.ahN {W:World} {E:TypeId} {size k k' b c:Nat} {xs:List Value} {cur:Array Value} (hW:dm w0 H g W) {i:Nat} (hi:H[i]? = some (.own (.slice (some ⟨b,0,none⟩) k c) E size k xs))
  (hh:W.heap[b]? = some (.cells cur E)) (hmax:c≤maxLen) (ys:List Value) (hy:ys.length=c * size) (hk:k'≤c) :
  dm w0 (H.set i (.own (.slice (some ⟨b,0,none⟩) k' c) E size k' (ys.take (k' * size)))) g (W.setRow b ys.toArray):=by
 refine hW.grown hi ⟨rfl,rfl,rfl,by simp [World.setRow],fun q _ hq=>setRow_other W b q _ (fun e=>hq (by simp [cu.block,Value.ownBlock,e]))⟩ ?_ (.inl rfl);refine ⟨?_,.inr ⟨b,c,_,rfl,ik _,setRow_heap W b cur _ E _ hh,hk,hmax,by simpa using hy,by simp⟩⟩;rw [gG,hy];exact og (qG _ hk)
theorem aW.drop {e:Ty}:∀ {l:List e.den} {xs:List Value} (k:Nat),aW g e xs l→aW g e (xs.drop (k * e.size)) (l.drop k)
 | l,xs,0,h=>by rw [xm,gm,gm]; exact h
 | [],xs,k+1,h=>by rw [show xs=[] from h]; simp; rfl
 | x::l,xs,k+1,⟨c,r,h1,h2,h3⟩=>by
  rw [h1,uQ,Nat.add_comm,← h2.size,List.drop_length_add_append,Eg];rw [h2.size];exact aW.drop k h3
theorem aW.app {e:Ty}:∀ {l l':List e.den} {xs ys:List Value},aW g e xs l→aW g e ys l'→aW g e (xs++ys) (l++l')
 | [],_,_,_,h,h'=>by rw [show _=[] from h]; exact h'
 | x::l,l',_,ys,⟨c,r,h1,h2,h3⟩,h'=>⟨c,r++ys,by rw [h1,dM],h2,aW.app h3 h'⟩
theorem aW.len {e:Ty}:∀ {l:List e.den} {xs:List Value},aW g e xs l→xs.length=l.length * e.size
 | [],_,h=>by rw [show _=[] from h]; simp
 | x::l,_,⟨c,r,h1,h2,h3⟩=>by rw [h1,bD,h2.size,aW.len h3,di,uQ]; omega
theorem LC {e:Ty} {cs:List Value} {y:e.den} (h:bE g e cs y):∀ k,aW g e (List.replicate k cs).flatten (List.replicate k y)
 | 0=>rfl
 | k+1=>⟨cs,_,by rw [zR,zV],h,LC h k⟩
theorem qi (z:Array Value):∀ k,(Builtin.zeroCells z k).toList=(List.replicate k z.toList).flatten:=fun k=>by
 have hfl:∀ k,(List.replicate k z.toList).flatten.length=k * z.size:=fun k=>by simp
 apply zX;intro j
 by_cases hj:j<k * z.size
 ·have hpos:0<z.size:=Nat.pos_of_ne_zero fun h=>by rw [h,Nat.mul_zero] at hj; omega
  have key:∀ (k j:Nat),j<k * z.size→(List.replicate k z.toList).flatten[j]? = z.toList[j % z.size]?:=by
   intro k
   induction k with
   | zero=>intro j hj; simp at hj
   | succ k ih =>
    intro j hj;rw [zR,zV,List.getElem?_append]
    split
    ·rename_i hlt; rw [u6] at hlt; rw [Nat.mod_eq_of_lt hlt]
    rename_i hge
    rw [u6] at hge ⊢;rw [ih (j - z.size) (by rw [uQ] at hj; omega)];rw [Nat.mod_eq_sub_mod (by omega:z.size≤j)]
  rw [key k j hj];have hmod:=Nat.mod_lt j hpos;simp only [Builtin.zeroCells,Array.toList_map,Array.toList_range,iZ];rw [List.getElem?_range hj];simp only [mP];rw [Array.getElem?_toList,getElem!_pos z (j % z.size) hmod,Array.getElem?_eq_getElem hmod]
 rw [sK (by simp only [Builtin.zeroCells,Array.toList_map,Array.toList_range,iY,List.length_range]; omega),sK (by rw [hfl]; omega)]
theorem Ki (cur vs:List Value) (o q:Nat) (h:o+vs.length≤q) (hq:q≤cur.length):(cur.take o++vs++cur.drop (o+vs.length)).take q=(cur.take q).take o++vs++(cur.take q).drop (o+vs.length):=by
 have h1:(cur.take o).length=o:=by rw [gG]; omega
 rw [List.take_append,jU (by rw [bD,h1]; omega),bD,h1,xq,og om,List.drop_take]
def BD {α:Type} (l:List α) (lo:Nat) (y:α):List α:=l.take lo++List.replicate (l.length - lo) y
theorem yM {α:Type} (l:List α) (lo:Nat) (y:α) (h:lo≤l.length):l.length=(BD l lo y).length:=by unfold BD; simp; omega
theorem wF {K:Act→World→Prop} {T E ty:TypeId} {x:Operand} {e:Ty} {a:Option Addr} {l:List e.den} {c lo hi:Nat} {xs:List Value} {y:e.den} {z:Value}
  (i:Nat) (hx:val m x=some (vw a e.size c lo hi)) (hi':H[i]? = some (.own (.slice a l.length c) E e.size l.length xs)) (hR:aW g e xs l) (hu:P.underlying T=some (.slice E))
  (hz:(P.info? E).bind (·.zero)=some z) (h1:z.cells.toList.all (·.oneCell')=true) (hRz:bE g e z.cells.toList y) (hlo:lo≤hi) (hhi:hi=l.length)
  (hk:∀ y5,aW g e y5 (BD l lo y)→Ok n w0 m (H.set i (.own (.slice a (BD l lo y).length c) E e.size (BD l lo y).length y5)) g K) :
  af P K Q ⟨none,.call { callee:=.builtin .clear,args:=#[x],argTypes:=#[T] },ty,pos,after,gd⟩ n w0 m H g:=fun ac W hA hW=>by
 subst hhi;have hok:W.ownsRow 0 E e.size (.slice a l.length c) l.length xs:=hW.f_ _ (iq hi');have hlen:(BD l lo y).length=l.length:=(yM l lo y hlo).symm;show Oper.upon P _ ac _ Q (Sem.run P (execOp ac.eval _) W);rw [hlen] at hk
 by_cases h0:l.length=lo
 ·have e1:(execOp ac.eval ⟨none,.call { callee:=.builtin .clear,args:=#[x],argTypes:=#[T] },ty,pos,after,gd⟩).run P W=.ok (.value (.tuple #[])) W:=by
   simp only [execOp,resolve,invoke,builtin,uS,jL,qH,hA.eval hx,vw,h0,Nat.sub_self]
   cases vwA a e.size lo c <;> simp [Builtin.clear_,underlying,hu,go_sem]
  rw [e1,Oper.upon_value];have hk:=hk xs (by unfold BD; rw [h0,Nat.sub_self,List.replicate_zero,gK,← h0,iX]; exact hR)
  have hset:H.set i (.own (.slice a l.length c) E e.size l.length xs)=H:=by
   obtain ⟨hil,he⟩:=jh.1 hi';rw [← he,List.set_getElem_self]
  rw [hset] at hk;exact hk _ W (hA.skip none (fun d hd=>by cases hd) _) hW
 rcases uj hok with ⟨-,h2,-⟩ | ⟨b,cur,rfl,hh,hc,hmax,hsz,htake⟩
 ·omega
 obtain ⟨o,ho,ho2⟩:=BQ (b:=b) (size:=e.size) (lo:=lo) (c:=c);have ho2:=ho2 om;subst ho2;obtain ⟨q,hq⟩:∃ q,l.length - lo=q+1:=⟨l.length - lo - 1,om⟩
 have hzl:z.cells.size=e.size:=by rw [← u6]; exact hRz.size
 have hvl:(Builtin.zeroCells z.cells (l.length - lo)).toList.length=(l.length - lo) * e.size:=by rw [qi]; simp [hzl]
 have hmul:lo * e.size+(l.length - lo) * e.size=l.length * e.size:=by rw [← Nat.add_mul]; congr 1; omega
 have hle:l.length * e.size≤c * e.size:=qG _ hc
 have hrun:=run_storeCells_at (P:=P) b (lo * e.size) E (Builtin.zeroCells z.cells (l.length - lo)).toList 0 cur W hh (by rw [hvl,hsz]; omega) (fun u hu=>by
  rw [qi] at hu;obtain ⟨s,hs,hu⟩:=List.mem_flatten.1 hu;rw [List.eq_of_mem_replicate hs] at hu
  exact l7.1 h1 u hu)
 simp only [nC] at hrun;obtain ⟨inf,gW,hz⟩:=uP.1 hz
 have e1:(execOp ac.eval ⟨none,.call { callee:=.builtin .clear,args:=#[x],argTypes:=#[T] },ty,pos,after,gd⟩).run P W=.ok (.value (.tuple #[])) (W.setRow b (cur.toList.take (lo * e.size)++(Builtin.zeroCells z.cells (l.length - lo)).toList++cur.toList.drop (lo * e.size+(Builtin.zeroCells z.cells (l.length - lo)).toList.length)).toArray):=by
  simp only [execOp,resolve,invoke,builtin,uS,jL,qH,hA.eval hx,vw,ho]
  have hv:∀ w,(zeroValue E).run P w=.ok z w:=fun w=>by simp [zeroValue,typeInfo,gW,hz,go_sem]
  have hcl:(Builtin.clear_ #[T] ty #[.slice (some ⟨b,lo * e.size,none⟩) (l.length - lo) (c - lo)]).run P W=.ok (.tuple #[]) (W.setRow b (cur.toList.take (lo * e.size)++(Builtin.zeroCells z.cells (l.length - lo)).toList++cur.toList.drop (lo * e.size+(Builtin.zeroCells z.cells (l.length - lo)).toList.length)).toArray):=by
   rw [hq] at hrun ⊢;simp only [Builtin.clear_,run_underlying hu,hv,hrun,Sem.run_bind,Result.andThen,Sem.run_pure,List.getElem?_toArray,List.getElem?_cons_zero]
  simp only [Sem.run_bind,hcl,Result.andThen_ok,Sem.run_pure]
 rw [e1,Oper.upon_value]
 have hcl:cur.toList.length=c * e.size:=by rw [u6]; exact hsz
 refine hk _ ?_ _ _ (hA.skip none (fun d hd=>by cases hd) _) (hW.ahN (k':=l.length) hi' hh hmax _ (by simp only [bD,gG,gJ,hcl,hvl]; omega) hc);rw [Ki _ _ _ _ (by rw [hvl]; omega) (by rw [hcl]; exact hle),htake,hvl,eD (by rw [hR.len]; omega),gK,qi];unfold BD;exact aW.app (aW.take lo hR) (LC hRz _)
end
end Go.iT
namespace Go.iT
open Go.RowKit (Below)
section
variable {P:Program} {pos:String} {after:Array Edge} {gd:Option (Nat×Bool)} {n:nQ} {w0:Base} {m:Env} {H:List cu} {g:ak} {R:Act→World→Prop} {Q:Exit→Act→World→Prop} {ops:Array Oper}
theorem Qv {T E ty:TypeId} {inf:TypeInfo} {size:Nat} (hu:P.underlying T=some (.slice E)) (h1:P.info? E=some inf) (h2:inf.size=size) {a a':Addr} {k1 c1 k2 c2 k:Nat} {W W':World} {cs:List Value}
  (hmin:Nat.min k2 k1=k) (hload:(loadCells a' (k * size)).run P W=.ok cs.toArray W) (hst:k≠0→(storeCells a cs 0).run P W=.ok () W') (h0:k=0→cs=[]∧W'=W) :
  (Builtin.copy_ #[T,T] ty #[.slice (some a) k1 c1,.slice (some a') k2 c2]).run P W=.ok (goInt k) W':=by
 have hst':(storeCells a cs 0).run P W=.ok () W':=by
  by_cases hk:k=0
  ·obtain ⟨rfl,rfl⟩:=h0 hk; rfl
  exact hst hk
 simp [Builtin.copy_,run_underlying hu,Builtin.lenOf,Builtin.firstCells,sizeOf,typeInfo,h1,h2,hmin,hload,hst']
theorem Qw {W:World} {T E ty:TypeId} {inf:TypeInfo} (hu:P.underlying T=some (.slice E)) (h1:P.info? E=some inf) {a a':Option Addr} {k1 c1 k2 c2:Nat} (hmin:Nat.min k2 k1=0) :
  (Builtin.copy_ #[T,T] ty #[.slice a k1 c1,.slice a' k2 c2]).run P W=.ok (goInt (0:Nat)) W:=by
 have hl:∀ (x:Addr),(loadCells x 0).run P W=.ok #[] W:=fun x=>by simpa using run_loadCells_list (P:=P) W x [] (by simp)
 cases a <;> cases a' <;> simp [Builtin.copy_,run_underlying hu,Builtin.lenOf,Builtin.firstCells,sizeOf,typeInfo,h1,hmin,storeCells,hl]
theorem Yields.apart {dst:Option Nat} {T B E ty:TypeId} {x y:Operand} {a a2:Option Addr} {k k2 c c2 size lo hi:Nat} {f:FuncId} {fn:Func} {xs y5:List Value}
  (i j:Nat) (hij:Nat.beq i j=false) (hi':H[i]? = some (.own (.slice a k c) E size k xs)) (hj:H[j]? = some (.own (.slice a2 k2 c2) E size k2 y5)) (hx:val m x=some (.slice a k c)) (hy:val m y=some (vw a2 size c2 lo hi)) (hk:0<k) (hk2:0<k2)
  (hu : P.underlying T = some (.slice E)) (hs : (P.info? E).map (·.size) = some size) (h1 : Nat.ble 1 size = true) (hf : P.funcs[f]? = some fn) (hname : (fn.name == "runtime.NumGoroutine") = false) (hb : fn.body.isNone = true) (hne : Extern.findNext fn = none) (he : Extern.find fn = some (Extern.SlicesOverlaps.overlaps #[T, T] #[B])) :
  Yields P n w0 m H g ⟨dst,.call { callee:=.value (.func f),args:=#[x,y],argTypes:=#[T,T] },ty,pos,after,gd⟩ (.bool false):=fun ac W hA hW=>by
 obtain ⟨inf,h3,h4⟩:=gP.1 hs;have h1:=gy h1;have hok:W.ownsRow 0 E size (.slice a k c) k xs:=hW.f_ _ (iq hi');have hok2:W.ownsRow 0 E size (.slice a2 k2 c2) k2 y5:=hW.f_ _ (iq hj)
 rcases uj hok with ⟨rfl,h8,h9⟩ | ⟨b,cur,rfl,hh,hc,hmax,hsz,htake⟩
 ·omega
 rcases uj hok2 with ⟨rfl,h8,h9⟩ | ⟨b2,ak3,rfl,hh2,hc2,as3,hsz2,an0⟩
 ·omega
 obtain ⟨o,ho,ho1⟩:=BQ (b:=b2) (size:=size) (lo:=lo) (c:=c2)
 have hbb:b≠b2:=fun e=>by
  subst e
  have hne:i≠j:=fun h=>by rw [h,Nat.beq_refl] at hij; cases hij
  exact eQ hW.nodup hi' hj (fun h=>hne h) rfl rfl
 have hcs:cur.size≠0:=by rw [hsz]; exact Nat.pos_iff_ne_zero.1 (Nat.mul_pos om om)
 have hcs2:ak3.size≠0:=by rw [hsz2]; exact Nat.pos_iff_ne_zero.1 (Nat.mul_pos om om)
 have hov:=Lib.run_overlaps_apart (P:=P) W T B E hu size (fun w=>by simp [sizeOf,typeInfo,h3,h4]) ⟨b,0,none⟩ ⟨b2,o,none⟩ k c (hi - lo) (c2 - lo) hbb E E cur.size ak3.size (by simp [World.shape?,hh]) (by simp [World.shape?,hh2]) hcs2 (by simp [World.frozen?,hh]) (by simp [World.frozen?,hh])
 have hcall:(callFunc f #[.slice (some ⟨b,0,none⟩) k c,.slice (some ⟨b2,o,none⟩) (hi - lo) (c2 - lo)]).run P W=.ok (.value (.bool false)) W:=by
  rw [run_callFunc_extern hf hname hb hne he,hov]; rfl
 have hx':ac.eval x=.slice (some ⟨b,0,none⟩) k c:=hA.eval hx
 have hy':ac.eval y=.slice (some ⟨b2,o,none⟩) (hi - lo) (c2 - lo):=by rw [hA.eval hy,vw,ho]
 have hF:ac.eval (.func f)=.func (.func f) #[] #[]:=rfl;simp only [execOp,resolve,uS,jL,qH,hx',hy',hF];simp [Deferred.ofValue,invoke,hcall]
end
end Go.iT
namespace Go.iT
open Go.RowKit (Below)
theorem dm.setCell {w0:Base} {g:ak} {W:World} {b i:Nat} {cs:Array Value} {T:TypeId} (h:dm w0 [.blk b (.cells cs T)] g W) (v:Value):dm w0 [.blk b (.cells (cs.setIfInBounds i v) T)] g (W.setCell ⟨b,i,none⟩ v):=by
 have hb:W.heap[b]? = some (.cells cs T):=h.f_ (.blk b (.cells cs T)) (by simp)
 have e:W.setCell ⟨b,i,none⟩ v=W.setRow b (cs.setIfInBounds i v):=by
  show { W with heap:=_ } = { W with heap:=_ };congr 1;apply Array.ext_getElem?;intro k;simp only [xD]
  split
  ·rename_i hk
   have hk:b=k:=hk;subst hk;rw [hb]; rfl
  rfl
 rw [e];exact h.setRow (i:=0) rfl
theorem dm.drew {w0:Base} {H:List cu} {g:ak} {W:World} (h:dm w0 H g W):dm w0 H g W.drew:=⟨fun e he=>gI (h.f_ e he) fun _ _=>rfl,h.nodup,h.ghost,h.apart,h.mine,⟨h.below.os,h.below.tape,h.below.output,h.below.size,h.below.block⟩⟩
theorem dm.Mi {W W1 W2:World} {L:List Nat} {H:List cu} {g:ak} (h:dm ⟨W1,L⟩ H g W2) (hk:Kept ⟨W,L⟩ W1):dm ⟨W,L⟩ H g W2 :=
 ⟨h.f_,h.nodup,h.ghost,h.apart,fun e he b hb=>(h.mine e he b hb).imp_left (fun h1=>gQ hk.size h1),⟨h.below.os.trans hk.os,h.below.tape.trans hk.tape,h.below.output.trans hk.output,gQ hk.size h.below.size,
  fun k hlt hl=>(h.below.block k (Nat.lt_of_lt_of_le hlt hk.size) hl).trans (hk.block k hlt hl)⟩⟩
theorem bf.Mi {W W1:World} {L:List Nat} {g g':ak} (h:bf ⟨W1,L⟩ g g') (hk:Kept ⟨W,L⟩ W1):bf ⟨W,L⟩ g g':=⟨h.1,fun b o hb=>(h.2 b o hb).imp_right fun h1=>h1.imp_left fun h2=>gQ hk.size h2⟩
theorem dm.ai7 {w0:Base} {g:ak} {W:World} {b:Nat} {o:Obj} (h:dm w0 [.blk b o] g W):dm ⟨W,[b]⟩ [.blk b o] g W :=
 ⟨h.f_,h.nodup,h.ghost,h.apart,fun e he k hk=>by
  rcases il.1 he with rfl
  cases hk; exact .inr (il.2 rfl),Kept.refl _⟩
theorem dm.cellAt {w0:Base} {g:ak} {W:World} {b:Nat} {cs:Array Value} {T:TypeId} (h:dm w0 [.blk b (.cells cs T)] g W) {i:Nat} {v:Value} (hv:cs[i]? = some v):W.cell? ⟨b,i,none⟩=some v:=by
 have hb:W.heap[b]? = some (.cells cs T):=h.f_ (.blk b (.cells cs T)) (by simp);show (match W.heap[b]? with | some (.cells c _ _)=>if (none:Option _).isSome then none else c[i]? | _=>none)=_;rw [hb]; exact hv
theorem dm.LY {w0:Base} {g:ak} {W:World} {b:Nat} {cs:Array Value} {T:TypeId} (h:dm w0 [.blk b (.cells cs T)] g W) (i:Nat):W.frozen? ⟨b,i,none⟩=false:=by
 have hb:W.heap[b]? = some (.cells cs T):=h.f_ (.blk b (.cells cs T)) (by simp);show (match W.heap[b]? with | some (.cells _ _ (lo,hi))=>decide (lo≤i)&&decide (i<hi) | _=>false)=_;rw [hb]; simp
end Go.iT
namespace Go.iT
open Go.RowKit (Below)
section
variable {P:Program} {n:nQ} {w0:Base} {m:Env} {H:List cu} {g:ak} {R:Act→World→Prop} {Q:Exit→Act→World→Prop}
theorem Ok.rounds {c:Code} (k:Nat) (h:Ok n w0 m H g (Code.rounds P c Q k)):Ok n w0 m H g ((Code.loop c).wp P Q):=fun a W hA hW=>wp_loop_rounds k (h a W hA hW)
theorem j_ {c:Code} {k:Nat} (h:Ok n w0 m H g (c.wp P (Exit.then (Code.rounds P c Q k) Q))):Ok n w0 m H g (Code.rounds P c Q (k+1)):=h
theorem Rm {b:Nat} {cs:Array Value} {T:TypeId} {H':List cu} (i:Nat) (hi:H[i]? = some (.blk b (.cells cs T))) (hH:H.eraseIdx i=H')
  (h:∀ g',bf w0 g g'→g' b=some (.cells cs T)→Ok n w0 m H' g' R):Ok n w0 m H g R:=fun ac W hA hW=>by
 have hmem:=iq hi;have hok:W.heap[b]? = some (.cells cs T):=hW.f_ _ hmem;have hgb:g b=none:=hW.apart _ hmem b rfl;have hd:=hW.drop i hH
 have hnot:∀ x ∈ H',∀ k,x.block=some k→k≠b:=fun x hx k hk hc=>by
  subst hc;subst hH;obtain ⟨j,hj⟩:=sJ.1 hx;rw [List.getElem?_eraseIdx] at hj
  split at hj
  ·rename_i hlt
   exact eQ hW.nodup hj hi om hk rfl
  rename_i hlt
  exact eQ hW.nodup hj hi om hk rfl
 have hle:lG g (fun k=>if k=b then some (.cells cs T) else g k):=fun k o hk=>by
  show (if k=b then _ else _)=_
  split
  ·rename_i e; subst e; rw [hgb] at hk; cases hk
  exact hk
 refine h _ ⟨hle,fun k o hk=>?_⟩ (bB rfl) ac W hA ⟨hd.f_,hd.nodup,fun k o hk=>?_,fun x hx k hk=>?_,hd.mine,hd.below⟩
 ·have hk:(if k=b then some _ else g k)=some o:=hk
  split at hk
  ·rename_i e; subst e; exact .inr (hW.mine _ hmem k rfl)
  exact .inl hk
 ·have hk:(if k=b then some _ else g k)=some o:=hk
  by_cases e:k=b
  ·rw [bB e] at hk; injection hk with hk; subst hk; subst e; exact hok
  rw [aQ e] at hk; exact hW.ghost k o hk
 show (if k=b then _ else _)=_;rw [aQ (hnot x hx k hk)];exact hd.apart x hx k hk
theorem Jk {K:Act→World→Prop} {d:Nat} {T E ty:TypeId} {x1 x2:Operand} {pos:String} {after:Array Edge} {gd:Option (Nat×Bool)} {e:Ty} {kl kc:IntKind} (bytes k:Nat) (hx:val m x1=some (.int kl 0)) (hx2:val m x2=some (.int kc (k:Int)))
  (hu:P.underlying T=some (.slice E)) (gW:(P.info? E).map (fun i=>(i.size,i.bytes,i.zero.isSome))=some (e.size,bytes,true)) (hcap:(Nat.ble k maxLen&&Nat.ble (bytes * k) 281474976710656)=true) (hn:Nat.ble (d+1) n=true)
  (h:∀ b,Ok n w0 ((d,.slice (some ⟨b,0,none⟩) ([]:List e.den).length k)::m) (.own (.slice (some ⟨b,0,none⟩) ([]:List e.den).length k) E e.size ([]:List e.den).length []::H) g K) :
  af P K Q ⟨some d,.makeSlice T x1 x2,ty,pos,after,gd⟩ n w0 m H g:=fun ac W hA hW=>by
 rw [aH] at hcap;obtain ⟨inf,i1,i2⟩:=gP.1 gW;simp only [qF] at i2;obtain ⟨i3,i4,i5⟩:=i2;obtain ⟨z',i6⟩:=Option.isSome_iff_exists.1 i5;obtain ⟨W',r1,r2,r3⟩:=run_make_own (P:=P) W 0 T E inf z' e.size hu i1 i6 i3 kl kc k (by rw [i4]; exact gy hcap.2) (gy hcap.1) (ik _);show Oper.upon P _ ac _ Q (Sem.run P (execOp ac.eval _) W)
 have e1:(execOp ac.eval ⟨some d,.makeSlice T x1 x2,ty,pos,after,gd⟩).run P W=.ok (.value (.slice (some ⟨W.heap.size,0,none⟩) 0 k)) W':=by
  simp only [execOp,hA.eval hx,hA.eval hx2,Sem.run_bind,r1,Result.andThen]; rfl
 rw [e1,Oper.upon_value];have h:=h W.heap.size;refine h _ W' (hA.put (gy hn) _) ⟨fun x hx=>?_,?_,fun b o hb=>?_,fun x hx b hb=>?_,fun x hx b hb=>?_,hW.below.grown r3 (by simp)⟩
 ·rcases eO.1 hx with rfl | hx
  ·exact r2
  exact gI (hW.f_ x hx) fun b hb=>r3.block b (iR (hW.f_ x hx) hb) (by simp)
 ·show (List.filterMap cu.block (_::H)).Nodup;simp only [xy,cu.block,Value.ownBlock,zS];refine ⟨fun hc=>?_,hW.nodup⟩;obtain ⟨x,hx,hb⟩:=List.mem_filterMap.1 hc;exact absurd (iR (hW.f_ x hx) hb) (sI _)
 ·rw [r3.block b (lt_of_some (hW.ghost b o hb)) (by simp)]; exact hW.ghost b o hb
 ·rcases eO.1 hx with rfl | hx
  ·simp only [cu.block,Value.ownBlock,jB] at hb;subst hb
   cases hc:g W.heap.size with
   | none=>rfl
   | some o=>exact absurd (lt_of_some (hW.ghost _ _ hc)) (sI _)
  exact hW.apart x hx b hb
 rcases eO.1 hx with rfl | hx
 ·simp only [cu.block,Value.ownBlock,jB] at hb;subst hb;exact .inl hW.below.size
 exact hW.mine x hx b hb
end
end Go.iT
