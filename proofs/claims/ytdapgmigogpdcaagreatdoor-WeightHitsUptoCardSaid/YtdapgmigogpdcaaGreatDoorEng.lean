/-
  A small engine for walks: states of a frame as lists of known slots,of the memory as a list of the call's own blocks and a set of blocks that stay as they are. No program in sight.
-/
import Derived.WalkKit
import Derived.ProofKit
import Derived.Deep.Quiet
import Derived.StillTail
import Derived.Deep.LoopGhost
import Derived.Deep.MidRow
import Derived.Laws.CopyRow
import Derived.KernelRfl
namespace Go.iT
open Go.RowKit (Below)
set_option linter.unusedVariables false

abbrev Env:=List (Nat×Value)

def get:Env→Nat→Option Value
  | [],_=>none
  | (k,v)::m,t=>match Nat.beq k t with | true=>some v | false=>get m t

def val (m:Env):Operand→Option Value
  | .tmp t=>get m t
  | .const v=>some v
  | .global g=>some (.pointer (some ⟨g,0,none⟩))
  | .func f=>some (.func (.func f) #[] #[])

def JR (m:Env) (x:Operand):Value:=(val m x).getD undef

structure nQ where
  size:Nat
  ds:List Deferred
instance:Coe nQ Nat:=⟨nQ.size⟩
instance (k:Nat):OfNat nQ k:=⟨⟨k,[]⟩⟩
structure fC (n:nQ) (m:Env) (a:Act):Prop where
  size:a.tmps.size=n
  defers:a.defers=n.ds
  env:∀ t v,get m t=some v→a.tmps[t]? = some v

theorem fC.eval {n:nQ} {m:Env} {a:Act} (h:fC n m a) {x:Operand} {v:Value} (hx:val m x=some v):a.eval x=v:=by
  cases x with
  | tmp t=>simp only [Act.eval,Array.getD_eq_getD_getElem?,h.env t v hx,Option.getD_some]
  | const u=>simp only [val,Option.some.injEq] at hx; exact hx
  | global g=>simp only [val,Option.some.injEq] at hx; exact hx
  | func f=>simp only [val,Option.some.injEq] at hx; exact hx

theorem fC.put {n:nQ} {m:Env} {a:Act} (h:fC n m a) {d:Nat} (hd:d<n) (v:Value):fC n ((d,v)::m) (a.put (some d) v):=by
  refine ⟨by simp [Act.put,h.size],by simp [Act.put,h.defers],fun t u ht=>?_⟩;simp only [get] at ht;simp only [Act.put]
  split at ht
  · rename_i e
    have e':d=t:=Nat.eq_of_beq_eq_true e;subst e'
    injection ht with ht
    subst ht;simp [h.size,hd]
  rename_i e
  have e':d≠t:=Nat.ne_of_beq_eq_false e;rw [Array.getElem?_setIfInBounds_ne e'];exact h.env t u ht

theorem fC.skip {n:nQ} {m:Env} {a:Act} (h:fC n m a) (dst:Option Nat) (hd:∀ d,dst=some d→get m d=none) (v:Value):fC n m (a.put dst v):=by
  cases dst with
  | none=>exact h
  | some d =>
    refine ⟨by simp [Act.put,h.size],by simp [Act.put,h.defers],fun t u ht=>?_⟩
    have e':d≠t:=fun e=>by subst e; rw [hd d rfl] at ht; cases ht
    simp only [Act.put];rw [Array.getElem?_setIfInBounds_ne e'];exact h.env t u ht

def keep (ks:List Nat) (m:Env):Env:=ks.filterMap fun k=>(get m k).map fun v=>(k,v)

theorem DR (m:Env):∀ (ks:List Nat) (t:Nat) (v:Value),get (keep ks m) t=some v→get m t=some v
  | [],_,_,h=>by simp [keep,get] at h
  | k::ks,t,v,h=>by
    unfold keep at h;rw [List.filterMap_cons] at h
    cases hk:get m k with
    | none=>simp only [hk,Option.map_none] at h; exact DR m ks t v h
    | some u =>
      simp only [hk,Option.map_some,get] at h
      split at h
      · rename_i e
        rw [← Nat.eq_of_beq_eq_true e,hk]; exact h
      · exact DR m ks t v h

theorem fC.sub {n:nQ} {m m':Env} {a:Act} (h:fC n m a) (e:keep (m'.map (·.1)) m=m'):fC n m' a :=
  ⟨h.size,h.defers,fun t v ht=>h.env t v (DR m _ t v (by rw [e]; exact ht))⟩

theorem BK {n:nQ} {m:Env} {a:Act} (h:fC n m a) {ops:Array Oper} {j d:Nat} {b:Bool} (hj:(ops[j]?).bind (·.dst)=some d) (hb:get m d=some (.bool b)) :
    yielded ops a.tmps j=some b:=by
  simp [yielded,hj,h.env _ _ hb]

inductive cu where
  | blk (b:Nat) (o:Obj)
  | own (v:Value) (T:TypeId) (size n:Nat) (xs:List Value)
  | qJ (b:Nat) (T:TypeId) (v:Value)
  | lV (v:Value) (T:TypeId) (n:Nat) (xs:List Value)

def cu.block:cu→Option Nat
  | .blk b _=>some b
  | .qJ b _ _=>some b
  | .lV v ..=>v.ownBlock
  | .own v ..=>v.ownBlock

def cu.ok (W:World):cu→Prop
  | .blk b o=>W.heap[b]? = some o
  | .own v T size n xs=>W.ownsRow 0 T size v n xs
  | .qJ b T v=>∃ p,(p=.pointer none∨p=.pointer (some ⟨b,0,none⟩))∧W.heap[b]? = some (.cells #[p,v] T)
  | .lV v T n xs=>∃ b cap cur,v=.slice (some ⟨b,0,none⟩) n cap∧W.heap[b]? = some (.cells cur T (cur.size,cur.size+1))∧n≤cur.size∧xs.length=n∧cur.toList.take n=xs

structure Base where
  w:World
  Kv:List Nat

structure Kept (w0:Base) (W:World):Prop where
  os:W.os=w0.w.os
  tape:W.tape=w0.w.tape
  output:W.output=w0.w.output
  size:w0.w.heap.size≤W.heap.size
  block:∀ k,k<w0.w.heap.size→k ∉ w0.Kv→W.heap[k]? = w0.w.heap[k]?

theorem Kept.refl (w0:Base):Kept w0 w0.w:=⟨rfl,rfl,rfl,Nat.le_refl _,fun _ _ _=>rfl⟩
theorem Kept.below {w0:Base} {W W':World} (h:Kept w0 W) (hb:Below W.heap.size W W'):Kept w0 W' :=
  ⟨hb.os.trans h.os,hb.tape.trans h.tape,hb.output.trans h.output,Nat.le_trans h.size hb.size,fun k hk hl=>(hb.block k (Nat.lt_of_lt_of_le hk h.size)).trans (h.block k hk hl)⟩
theorem Kept.lone {W W':World} (h:Kept ⟨W,[]⟩ W'):Below W.heap.size W W':=⟨h.os,h.tape,h.output,h.size,fun k hk=>h.block k hk (by simp)⟩
theorem Kept.grown {w0:Base} {W W':World} {row:Option Nat} (h:Kept w0 W) (hg:W.grownBy W' row) (hr:∀ k,row=some k→w0.w.heap.size≤k∨k ∈ w0.Kv):Kept w0 W' :=
  ⟨hg.os.trans h.os,hg.tape.trans h.tape,hg.output.trans h.output,Nat.le_trans h.size hg.size,fun k hk hl =>
    (hg.block k (Nat.lt_of_lt_of_le hk h.size) fun e=>(hr k e.symm).elim (fun h1=>absurd hk (Nat.not_lt.2 h1)) hl).trans (h.block k hk hl)⟩

abbrev ak:=Nat→Option Obj
def Gh (g:ak) (W:World):Prop:=∀ b o,g b=some o→W.heap[b]? = some o

structure dm (w0:Base) (H:List cu) (g:ak) (W:World):Prop where
  f_:∀ e ∈ H,e.ok W
  nodup:(H.filterMap cu.block).Nodup
  ghost:Gh g W
  apart:∀ e ∈ H,∀ b,e.block=some b→g b=none
  mine:∀ e ∈ H,∀ b,e.block=some b→w0.w.heap.size≤b∨b ∈ w0.Kv
  below:Kept w0 W

theorem lt_of_some {W:World} {b:Nat} {o:Obj} (h:W.heap[b]? = some o):b<W.heap.size:=(Array.getElem?_eq_some_iff.1 h).1

theorem Gh.of_same {g:ak} {W W':World} (h:Gh g W) (hb:Below W.heap.size W W'):Gh g W':=fun b o hg=>by
  have:=h b o hg;rw [hb.block b (lt_of_some this)]; exact this

theorem iR {W:World} {e:cu} (h:e.ok W) {b:Nat} (hb:e.block=some b):b<W.heap.size:=by
  cases e with
  | blk b' o=>simp only [cu.block,Option.some.injEq] at hb; subst hb; exact lt_of_some h
  | qJ b' T v=>obtain ⟨p,_,h⟩:=h; simp only [cu.block,Option.some.injEq] at hb; subst hb; exact lt_of_some h
  | lV v T n xs=>obtain ⟨q,cap,cur,rfl,hh,_⟩:=h; simp only [cu.block,Value.ownBlock,Option.some.injEq] at hb; subst hb; exact lt_of_some hh
  | own v T size n xs =>
    obtain ⟨_,h2⟩:=h
    rcases h2 with ⟨rfl,_⟩ | ⟨q,cap,cur,rfl,_,hh,_⟩
    · simp [cu.block,Value.ownBlock] at hb
    · simp only [cu.block,Value.ownBlock,Option.some.injEq] at hb; subst hb; exact lt_of_some hh

theorem gI {W W':World} {e:cu} (h:e.ok W) (hs:∀ b,e.block=some b→W'.heap[b]? = W.heap[b]?):e.ok W':=by
  cases e with
  | blk b o=>exact (hs b rfl).trans h
  | qJ b T v=>obtain ⟨p,hp,h⟩:=h; exact ⟨p,hp,(hs b rfl).trans h⟩
  | lV v T n xs=>obtain ⟨q,cap,cur,rfl,hh,r⟩:=h; exact ⟨q,cap,cur,rfl,(hs q rfl).trans hh,r⟩
  | own v T size n xs =>
    obtain ⟨h1,h2⟩:=h;refine ⟨h1,?_⟩
    rcases h2 with h2 | ⟨q,cap,cur,rfl,hq,hh,r⟩
    · exact .inl h2
    · exact .inr ⟨q,cap,cur,rfl,hq,(hs q rfl).trans hh,r⟩

theorem dm.of_below {w0:Base} {H:List cu} {g:ak} {W W':World} (h:dm w0 H g W) (hb:Below W.heap.size W W'):dm w0 H g W' :=
  ⟨fun e he=>gI (h.f_ e he) fun b hb'=>hb.block b (iR (h.f_ e he) hb'),h.nodup,h.ghost.of_same hb,h.apart,h.mine,
   h.below.below hb⟩

theorem dm.start (W:World) (g:ak) (h:Gh g W):dm ⟨W,[]⟩ [] g W :=
  ⟨by simp,by simp,h,by simp,by simp,Kept.refl _⟩

theorem dm.push {w0:Base} {H:List cu} {g:ak} {W:World} (h:dm w0 H g W) (o:Obj):dm w0 (.blk W.heap.size o::H) g (W.alloc o):=by
  have hb:Below W.heap.size W (W.alloc o):=(Below.refl _ _).alloc (Nat.le_refl _) o;have h':=h.of_below hb;refine ⟨fun e he=>?_,?_,h'.ghost,fun e he b M9=>?_,fun e he b M9=>?_,h'.below⟩
  · rcases List.mem_cons.1 he with rfl | he
    · show (W.heap.push o)[W.heap.size]? = _; simp
    · exact h'.f_ e he
  · simp only [List.filterMap_cons,cu.block,List.nodup_cons]
    refine ⟨fun hm=>?_,h.nodup⟩;obtain ⟨e,he,M9⟩:=List.mem_filterMap.1 hm;exact absurd (iR (h.f_ e he) M9) (Nat.lt_irrefl _)
  · rcases List.mem_cons.1 he with rfl | he
    · simp only [cu.block,Option.some.injEq] at M9
      subst M9
      cases hg:g W.heap.size with
      | none=>rfl
      | some o'=>exact absurd (lt_of_some (h.ghost _ _ hg)) (Nat.lt_irrefl _)
    · exact h.apart e he b M9
  rcases List.mem_cons.1 he with rfl | he
  · simp only [cu.block,Option.some.injEq] at M9
    subst M9;exact .inl h.below.size
  · exact h.mine e he b M9

theorem eQ {H:List cu} {i j:Nat} {e e':cu} {b:Nat} {C:Prop} (h:(H.filterMap cu.block).Nodup) (hi:H[i]? = some e) (hj:H[j]? = some e') (hne:¬ i=j) (hb:e.block=some b) (hb':e'.block=some b):C:=by
  induction H generalizing i j with
  | nil=>simp at hi
  | cons x H ih =>
    rw [List.filterMap_cons] at h
    have ajr:(H.filterMap cu.block).Nodup:=by
      split at h
      · exact h
      · exact (List.nodup_cons.1 h).2
    cases i with
    | zero =>
      cases j with
      | zero=>exact absurd rfl hne
      | succ j =>
        simp only [List.getElem?_cons_zero,Option.some.injEq] at hi;subst hi;simp only [List.getElem?_cons_succ] at hj;rw [hb] at h;exact absurd (List.mem_filterMap.2 ⟨e',List.mem_of_getElem? hj,hb'⟩) (List.nodup_cons.1 h).1
    | succ i =>
      simp only [List.getElem?_cons_succ] at hi
      cases j with
      | zero =>
        simp only [List.getElem?_cons_zero,Option.some.injEq] at hj;subst hj;rw [hb'] at h;exact absurd (List.mem_filterMap.2 ⟨e,List.mem_of_getElem? hi,hb⟩) (List.nodup_cons.1 h).1
      | succ j =>
        simp only [List.getElem?_cons_succ] at hj;exact ih ajr hi hj (fun e=>hne (by rw [e]))

def Ok (n:nQ) (w0:Base) (m:Env) (H:List cu) (g:ak) (R:Act→World→Prop):Prop :=
  ∀ a W,fC n m a→dm w0 H g W→R a W

section
variable {P:Program} {pos:String} {after:Array Edge} {gd:Option (Nat×Bool)} {n:nQ} {w0:Base} {m:Env} {H:List cu} {g:ak} {R:Act→World→Prop} {Q:Exit→Act→World→Prop} {ops:Array Oper}

theorem Ok.sub {m':Env} (e:keep (m'.map (·.1)) m=m') (h:Ok n w0 m' H g R):Ok n w0 m H g R :=
  fun a W hA hW=>h a W (hA.sub e) hW

theorem dm.tail {e:cu} {W:World} (h:dm w0 (e::H) g W):dm w0 H g W :=
  ⟨fun x hx=>h.f_ x (List.mem_cons_of_mem _ hx),by
    have:=h.nodup;rw [List.filterMap_cons] at this
    split at this
    · exact this
    · exact (List.nodup_cons.1 this).2,h.ghost,fun x hx=>h.apart x (List.mem_cons_of_mem _ hx),fun x hx=>h.mine x (List.mem_cons_of_mem _ hx),h.below⟩

theorem dm.sub {H':List cu} {W:World} (h:dm w0 H g W) (hs:List.Sublist H' H):dm w0 H' g W :=
  ⟨fun x hx=>h.f_ x (hs.subset hx),h.nodup.sublist (hs.filterMap _),h.ghost,fun x hx=>h.apart x (hs.subset hx),fun x hx=>h.mine x (hs.subset hx),h.below⟩

theorem Ok.k (h:Ok n w0 m H g (Q .normal)):Ok n w0 m H g (Code.skip.wp P Q):=fun a W hA hW=>wp_skip (h a W hA hW)
theorem Ok.ret (h:Ok n w0 m H g (Q .ret)):Ok n w0 m H g (Code.ret.wp P Q):=fun a W hA hW=>wp_ret (h a W hA hW)
theorem fw {id:Nat} (h:Ok n w0 m H g (Q (.exit id))):Ok n w0 m H g ((Code.exit id).wp P Q):=fun a W hA hW=>wp_exit (h a W hA hW)
theorem aF {x y:Code} (h:Ok n w0 m H g (x.wp P (Exit.then (y.wp P Q) Q))):Ok n w0 m H g ((Code.seq x y).wp P Q) :=
  fun a W hA hW=>wp_seq (h a W hA hW)
theorem Ok.cut {x y:Code} (I:Act→World→Prop) (h:Ok n w0 m H g (x.wp P (Exit.then I Q))) (h2:∀ a W,I a W→y.wp P Q a W):Ok n w0 m H g ((Code.seq x y).wp P Q) :=
  fun a W hA hW=>wp_seq (wp_mono (h a W hA hW) fun e a W hq=>by cases e <;> first | exact h2 _ _ hq | exact hq)
theorem Ok.block {id:Nat} {c:Code} (h:Ok n w0 m H g (c.wp P (Exit.inBlock id Q))):Ok n w0 m H g ((Code.block id c).wp P Q) :=
  fun a W hA hW=>wp_block (h a W hA hW)
theorem Ok.c {c:Operand} {x y:Code} {b:Bool} (hc:val m c=some (.bool b)) (ht:b=true→Ok n w0 m H g (x.wp P Q)) (hf:b=false→Ok n w0 m H g (y.wp P Q)) :
    Ok n w0 m H g ((Code.cond c x y).wp P Q) :=
  fun a W hA hW=>wp_cond_split (hA.eval hc) (fun h=>ht h a W hA hW) (fun h=>hf h a W hA hW)
theorem aR {id:Nat} {l:List Oper} (h:Ok n w0 m H g (wpList P l.toArray Q l)):Ok n w0 m H g ((Code.region id l.toArray false).wp P Q) :=
  fun a W hA hW=>wp_region_lit (h a W hA hW)
theorem bV (h:Ok n w0 m H g (Q .normal)):Ok n w0 m H g (wpList P ops Q []):=fun a W hA hW=>wpList_nil (h a W hA hW)

theorem fQ {c:Code} (J:Nat→Act→World→Prop) (k0:Nat) (h0:Ok n w0 m H g (J k0))
    (hr:∀ k a W,J k a W→c.wp P (Exit.then (fun a W=>∃ k',k'<k∧J k' a W) Q) a W):Ok n w0 m H g ((Code.loop c).wp P Q) :=
  fun a W hA hW=>wp_loop_ghost J k0 (h0 a W hA hW) hr

def Yields (P:Program) (n:nQ) (w0:Base) (m:Env) (H:List cu) (g:ak) (o:Oper) (v:Value):Prop :=
  ∀ a W,fC n m a→dm w0 H g W→(execOp a.eval o).run P W=.ok (.value v) W

def bC (P:Program) (f:FuncId) (args:Array Value) (g:ak) (v:Value):Prop :=
  ∀ W,Gh g W→Calls P f args W fun e W'=>e=.returned v∧Below W.heap.size W W'

def af (P:Program) (K:Act→World→Prop) (Q:Exit→Act→World→Prop) (o:Oper) (n:nQ) (w0:Base) (m:Env) (H:List cu) (g:ak):Prop :=
  Ok n w0 m H g fun a W=>o.wp P a W K Q

theorem Ok.op {o:Oper} {rest:List Oper} (hg:o.guard=none) (h:af P (wpList P ops Q rest) Q o n w0 m H g):Ok n w0 m H g (wpList P ops Q (o::rest)):=fun a W hA hW=>by
  unfold wpList;rw [if_pos (by simp [Region.wanted,hg])];exact .inl (h a W hA hW)

theorem af.s {o:Oper} {K:Act→World→Prop} {d:Nat} {v:Value} (hy:Yields P n w0 m H g o v) (hd:o.dst=some d) (hn:Nat.ble (d+1) n=true)
    (h:Ok n w0 ((d,v)::m) H g K):af P K Q o n w0 m H g:=fun a W hA hW=>by
  show Oper.upon P o a _ Q (Sem.run P (execOp a.eval o) W);rw [hy a W hA hW,Oper.upon_value,hd];exact h _ W (hA.put (Nat.le_of_ble_eq_true hn) v) hW

theorem af.call {o:Oper} {K:Act→World→Prop} {d:Nat} {f:FuncId} {args:Array Value} {v:Value} (hk:∀ a W,fC n m a→(execOp a.eval o).run P W=.ok (.enter f args) W)
    (hc:bC P f args g v) (hd:o.dst=some d) (hn:Nat.ble (d+1) n=true)
    (h:Ok n w0 ((d,v)::m) H g K):af P K Q o n w0 m H g:=fun a W hA hW=>by
  show Oper.upon P o a _ Q (Sem.run P (execOp a.eval o) W);rw [hk a W hA,Oper.upon_enter];refine (hc W hW.ghost).mono fun e W' ⟨he,hb⟩=>?_;subst he;simp only [hd];exact h _ W' (hA.put (Nat.le_of_ble_eq_true hn) v) (hW.of_below hb)

def known (m:Env) (o:Oper):Bool :=
  (match o.op with | .select _ _=>false | _=>true)&&o.op.operands.toList.all fun x=>(val m x).isSome

theorem jS {o:Oper} {a:Act} (hA:fC n m a) (hk:known m o=true):execOp a.eval o=execOp (JR m) o:=by
  unfold known at hk;rw [Bool.and_eq_true] at hk;refine execOp_congr o (fun cs b e=>by rw [e] at hk; simp at hk) fun x hx=>?_;have:=List.all_eq_true.1 hk.2 x (by simpa using hx);obtain ⟨v,hv⟩:=Option.isSome_iff_exists.1 this;rw [hA.eval hv,JR,hv,Option.getD_some]

theorem Yields.pure {o:Oper} {v:Value} (hk:known m o=true) (hr:∀ W,(execOp (JR m) o).run P W=.ok (.value v) W):Yields P n w0 m H g o v :=
  fun a W hA _=>by rw [jS hA hk]; exact hr W

theorem enters {o:Oper} {f:FuncId} {args:Array Value} (hk:known m o=true) (hr:∀ W,(execOp (JR m) o).run P W=.ok (.enter f args) W) :
    ∀ a W,fC n m a→(execOp a.eval o).run P W=.ok (.enter f args) W:=fun a W hA=>by rw [jS hA hk]; exact hr W

def quick {α:Type} (P:Program):Sem α→Option α
  | .pure a=>some a
  | .program k=>quick P (k P)
  | _=>none

theorem qW {α:Type} {s:Sem α} {a:α} (h:quick P s=some a) (W:World):s.run P W=.ok a W:=by
  induction s generalizing a with
  | pure b=>simp only [quick,Option.some.injEq] at h; subst h; rfl
  | program k ih=>exact ih P h
  | _=>simp [quick] at h

def wants (ops:Array Oper) (m:Env) (o:Oper):Option Bool :=
  match o.guard with
  | none=>some true
  | some (j,w) =>
    match ((ops[j]?).bind (·.dst)).bind (get m) with
    | some (.bool b)=>some (b==w)
    | some (.tuple _)=>some false
    | _=>none

theorem l8 {a:Act} {o:Oper} {b:Bool} (hA:fC n m a) (h:wants ops m o=some b):Region.wanted o (yielded ops a.tmps)=b:=by
  unfold wants at h;unfold Region.wanted
  cases hg:o.guard with
  | none=>simp only [hg,Option.some.injEq] at h; exact h
  | some jw =>
    obtain ⟨j,w⟩:=jw;simp only [hg] at h
    split at h
    · rename_i c hc
      simp only [Option.some.injEq] at h;subst h;obtain ⟨d,hd,hb⟩:=Option.bind_eq_some_iff.1 hc;show (yielded ops a.tmps j==some w)=_;rw [BK hA hd hb]
      cases c <;> cases w <;> rfl
    · rename_i c hc
      simp only [Option.some.injEq] at h;subst h;obtain ⟨d,hd,hb⟩:=Option.bind_eq_some_iff.1 hc;show (yielded ops a.tmps j==some w)=_;simp [yielded,hd,hA.env _ _ hb]
    · cases h

def iL (P:Program) (n:nQ) (ops:Array Oper):Nat→Env→List Oper→Option Env
  | 0,m,_=>some m
  | _+1,_,[]=>none
  | k+1,m,o::l =>
    match wants ops m o with
    | none=>none
    | some false=>match o.dst with | some d=>(match Nat.ble (d+1) n with | true=>iL P n ops k ((d,undef)::m) l | false=>none) | none=>none
    | some true =>
      match o.dst,known m o,quick P (execOp (JR m) o) with
      | some d,true,some (.value v)=>match Nat.ble (d+1) n with | true=>iL P n ops k ((d,v)::m) l | false=>none
      | _,_,_=>none

theorem Rn (k:Nat):∀ (m:Env) (l:List Oper) (m':Env),iL P n ops k m l=some m'→Ok n w0 m' H g (wpList P ops Q (l.drop k))→Ok n w0 m H g (wpList P ops Q l):=by
  induction k with
  | zero=>intro m l m' h hr; simp only [iL,Option.some.injEq] at h; subst h; simpa using hr
  | succ k ih =>
    intro m l m' h hr
    cases l with
    | nil=>simp [iL] at h
    | cons o l =>
      simp only [iL] at h;simp only [List.drop_succ_cons] at hr
      split at h
      · cases h
      · rename_i hw
        split at h
        · rename_i d hd
          split at h
          · rename_i hn
            have:=ih _ l m' h hr;intro a W hA hW;unfold wpList;rw [if_neg (by rw [l8 hA hw]; simp),hd];exact this _ W (hA.put (Nat.le_of_ble_eq_true hn) undef) hW
          · cases h
        · cases h
      rename_i hw
      split at h
      · rename_i d v hd hk hq
        split at h
        · rename_i hn
          have:=ih _ l m' h hr;intro a W hA hW;unfold wpList;rw [if_pos (by rw [l8 hA hw])];refine .inl ?_;unfold Oper.wp;rw [jS hA hk,qW hq W,Oper.upon_value,hd];exact this _ W (hA.put (Nat.le_of_ble_eq_true hn) v) hW
        · cases h
      · cases h

theorem av {l:List Oper} (k:Nat) (m':Env) (h:(iL P n ops k m l).map (keep (m'.map (·.1)))=some m') (hr:Ok n w0 m' H g (wpList P ops Q (l.drop k))):Ok n w0 m H g (wpList P ops Q l):=by
  obtain ⟨m1,h1,h2⟩:=Option.map_eq_some_iff.1 h;exact Rn k m l m1 h1 (Ok.sub h2 hr)

theorem Ok.a (d:Nat) (c:Bool) (hd:get m d=some (.bool c)) (ht:c=true→Ok n w0 ((d,.bool true)::m) H g R) (hf:c=false→Ok n w0 ((d,.bool false)::m) H g R):Ok n w0 m H g R:=by
  have key:∀ b,c=b→Ok n w0 ((d,.bool b)::m) H g R→Ok n w0 m H g R:=fun b e h a W hA hW=>by
    subst e;refine h a W ⟨hA.size,hA.defers,fun t v ht=>?_⟩ hW;simp only [get] at ht
    split at ht
    · rename_i e
      rw [← Nat.eq_of_beq_eq_true e]
      injection ht with ht
      subst ht;exact hA.env d _ hd
    · exact hA.env t v ht
  cases c
  · exact key false rfl (hf rfl)
  · exact key true rfl (ht rfl)

theorem Ok.quiet {id:Nat} {l:List Oper} (hm:P.follows .mixedOrders=true) (hB:Region.lexB .any l.toArray=true)
    (h:∀ a,fC n m a→wpQuiet P l.toArray (dm w0 H g) (fun a'=>∀ W,dm w0 H g W→Q .normal a' W) l a):Ok n w0 m H g ((Code.region id l.toArray true).wp P Q) :=
  fun a W hA hW=>wp_region_quiet hm hB (hW.of_below ((Below.refl _ _).drew)) (by simpa using h a hA)

def rz (P:Program) (w:World) (v:Value):Result Next→Prop
  | .ok (.value u) w'=>w'=w∧u=v
  | .ok .skip w'=>w'=w∧v=undef
  | .ok (.enter f args) w'=>w'=w∧Calls P f args w (fun e w''=>e=.returned v∧Below w.heap.size w w'')
  | _=>False

theorem rz.quiet {w:World} {v:Value} {C:World→Prop} (hC:∀ w'',Below w.heap.size w w''→C w''):∀ {r:Result Next},rz P w v r→Oper.quietUpon P C w v r
  | .ok x w',h=>by
    cases x <;> simp only [rz,Oper.quietUpon] at h ⊢
    case value=>exact h
    case skip=>exact h
    case enter=>exact ⟨h.1,h.2.mono fun e w'' ⟨h1,h2⟩=>⟨h1,hC _ h2⟩⟩
  | .halt _ _,h=>(h:False).elim

abbrev Y5 (n:nQ) (m:Env) (K:Act→Prop):Prop:=∀ a,fC n m a→K a

def fK (P:Program) (K:Act→Prop) (o:Oper) (n:nQ) (w0:Base) (m:Env) (H:List cu) (g:ak):Prop :=
  ∀ a,fC n m a→∃ v,(∀ W,dm w0 H g W→rz P W v ((execOp a.eval o).run P W))∧K (a.put o.dst v)

def dS (P:Program) (ops:Array Oper) (n:nQ) (w0:Base) (m:Env) (H:List cu) (g:ak) (R:Act→World→Prop) (l:List Oper):Prop :=
  Y5 n m (wpQuiet P ops (dm w0 H g) (fun a'=>∀ W,dm w0 H g W→R a' W) l)

theorem gq {id:Nat} {l:List Oper} (hm:P.follows .mixedOrders=true) (hB:Region.lexB .any l.toArray=true)
    (h:dS P l.toArray n w0 m H g (Q .normal) l):Ok n w0 m H g ((Code.region id l.toArray true).wp P Q):=Ok.quiet hm hB h

theorem kQ (h:Ok n w0 m H g R):dS P ops n w0 m H g R []:=fun a hA=>wpQuiet_nil fun W hW=>h a W hA hW

theorem fK.quiet {o:Oper} {K:Act→Prop} (h:fK P K o n w0 m H g) {a:Act} (hA:fC n m a):o.quiet P a (dm w0 H g) K:=by
  obtain ⟨v,h1,h2⟩:=h a hA;exact ⟨v,fun W hW=>rz.quiet (fun w'' hb=>hW.of_below hb) (h1 W hW),h2⟩

theorem dS.op {o:Oper} {rest:List Oper} (hg:o.guard=none) (h:fK P (wpQuiet P ops (dm w0 H g) (fun a'=>∀ W,dm w0 H g W→R a' W) rest) o n w0 m H g):dS P ops n w0 m H g R (o::rest):=fun a hA=>by
  unfold wpQuiet;rw [if_pos (by simp [Region.wanted,hg])];exact h.quiet hA

theorem lS {o:Oper} {rest:List Oper} {j d:Nat} {want b:Bool} (hg:o.guard=some (j,want)) (hj:(ops[j]?).bind (·.dst)=some d) (hb:get m d=some (.bool b)) (e:b=want)
    (h:fK P (wpQuiet P ops (dm w0 H g) (fun a'=>∀ W,dm w0 H g W→R a' W) rest) o n w0 m H g):dS P ops n w0 m H g R (o::rest):=fun a hA=>by
  unfold wpQuiet;rw [if_pos (by simp [Region.wanted,hg,BK hA hj hb,e])];exact h.quiet hA

theorem fK.s {o:Oper} {KQ:Act→Prop} {d:Nat} {v:Value} (hy:Yields P n w0 m H g o v) (hd:o.dst=some d) (hn:Nat.ble (d+1) n=true)
    (h:Y5 n ((d,v)::m) KQ):fK P KQ o n w0 m H g:=fun a hA=>by
  refine ⟨v,fun W hW=>?_,?_⟩
  · rw [hy a W hA hW]
    exact ⟨rfl,rfl⟩
  · rw [hd]; exact h _ (hA.put (Nat.le_of_ble_eq_true hn) v)

theorem fK.call {o:Oper} {KQ:Act→Prop} {d:Nat} {f:FuncId} {args:Array Value} {v:Value} (hk:∀ a W,fC n m a→(execOp a.eval o).run P W=.ok (.enter f args) W)
    (hc:bC P f args g v) (hd:o.dst=some d) (hn:Nat.ble (d+1) n=true)
    (h:Y5 n ((d,v)::m) KQ):fK P KQ o n w0 m H g:=fun a hA=>by
  refine ⟨v,fun W hW=>?_,?_⟩
  · rw [hk a W hA]
    exact ⟨rfl,hc W hW.ghost⟩
  · rw [hd]; exact h _ (hA.put (Nat.le_of_ble_eq_true hn) v)

theorem NW (k:Nat):∀ (m:Env) (l:List Oper) (m':Env),iL P n ops k m l=some m'→dS P ops n w0 m' H g R (l.drop k)→dS P ops n w0 m H g R l:=by
  induction k with
  | zero=>intro m l m' h hr; simp only [iL,Option.some.injEq] at h; subst h; simpa using hr
  | succ k ih =>
    intro m l m' h hr
    cases l with
    | nil=>simp [iL] at h
    | cons o l =>
      simp only [iL] at h;simp only [List.drop_succ_cons] at hr
      split at h
      · cases h
      · rename_i hw
        split at h
        · rename_i d hd
          split at h
          · rename_i hn
            have:=ih _ l m' h hr;intro a hA;unfold wpQuiet;rw [if_neg (by rw [l8 hA hw]; simp),hd];exact this _ (hA.put (Nat.le_of_ble_eq_true hn) undef)
          · cases h
        · cases h
      rename_i hw
      split at h
      · rename_i d v hd hk hq
        split at h
        · rename_i hn
          have:=ih _ l m' h hr;intro a hA;unfold wpQuiet;rw [if_pos (by rw [l8 hA hw])];refine ⟨v,fun W hW=>?_,?_⟩
          · unfold Oper.quietAt
            rw [jS hA hk,qW hq W];exact ⟨rfl,rfl⟩
          · rw [hd]; exact this _ (hA.put (Nat.le_of_ble_eq_true hn) v)
        · cases h
      · cases h

theorem dS.sub {l:List Oper} {m':Env} (e:keep (m'.map (·.1)) m=m') (h:dS P ops n w0 m' H g R l):dS P ops n w0 m H g R l:=fun a hA=>h a (hA.sub e)

theorem yX {l:List Oper} (k:Nat) (m':Env) (h:(iL P n ops k m l).map (keep (m'.map (·.1)))=some m') (hr:dS P ops n w0 m' H g R (l.drop k)):dS P ops n w0 m H g R l:=by
  obtain ⟨m1,h1,h2⟩:=Option.map_eq_some_iff.1 h;exact NW k m l m1 h1 (dS.sub h2 hr)

theorem sP {l:List Oper} (d:Nat) (c:Bool) (hd:get m d=some (.bool c)) (ht:c=true→dS P ops n w0 ((d,.bool true)::m) H g R l) (hf:c=false→dS P ops n w0 ((d,.bool false)::m) H g R l):dS P ops n w0 m H g R l:=by
  have key:∀ b,c=b→dS P ops n w0 ((d,.bool b)::m) H g R l→dS P ops n w0 m H g R l:=fun b e h a hA=>by
    subst e;refine h a ⟨hA.size,hA.defers,fun t v ht=>?_⟩;simp only [get] at ht
    split at ht
    · rename_i e
      rw [← Nat.eq_of_beq_eq_true e]
      injection ht with ht
      subst ht;exact hA.env d _ hd
    · exact hA.env t v ht
  cases c
  · exact key false rfl (hf rfl)
  · exact key true rfl (ht rfl)

section
variable {C:World→Prop} {md:Region.Mode}
end

section
variable {B:Type} {C:B→World→Prop} {S:B→Prop} {T:Nat→B→Prop} {md:Region.Mode} {Qn:Act→World→Prop}
def G6:Exit→Act→World→Prop:=fun _ _ _=>False

theorem xI {o:Oper} {a:Act} {W:World} {K:Act→World→Prop} (h:o.wp P a W K G6):o.wp P a W K Q:=by
  unfold Oper.wp at *;generalize (execOp a.eval o).run P W=r at *
  cases r with
  | ok x w' =>
    cases x <;> simp only [Oper.upon] at h ⊢ <;>
      first
        | exact h
        | exact Calls.mono h fun e w'' he=>by
            cases e
            · exact he
            · exact (he:False).elim
            · obtain ⟨_,_,h⟩:=he; exact (h:False).elim
  | halt x w'=>cases x <;> simp only [Oper.upon] at h ⊢; exact (h:False).elim

def LK (P:Program) (ops:Array Oper) (i:Nat) (K:Act→World→Prop) (a:Act) (W:World):Prop :=
  match ops[i]? with
  | none=>K a W
  | some o=>if Region.wanted o (yielded ops a.tmps) then o.wp P a W K G6 else K (a.put o.dst undef) W

theorem De {i:Nat} {a:Act} {W:World} {K K':Act→World→Prop} (h:∀ a w,K a w→K' a w) (hh:LK P ops i K a W):LK P ops i K' a W:=by
  unfold LK at *
  split
  · exact h _ _ (by simpa [*] using hh)
  rename_i o ho
  simp only [ho] at hh
  split
  · rename_i hw; simp only [hw,if_true] at hh; exact Oper.wp_mono h hh
  · rename_i hw; simp only [hw] at hh; exact h _ _ hh

theorem Js {i:Nat} {a:Act} {W:World} {K K':Act→World→Prop} (h:∀ a w,K a w→K' a w) (hh:LK P ops i K a W):wpOp P ops Q i K' a W:=by
  have hh:=De h hh;unfold LK at hh;unfold wpOp
  split
  · rename_i ho; simpa only [ho] using hh
  rename_i o ho
  simp only [ho] at hh
  split
  · rename_i hw; simp only [hw,if_true] at hh; exact .inl (xI hh)
  · rename_i hw; simp only [hw] at hh; exact hh

def reach (md:Region.Mode) (ops:Array Oper):Nat→Nat→Nat→Bool
  | 0,_,_=>false
  | d+1,j,i=>match ops[j]? with
    | none=>false
    | some o=>(o.after.toList.any fun e=>Region.binds md e&&e.on==i)||o.after.toList.any fun e=>Region.binds md e&&reach md ops d e.on i
def LH (md:Region.Mode) (ops:Array Oper) (j i:Nat):Prop:=∀ d,reach md ops d j i=false
def oI (md:Region.Mode) (ops:Array Oper) (listed:Array Bool):Prop:=∀ k ok,ops[k]? = some ok→listed.getD k false=true→∀ e ∈ ok.after,Region.binds md e=true→listed.getD e.on false=true

theorem Af {md:Region.Mode} {ops:Array Oper} {listed:Array Bool} (hc:oI md ops listed) {i:Nat} (hi:listed.getD i false=false):∀ (d j:Nat),(∀ oj,ops[j]? = some oj→∀ e ∈ oj.after,Region.binds md e=true→listed.getD e.on false=true)→reach md ops d j i=false
  | 0,_,_=>rfl
  | d+1,j,h=>by
    unfold reach
    split
    · rfl
    rename_i o ho
    cases hr:((o.after.toList.any fun e=>Region.binds md e&&e.on==i)||o.after.toList.any fun e=>Region.binds md e&&reach md ops d e.on i) with
    | false=>rfl
    | true =>
      exfalso;rw [Bool.or_eq_true] at hr
      rcases hr with hr | hr
      · obtain ⟨e,he,hb⟩:=List.any_eq_true.1 hr
        simp only [Bool.and_eq_true,beq_iff_eq] at hb;have:=h o ho e (Array.mem_toList_iff.1 he) hb.1;rw [hb.2,hi] at this;cases this
      obtain ⟨e,he,hb⟩:=List.any_eq_true.1 hr;simp only [Bool.and_eq_true] at hb;have h1:=h o ho e (Array.mem_toList_iff.1 he) hb.1;rw [Af hc hi d e.on fun oj hoj=>hc e.on oj hoj h1] at hb;exact absurd hb.2 (by simp)

theorem oI.set {md:Region.Mode} {ops:Array Oper} {listed:Array Bool} (hc:oI md ops listed) {j:Nat} (h:∀ oj,ops[j]? = some oj→∀ e ∈ oj.after,Region.binds md e=true→listed.getD e.on false=true):oI md ops (listed.setIfInBounds j true):=by
  have up:∀ x,listed.getD x false=true→(listed.setIfInBounds j true).getD x false=true:=fun x hx=>by
    by_cases hjx:j=x
    · subst hjx
      rw [Array.getD_eq_getD_getElem?] at hx ⊢
      by_cases hlt:j<listed.size
      · rw [Array.getElem?_setIfInBounds,if_pos rfl,if_pos hlt]; rfl
      · rw [Array.getElem?_eq_none (by omega)] at hx; cases hx
    · rw [getD_set_ne false hjx]; exact hx
  intro k ok hk hl e he hb
  by_cases hjk:j=k
  · subst hjk; exact up _ (h ok hk e he hb)
  · rw [getD_set_ne false hjk] at hl; exact up _ (hc k ok hk hl e he hb)

theorem oI.ready {md:Region.Mode} {ops:Array Oper} {listed:Array Bool} (hc:oI md ops listed) {j:Nat} (h:j ∈ Region.ready md ops listed):oI md ops (listed.setIfInBounds j true) :=
  hc.set fun oj' UB=>by
    obtain ⟨_,oj,hoj,hall⟩:=mem_ready.1 h;rw [hoj] at UB; cases UB; exact hall

def BN (P:Program) (md:Region.Mode) (ops:Array Oper) (C:B→World→Prop) (T:Nat→B→Prop) (Qn:Act→World→Prop):Nat→Array Bool→Act→B→Prop
  | 0,listed,a,c=>Region.ready md ops listed=[]∧∀ W,C c W→Qn a W
  | fuel+1,listed,a,c=>(Region.ready md ops listed=[]→∀ W,C c W→Qn a W) ∧
    ∀ i ∈ Region.ready md ops listed,∀ W,C c W→LK P ops i (fun a' W'=>∃ c',C c' W'∧(∀ i',LH md ops i i'→T i' c→T i' c')∧BN P md ops C T Qn fuel (listed.setIfInBounds i true) a' c') a W

theorem BM:∀ (fuel:Nat) (listed:Array Bool) (a:Act) (c:B) (W:World),BN P md ops C T (Q .normal) fuel listed a c→C c W→wpAny P md ops Q fuel listed a W
  | 0,_,_,_,W,h,hW=>⟨h.1,h.2 W hW⟩
  | fuel+1,_,_,_,W,h,hW=>⟨fun h0=>h.1 h0 W hW,fun i hi=>Js (fun a' W' ⟨c',h1,_,h3⟩=>BM fuel _ a' c' W' h3 h1) (h.2 i hi W hW)⟩

def kX (P:Program) (ops:Array Oper) (C:B→World→Prop) (S:B→Prop) (o:Oper) (v:Value) (a:Act):Prop :=
  (Region.wanted o (yielded ops a.tmps)=true∧∀ c,S c→∀ W,C c W→o.quietAt P a (C c) W v)∨(Region.wanted o (yielded ops a.tmps)=false∧v=undef)

theorem kX.LK {i:Nat} {o:Oper} {v:Value} {a:Act} (hi:ops[i]? = some o) (hy:kX P ops C S o v a) {c:B} (hc:S c) {W:World} (hW:C c W) {K:Act→World→Prop} (h:∀ W',C c W'→K (a.put o.dst v) W'):LK P ops i K a W:=by
  unfold Go.iT.LK;simp only [hi]
  rcases hy with ⟨hw,hv⟩ | ⟨hw,rfl⟩
  · simp only [hw,if_true]
    have h3:=hv c hc W hW;unfold Oper.quietAt at h3;unfold Oper.wp;generalize (execOp a.eval o).run P W=r at *
    cases r with
    | ok x w' =>
      cases x <;> simp only [Oper.quietUpon] at h3 <;> simp only [Oper.upon]
      case value u=>obtain ⟨e1,e2⟩:=h3; subst e1; subst e2; exact h _ hW
      case skip=>obtain ⟨e1,e2⟩:=h3; subst e1; subst e2; exact h _ hW
      case enter f args =>
        obtain ⟨e1,hc⟩:=h3;rw [e1]
        exact hc.mono fun e w'' ⟨he,hw''⟩=>by subst he; exact h _ hw''
    | halt x w'=>simp only [Oper.quietUpon] at h3
  · simp only [hw,Bool.false_eq_true,if_false]; exact h _ hW

theorem kX.of_same {o:Oper} {v:Value} {a a':Act} (hy:kX P ops C S o v a) (he:execOp a'.eval o=execOp a.eval o)
    (hw:Region.wanted o (yielded ops a'.tmps)=Region.wanted o (yielded ops a.tmps)):kX P ops C S o v a':=by
  unfold kX Oper.quietAt at *;rw [he,hw];exact hy

theorem Xy {j:Nat} {oi oj:Oper} {v:Value} (hj:ops[j]? = some oj) (hap:oi.apart ops oj=true) (hsi:∀ cs b,oi.op≠.select cs b) (hsj:∀ cs b,oj.op≠.select cs b)
    {K:Act→World→Prop} {a:Act} {W:World} (hy:kX P ops C S oi v a) (h:LK P ops j K (a.put oi.dst v) W) :
    LK P ops j (fun a' W'=>kX P ops C S oi v a'∧K (a'.put oi.dst v) W') a W:=by
  obtain ⟨h1,h2,h3⟩:=Oper.apart_spec hap
  have keep:∀ (a:Act),kX P ops C S oi v a→∀ u,kX P ops C S oi v (a.put oj.dst u):=fun a hy u =>
    hy.of_same (execOp_put oi hsi a oj.dst u h3) (wanted_put oi a oj.dst u h3)
  have keepD:∀ d,kX P ops C S oi v { a with defers:=d::a.defers }:=fun d=>hy.of_same rfl rfl;unfold LK at *;simp only [hj] at *;rw [wanted_put oj a oi.dst v h1] at h
  split
  · rename_i hw
    simp only [hw,if_true] at h;unfold Oper.wp at *;rw [execOp_put oj hsj a oi.dst v h1] at h;generalize (execOp a.eval oj).run P W=r at *
    cases r with
    | ok x w' =>
      cases x <;> simp only [Oper.upon] at h ⊢
      case value u=>exact ⟨keep a hy u,by rw [← Act.put_comm a v u h2]; exact h⟩
      case skip=>exact ⟨keep a hy _,by rw [← Act.put_comm a v undef h2]; exact h⟩
      case defer d =>
        refine ⟨keep _ (keepD d) _,?_⟩;rw [← Act.put_comm _ v undef h2,← Act.put_defers];exact h
      case enter f args =>
        refine Calls.mono h fun e w'' he=>?_
        cases e with
        | returned u=>exact ⟨keep a hy u,by rw [← Act.put_comm a v u h2]; exact he⟩
        | panicked c=>exact (he:False).elim
        | outgrown=>obtain ⟨_,_,h⟩:=he; exact (h:False).elim
      case row row args=>exact Rows.mono h fun u w'' he=>⟨keep a hy u,by rw [← Act.put_comm a v u h2]; exact he⟩
    | halt x w' =>
      cases x <;> simp only [Oper.upon] at h ⊢
      case panic u=>exact (h:False).elim
  rename_i hw
  simp only [hw] at h;exact ⟨keep a hy _,by rw [← Act.put_comm a v undef h2]; exact h⟩

theorem F6 {i:Nat} {oi:Oper} {v:Value} (hi:ops[i]? = some oi) (hsel:∀ (j:Nat) (o:Oper) cs b,ops[j]? = some o→o.op≠.select cs b) :
    ∀ (fuel:Nat) (listed:Array Bool) (a:Act) (c:B),
      (∀ j oj,ops[j]? = some oj→j≠i→listed.getD j true=false→(∀ e ∈ oj.after,Region.binds md e=true→e.on≠i)→oi.apart ops oj=true) →
      oI md ops listed→i ∈ Region.ready md ops listed→kX P ops C (T i) oi v a→T i c →
      BN P md ops C T Qn fuel (listed.setIfInBounds i true) (a.put oi.dst v) c→BN P md ops C T Qn (fuel+1) listed a c:=by
  intro fuel
  induction fuel with
  | zero =>
    intro listed a c _ _ hr hy hS H;refine ⟨fun h=>(by rw [h] at hr; cases hr),fun j hj W hW=>?_⟩
    by_cases hji:j=i
    · subst hji; exact hy.LK hi hS hW fun W' hW'=>⟨c,hW',fun _ _ h=>h,H⟩
    have:=ready_mono hj hji;rw [H.1] at this;cases this
  | succ fuel ih =>
    intro listed a c hfree hcl hr hy hS H;refine ⟨fun h=>(by rw [h] at hr; cases hr),fun j hj W hW=>?_⟩
    by_cases hji:j=i
    · subst hji; exact hy.LK hi hS hW fun W' hW'=>⟨c,hW',fun _ _ h=>h,H⟩
    have h1:=H.2 j (ready_mono hj hji) W hW;obtain ⟨hjun,oj,hoj,hall⟩:=mem_ready.1 hj;have hun:=(mem_ready.1 hr).1
    have hnot:∀ e ∈ oj.after,Region.binds md e=true→e.on≠i:=fun e he hb heq=>by
      have h1:=hall e he hb;rw [heq,getD_both hun] at h1;cases h1
    have h2:=Xy hoj (hfree j oj hoj hji hjun hnot) (fun cs b=>hsel i oi cs b hi) (fun cs b=>hsel j oj cs b hoj) hy h1
    have hfree':∀ k ok,ops[k]? = some ok→k≠i→(listed.setIfInBounds j true).getD k true=false →
        (∀ e ∈ ok.after,Region.binds md e=true→e.on≠i)→oi.apart ops ok=true:=fun k ok hk hki hun hno=>by
      refine hfree k ok hk hki ?_ hno
      by_cases hjk:j=k
      · subst hjk; exact hjun
      · rw [getD_set_ne true hjk] at hun; exact hun
    refine De (fun a' W' h3=>?_) h2;obtain ⟨hy',c',hW',hT',H'⟩:=h3
    have hafter:∀ oj',ops[j]? = some oj'→∀ e ∈ oj'.after,Region.binds md e=true→listed.getD e.on false=true:=fun oj' UB=>by rw [hoj] at UB; cases UB; exact hall
    have hS':T i c':=hT' i (fun d=>Af hcl (getD_both hun) d j hafter) hS;refine ⟨c',hW',hT',ih _ a' c' hfree' (hcl.set hafter) (ready_mono hr (Ne.symm hji)) hy' hS' ?_⟩;rw [Array.setIfInBounds_comm _ _ hji];exact H'

def sS (P:Program) (ops:Array Oper) (C:B→World→Prop) (T:Nat→B→Prop) (S:Nat→B→Prop) (Qn:Act→World→Prop):List (Nat×Bool)→Act→B→Prop
  | [],a,c=>∀ W,C c W→Qn a W
  | (i,true)::os,a,c=>∃ o v,ops[i]? = some o∧kX P ops C (T i) o v a∧sS P ops C T S Qn os (a.put o.dst v) c
  | (i,false)::os,a,c=>∀ W,C c W→LK P ops i (fun a' W'=>∃ c',C c' W'∧S i c'∧sS P ops C T S Qn os a' c') a W

def awaits (md:Region.Mode) (ops:Array Oper) (pre:List Nat) (j:Nat):Bool :=
  match ops[j]? with
  | none=>false
  | some _=>pre.all fun i=>reach md ops 3 j i

theorem Lm {md:Region.Mode} {pre:List Nat} {j i:Nat} (h:awaits md ops pre j=true) (hi:LH md ops j i):pre.contains i=false:=by
  unfold awaits at h
  split at h
  · cases h
  rename_i o ho
  cases hc:pre.contains i with
  | false=>rfl
  | true =>
    have:=List.all_eq_true.1 h i (by simpa using hc);rw [hi 3] at this;cases this

def MF (md:Region.Mode) (ops:Array Oper) (pre soft:List Nat):List (Nat×Bool)→Array Bool→Bool
  | [],listed=>(Region.ready md ops listed).isEmpty
  | (i,true)::os,listed=>(Region.ready md ops listed).contains i&&Region.free md ops listed i&&MF md ops pre soft os (listed.setIfInBounds i true)
  | (i,false)::os,listed=>(Region.ready md ops listed==[i])&&MF md ops pre soft os (listed.setIfInBounds i true)&&(soft.contains i||(awaits md ops pre i&&os.all fun x=>!pre.contains x.1))

theorem ql {pre soft:List Nat} {S:Nat→B→Prop} (hT:∀ c i j,S j c→(soft.contains j=true∨pre.contains i=false)→T i c) (hs:Region.noSelect ops=true):∀ (os:List (Nat×Bool)) (listed:Array Bool) (a:Act) (c:B),oI md ops listed→MF md ops pre soft os listed=true→(∀ x ∈ os,T x.1 c) →
    sS P ops C T S Qn os a c→BN P md ops C T Qn os.length listed a c
  | [],_,_,_,_,hB,_,h=>⟨by simpa [MF] using hB,h⟩
  | (i,true)::os,listed,a,c,hcl,hB,hS,h=>by
    obtain ⟨o,v,hi,hy,h⟩:=h;simp only [MF,Bool.and_eq_true] at hB;exact F6 hi (Region.noSelect_spec hs) os.length listed a c (Region.free_spec hi hB.1.2) hcl (by simpa using hB.1.1) hy (hS _ (List.mem_cons_self ..)) (ql hT hs os _ _ _ (hcl.ready (by simpa using hB.1.1)) hB.2 (fun x hx=>hS x (List.mem_cons_of_mem _ hx)) h)
  | (i,false)::os,listed,a,c,hcl,hB,hS,h=>by
    simp only [MF,Bool.and_eq_true,beq_iff_eq] at hB;refine ⟨fun h0=>(by rw [hB.1.1] at h0; cases h0),fun j hj W hW=>?_⟩;rw [hB.1.1] at hj;obtain rfl:=List.mem_singleton.1 hj;have hB2:=hB.2;rw [Bool.or_eq_true] at hB2;refine De (fun a' W' ⟨c',h1,h2,h3⟩=>⟨c',h1,fun i' hn _=>?_,ql hT hs os _ _ _ (hcl.ready (by rw [hB.1.1]; simp)) hB.1.2 (fun x hx=>?_) h3⟩) (h W hW)
    · rcases hB2 with hB2 | hB2
      · exact hT c' i' _ h2 (.inl hB2)
      rw [Bool.and_eq_true] at hB2;exact hT c' i' _ h2 (.inr (Lm hB2.1 hn))
    rcases hB2 with hB2 | hB2
    · exact hT c' x.1 _ h2 (.inl hB2)
    rw [Bool.and_eq_true] at hB2;exact hT c' x.1 _ h2 (.inr (by have:=List.all_eq_true.1 hB2.2 x hx; simpa using this))

def Kh (ops:Array Oper) (pre soft:List Nat) (os:List (Nat×Bool)):Bool:=Region.noSelect ops&&MF .any ops pre soft os (Array.replicate ops.size false)&&Nat.beq os.length ops.size

theorem vU {id:Nat} {a:Act} {w:World} {c:B} {T:Nat→B→Prop} {S:Nat→B→Prop} {pre soft:List Nat} (os:List (Nat×Bool)) (hm:P.follows .mixedOrders=true) (hB:Kh ops pre soft os=true) (hT:∀ c i j,S j c→(soft.contains j=true∨pre.contains i=false)→T i c) (hS:∀ i,T i c) (hC:C c { w with drawn:=w.drawn+1 })
    (h:sS P ops C T S (Q .normal) os a c):(Code.region id ops true).wp P Q a w:=by
  simp only [Kh,Bool.and_eq_true] at hB;have:=ql (md:=.any) hT hB.1.1 os _ a c (fun k ok _ hk=>by simp [Array.getD_eq_getD_getElem?,Array.getElem?_replicate] at hk; split at hk <;> simp at hk) hB.1.2 (fun x _=>hS x.1) h;rw [Nat.eq_of_beq_eq_true hB.2] at this;exact wp_region_any hm (BM _ _ _ _ _ this hC)
end

def lG (g g':ak):Prop:=∀ b o,g b=some o→g' b=some o
theorem lG.refl (g:ak):lG g g:=fun _ _ h=>h
theorem lG.trans {g g' g'':ak} (h:lG g g') (h':lG g' g''):lG g g'':=fun b o hg=>h' b o (h b o hg)
def bf (w0:Base) (g g':ak):Prop:=lG g g'∧∀ b o,g' b=some o→g b=some o∨w0.w.heap.size≤b∨b ∈ w0.Kv
theorem bu (w0:Base) (g:ak):bf w0 g g:=⟨lG.refl g,fun _ _ h=>.inl h⟩
theorem bf.trans {w0:Base} {g g' g'':ak} (h:bf w0 g g') (h':bf w0 g' g''):bf w0 g g'' :=
  ⟨h.1.trans h'.1,fun b o hb=>(h'.2 b o hb).elim (fun h1=>h.2 b o h1) .inr⟩

theorem dm.less {w0:Base} {g g':ak} {H:List cu} {W:World} (hg:lG g g') (h:dm w0 H g' W):dm w0 H g W :=
  ⟨h.f_,h.nodup,fun b o hb=>h.ghost b o (hg b o hb),fun e he b hb=>(by
    cases hc:g b with
    | none=>rfl
    | some o=>exact absurd ((h.apart e he b hb).symm.trans (hg b o hc)) (by simp)),h.mine,h.below⟩

def EI (g0:ak) (pre:List Nat) (Hf H0:List cu) (i:Nat) (c:ak×List cu):Prop:=lG g0 c.1∧List.Sublist (bif pre.contains i then Hf else H0) c.2

def eH (P:Program) (ops:Array Oper) (n:nQ) (w0:Base) (g0:ak) (pre soft:List Nat) (Hf H0:List cu) (m:Env) (H:List cu) (g:ak) (R:Act→World→Prop) (os:List (Nat×Bool)):Prop :=
  Y5 n m fun a=>sS P ops (fun c W=>dm w0 c.2 c.1 W) (EI g0 pre Hf H0) (fun i c=>lG g0 c.1∧List.Sublist (bif soft.contains i then Hf else H0) c.2) R os a (g,H)

section
variable {g0:ak} {pre soft:List Nat} {Hf H0 Hv:List cu} {os:List (Nat×Bool)}
theorem afQ {id:Nat} {l:List Oper} (pre soft:List Nat) (H0:List cu) (os:List (Nat×Bool)) (hm:P.follows .mixedOrders=true) (hB:Kh l.toArray pre soft os=true) (hs:List.Sublist H0 H)
    (h:eH P l.toArray n w0 g pre soft H H0 m H g (Q .normal) os):Ok n w0 m H g ((Code.region id l.toArray true).wp P Q) :=
  fun a _ hA hW=>vU (C:=fun c W=>dm w0 c.2 c.1 W) (S:=fun i c=>lG g c.1∧List.Sublist (bif soft.contains i then H else H0) c.2) (T:=EI g pre H H0) (c:=(g,H)) os hm hB (fun c i j h hp=>⟨h.1,by
    have h2:=h.2
    rcases hp with hp | hp
    · rw [hp] at h2
      cases pre.contains i
      · exact hs.trans h2
      · exact h2
    · rw [hp]
      cases hj:soft.contains j
      · rw [hj] at h2; exact h2
      · rw [hj] at h2; exact hs.trans h2⟩) (fun i=>⟨lG.refl g,by
    cases pre.contains i
    · exact hs
    · exact List.Sublist.refl _⟩) (hW.of_below ((Below.refl _ _).drew)) (h a hA)

theorem eH.nil (h:Ok n w0 m H g R):eH P ops n w0 g0 pre soft Hf H0 m H g R []:=fun a hA W hW=>h a W hA hW

theorem LG {i:Nat} {o:Oper} {a:Act} (hi:ops[i]? = some o) (hA:fC n m a) (hw:Region.wanted o (yielded ops a.tmps)=true) (hv:(bif pre.contains i then Hf else H0)=Hv)
    (h:fK P (fun a=>sS P ops (fun c W=>dm w0 c.2 c.1 W) (EI g0 pre Hf H0) (fun i c=>lG g0 c.1∧List.Sublist (bif soft.contains i then Hf else H0) c.2) R os a (g,H)) o n w0 m Hv g0) :
    sS P ops (fun c W=>dm w0 c.2 c.1 W) (EI g0 pre Hf H0) (fun i c=>lG g0 c.1∧List.Sublist (bif soft.contains i then Hf else H0) c.2) R ((i,true)::os) a (g,H):=by
  obtain ⟨v,h1,h2⟩:=h a hA;exact ⟨o,v,hi,.inl ⟨hw,fun c hc W hW=>rz.quiet (fun w'' hb=>hW.of_below hb) (h1 W ((hW.less hc.1).sub (by have:=hc.2; rw [hv] at this; exact this)))⟩,h2⟩

theorem amz {i:Nat} {o:Oper} (hi:ops[i]? = some o) (hg:o.guard=none) (hv:(bif pre.contains i then Hf else H0)=Hv)
    (h:fK P (fun a=>sS P ops (fun c W=>dm w0 c.2 c.1 W) (EI g0 pre Hf H0) (fun i c=>lG g0 c.1∧List.Sublist (bif soft.contains i then Hf else H0) c.2) R os a (g,H)) o n w0 m Hv g0):eH P ops n w0 g0 pre soft Hf H0 m H g R ((i,true)::os) :=
  fun _ hA=>LG hi hA (by simp [Region.wanted,hg]) hv h

theorem eH.t {i:Nat} {o:Oper} (hi:ops[i]? = some o) (hg:o.guard=none)
    (h:af P (fun a' W'=>∃ c':ak×List cu,dm w0 c'.2 c'.1 W'∧(lG g0 c'.1∧List.Sublist (bif soft.contains i then Hf else H0) c'.2)∧sS P ops (fun c W=>dm w0 c.2 c.1 W) (EI g0 pre Hf H0) (fun i c=>lG g0 c.1∧List.Sublist (bif soft.contains i then Hf else H0) c.2) R os a' c') G6 o n w0 m H g) :
    eH P ops n w0 g0 pre soft Hf H0 m H g R ((i,false)::os):=fun a hA W hW=>by
  unfold LK;simp only [hi];rw [if_pos (by simp [Region.wanted,hg])];exact h a W hA hW

theorem amy {i:Nat} (hv:(bif soft.contains i then Hf else H0)=Hv) (hg:lG g0 g) (hs:List.Sublist Hv H) (h:eH P ops n w0 g0 pre soft Hf H0 m H g R os) :
    Ok n w0 m H g (fun a' W'=>∃ c':ak×List cu,dm w0 c'.2 c'.1 W'∧(lG g0 c'.1∧List.Sublist (bif soft.contains i then Hf else H0) c'.2)∧sS P ops (fun c W=>dm w0 c.2 c.1 W) (EI g0 pre Hf H0) (fun i c=>lG g0 c.1∧List.Sublist (bif soft.contains i then Hf else H0) c.2) R os a' c') :=
  fun a _ hA hW=>⟨(g,H),hW,⟨hg,by rw [hv]; exact hs⟩,h a hA⟩

def heads (ops:Array Oper):Nat→List (Nat×Bool)→Option (List Oper)
  | 0,_=>some []
  | k+1,(i,true)::os=>match ops[i]?,heads ops k os with
    | some o,some l=>some (o::l)
    | _,_=>none
  | _,_=>none

theorem NY (k:Nat):∀ (m:Env) (os:List (Nat×Bool)) (l:List Oper) (m':Env),heads ops k os=some l→iL P n ops k m l=some m'→eH P ops n w0 g0 pre soft Hf H0 m' H g R (os.drop k)→eH P ops n w0 g0 pre soft Hf H0 m H g R os:=by
  induction k with
  | zero=>intro m os l m' hl h hr; simp only [iL,Option.some.injEq] at h; subst h; simpa using hr
  | succ k ih =>
    intro m os l m' hl h hr
    match os,hl with
    | (i,true)::os,hl =>
      simp only [heads] at hl
      split at hl
      · rename_i o l2 hi hl2
        simp only [Option.some.injEq] at hl;subst hl;simp only [iL] at h;simp only [List.drop_succ_cons] at hr
        split at h
        · cases h
        · rename_i hw
          split at h
          · rename_i d hd
            split at h
            · rename_i hn
              have:=ih _ os l2 m' hl2 h hr;intro a hA;exact ⟨o,undef,hi,.inr ⟨by rw [l8 hA hw],rfl⟩,by rw [hd]; exact this _ (hA.put (Nat.le_of_ble_eq_true hn) undef)⟩
            · cases h
          · cases h
        rename_i hw
        split at h
        · rename_i d v hd hk hq
          split at h
          · rename_i hn
            have:=ih _ os l2 m' hl2 h hr;intro a hA;refine ⟨o,v,hi,.inl ⟨by rw [l8 hA hw],fun c hc W hW=>?_⟩,by rw [hd]; exact this _ (hA.put (Nat.le_of_ble_eq_true hn) v)⟩;unfold Oper.quietAt;rw [jS hA hk,qW hq W];exact ⟨rfl,rfl⟩
          · cases h
        · cases h
      · cases hl

theorem eH.sub {m':Env} (e:keep (m'.map (·.1)) m=m') (h:eH P ops n w0 g0 pre soft Hf H0 m' H g R os):eH P ops n w0 g0 pre soft Hf H0 m H g R os:=fun a hA=>h a (hA.sub e)

theorem Qb (k:Nat) (m':Env) (h:(((heads ops k os).bind (iL P n ops k m)).map (keep (m'.map (·.1))))=some m') (hr:eH P ops n w0 g0 pre soft Hf H0 m' H g R (os.drop k)):eH P ops n w0 g0 pre soft Hf H0 m H g R os:=by
  obtain ⟨m1,h1,h2⟩:=Option.map_eq_some_iff.1 h;obtain ⟨l,h3,h4⟩:=Option.bind_eq_some_iff.1 h1;exact NY k m os l m1 h3 h4 (eH.sub h2 hr)

end

theorem Cs (T:TypeId) (cs:Array Value) (W:World):(newRow T cs).run P W=.ok ⟨W.heap.size,0,none⟩ (W.alloc (.cells cs T)):=rfl

theorem af.box {dst:Nat} {T ty:TypeId} {x:Operand} {K:Act→World→Prop} {v:Value} {cs:Array Value}
    (hx:val m x=some v) (hc:v.cells=cs) (hn:Nat.ble (dst+1) n=true)
    (h:∀ b,Ok n w0 ((dst,.pointer (some ⟨b,0,none⟩))::m) (.blk b (.cells cs T)::H) g K):af P K Q ⟨some dst,.box T x,ty,pos,after,gd⟩ n w0 m H g:=fun a W hA hW=>by
  show Oper.upon P _ a _ Q (Sem.run P (execOp a.eval _) W)
  have e:(execOp a.eval ⟨some dst,.box T x,ty,pos,after,gd⟩).run P W=.ok (.value (.pointer (some ⟨W.heap.size,0,none⟩))) (W.alloc (.cells cs T)):=by
    simp only [execOp,Instr.box,newVar,hA.eval hx,hc,Sem.run_bind,Cs,Result.andThen]; rfl
  rw [e,Oper.upon_value];exact h _ _ _ (hA.put (Nat.le_of_ble_eq_true hn) _) (hW.push _)

theorem af.a {dst:Nat} {T ty:TypeId} {K:Act→World→Prop} {z:Value} {cs:Array Value}
    (hz:(P.info? T).bind (·.zero)=some z) (hc:z.cells=cs) (hn:Nat.ble (dst+1) n=true)
    (h:∀ b,Ok n w0 ((dst,.pointer (some ⟨b,0,none⟩))::m) (.blk b (.cells cs T)::H) g K):af P K Q ⟨some dst,.alloc T,ty,pos,after,gd⟩ n w0 m H g:=fun a W hA hW=>by
  show Oper.upon P _ a _ Q (Sem.run P (execOp a.eval _) W)
  have e:(execOp a.eval ⟨some dst,.alloc T,ty,pos,after,gd⟩).run P W=.ok (.value (.pointer (some ⟨W.heap.size,0,none⟩))) (W.alloc (.cells cs T)):=by
    cases hi:P.info? T with
    | none=>simp [hi] at hz
    | some i =>
      simp only [hi,Option.bind_some] at hz;simp only [execOp,Instr.alloc,zeroValue,typeInfo,newVar,Sem.run_bind,run_program,Result.andThen,hi];simp [hz,hc,Cs]
  rw [e,Oper.upon_value];exact h _ _ _ (hA.put (Nat.le_of_ble_eq_true hn) _) (hW.push _)

theorem dm.at {W:World} (h:dm w0 H g W) {i b:Nat} {o:Obj} (hi:H[i]? = some (.blk b o)):W.heap[b]? = some o :=
  h.f_ _ (List.mem_of_getElem? hi)

theorem CG {W:World} {b:Nat} {cs:Array Value} {T:TypeId} {fz:Nat×Nat} (h:W.heap[b]? = some (.cells cs T fz)) (off k:Nat):W.rangeAt b off ((cs.toList.drop off).take k):=by
  intro j v hj;rw [List.getElem?_take] at hj
  split at hj
  · rw [List.getElem?_drop] at hj
    simpa [World.cell?,h] using hj
  · cases hj

theorem jX (W:World) (b o:Nat) (ty:TypeId) (v:Value) (d:TypeDesc) (hc:W.cell? ⟨b,o,none⟩=some v) (hu:P.underlying ty=some d) (hd:d.isRow=false) :
    (loadVar ty ⟨b,o,none⟩).run P W=.ok v W:=by
  cases d <;> simp [TypeDesc.isRow] at hd <;> simp [loadVar,isAgg,underlying,hu,load,Sem.run,hc,go_sem]

theorem aS {dst:Option Nat} {T ty:TypeId} {x:Operand} {b off:Nat} {v:Value} {cs:Array Value} {T':TypeId} {fz:Nat×Nat} {d:TypeDesc}
    (i:Nat) (hx:val m x=some (.pointer (some ⟨b,off,none⟩))) (hH:H[i]? = some (.blk b (.cells cs T' fz))) (hu:P.underlying T=some d) (hd:d.isRow=false) (hv:cs[off]? = some v) :
    Yields P n w0 m H g ⟨dst,.load T x,ty,pos,after,gd⟩ v:=fun a W hA hW=>by
  have hc:W.cell? ⟨b,off,none⟩=some v:=by simp only [World.cell?,hW.at hH]; simpa using hv
  simp only [execOp,Instr.loadAt,hA.eval hx,Sem.run_bind,Instr.sureAddr];simp [jX W b off T v d hc hu hd]

theorem aZ {dst:Option Nat} {T ty:TypeId} {x:Operand} {b off:Nat} {cs:Array Value} {T':TypeId} {fz:Nat×Nat} {d:TypeDesc}
    (i k:Nat) (vs:Array Value) (hx:val m x=some (.pointer (some ⟨b,off,none⟩))) (hH:H[i]? = some (.blk b (.cells cs T' fz))) (hu:P.underlying T=some d) (hd:d.isRow=true) (hk:(P.info? T).map (·.size)=some k)
    (hv:((cs.toList.drop off).take k).toArray=vs) (hl:Nat.beq ((cs.toList.drop off).take k).length k=true) :
    Yields P n w0 m H g ⟨dst,.load T x,ty,pos,after,gd⟩ (.agg vs):=fun a W hA hW=>by
  have hr:=CG (hW.at hH) off k;have hl':=Nat.eq_of_beq_eq_true hl;have:=run_loadVar_mid (P:=P) W b off T _ d hr hu hd (by rw [hk,hl']);simp only [execOp,Instr.loadAt,hA.eval hx,Sem.run_bind,Instr.sureAddr];simp [this,hv]

theorem dm.setRow {W:World} (h:dm w0 H g W) {i b:Nat} {cs cs':Array Value} {T:TypeId} (hi:H[i]? = some (.blk b (.cells cs T))):dm w0 (H.set i (.blk b (.cells cs' T))) g (W.setRow b cs'):=by
  have hb:=h.at hi;have hBb:w0.w.heap.size≤b∨b ∈ w0.Kv:=h.mine _ (List.mem_of_getElem? hi) b rfl;have hil:i<H.length:=(List.getElem?_eq_some_iff.1 hi).1
  have hother:∀ k,k≠b→(W.setRow b cs').heap[k]? = W.heap[k]?:=fun k hk=>by
    simp only [World.setRow,Array.getElem?_modify];rw [if_neg (fun e=>hk e.symm)]
  have hblocks:(H.set i (.blk b (.cells cs' T))).map cu.block=H.map cu.block:=by
    rw [List.map_set];apply List.ext_getElem?;intro j;rw [List.getElem?_set]
    split
    · rename_i e
      subst e;rw [List.getElem?_map,hi];simp [hil,cu.block]
    · rfl
  have hfm:(H.set i (.blk b (.cells cs' T))).filterMap cu.block=H.filterMap cu.block:=by
    have e1:∀ L:List cu,L.filterMap cu.block=(L.map cu.block).filterMap id:=fun L=>by rw [List.filterMap_map]; rfl
    rw [e1,e1,hblocks]
  have hnd:=h.nodup;refine ⟨fun e he=>?_,by rw [hfm]; exact hnd,fun k o hk=>?_,fun e he k hek=>?_,fun e he k hek=>?_,?_⟩
  · obtain ⟨j,hj⟩:=List.mem_iff_getElem?.1 he
    rw [List.getElem?_set] at hj
    split at hj
    · simp only [Option.some.injEq] at hj
      subst hj;exact setRow_heap W b cs cs' T (0,0) hb
    rename_i hne
    refine gI (h.f_ e (List.mem_of_getElem? hj)) fun k hk=>hother k fun ekb=>?_;subst ekb
    -- two entries with one block
    have h1:(H.filterMap cu.block).Nodup:=hnd;exact eQ h1 hi hj hne rfl hk
  · have hg:=h.apart _ (List.mem_of_getElem? hi) b rfl
    rw [hother k fun e=>by subst e; rw [hg] at hk; cases hk];exact h.ghost k o hk
  · have:e.block ∈ (H.set i (.blk b (.cells cs' T))).map cu.block:=List.mem_map.2 ⟨e,he,rfl⟩
    rw [hblocks] at this;obtain ⟨e',he',hb'⟩:=List.mem_map.1 this;exact h.apart e' he' k (hb'.trans hek)
  · have:e.block ∈ (H.set i (.blk b (.cells cs' T))).map cu.block:=List.mem_map.2 ⟨e,he,rfl⟩
    rw [hblocks] at this;obtain ⟨e',he',hb'⟩:=List.mem_map.1 this;exact h.mine e' he' k (hb'.trans hek)
  · exact h.below.grown (row:=some b) ⟨rfl,rfl,rfl,by simp [World.setRow],fun k _ hk=>hother k fun e=>hk (by rw [e])⟩ fun k hk=>by cases hk; exact hBb

theorem af.store {T ty:TypeId} {x y:Operand} {K:Act→World→Prop} {b off:Nat} {v:Value} {cs:Array Value} {T':TypeId} {k:Nat} {H':List cu}
    (i:Nat) (hx:val m x=some (.pointer (some ⟨b,off,none⟩))) (hy:val m y=some v) (hH:H[i]? = some (.blk b (.cells cs T'))) (hk:(P.info? T).map (·.size)=some k)
    (hl:Nat.beq v.cells.size k=true) (hfit:Nat.ble (off+k) cs.size=true) (h1:v.cells.all (·.oneCell')=true)
    (hH':H.set i (.blk b (.cells (cs.toList.take off++v.cells.toList++cs.toList.drop (off+k)).toArray T'))=H')
    (h:Ok n w0 m H' g K):af P K Q ⟨none,.store T x y,ty,pos,after,gd⟩ n w0 m H g:=fun a W hA hW=>by
  show Oper.upon P _ a _ Q (Sem.run P (execOp a.eval _) W);have hl':=Nat.eq_of_beq_eq_true hl;have as5:=Nat.le_of_ble_eq_true hfit;have hrun:=run_storeCells_at (P:=P) b off T' v.cells.toList 0 cs W (hW.at hH) (by simp [hl']; omega) (fun u hu=>(Array.all_eq_true_iff_forall_mem.1 h1) u (by simpa using hu));simp only [Nat.add_zero,Array.length_toList,hl'] at hrun
  have e:(execOp a.eval ⟨none,.store T x y,ty,pos,after,gd⟩).run P W=.ok .skip (W.setRow b (cs.toList.take off++v.cells.toList++cs.toList.drop (off+k)).toArray):=by
    cases hi:P.info? T with
    | none=>simp [hi] at hk
    | some inf =>
      simp only [hi,Option.map_some,Option.some.injEq] at hk;simp only [execOp,Instr.storeAt,hA.eval hx,hA.eval hy,Instr.sureAddr,storeVar,sizeOf,typeInfo];simp [hi,hk,hl',hrun]
  rw [e,Oper.upon_skip];exact h _ _ (hA.skip none (fun d hd=>by cases hd) undef) (hH' ▸ hW.setRow hH)

theorem fC.Mx {fn:Func} {args:Array Value} {m0:Env} (hn:fn.ntmps=n) (hle:Nat.ble args.size n=true) (hm:(List.range args.size).map (fun i=>(i,args.toList.getD i undef))=m0) (hD:n.ds=[]:=by rfl) :
    fC n m0 { tmps:=args++Array.replicate (fn.ntmps - args.size) undef,defers:=[] }:=by
  refine ⟨?_,hD.symm,fun t v ht=>?_⟩
  · have:=Nat.le_of_ble_eq_true hle
    simp [hn]; omega
  subst hm
  have key:∀ (l:List Nat) (t:Nat) (v:Value),get (l.map fun i=>(i,args.toList.getD i undef)) t=some v→t ∈ l∧v=args.toList.getD t undef:=by
    intro l
    induction l with
    | nil=>intro t v h; simp [get] at h
    | cons k l ih =>
      intro t v h;simp only [List.map_cons,get] at h
      split at h
      · rename_i e
        have:=Nat.eq_of_beq_eq_true e;subst this
        injection h with h
        exact ⟨by simp,h.symm⟩
      · exact ⟨List.mem_cons_of_mem _ (ih t v h).1,(ih t v h).2⟩
  obtain ⟨h1,h2⟩:=key _ _ _ ht
  have hlt:t<args.size:=by simpa using h1
  subst h2;simp [Array.getElem?_append,hlt,List.getD_eq_getElem?_getD]

theorem Ok.t {K:Act→World→Prop} (h:Ok n w0 m H g K):Ok n w0 m H g (Exit.then K Q .normal):=h
theorem ay {K:Act→World→Prop} {id:Nat} (h:Ok n w0 m H g (Q (.exit id))):Ok n w0 m H g (Exit.then K Q (.exit id)):=h
theorem aC {K:Act→World→Prop} (h:Ok n w0 m H g (Q .ret)):Ok n w0 m H g (Exit.then K Q .ret):=h
theorem bG {id:Nat} (h:Ok n w0 m H g (Q .normal)):Ok n w0 m H g (Exit.inBlock id Q .normal):=h
theorem aV {id:Nat} (h:Ok n w0 m H g (Q .ret)):Ok n w0 m H g (Exit.inBlock id Q .ret):=h
theorem aM {id:Nat} (h:Ok n w0 m H g (Q .normal)):Ok n w0 m H g (Exit.inBlock id Q (.exit id)):=fun a W hA hW=>by
  simp only [Exit.inBlock,if_true]; exact h a W hA hW
theorem yY {id id':Nat} (hne:Nat.beq id' id=false) (h:Ok n w0 m H g (Q (.exit id'))):Ok n w0 m H g (Exit.inBlock id Q (.exit id')):=fun a W hA hW=>by
  simp only [Exit.inBlock,Nat.ne_of_beq_eq_false hne,if_false]; exact h a W hA hW

inductive gL (A:Type) where
  | mk (x:A) (l:List (List (List (gL A))×List Int)):gL A
namespace gL
variable {A:Type}
def lab:gL A→A | .mk x _=>x
def kids:gL A→List (List (List (gL A))×List Int) | .mk _ l=>l
instance [Inhabited A]:Inhabited (gL A):=⟨.mk default []⟩
theorem ind {P:gL A→Prop} (h:∀ x l,(∀ p ∈ l,∀ s ∈ p.1,∀ k ∈ s,P k)→P (.mk x l)):∀ t,P t
  | .mk x l=>h x l fun p hp s hs k hk=>ind h k
termination_by t=>SizeOf.sizeOf t
decreasing_by
  have h1:=List.sizeOf_lt_of_mem hk;have h2:=List.sizeOf_lt_of_mem hs;have h3:=List.sizeOf_lt_of_mem hp
  have h4:SizeOf.sizeOf p.1<SizeOf.sizeOf p:=by cases p; simp only [Prod.mk.sizeOf_spec]; omega
  simp only [gL.mk.sizeOf_spec];omega
mutual
def All (q:A→List (List (List (gL A))×List Int)→Prop):gL A→Prop
  | .mk x l=>q x l∧VT q l
def VT (q:A→List (List (List (gL A))×List Int)→Prop):List (List (List (gL A))×List Int)→Prop
  | []=>True
  | (p,_)::l=>VU q p∧VT q l
def VU (q:A→List (List (List (gL A))×List Int)→Prop):List (List (gL A))→Prop
  | []=>True
  | s::l=>VV q s∧VU q l
def VV (q:A→List (List (List (gL A))×List Int)→Prop):List (gL A)→Prop
  | []=>True
  | k::l=>All q k∧VV q l
end
theorem Lu {q:A→List (List (List (gL A))×List Int)→Prop}:∀ {l:List (gL A)},VV q l↔∀ k ∈ l,All q k
  | []=>by simp [VV]
  | k::l=>by simp [VV,Lu (l:=l)]
theorem Lt {q:A→List (List (List (gL A))×List Int)→Prop}:∀ {l:List (List (gL A))},VU q l↔∀ s ∈ l,∀ k ∈ s,All q k
  | []=>by simp [VU]
  | s::l=>by simp only [VU,Lt (l:=l),Lu,List.forall_mem_cons]
theorem Ls {q:A→List (List (List (gL A))×List Int)→Prop}:∀ {l:List (List (List (gL A))×List Int)},VT q l↔∀ p ∈ l,∀ s ∈ p.1,∀ k ∈ s,All q k
  | []=>by simp [VT]
  | (p,js)::l=>by simp only [VT,Ls (l:=l),Lt,List.forall_mem_cons]
theorem all_mk {q:A→List (List (List (gL A))×List Int)→Prop} {x:A} {l:List (List (List (gL A))×List Int)}:All q (.mk x l)↔q x l∧∀ p ∈ l,∀ s ∈ p.1,∀ k ∈ s,All q k:=by rw [All,Ls]
mutual
def sum (f:A→Nat):gL A→Nat
  | .mk x l=>f x+(sum3 f l+1)
def sum3 (f:A→Nat):List (List (List (gL A))×List Int)→Nat
  | []=>0
  | (p,js)::l=>((sum2 f p+1)+((js.map fun _=>1).sum+1))+sum3 f l
def sum2 (f:A→Nat):List (List (gL A))→Nat
  | []=>0
  | s::l=>(sum1 f s+1)+sum2 f l
def sum1 (f:A→Nat):List (gL A)→Nat
  | []=>0
  | k::l=>sum f k+sum1 f l
end
theorem OB {f:A→Nat}:∀ {l:List (gL A)},sum1 f l=(l.map (sum f)).sum
  | []=>rfl
  | k::l=>by simp [sum1,OB (l:=l)]
theorem OA {f:A→Nat}:∀ {l:List (List (gL A))},sum2 f l=(l.map fun s=>(s.map (sum f)).sum+1).sum
  | []=>rfl
  | s::l=>by simp [sum2,OA (l:=l),OB]
theorem Gd {f:A→Nat}:∀ {l:List (List (List (gL A))×List Int)},sum3 f l=(l.map fun p=>((p.1.map fun s=>(s.map (sum f)).sum+1).sum+1)+((p.2.map fun _=>1).sum+1)).sum
  | []=>rfl
  | (p,js)::l=>by simp only [sum3,Gd (l:=l),OA,List.map_cons,List.sum_cons]
end gL
inductive Ty where
  | int (k:IntKind) | bool | str | slice (e:Ty) | pair (a b:Ty) | unit
  | tst (a:Ty)

@[reducible] def Ty.den:Ty→Type
  | .int _=>Int | .bool=>Bool | .str=>List UInt8 | .slice e=>List e.den | .pair a b=>a.den×b.den | .unit=>Unit
  | .tst a=>gL a.den
@[reducible] def Ty.size:Ty→Nat
  | .int _=>1 | .bool=>1 | .str=>1 | .slice _=>1 | .pair a b=>a.size+b.size | .unit=>0
  | .tst a=>a.size+1

def lM (g:ak) (a:Addr):Option Value :=
  match g a.block with
  | some (.cells c _ _)=>if a.spot.isSome then none else c[a.off]?
  | _=>none

theorem l5 {W:World} {a:Addr} {v:Value} (h:Gh g W) (hc:lM g a=some v):W.cell? a=some v:=by
  unfold lM at hc
  split at hc
  · rename_i hb
    simp only [World.cell?,h _ _ hb];exact hc
  · cases hc

def At (g:ak) (b o:Nat) (cells:List Value):Prop:=∀ j v,cells[j]? = some v→lM g ⟨b,o+j,none⟩=some v

mutual
def EG (g:ak) {A:Type} (p:List Value→A→Prop) (j:List Value→List Int→Prop) (sz:Nat):List Value→gL A→Prop
  | cs,.mk x l=>∃ c1 a c,cs=c1++[.slice a l.length c]∧p c1 x∧(l.length≤c∧c≤maxLen)∧LB g p j sz a 0 l
def LB (g:ak) {A:Type} (p:List Value→A→Prop) (j:List Value→List Int→Prop) (sz:Nat) (a:Option Addr):Nat→List (List (List (gL A))×List Int)→Prop
  | _,[]=>True
  | i,(ss,js)::l=>(∃ b off,a=some ⟨b,off,none⟩∧∃ jC,jC.length=2∧At g b (off+i * 2) jC∧∃ c1 c2,jC=c1++c2∧(∃ a2 k2,c1=[.slice a2 ss.length k2]∧(ss.length≤k2∧k2≤maxLen)∧FX g p j sz a2 0 ss)∧j c2 js)∧LB g p j sz a (i+1) l
def FX (g:ak) {A:Type} (p:List Value→A→Prop) (j:List Value→List Int→Prop) (sz:Nat) (a:Option Addr):Nat→List (List (gL A))→Prop
  | _,[]=>True
  | i,ts::l=>(∃ b off,a=some ⟨b,off,none⟩∧∃ jC,jC.length=1∧At g b (off+i * 1) jC∧∃ a2 k2,jC=[.slice a2 ts.length k2]∧(ts.length≤k2∧k2≤maxLen)∧FY g p j sz a2 0 ts)∧FX g p j sz a (i+1) l
def FY (g:ak) {A:Type} (p:List Value→A→Prop) (j:List Value→List Int→Prop) (sz:Nat) (a:Option Addr):Nat→List (gL A)→Prop
  | _,[]=>True
  | i,t::l=>(∃ b off,a=some ⟨b,off,none⟩∧∃ jC,jC.length=sz∧At g b (off+i * sz) jC∧EG g p j sz jC t)∧FY g p j sz a (i+1) l
end
section
variable {g:ak} {A:Type} {p:List Value→A→Prop} {j:List Value→List Int→Prop} {sz:Nat} {a:Option Addr}
theorem rH:∀ {l:List (gL A)} {i:Nat},FY g p j sz a i l ↔
    ∀ k x,l[k]? = some x→∃ b off,a=some ⟨b,off,none⟩∧∃ jC,jC.length=sz∧At g b (off+(i+k) * sz) jC∧EG g p j sz jC x
  | [],i=>by simp [FY]
  | t::l,i=>by
    rw [FY,rH (l:=l)];constructor
    · rintro ⟨h0,h1⟩ k x hx
      cases k with
      | zero=>simp only [List.getElem?_cons_zero,Option.some.injEq] at hx; subst hx; exact h0
      | succ k=>have:=h1 k x (by simpa using hx); rwa [show i+1+k=i+(k+1) by omega] at this
    intro h;refine ⟨h 0 t rfl,fun k x hx=>?_⟩;have:=h (k+1) x (by simpa using hx)
    rwa [show i+(k+1)=i+1+k by omega] at this
theorem rG:∀ {l:List (List (gL A))} {i:Nat},FX g p j sz a i l ↔
    ∀ k x,l[k]? = some x→∃ b off,a=some ⟨b,off,none⟩∧∃ jC,jC.length=1∧At g b (off+(i+k) * 1) jC∧∃ a2 k2,jC=[.slice a2 x.length k2]∧(x.length≤k2∧k2≤maxLen)∧FY g p j sz a2 0 x
  | [],i=>by simp [FX]
  | t::l,i=>by
    rw [FX,rG (l:=l)];constructor
    · rintro ⟨h0,h1⟩ k x hx
      cases k with
      | zero=>simp only [List.getElem?_cons_zero,Option.some.injEq] at hx; subst hx; exact h0
      | succ k=>have:=h1 k x (by simpa using hx); rwa [show i+1+k=i+(k+1) by omega] at this
    intro h;refine ⟨h 0 t rfl,fun k x hx=>?_⟩;have:=h (k+1) x (by simpa using hx)
    rwa [show i+(k+1)=i+1+k by omega] at this
theorem rF:∀ {l:List (List (List (gL A))×List Int)} {i:Nat},LB g p j sz a i l ↔
    ∀ k x,l[k]? = some x→∃ b off,a=some ⟨b,off,none⟩∧∃ jC,jC.length=2∧At g b (off+(i+k) * 2) jC∧∃ c1 c2,jC=c1++c2∧(∃ a2 k2,c1=[.slice a2 x.1.length k2]∧(x.1.length≤k2∧k2≤maxLen)∧FX g p j sz a2 0 x.1)∧j c2 x.2
  | [],i=>by simp [LB]
  | (ss,js)::l,i=>by
    rw [LB,rF (l:=l)];constructor
    · rintro ⟨h0,h1⟩ k x hx
      cases k with
      | zero=>simp only [List.getElem?_cons_zero,Option.some.injEq] at hx; subst hx; exact h0
      | succ k=>have:=h1 k x (by simpa using hx); rwa [show i+1+k=i+(k+1) by omega] at this
    intro h;refine ⟨h 0 (ss,js) rfl,fun k x hx=>?_⟩;have:=h (k+1) x (by simpa using hx)
    rwa [show i+(k+1)=i+1+k by omega] at this
end
def NT (g:ak) (cs:List Value) (js:List Int):Prop:=∃ a c,cs=[.slice a js.length c]∧(js.length≤c∧c≤maxLen) ∧
  ∀ (i:Nat) (x:Int),js[i]? = some x→∃ b off,a=some ⟨b,off,none⟩∧∃ jC:List Value,jC.length=1∧At g b (off+i * 1) jC∧jC=[.int .u8 x]
def bE (g:ak):(t:Ty)→List Value→t.den→Prop
  | .int k,cs,x=>cs=[.int k x]
  | .bool,cs,x=>cs=[.bool x]
  | .str,cs,s=>cs=[.string ⟨⟨s⟩⟩]
  | .slice e,cs,xs=>∃ a c,cs=[.slice a xs.length c]∧(xs.length≤c∧c≤maxLen) ∧
      ∀ i x,xs[i]? = some x→∃ b off,a=some ⟨b,off,none⟩∧∃ jC,jC.length=e.size∧At g b (off+i * e.size) jC∧bE g e jC x
  | .pair a b,cs,x=>∃ c1 c2,cs=c1++c2∧bE g a c1 x.1∧bE g b c2 x.2
  | .unit,cs,_=>cs=[]
  | .tst a,cs,x=>EG g (bE g a) (NT g) (a.size+1) cs x
theorem bE.tst {g:ak} {a:Ty} {cs:List Value} {x:gL a.den}:bE g (.tst a) cs x↔bE g (.pair a (.slice (.pair (.slice (.slice (.tst a))) (.slice (.int .u8))))) cs (x.lab,x.kids):=by
  cases x with
  | mk x l =>
    show EG g (bE g a) (NT g) (a.size+1) cs (.mk x l)↔_;rw [EG];constructor
    · rintro ⟨c1,ad,c,h1,h2,h3,h4⟩
      exact ⟨c1,_,h1,h2,ad,c,rfl,h3,fun i q hq=>by
        obtain ⟨b,off,ha,jC,hl,hat,c1',c2',e,⟨a2,k2,e1,hk,hs⟩,hj⟩:=rF.1 h4 i q hq;rw [Nat.zero_add] at hat
        exact ⟨b,off,ha,jC,hl,hat,c1',c2',e,⟨a2,k2,e1,hk,fun i2 s hs2=>by
          obtain ⟨b,off,ha,jC,hl,hat,a3,k3,e3,hk3,h5⟩:=rG.1 hs i2 s hs2;rw [Nat.zero_add] at hat
          exact ⟨b,off,ha,jC,hl,hat,a3,k3,e3,hk3,fun i3 y hy=>by
            obtain ⟨b,off,ha,jC,hl,hat,hr⟩:=rH.1 h5 i3 y hy;rw [Nat.zero_add] at hat
            exact ⟨b,off,ha,jC,hl,hat,hr⟩⟩⟩,hj⟩⟩
    rintro ⟨c1,_,h1,h2,ad,c,rfl,h3,h4⟩
    exact ⟨c1,ad,c,h1,h2,h3,rF.2 fun i q hq=>by
      obtain ⟨b,off,ha,jC,hl,hat,c1',c2',e,⟨a2,k2,e1,hk,hs⟩,hj⟩:=h4 i q hq;rw [Nat.zero_add]
      exact ⟨b,off,ha,jC,hl,hat,c1',c2',e,⟨a2,k2,e1,hk,rG.2 fun i2 s hs2=>by
        obtain ⟨b,off,ha,jC,hl,hat,a3,k3,e3,hk3,h5⟩:=hs i2 s hs2;rw [Nat.zero_add]
        exact ⟨b,off,ha,jC,hl,hat,a3,k3,e3,hk3,rH.2 fun i3 y hy=>by
          obtain ⟨b,off,ha,jC,hl,hat,hr⟩:=h5 i3 y hy;rw [Nat.zero_add]
          exact ⟨b,off,ha,jC,hl,hat,hr⟩⟩⟩,hj⟩⟩

theorem Addr.add_plain (b o k:Nat):(⟨b,o,none⟩:Addr).add k=⟨b,o+k,none⟩:=by unfold Addr.add; split <;> simp_all

theorem Ai {dst:Option Nat} {T E ty:TypeId} {x ix:Operand} {e:Ty} {a:Option Addr} {c:Nat} {xs:List e.den} {k:IntKind} {i:Int} {el:e.den}
    (hx:val m x=some (.slice a xs.length c)) (hi:val m ix=some (.int k i)) (hu:P.underlying T=some (.slice E)) (hs:(P.info? E).map (·.size)=some e.size)
    (hR:bE g (.slice e) [.slice a xs.length c] xs) (h0:0≤i) (he:xs[i.toNat]? = some el) :
    ∃ b off cells,cells.length=e.size∧At g b off cells∧bE g e cells el∧Yields P n w0 m H g ⟨dst,.indexAddr T x ix,ty,pos,after,gd⟩ (.pointer (some ⟨b,off,none⟩)):=by
  obtain ⟨a',c',hcs,hmx,hel⟩:=hR;simp only [List.cons.injEq,Value.slice.injEq,and_true] at hcs;obtain ⟨rfl,-,rfl⟩:=hcs;obtain ⟨b,off,ha,jC,hl,hat,hr⟩:=hel _ _ he;refine ⟨b,off+i.toNat * e.size,jC,hl,hat,hr,fun ac W hA hW=>?_⟩;have hlt:i.toNat<xs.length:=(List.getElem?_eq_some_iff.1 he).1;have hb:0≤i∧i<(xs.length:Int):=⟨h0,by omega⟩
  cases gW:P.info? E with
  | none=>simp [gW] at hs
  | some inf =>
    simp only [gW,Option.map_some,Option.some.injEq] at hs;simp only [execOp,hA.eval hx,hA.eval hi,ha];simp [Instr.indexAt,asIntOf,underlying,hu,hb,sizeOf,typeInfo,gW,hs,Addr.add_plain,go_sem]

theorem af.aX {d:Nat} {T E ty:TypeId} {x ix:Operand} {K:Act→World→Prop} {e:Ty} {a:Option Addr} {c:Nat} {xs:List e.den} {k:IntKind} {i:Int} {el:e.den}
    (hx:val m x=some (.slice a xs.length c)) (hi:val m ix=some (.int k i)) (hu:P.underlying T=some (.slice E)) (hs:(P.info? E).map (·.size)=some e.size)
    (hR:bE g (.slice e) [.slice a xs.length c] xs) (h0:0≤i) (he:xs[i.toNat]? = some el) (hn:Nat.ble (d+1) n=true)
    (h:∀ b off cells,cells.length=e.size→At g b off cells→bE g e cells el→Ok n w0 ((d,.pointer (some ⟨b,off,none⟩))::m) H g K) :
    af P K Q ⟨some d,.indexAddr T x ix,ty,pos,after,gd⟩ n w0 m H g:=by
  obtain ⟨b,off,cells,hl,hat,hr,hy⟩:=Ai (P:=P) (n:=n) (w0:=w0) (H:=H) (dst:=some d) (ty:=ty) (pos:=pos) (after:=after) (gd:=gd) hx hi hu hs hR h0 he;exact af.s hy rfl hn (h b off cells hl hat hr)

theorem fK.aX {d:Nat} {T E ty:TypeId} {x ix:Operand} {KQ:Act→Prop} {e:Ty} {a:Option Addr} {c:Nat} {xs:List e.den} {k:IntKind} {i:Int} {el:e.den}
    (hx:val m x=some (.slice a xs.length c)) (hi:val m ix=some (.int k i)) (hu:P.underlying T=some (.slice E)) (hs:(P.info? E).map (·.size)=some e.size)
    (hR:bE g (.slice e) [.slice a xs.length c] xs) (h0:0≤i) (he:xs[i.toNat]? = some el) (hn:Nat.ble (d+1) n=true)
    (h:∀ b off cells,cells.length=e.size→At g b off cells→bE g e cells el→Y5 n ((d,.pointer (some ⟨b,off,none⟩))::m) KQ) :
    fK P KQ ⟨some d,.indexAddr T x ix,ty,pos,after,gd⟩ n w0 m H g:=by
  obtain ⟨b,off,cells,hl,hat,hr,hy⟩:=Ai (P:=P) (n:=n) (w0:=w0) (H:=H) (dst:=some d) (ty:=ty) (pos:=pos) (after:=after) (gd:=gd) hx hi hu hs hR h0 he;exact fK.s hy rfl hn (h b off cells hl hat hr)

theorem fe {dst:Option Nat} {T ty:TypeId} {x:Operand} {b o:Nat} {v:Value} {cells:List Value} {d:TypeDesc}
    (j:Nat) (hat:At g b o cells) (hx:val m x=some (.pointer (some ⟨b,o+j,none⟩))) (hu:P.underlying T=some d) (hd:d.isRow=false) (hv:cells[j]? = some v) :
    Yields P n w0 m H g ⟨dst,.load T x,ty,pos,after,gd⟩ v:=fun a W hA hW=>by
  have hc:W.cell? ⟨b,o+j,none⟩=some v:=l5 hW.ghost (hat j v hv);simp only [execOp,Instr.loadAt,hA.eval hx,Sem.run_bind,Instr.sureAddr];simp [jX W b (o+j) T v d hc hu hd]

theorem bL {dst:Option Nat} {T ty:TypeId} {x:Operand} {b o:Nat} {cells:List Value} {d:TypeDesc}
    (j k:Nat) (vs:Array Value) (hat:At g b o cells) (hx:val m x=some (.pointer (some ⟨b,o+j,none⟩))) (hu:P.underlying T=some d) (hd:d.isRow=true) (hk:(P.info? T).map (·.size)=some k)
    (hv:((cells.drop j).take k).toArray=vs) (hl:Nat.beq ((cells.drop j).take k).length k=true) :
    Yields P n w0 m H g ⟨dst,.load T x,ty,pos,after,gd⟩ (.agg vs):=fun a W hA hW=>by
  have hr:W.rangeAt b (o+j) ((cells.drop j).take k):=fun i v hi=>by
    rw [List.getElem?_take] at hi
    split at hi
    · rw [List.getElem?_drop] at hi
      rw [Nat.add_assoc];exact l5 hW.ghost (hat _ v hi)
    · cases hi
  have hl':=Nat.eq_of_beq_eq_true hl;have:=run_loadVar_mid (P:=P) W b (o+j) T _ d hr hu hd (by rw [hk,hl']);simp only [execOp,Instr.loadAt,hA.eval hx,Sem.run_bind,Instr.sureAddr];simp [this,hv]

theorem bE.len {e:Ty} {cs:List Value} {xs:List e.den} (h:bE g (.slice e) cs xs):xs.length≤maxLen:=by
  obtain ⟨a,c,_,h,_⟩:=h; omega

def zi (tmps:Array Value):ResultVar→Sem Value
  | .tmp t=>Pure.pure (tmps.getD t undef)
  | .cell a t=>do loadVar t (← asAddr (tmps.getD a undef))

def Ej (P:Program) (n:nQ) (w0:Base) (m:Env) (H:List cu) (g:ak) (r:ResultVar) (v:Value):Prop :=
  ∀ a W,fC n m a→dm w0 H g W→(zi a.tmps r).run P W=.ok v W

theorem Ej.tmp {t:Nat} {v:Value} (hv:get m t=some v):Ej P n w0 m H g (.tmp t) v:=fun a W hA _=>by
  have e1:a.tmps.getD t undef=v:=by rw [Array.getD_eq_getD_getElem?,hA.env t v hv]; rfl
  simp only [zi,e1]; rfl

theorem Ej.iM {t b off:Nat} {T:TypeId} {cs:Array Value} {T':TypeId} {fz:Nat×Nat} {d:TypeDesc} (i k:Nat) (vs:Array Value) (hx:get m t=some (.pointer (some ⟨b,off,none⟩))) (hH:H[i]? = some (.blk b (.cells cs T' fz)))
    (hu:P.underlying T=some d) (hd:d.isRow=true) (hk:(P.info? T).map (·.size)=some k) (hv:((cs.toList.drop off).take k).toArray=vs) (hl:Nat.beq ((cs.toList.drop off).take k).length k=true) :
    Ej P n w0 m H g (.cell t T) (.agg vs):=fun a W hA hW=>by
  have e1:a.tmps.getD t undef=.pointer (some ⟨b,off,none⟩):=by rw [Array.getD_eq_getD_getElem?,hA.env t _ hx]; rfl
  have hr:=CG (hW.at hH) off k;have hl':=Nat.eq_of_beq_eq_true hl;have:=run_loadVar_mid (P:=P) W b off T _ d hr hu hd (by rw [hk,hl']);simp only [zi,e1];simp [asAddr,this,hv]

theorem Ej.vO {t b off:Nat} {T:TypeId} {cs:Array Value} {T':TypeId} {fz:Nat×Nat} {d:TypeDesc} {v:Value} (i:Nat) (hx:get m t=some (.pointer (some ⟨b,off,none⟩))) (hH:H[i]? = some (.blk b (.cells cs T' fz)))
    (hu:P.underlying T=some d) (hd:d.isRow=false) (hv:cs[off]? = some v) :
    Ej P n w0 m H g (.cell t T) v:=fun a W hA hW=>by
  have e1:a.tmps.getD t undef=.pointer (some ⟨b,off,none⟩):=by rw [Array.getD_eq_getD_getElem?,hA.env t _ hx]; rfl
  have hc:W.cell? ⟨b,off,none⟩=some v:=by simp only [World.cell?,hW.at hH]; simpa using hv
  simp only [zi,e1];simp [asAddr,jX W b off T v d hc hu hd]

theorem Mh (fn:Func) (tmps:Array Value):results fn tmps=(do let vs ← fn.results.mapM (zi tmps); Pure.pure (if h:vs.size=1 then vs[0] else .tuple vs)):=by
  rfl

def iI (k:IntKind) (x y:Int):Int:=k.wrap ((BitVec.ofInt k.bits x ||| BitVec.ofInt k.bits y).toNat)
theorem Yields.quo {dst:Option Nat} {T T2 ty:TypeId} {x y:Operand} {k:IntKind} {i j:Int}
    (hx:val m x=some (.int k i)) (hy:val m y=some (.int k j)) (h:j≠0):Yields P n w0 m H g ⟨dst,.binOp .quo T x y T2,ty,pos,after,gd⟩ (.int k (k.wrap (i.tdiv j))):=fun a W hA hW=>by
  simp only [execOp,hA.eval hx,hA.eval hy];simp [eqGuard,binOp,Op.intDiv,h,go_sem]

theorem Yields.rem {dst:Option Nat} {T T2 ty:TypeId} {x y:Operand} {k:IntKind} {i j:Int}
    (hx:val m x=some (.int k i)) (hy:val m y=some (.int k j)) (h:j≠0):Yields P n w0 m H g ⟨dst,.binOp .rem T x y T2,ty,pos,after,gd⟩ (.int k (i.tmod j)):=fun a W hA hW=>by
  simp only [execOp,hA.eval hx,hA.eval hy];simp [eqGuard,binOp,Op.intDiv,h,go_sem]

end
section
variable {P:Program} {pos:String} {after:Array Edge} {gd:Option (Nat×Bool)} {n:nQ} {w0:Base} {m:Env} {H:List cu} {g:ak} {R:Act→World→Prop} {Q:Exit→Act→World→Prop} {ops:Array Oper}
def Qe (P:Program) (k:Nat) (t:TypeId) (x y:Value) (b:Bool):Prop:=∀ d W,k≤d→(Op.equalIn d t x y).run P W=.ok b W

theorem Qe.int {t:TypeId} {kd:IntKind} {a b:Int} (hu:P.underlying t=some (.int kd)):Qe P 1 t (.int kd a) (.int kd b) (a==b):=fun d W hd=>by
  obtain ⟨d,rfl⟩:∃ e,d=e+1:=⟨d - 1,by omega⟩;simp [Op.equalIn,run_underlying hu]
theorem Qe.bool {t:TypeId} {a b:Bool} (hu:P.underlying t=some .bool):Qe P 1 t (.bool a) (.bool b) (a==b):=fun d W hd=>by
  obtain ⟨d,rfl⟩:∃ e,d=e+1:=⟨d - 1,by omega⟩;simp [Op.equalIn,run_underlying hu]
theorem bytes_beq (a b:List UInt8):((⟨⟨a⟩⟩:ByteArray)==⟨⟨b⟩⟩)=(a==b):=by
  show ((Array.mk a)==(Array.mk b))=(a==b);simp
theorem Qe.str {t:TypeId} {a b:List UInt8} (hu:P.underlying t=some .string):Qe P 1 t (.string ⟨⟨a⟩⟩) (.string ⟨⟨b⟩⟩) (a==b):=fun d W hd=>by
  obtain ⟨d,rfl⟩:∃ e,d=e+1:=⟨d - 1,by omega⟩;simp [Op.equalIn,run_underlying hu,bytes_beq]

def VR (P:Program) (k:Nat) (t:TypeId) (xs ys:Array Value) (off:Nat) (b:Bool):Prop :=
  ∃ u v,(∀ W,(part t xs off).run P W=.ok u W)∧(∀ W,(part t ys off).run P W=.ok v W)∧Qe P k t u v b

def rJ (P:Program) (k:Nat) (xs ys:Array Value):List Field→List Bool→Prop
  | [],[]=>True
  | f :: l, b :: bs => f.name ≠ "_" ∧ VR P k f.type xs ys f.offset b ∧ rJ P k xs ys l bs
  | _,_=>False

theorem rJ.run {k d:Nat} {xs ys:Array Value} (hd:k≤d) (W:World):∀ (l:List Field) (bs:List Bool),rJ P k xs ys l bs →
    (forIn l ((none,()):Option Bool×Unit) fun f _ =>
      if f.name ≠ "_" then do
        let u ← part f.type xs f.offset;let v ← part f.type ys f.offset;let b ← Op.equalIn d f.type u v
        if (!b)=true then Pure.pure (ForInStep.done (some false,())) else Pure.pure (ForInStep.yield (none,()))
      else Pure.pure (ForInStep.yield (none,())):Sem _).run P W=.ok (if bs.all id then (none,()) else (some false,())) W
  | [],[],_=>by simp
  | [],_::_,h=>h.elim
  | _::_,[],h=>h.elim
  | f::l,b::bs,⟨hn,⟨u,v,hu,hv,he⟩,h⟩=>by
    have ih:=rJ.run hd W l bs h;simp only [List.forIn_cons,hn,ne_eq,not_false_eq_true,if_true,Sem.run_bind,hu W,hv W,he d W hd,Result.andThen];cases b
    · simp
    simp only [Bool.not_true,Bool.false_eq_true,if_false,Sem.run_pure,List.all_cons,id_eq,Bool.true_and];simpa using ih

theorem Qe.struct {k:Nat} {t:TypeId} {l:List Field} {xs ys:Array Value} {bs:List Bool} (hu:P.underlying t=some (.struct l.toArray)) (hs:P.stoodInHeld t=false) (h:rJ P k xs ys l bs) :
    Qe P (k+1) t (.agg xs) (.agg ys) (bs.all id):=fun d W hd=>by
  obtain ⟨d,rfl⟩:∃ e,d=e+1:=⟨d - 1,by omega⟩;have:=rJ.run (by omega:k≤d) W l bs h;simp only [Op.equalIn,Sem.run_bind,run_underlying hu,Result.andThen,run_program,hs,Bool.false_eq_true,if_false,List.forIn_toArray,this]
  cases bs.all id <;> simp

def vR (P:Program) (k:Nat) (e:TypeId) (size:Nat) (xs ys:Array Value):Nat→List Bool→Prop
  | _,[]=>True
  | i,b::bs=>VR P k e xs ys (i * size) b∧vR P k e size xs ys (i+1) bs

theorem vR.run {k d size:Nat} {e:TypeId} {xs ys:Array Value} (hd:k≤d) (W:World):∀ (bs:List Bool) (i:Nat),vR P k e size xs ys i bs →
    (forIn (List.range' i bs.length) ((none,()):Option Bool×Unit) fun j _=>do
        let u ← part e xs (j * size);let v ← part e ys (j * size);let b ← Op.equalIn d e u v
        if (!b)=true then Pure.pure (ForInStep.done (some false,())) else Pure.pure (ForInStep.yield (none,())):Sem _).run P W=.ok (if bs.all id then (none,()) else (some false,())) W
  | [],_,_=>by simp
  | b::bs,i,⟨⟨u,v,hu,hv,he⟩,h⟩=>by
    have ih:=vR.run hd W bs (i+1) h;simp only [List.length_cons,List.range'_succ,List.forIn_cons,Sem.run_bind,hu W,hv W,he d W hd,Result.andThen];cases b
    · simp
    simp only [Bool.not_true,Bool.false_eq_true,if_false,Sem.run_pure,List.all_cons,id_eq,Bool.true_and];simpa using ih

theorem Qe.array {k:Nat} {t e size:Nat} {xs ys:Array Value} {bs:List Bool} {len:Nat} (hu:P.underlying t=some (.array len e)) (hl:len=bs.length) (hs:(P.info? e).map (·.size)=some size) (h:vR P k e size xs ys 0 bs) :
    Qe P (k+1) t (.agg xs) (.agg ys) (bs.all id):=fun d W hd=>by
  obtain ⟨d,rfl⟩:∃ e,d=e+1:=⟨d - 1,by omega⟩;subst hl;have:=vR.run (by omega:k≤d) W bs 0 h
  cases gW:P.info? e with
  | none=>simp [gW] at hs
  | some inf =>
    simp only [gW,Option.map_some,Option.some.injEq] at hs
    have hsz:(sizeOf e).run P W=.ok size W:=by simp [sizeOf,typeInfo,gW,hs]
    simp only [Op.equalIn,Sem.run_bind,run_underlying hu,Result.andThen,hsz,Std.Legacy.Range.forIn_eq_forIn_range',Std.Legacy.Range.size,Nat.sub_zero,Nat.add_one_sub_one,Nat.div_one,this]
    cases bs.all id <;> simp

theorem Qe.mono {k k':Nat} {t:TypeId} {x y:Value} {b:Bool} (h:Qe P k t x y b) (hk:k≤k'):Qe P k' t x y b:=fun d W hd=>h d W (Nat.le_trans hk hd)

theorem Ja {cs:Array Value} (off:Nat) (l:List Value) (hl:(cs.toList.drop off).take l.length=l) {k:Nat} {v:Value} (h:l[k]? = some v):cs[off+k]? = some v:=by
  rw [← hl,List.getElem?_take] at h
  split at h
  · rw [List.getElem?_drop] at h
    simpa using h
  · cases h

def R9 (f:BinOp) (a b:List UInt8):Option Bool :=
  match f with
  | .eql=>some (a==b) | .neq=>some !(a==b) | .lss=>some (Op.bytesLess a b) | .leq=>some (Op.bytesLess a b||a==b)
  | .gtr=>some !(Op.bytesLess a b||a==b) | .geq=>some !(Op.bytesLess a b) | _=>none

theorem iG {dst:Option Nat} {f:BinOp} {T T2 ty:TypeId} {x y:Operand} {a b:List UInt8} {r:Bool}
    (hx:val m x=some (.string ⟨⟨a⟩⟩)) (hy:val m y=some (.string ⟨⟨b⟩⟩)) (h:R9 f a b=some r):Yields P n w0 m H g ⟨dst,.binOp f T x y T2,ty,pos,after,gd⟩ (.bool r):=fun ac W hA hW=>by
  simp only [execOp,hA.eval hx,hA.eval hy]
  cases f <;> simp only [R9,Option.some.injEq,reduceCtorEq] at h <;> subst h <;> simp [eqGuard,binOp,Op.stringOp]

theorem dz {dst:Option Nat} {T T2 ty:TypeId} {x y:Operand} {a b:List UInt8}
    (hx:val m x=some (.string ⟨⟨a⟩⟩)) (hy:val m y=some (.string ⟨⟨b⟩⟩)) (h:a.length+b.length≤maxLen):Yields P n w0 m H g ⟨dst,.binOp .add T x y T2,ty,pos,after,gd⟩ (.string ⟨⟨a++b⟩⟩):=fun ac W hA hW=>by
  simp only [execOp,hA.eval hx,hA.eval hy]
  have e:(⟨⟨a⟩⟩:ByteArray)++⟨⟨b⟩⟩=⟨⟨a++b⟩⟩:=by
    apply ByteArray.ext;simp
  have h2:¬ (((⟨⟨a⟩⟩:ByteArray).size+(⟨⟨b⟩⟩:ByteArray).size:Nat):Int)>IntKind.i64.max:=by
    show ¬ ((a.length+b.length:Nat):Int)>9223372036854775807;unfold maxLen at h;omega
  simp only [eqGuard,binOp,Op.stringOp,e];rw [if_neg h2];simp

theorem dQ {dst:Option Nat} {T ty:TypeId} {x ix:Operand} {k:IntKind} {i:Int} {s:List UInt8} {b:UInt8}
    (hx:val m x=some (.string ⟨⟨s⟩⟩)) (hi:val m ix=some (.int k i)) (hu:P.underlying T=some .string) (h0:0≤i) (hb:s[i.toNat]? = some b):Yields P n w0 m H g ⟨dst,.index T x ix,ty,pos,after,gd⟩ (.int .u8 b.toNat):=fun a W hA hW=>by
  simp only [execOp,hA.eval hx,hA.eval hi]
  have e:(⟨⟨s⟩⟩:ByteArray)[i.toNat]? = some b:=by
    obtain ⟨hlt,he⟩:=List.getElem?_eq_some_iff.1 hb;have hlt':i.toNat<(⟨⟨s⟩⟩:ByteArray).size:=hlt;rw [getElem?_pos (⟨⟨s⟩⟩:ByteArray) i.toNat hlt'];exact congrArg some he
  simp [Instr.index,asIntOf,underlying,hu,h0,e]

theorem su (s:List UInt8) (l h:Nat):(⟨⟨s⟩⟩:ByteArray).extract l h=⟨⟨(s.take h).drop l⟩⟩:=by
  apply ByteArray.ext;simp only [ByteArray.data_extract];apply Array.ext';simp [List.drop_take]

theorem b_ {dst:Option Nat} {T ty:TypeId} {x:Operand} {lo hi:Option Operand} {s:List UInt8} {l h:Int}
    (hx:val m x=some (.string ⟨⟨s⟩⟩)) (hu:P.underlying T=some .string)
    (hl:(∃ o k,lo=some o∧val m o=some (.int k l))∨(lo=none∧l=0)) (hh:(∃ o k,hi=some o∧val m o=some (.int k h))∨(hi=none∧h=(s.length:Int)))
    (h0:0≤l) (h1:l≤h) (h2:h≤s.length) (ys:List UInt8) (hys:(s.take h.toNat).drop l.toNat=ys):Yields P n w0 m H g ⟨dst,.slice T x lo hi none,ty,pos,after,gd⟩ (.string ⟨⟨ys⟩⟩):=fun a W hA hW=>by
  subst hys;have hsz:(⟨⟨s⟩⟩:ByteArray).size=s.length:=rfl
  have e1:((h.toNat:Nat):Int)=h:=by omega
  rcases hl with ⟨o,k,rfl,ho⟩ | ⟨rfl,rfl⟩ <;> rcases hh with ⟨o',k',rfl,ho'⟩ | ⟨rfl,rfl⟩
  · simp only [execOp,hA.eval hx,hA.eval ho,hA.eval ho',Option.map_some,Option.map_none]
    simp [Instr.sliceAt,underlying,hu,Instr.slice,Instr.sliceBounds,Instr.sliceBound,asIntOf,hsz,h0,show 0≤h by omega,h2,e1,h1,su,go_sem]
  · simp only [execOp,hA.eval hx,hA.eval ho,Option.map_some,Option.map_none]
    simp [Instr.sliceAt,underlying,hu,Instr.slice,Instr.sliceBounds,Instr.sliceBound,asIntOf,hsz,h0,h1,su,go_sem]
  · simp only [execOp,hA.eval hx,hA.eval ho',Option.map_some,Option.map_none]
    simp [Instr.sliceAt,underlying,hu,Instr.slice,Instr.sliceBounds,Instr.sliceBound,asIntOf,hsz,h1,h2,su,go_sem]
  simp only [execOp,hA.eval hx,Option.map_none];simp [Instr.sliceAt,underlying,hu,Instr.slice,Instr.sliceBounds,go_sem]

theorem Ab {dst:Option Nat} {T E ty:TypeId} {x:Operand} {lo hi:Option Operand} {e:Ty} {a:Option Addr} {c:Nat} {xs:List e.den} {l h:Int}
    (hx:val m x=some (.slice a xs.length c)) (hu:P.underlying T=some (.slice E)) (hs:(P.info? E).map (·.size)=some e.size)
    (hl:(∃ o k,lo=some o∧val m o=some (.int k l))∨(lo=none∧l=0)) (hh:(∃ o k,hi=some o∧val m o=some (.int k h))∨(hi=none∧h=(xs.length:Int)))
    (hR:bE g (.slice e) [.slice a xs.length c] xs) (h0:0≤l) (h1:l≤h) (h2:h≤xs.length) :
    ∃ a' c',bE g (.slice e) [.slice a' ((xs.take h.toNat).drop l.toNat).length c'] ((xs.take h.toNat).drop l.toNat) ∧
      Yields P n w0 m H g ⟨dst,.slice T x lo hi none,ty,pos,after,gd⟩ (.slice a' ((xs.take h.toNat).drop l.toNat).length c'):=by
  obtain ⟨a1,c1,hcs,⟨hm1,hm2⟩,hel⟩:=hR;simp only [List.cons.injEq,Value.slice.injEq,and_true] at hcs;obtain ⟨rfl,-,rfl⟩:=hcs
  have hlen:((xs.take h.toNat).drop l.toNat).length=h.toNat - l.toNat:=by simp; omega
  refine ⟨if c=l.toNat then a else a.map (·.add (l.toNat * e.size)),c - l.toNat,⟨_,_,rfl,by rw [hlen]; omega,fun i y hy=>?_⟩,fun ac W hA hW=>?_⟩
  · have hi2:xs[l.toNat+i]? = some y:=by
      rw [List.getElem?_drop] at hy;rw [List.getElem?_take] at hy
      split at hy
      · exact hy
      · cases hy
    obtain ⟨b,off,rfl,jC,he1,hat,hr⟩:=hel _ _ hi2;have hlt:l.toNat+i<xs.length:=(List.getElem?_eq_some_iff.1 hi2).1;refine ⟨b,off+l.toNat * e.size,?_,jC,he1,?_,hr⟩
    · rw [if_neg (by omega)]
      simp [Addr.add_plain]
    · rw [Nat.add_assoc,← Nat.add_mul]; exact hat
  rw [hlen]
  cases gW:P.info? E with
  | none=>simp [gW] at hs
  | some inf =>
    simp only [gW,Option.map_some,Option.some.injEq] at hs
    have e1:((h.toNat:Nat):Int)=h:=by omega
    have hcap:h≤(c:Int):=by omega
    rcases hl with ⟨o,k,rfl,ho⟩ | ⟨rfl,rfl⟩ <;> rcases hh with ⟨o',k',rfl,ho'⟩ | ⟨rfl,rfl⟩
    · simp only [execOp,hA.eval hx,hA.eval ho,hA.eval ho',Option.map_some,Option.map_none]
      simp [Instr.sliceAt,underlying,hu,Instr.slice,Instr.sliceBounds,Instr.sliceBound,asIntOf,h0,show 0≤h by omega,hcap,e1,h1,sizeOf,typeInfo,gW,hs,go_sem]
    · simp only [execOp,hA.eval hx,hA.eval ho,Option.map_some,Option.map_none]
      simp [Instr.sliceAt,underlying,hu,Instr.slice,Instr.sliceBounds,Instr.sliceBound,asIntOf,h0,h1,sizeOf,typeInfo,gW,hs,go_sem]
    · simp only [execOp,hA.eval hx,hA.eval ho',Option.map_some,Option.map_none]
      simp [Instr.sliceAt,underlying,hu,Instr.slice,Instr.sliceBounds,Instr.sliceBound,asIntOf,h1,hcap,sizeOf,typeInfo,gW,go_sem]
    simp only [execOp,hA.eval hx,Option.map_none];simp [Instr.sliceAt,underlying,hu,Instr.slice,Instr.sliceBounds,sizeOf,typeInfo,gW,go_sem]

theorem af.jm {d:Nat} {T E ty:TypeId} {x:Operand} {lo hi:Option Operand} {K:Act→World→Prop} {e:Ty} {a:Option Addr} {c:Nat} {xs:List e.den} {l h:Int}
    (hx:val m x=some (.slice a xs.length c)) (hu:P.underlying T=some (.slice E)) (hs:(P.info? E).map (·.size)=some e.size)
    (hl:(∃ o k,lo=some o∧val m o=some (.int k l))∨(lo=none∧l=0)) (hh:(∃ o k,hi=some o∧val m o=some (.int k h))∨(hi=none∧h=(xs.length:Int)))
    (hR:bE g (.slice e) [.slice a xs.length c] xs) (h0:0≤l) (h1:l≤h) (h2:h≤xs.length) (hn:Nat.ble (d+1) n=true) (ys:List e.den) (hys:(xs.take h.toNat).drop l.toNat=ys)
    (hk:∀ a' c',bE g (.slice e) [.slice a' ys.length c'] ys→Ok n w0 ((d,.slice a' ys.length c')::m) H g K) :
    af P K Q ⟨some d,.slice T x lo hi none,ty,pos,after,gd⟩ n w0 m H g:=by
  subst hys;obtain ⟨a',c',hr,hy⟩:=Ab (P:=P) (n:=n) (w0:=w0) (H:=H) (dst:=some d) (ty:=ty) (pos:=pos) (after:=after) (gd:=gd) hx hu hs hl hh hR h0 h1 h2;exact af.s hy rfl hn (hk a' c' hr)

theorem fK.jm {d:Nat} {T E ty:TypeId} {x:Operand} {lo hi:Option Operand} {KQ:Act→Prop} {e:Ty} {a:Option Addr} {c:Nat} {xs:List e.den} {l h:Int}
    (hx:val m x=some (.slice a xs.length c)) (hu:P.underlying T=some (.slice E)) (hs:(P.info? E).map (·.size)=some e.size)
    (hl:(∃ o k,lo=some o∧val m o=some (.int k l))∨(lo=none∧l=0)) (hh:(∃ o k,hi=some o∧val m o=some (.int k h))∨(hi=none∧h=(xs.length:Int)))
    (hR:bE g (.slice e) [.slice a xs.length c] xs) (h0:0≤l) (h1:l≤h) (h2:h≤xs.length) (hn:Nat.ble (d+1) n=true) (ys:List e.den) (hys:(xs.take h.toNat).drop l.toNat=ys)
    (hk:∀ a' c',bE g (.slice e) [.slice a' ys.length c'] ys→Y5 n ((d,.slice a' ys.length c')::m) KQ) :
    fK P KQ ⟨some d,.slice T x lo hi none,ty,pos,after,gd⟩ n w0 m H g:=by
  subst hys;obtain ⟨a',c',hr,hy⟩:=Ab (P:=P) (n:=n) (w0:=w0) (H:=H) (dst:=some d) (ty:=ty) (pos:=pos) (after:=after) (gd:=gd) hx hu hs hl hh hR h0 h1 h2;exact fK.s hy rfl hn (hk a' c' hr)

theorem bE.nil {e:Ty}:bE g (.slice e) [.slice none 0 0] []:=⟨none,0,rfl,by simp,fun i x hx=>by simp at hx⟩
end
theorem Nv {g g':ak} (h:lG g g') {a:Addr} {v:Value} (hc:lM g a=some v):lM g' a=some v:=by
  unfold lM at *
  cases hb:g a.block with
  | none=>rw [hb] at hc; cases hc
  | some o=>rw [hb] at hc; rw [h _ _ hb]; exact hc
theorem At.mono {g g':ak} (h:lG g g') {b o:Nat} {cells:List Value} (hc:At g b o cells):At g' b o cells:=fun j v hj=>Nv h (hc j v hj)
theorem bE.mono {g g':ak} (h:lG g g'):∀ {t:Ty} {cs:List Value} {x:t.den},bE g t cs x→bE g' t cs x
  | .int _,_,_,hr=>hr
  | .bool,_,_,hr=>hr
  | .str,_,_,hr=>hr
  | .slice _,_,_,⟨a,c,h1,h2,h3⟩=>⟨a,c,h1,h2,fun i x hx=>by
      obtain ⟨b,off,ha,jC,hl,hat,hr⟩:=h3 i x hx
      exact ⟨b,off,ha,jC,hl,hat.mono h,bE.mono h hr⟩⟩
  | .pair _ _,_,_,⟨c1,c2,h1,h2,h3⟩=>⟨c1,c2,h1,bE.mono h h2,bE.mono h h3⟩
  | .unit,_,_,hr=>hr
  | .tst a,cs,x,hr=>by
    have mn:∀ {cs:List Value} {x:a.den},bE g a cs x→bE g' a cs x:=bE.mono h
    have mj:∀ {cs:List Value} {x:List Int},NT g cs x→NT g' cs x:=fun ⟨ad,c,h1,h2,h3⟩=>⟨ad,c,h1,h2,fun i x hx=>by
      obtain ⟨b,off,ha,jC,hl,hat,hr⟩:=h3 i x hx
      exact ⟨b,off,ha,jC,hl,hat.mono h,hr⟩⟩
    have:∀ x:gL a.den,∀ cs,EG g (bE g a) (NT g) (a.size+1) cs x→EG g' (bE g' a) (NT g') (a.size+1) cs x:=gL.ind fun x l ih cs hr=>by
      rw [EG] at hr ⊢;obtain ⟨c1,ad,c,h1,h2,h3,h4⟩:=hr
      exact ⟨c1,ad,c,h1,mn h2,h3,rF.2 fun i q hq=>by
        obtain ⟨b,off,ha,jC,hl,hat,c1',c2',e,⟨a2,k2,e1,hk,hs⟩,hj⟩:=rF.1 h4 i q hq
        exact ⟨b,off,ha,jC,hl,hat.mono h,c1',c2',e,⟨a2,k2,e1,hk,rG.2 fun i2 s hs2=>by
          obtain ⟨b,off,ha,jC,hl,hat,a3,k3,e3,hk3,h5⟩:=rG.1 hs i2 s hs2
          exact ⟨b,off,ha,jC,hl,hat.mono h,a3,k3,e3,hk3,rH.2 fun i3 y hy=>by
            obtain ⟨b,off,ha,jC,hl,hat,hr⟩:=rH.1 h5 i3 y hy
            exact ⟨b,off,ha,jC,hl,hat.mono h,ih q (List.mem_of_getElem? hq) s (List.mem_of_getElem? hs2) y (List.mem_of_getElem? hy) jC hr⟩⟩⟩,mj hj⟩⟩
    exact this x cs hr
theorem bE.size {g:ak}:∀ {t:Ty} {cs:List Value} {x:t.den},bE g t cs x→cs.length=t.size
  | .int _,_,_,hr=>by rw [show _=_ from hr]; rfl
  | .bool,_,_,hr=>by rw [show _=_ from hr]; rfl
  | .str,_,_,hr=>by rw [show _=_ from hr]; rfl
  | .slice _,_,_,⟨a,c,h1,_,_⟩=>by rw [h1]; rfl
  | .pair _ _,_,_,⟨c1,c2,h1,h2,h3⟩=>by rw [h1,List.length_append,h2.size,h3.size]
  | .unit,_,_,hr=>by rw [show _=_ from hr]; rfl
  | .tst a,cs,.mk x l,hr=>by
    have hr:EG g (bE g a) (NT g) (a.size+1) cs (.mk x l):=hr;rw [EG] at hr;obtain ⟨c1,ad,c,h1,h2,-⟩:=hr;rw [h1,List.length_append,bE.size h2]; rfl

def lQ (H:List cu):List Nat:=H.filterMap cu.block

theorem yT {H:List cu} {b:Nat}:b ∈ lQ H↔∃ e ∈ H,e.block=some b:=List.mem_filterMap

def az (P:Program) (f:FuncId) (args:Array Value) (g:ak) (H0:List cu) (V:ak→List cu→Value→Prop):Prop :=
  ∀ W,dm ⟨W,lQ H0⟩ H0 g W→Calls P f args W fun e W'=>∃ v g' H',e=.returned v∧V g' H' v∧bf ⟨W,lQ H0⟩ g g'∧dm ⟨W,lQ H0⟩ H' g' W'

theorem az.mono {P:Program} {f:FuncId} {args:Array Value} {g:ak} {H0:List cu} {V V':ak→List cu→Value→Prop} (h:az P f args g H0 V) (hv:∀ g' H' v,lG g g'→V g' H' v→V' g' H' v):az P f args g H0 V':=fun W hW =>
  (h W hW).mono fun _ _ ⟨v,g',H',he,hV,hx,hW'⟩=>⟨v,g',H',he,hv g' H' v hx.1 hV,hx,hW'⟩

theorem az.gives {P:Program} {f:FuncId} {args:Array Value} {g:ak} {V:ak→List cu→Value→Prop} {v:Value} (h:az P f args g [] V) (hv:∀ g' H' u,lG g g'→V g' H' u→u=v):bC P f args g v:=fun W hg =>
  (h W (dm.start W g hg)).mono fun _ _ ⟨u,g',H',he,hV,hx,hW'⟩=>⟨by rw [he,hv g' H' u hx.1 hV],hW'.below.lone⟩

section
variable {P:Program} {pos:String} {after:Array Edge} {gd:Option (Nat×Bool)} {n:nQ} {w0:Base} {m:Env} {H:List cu} {g:ak} {R:Act→World→Prop} {Q:Exit→Act→World→Prop} {ops:Array Oper}

theorem dm.ai6 {W:World} {Hc F:List cu} (h:dm w0 (Hc++F) g W):dm ⟨W,lQ Hc⟩ Hc g W :=
  ⟨fun e he=>h.f_ e (List.mem_append_left _ he),by
    have:=h.nodup;rw [List.filterMap_append] at this
    exact (List.nodup_append.1 this).1,h.ghost,fun e he=>h.apart e (List.mem_append_left _ he),fun e he b hb=>.inr (yT.2 ⟨e,he,hb⟩),Kept.refl _⟩

theorem dm.alZ {W W':World} {Hc F H':List cu} {g':ak} (h:dm w0 (Hc++F) g W) (hx:bf ⟨W,lQ Hc⟩ g g') (hW':dm ⟨W,lQ Hc⟩ H' g' W'):dm w0 (H'++F) g' W'∧bf w0 g g':=by
  have hnd:=h.nodup;rw [List.filterMap_append] at hnd;obtain ⟨-,aow,ao3⟩:=List.nodup_append.1 hnd
  have hF:∀ e ∈ F,∀ b,e.block=some b→b<W.heap.size∧b ∉ lQ Hc:=fun e he b hb =>
    ⟨iR (h.f_ e (List.mem_append_right _ he)) hb,fun hc=>ao3 b hc b (List.mem_filterMap.2 ⟨e,he,hb⟩) rfl⟩
  have ZO:∀ b ∈ lQ Hc,w0.w.heap.size≤b∨b ∈ w0.Kv:=fun b hb=>by
    obtain ⟨e,he,M9⟩:=yT.1 hb;exact h.mine e (List.mem_append_left _ he) b M9
  have hnew:∀ b,W.heap.size≤b∨b ∈ lQ Hc→w0.w.heap.size≤b∨b ∈ w0.Kv:=fun b hb=>hb.elim (fun h1=>.inl (Nat.le_trans h.below.size h1)) (ZO b);refine ⟨⟨fun e he=>?_,?_,hW'.ghost,fun e he b hb=>?_,fun e he b hb=>?_,?_⟩,hx.1,fun b o hb=>(hx.2 b o hb).imp id (hnew b)⟩
  · rcases List.mem_append.1 he with he | he
    · exact hW'.f_ e he
    · exact gI (h.f_ e (List.mem_append_right _ he)) fun b hb=>hW'.below.block b (hF e he b hb).1 (hF e he b hb).2
  · rw [List.filterMap_append]
    refine List.nodup_append.2 ⟨hW'.nodup,aow,fun b hb c hc hbc=>?_⟩;subst hbc;obtain ⟨e,he,M9⟩:=List.mem_filterMap.1 hb;obtain ⟨e2,he2,aj2⟩:=List.mem_filterMap.1 hc
    rcases hW'.mine e he b M9 with h1 | h1
    · exact absurd (hF e2 he2 b aj2).1 (Nat.not_lt.2 h1)
    · exact (hF e2 he2 b aj2).2 h1
  · rcases List.mem_append.1 he with he | he
    · exact hW'.apart e he b hb
    cases hc:g' b with
    | none=>rfl
    | some o =>
      rcases hx.2 b o hc with h1 | h1 | h1
      · rw [h.apart e (List.mem_append_right _ he) b hb] at h1; cases h1
      · exact absurd (hF e he b hb).1 (Nat.not_lt.2 h1)
      · exact absurd h1 (hF e he b hb).2
  · rcases List.mem_append.1 he with he | he
    · exact hnew b (hW'.mine e he b hb)
    · exact h.mine e (List.mem_append_right _ he) b hb
  refine ⟨hW'.below.os.trans h.below.os,hW'.below.tape.trans h.below.tape,hW'.below.output.trans h.below.output,Nat.le_trans h.below.size hW'.below.size,fun k hk hl=>?_⟩;refine (hW'.below.block k (Nat.lt_of_lt_of_le hk h.below.size) fun hc=>?_).trans (h.below.block k hk hl);exact (ZO k hc).elim (fun h1=>absurd hk (Nat.not_lt.2 h1)) hl

def NG (n:Nat):Option Nat→Bool
  | some d=>Nat.ble (d+1) n
  | none=>true
def dstE (d:Option Nat) (v:Value) (m:Env):Env :=
  match d with
  | some d=>(d,v)::m
  | none=>m
theorem fC.Xd {a:Act} (h:fC n m a) {d:Option Nat} (hd:NG n d=true) (v:Value):fC n (dstE d v m) (a.put d v):=by
  cases d with
  | none=>exact h
  | some d=>exact h.put (Nat.le_of_ble_eq_true hd) v

theorem NU {o:Oper} {K:Act→World→Prop} {f:FuncId} {args:Array Value} (Hc F:List cu) {V:ak→List cu→Value→Prop} (hk:∀ a W,fC n m a→(execOp a.eval o).run P W=.ok (.enter f args) W)
    (hH:Hc++F=H) (hc:az P f args g Hc V) (hn:NG n o.dst=true)
    (h:∀ g' H' v,bf w0 g g'→V g' H' v→Ok n w0 (dstE o.dst v m) (H'++F) g' K):af P K Q o n w0 m H g:=fun a W hA hW=>by
  subst hH;show Oper.upon P o a _ Q (Sem.run P (execOp a.eval o) W);rw [hk a W hA,Oper.upon_enter];refine (hc W hW.ai6).mono fun e W' ⟨v,g',H',he,hV,hx,hW'⟩=>?_;subst he;obtain ⟨h1,h2⟩:=hW.alZ hx hW';exact h g' H' v h2 hV _ W' (hA.Xd hn v) h1

theorem az.enter {f:FuncId} {fn:Func} {c:Code} {args:Array Value} {H0:List cu} {V:ak→List cu→Value→Prop} (n:nQ) (m0:Env) (hf:P.funcs[f]? = some fn) (hb:fn.body=some c) (hn:fn.ntmps=n) (hle:Nat.ble args.size n=true)
    (hm:(List.range args.size).map (fun i=>(i,args.toList.getD i undef))=m0)
    (h:∀ w0,Ok n w0 m0 H0 g (c.wp P (bodyPost P fn fun e W'=>∃ v g' H',e=.returned v∧V g' H' v∧bf w0 g g'∧dm w0 H' g' W'))) (hD:n.ds=[]:=by rfl):az P f args g H0 V:=fun W hW=>by
  refine calls_of_wp hf hb (h _ _ W (fC.Mx hn hle hm hD) hW)

theorem dm.pick {W:World} (h:dm w0 H g W) (is:List Nat) (H':List cu) (hp:is.Nodup) (hH:is.map (fun i=>H[i]?)=H'.map some):dm w0 H' g W:=by
  have hlen:is.length=H'.length:=by simpa using congrArg List.length hH
  have hat:∀ (k:Nat) (e:cu),H'[k]? = some e→∃ i,is[k]? = some i∧H[i]? = some e:=fun k e he=>by
    have:=congrArg (fun l=>l[k]?) hH;simp only [List.getElem?_map,he,Option.map_some] at this;obtain ⟨i,h1,h2⟩:=Option.map_eq_some_iff.1 this;exact ⟨i,h1,h2⟩
  have hmem:∀ e ∈ H',e ∈ H:=fun e he=>by
    obtain ⟨k,hk⟩:=List.mem_iff_getElem?.1 he;obtain ⟨i,-,hi⟩:=hat k e hk;exact List.mem_of_getElem? hi
  refine ⟨fun e he=>h.f_ e (hmem e he),?_,h.ghost,fun e he=>h.apart e (hmem e he),fun e he=>h.mine e (hmem e he),h.below⟩;refine List.Pairwise.filterMap (R:=fun x y=>∀ b,x.block=some b→y.block≠some b) cu.block (fun x y hxy b hb c hc=>?_) ?_
  · intro e; subst e; exact hxy b hb hc
  rw [List.pairwise_iff_getElem];intro p q hpl hql hpq b hb hc;obtain ⟨i,hi1,hi2⟩:=hat p _ (List.getElem?_eq_getElem hpl);obtain ⟨j,hj1,hj2⟩:=hat q _ (List.getElem?_eq_getElem hql)
  have hne:i≠j:=by
    have:=(List.pairwise_iff_getElem.1 hp) p q (by omega) (by omega) hpq;rw [List.getElem?_eq_getElem (by omega)] at hi1 hj1
    injection hi1 with hi1
    injection hj1 with hj1
    rw [hi1,hj1] at this; exact this
  exact eQ h.nodup hi2 hj2 hne hb hc

def amB (n:nQ) (m:Env) (d:Option Nat) (K:Act→World→Prop) (e:Ending) (W':World):Prop:=∃ v,e=.returned v∧∀ a,fC n m a→K (a.put d v) W'

theorem bO {o:Oper} {K:Act→World→Prop} {f:FuncId} {fn:Func} {c:Code} {args:Array Value} (n':nQ) (m0:Env) (hk:∀ a W,fC n m a→(execOp a.eval o).run P W=.ok (.enter f args) W)
    (hf:P.funcs[f]? = some fn) (hb:fn.body=some c) (hn':fn.ntmps=n') (hle:Nat.ble args.size n'=true) (hm:(List.range args.size).map (fun i=>(i,args.toList.getD i undef))=m0)
    (h:Ok n' w0 m0 H g (c.wp P (bodyPost P fn (amB n m o.dst K)))) (hD:n'.ds=[]:=by rfl):af P K Q o n w0 m H g:=fun a W hA hW=>by
  show Oper.upon P o a _ Q (Sem.run P (execOp a.eval o) W);rw [hk a W hA,Oper.upon_enter];refine (calls_of_wp hf hb (h _ W (fC.Mx hn' hle hm hD) hW)).mono fun e W' ⟨v,he,hK⟩=>?_;subst he;exact hK a hA

section
variable {fn:Func} {e:Exit}
inductive lF (P:Program) (n:nQ) (w0:Base) (m:Env) (H:List cu) (g:ak):List ResultVar→List Value→Prop
  | nil:lF P n w0 m H g [] []
  | cons {r:ResultVar} {v:Value} {rs:List ResultVar} {vs:List Value} (h:Ej P n w0 m H g r v) (t:lF P n w0 m H g rs vs):lF P n w0 m H g (r::rs) (v::vs)

def Fs:List Value→Value
  | [v]=>v
  | vs=>.tuple vs.toArray

theorem lF.run {rs:List ResultVar} {vs:List Value} (h:lF P n w0 m H g rs vs) {a:Act} {W:World} (hA:fC n m a) (hW:dm w0 H g W) (hr:fn.results=rs.toArray):(results fn a.tmps).run P W=.ok (Fs vs) W:=by
  have key:∀ {rs:List ResultVar} {vs:List Value},lF P n w0 m H g rs vs→(rs.mapM (zi a.tmps)).run P W=.ok vs W:=by
    intro rs vs h
    induction h with
    | nil=>rfl
    | cons h _ ih=>simp only [List.mapM_cons,Sem.run_bind,h a W hA hW,ih,Result.andThen]; rfl
  rw [Mh,hr];simp only [List.mapM_toArray,Sem.run_bind,Sem.run_map,key h,Result.andThen]
  match vs with
  | []=>rfl
  | [v]=>rfl
  | _::_::_=>rfl

theorem gZ {rs:List ResultVar} {vs:List Value} {V:ak→List cu→Value→Prop} {g0:ak} (he:e=.ret∨e=.normal) (hr:fn.results=rs.toArray) (h1:lF P n w0 m H g rs vs) (hx:bf w0 g0 g) (h:V g H (Fs vs)) (hD:n.ds=[]:=by rfl) :
    Ok n w0 m H g (bodyPost P fn (fun e W'=>∃ v g' H',e=.returned v∧V g' H' v∧bf w0 g0 g'∧dm w0 H' g' W') e):=fun a W hA hW=>by
  have:=h1.run (fn:=fn) hA hW hr
  rcases he with rfl | rfl <;> exact ⟨hA.defers.trans hD,_,this,_,g,H,rfl,h,hx,hW⟩

theorem AR {rs:List ResultVar} {vs:List Value} {V:ak→List cu→Value→Prop} {g0:ak} (is:List Nat) (H':List cu) (hp:is.Nodup) (hH:is.map (fun i=>H[i]?)=H'.map some) (he:e=.ret∨e=.normal) (hr:fn.results=rs.toArray) (h1:lF P n w0 m H g rs vs) (hx:bf w0 g0 g) (h:V g H' (Fs vs)) (hD:n.ds=[]:=by rfl) :
    Ok n w0 m H g (bodyPost P fn (fun e W'=>∃ v g' H',e=.returned v∧V g' H' v∧bf w0 g0 g'∧dm w0 H' g' W') e):=fun a W hA hW=>by
  have:=h1.run (fn:=fn) hA hW hr
  rcases he with rfl | rfl <;> exact ⟨hA.defers.trans hD,_,this,_,g,H',rfl,h,hx,hW.pick is H' hp hH⟩

theorem bA {rs:List ResultVar} {vs:List Value} {n':nQ} {m':Env} {d:Option Nat} {K:Act→World→Prop} (he:e=.ret∨e=.normal) (hr:fn.results=rs.toArray) (h1:lF P n w0 m H g rs vs) (hd:NG n' d=true) (h:Ok n' w0 (dstE d (Fs vs) m') H g K) (hD:n.ds=[]:=by rfl) :
    Ok n w0 m H g (bodyPost P fn (amB n' m' d K) e):=fun a W hA hW=>by
  have:=h1.run (fn:=fn) hA hW hr
  rcases he with rfl | rfl <;> exact ⟨hA.defers.trans hD,_,this,_,rfl,fun a' hA'=>h _ W (hA'.Xd hd _) hW⟩
end

theorem Ok.e {R:Act→World→Prop} (is:List Nat) (H':List cu) (hp:is.Nodup) (hH:is.map (fun i=>H[i]?)=H'.map some) (h:Ok n w0 m H' g R):Ok n w0 m H g R :=
  fun a W hA hW=>h a W hA (hW.pick is H' hp hH)

def eG (W:World):ak:=fun b=>W.heap[b]?
theorem pq (W:World):Gh (eG W) W:=fun _ _ h=>h
theorem qD (W:World) (a:Addr):lM (eG W) a=W.cell? a:=rfl
theorem dm.sees {W:World} (h:dm w0 H g W):lG g (eG W):=h.ghost
theorem dm.aaO {W:World} (h:dm w0 H g W) {b:Nat} {cs:Array Value} {T:TypeId} {fz:Nat×Nat} (i:Nat) (hi:H[i]? = some (.blk b (.cells cs T fz))) (off:Nat) (cells:List Value) (hc:(cs.toList.drop off).take cells.length=cells):At (eG W) b off cells:=fun j v hj=>by
  rw [qD];simp only [World.cell?,h.at hi];simpa using Ja off cells hc hj

theorem bC.mono {g g':ak} (hg:lG g g') {f:FuncId} {args:Array Value} {v:Value} (h:bC P f args g v):bC P f args g' v:=fun W hW=>h W fun b o hb=>hW b o (hg b o hb)

theorem af.f {o:Oper} {K:Act→World→Prop} {f:FuncId} {args:Array Value} {v:Value} (hk:∀ a W,fC n m a→(execOp a.eval o).run P W=.ok (.enter f args) W)
    (hc:∀ W,dm w0 H g W→bC P f args (eG W) v) (hn:NG n o.dst=true)
    (h:Ok n w0 (dstE o.dst v m) H g K):af P K Q o n w0 m H g:=fun a W hA hW=>by
  show Oper.upon P o a _ Q (Sem.run P (execOp a.eval o) W);rw [hk a W hA,Oper.upon_enter];refine (hc W hW W (pq W)).mono fun e W' ⟨he,hb⟩=>?_;subst he;exact h _ W' (hA.Xd hn v) (hW.of_below hb)

theorem fK.f {o:Oper} {KQ:Act→Prop} {f:FuncId} {args:Array Value} {v:Value} (hk:∀ a W,fC n m a→(execOp a.eval o).run P W=.ok (.enter f args) W)
    (hc:∀ W,dm w0 H g W→bC P f args (eG W) v) (hn:NG n o.dst=true)
    (h:Y5 n (dstE o.dst v m) KQ):fK P KQ o n w0 m H g:=fun a hA=>by
  refine ⟨v,fun W hW=>?_,h _ (hA.Xd hn v)⟩;rw [hk a W hA];exact ⟨rfl,hc W hW W (pq W)⟩

theorem af.cut {o:Oper} {K:Act→World→Prop} (I:Act→World→Prop) (h:af P I G6 o n w0 m H g) (h2:∀ a W,I a W→K a W):af P K Q o n w0 m H g:=fun a W hA hW =>
  xI (Oper.wp_mono h2 (h a W hA hW))

def PtrTo (g:ak) (e:Ty) (b off:Nat) (x:e.den):Prop:=∃ cells,cells.length=e.size∧At g b off cells∧bE g e cells x
theorem PtrTo.mono {g g':ak} (h:lG g g') {e:Ty} {b off:Nat} {x:e.den}:PtrTo g e b off x→PtrTo g' e b off x
  | ⟨cells,h1,h2,h3⟩=>⟨cells,h1,h2.mono h,h3.mono h⟩

def Z7 (P:Program) (fv:Value) (args:Array Value) (g:ak) (v:Value):Prop :=
  ∃ f as,(∀ W,(do let d ← Deferred.ofValue fv args; invoke d.target d.args:Sem Next).run P W=.ok (.enter f as) W)∧bC P f as g v
theorem Z7.mono {g g':ak} (hg:lG g g') {fv:Value} {args:Array Value} {v:Value}:Z7 P fv args g v→Z7 P fv args g' v
  | ⟨f,as,h1,h2⟩=>⟨f,as,h1,h2.mono hg⟩

theorem Z7.enters {fv:Value} {args:Array Value} {g':ak} {v:Value} (h:Z7 P fv args g' v) {d:Option Nat} {x:Operand} {xs:Array Operand} {ts:Array TypeId} {ty:TypeId}
    (hx:val m x=some fv) (hk:(xs.toList.all fun x=>(val m x).isSome)=true) (hxs:xs.map (JR m)=args) :
    ∃ f as,(∀ a W,fC n m a→(execOp a.eval ⟨d,.call { callee:=.value x,args:=xs,argTypes:=ts },ty,pos,after,gd⟩).run P W=.ok (.enter f as) W)∧bC P f as g' v:=by
  obtain ⟨f,as,h1,h2⟩:=h;refine ⟨f,as,fun a W hA=>?_,h2⟩
  have e1:xs.map a.eval=args:=by
    rw [← hxs];refine Array.map_congr_left fun y hy=>?_;have:=List.all_eq_true.1 hk y (by simpa using hy);obtain ⟨u,hu⟩:=Option.isSome_iff_exists.1 this;rw [hA.eval hu,JR,hu,Option.getD_some]
  have:=h1 W;simp only [execOp,resolve,hA.eval hx,e1];exact this

theorem NV {fv:Value} {args:Array Value} {v:Value} {d:Option Nat} {x:Operand} {xs:Array Operand} {ts:Array TypeId} {ty:TypeId} {K:Act→World→Prop}
    (hx:val m x=some fv) (hk:(xs.toList.all fun x=>(val m x).isSome)=true) (hxs:xs.map (JR m)=args) (h:Z7 P fv args g v) (hn:NG n d=true)
    (hK:Ok n w0 (dstE d v m) H g K):af P K Q ⟨d,.call { callee:=.value x,args:=xs,argTypes:=ts },ty,pos,after,gd⟩ n w0 m H g:=by
  obtain ⟨f,as,h1,h2⟩:=h.enters (n:=n) (d:=d) (ts:=ts) (ty:=ty) (pos:=pos) (after:=after) (gd:=gd) hx hk hxs;exact af.f h1 (fun W hW=>h2.mono hW.sees) hn hK

theorem gX {R:Act→World→Prop} (t:Nat) {v v':Value} (ht:get m t=some v) (e:v=v') (h:Ok n w0 ((t,v')::m) H g R):Ok n w0 m H g R:=fun a W hA hW=>by
  refine h a W ⟨hA.size,hA.defers,fun k u hk=>?_⟩ hW;simp only [get] at hk
  split at hk
  · rename_i e1
    rw [← Nat.eq_of_beq_eq_true e1]
    injection hk with hk
    subst hk;rw [← e];exact hA.env t v ht
  · exact hA.env k u hk

theorem Ok.qJ {R:Act→World→Prop} {b:Nat} {T:TypeId} {v:Value} (h:Ok n w0 m (.qJ b T v::H) g R):Ok n w0 m (.blk b (.cells #[.pointer none,v] T)::H) g R:=fun a W hA hW =>
  h a W hA ⟨fun e he=>by
    rcases List.mem_cons.1 he with rfl | he
    · exact ⟨_,.inl rfl,hW.f_ (.blk b (.cells #[.pointer none,v] T)) (List.mem_cons_self ..)⟩
    · exact hW.f_ e (List.mem_cons_of_mem _ he),hW.nodup,hW.ghost,fun e he k hk=>by
    rcases List.mem_cons.1 he with rfl | he
    · exact hW.apart (.blk b (.cells #[.pointer none,v] T)) (List.mem_cons_self ..) k hk
    · exact hW.apart e (List.mem_cons_of_mem _ he) k hk,fun e he k hk=>by
    rcases List.mem_cons.1 he with rfl | he
    · exact hW.mine (.blk b (.cells #[.pointer none,v] T)) (List.mem_cons_self ..) k hk
    · exact hW.mine e (List.mem_cons_of_mem _ he) k hk,hW.below⟩
theorem Ok.w {rest:List Oper} (k:Nat) (m':Env) (h1:Ok n w0 m' H g (wpList P ops Q (rest.drop k))→Ok n w0 m H g (wpList P ops Q rest)) (h2:Ok n w0 m' H g (wpList P ops Q (rest.drop k))):Ok n w0 m H g (wpList P ops Q rest):=h1 h2
theorem cK {c b:Bool} (h:c=true):true=(c||b):=by rw [h]; rfl
theorem bN {c b:Bool} (h:c=false):b=(c||b):=by rw [h]; rfl
theorem bn {c b:Bool} (h:c=true):b=(c&&b):=by rw [h]; rfl
theorem bZ {c b:Bool} (h:c=false):false=(c&&b):=by rw [h]; rfl
theorem iy {v v':Value} {l l':List Value} (h:v=v') (t:l=l'):v::l=v'::l':=by rw [h,t]
theorem ib {v v':cu} {l l':List cu} (h:v=v') (t:l=l'):v::l=v'::l':=by rw [h,t]
theorem nE {R:Act→World→Prop} {H':List cu} (e:H=H') (h:Ok n w0 m H' g R):Ok n w0 m H g R:=e ▸ h
theorem aU {α:Type} {c:Bool} {a b:α} (h:c=true):(if c=true then a else b)=a:=by rw [h]; rfl
theorem aG {α:Type} {c:Bool} {a b:α} (h:c=false):(if c=true then a else b)=b:=by rw [h]; rfl
theorem aT {α:Type} {l:List α} {i:Nat} (d:α) (h:i<l.length):l[i]? = some (l.getD i d):=by
  rw [List.getD_eq_getElem?_getD,List.getElem?_eq_getElem h,Option.getD_some]

def aW (g:ak) (e:Ty):List Value→List e.den→Prop
  | xs,[]=>xs=[]
  | xs,x::l=>∃ c r,xs=c++r∧bE g e c x∧aW g e r l
theorem aW.mono {g g':ak} {e:Ty} (h:lG g g'):∀ {l:List e.den} {xs:List Value},aW g e xs l→aW g' e xs l
  | [],_,hr=>hr
  | _::_,_,⟨c,r,h1,h2,h3⟩=>⟨c,r,h1,h2.mono h,aW.mono h h3⟩
theorem aW.size {e:Ty}:∀ {l:List e.den} {xs:List Value},aW g e xs l→xs.length=l.length * e.size
  | [],_,hr=>by rw [show _=_ from hr]; simp
  | _::l,_,⟨c,r,h1,h2,h3⟩=>by rw [h1,List.length_append,h2.size,h3.size,List.length_cons,Nat.succ_mul]; omega
theorem aW.append {e:Ty}:∀ {l l':List e.den} {xs ys:List Value},aW g e xs l→aW g e ys l'→aW g e (xs++ys) (l++l')
  | [],_,_,_,h,h'=>by rw [show _=_ from h]; exact h'
  | _::_,_,_,_,⟨c,r,h1,h2,h3⟩,h'=>⟨c,r++_,by rw [h1,List.append_assoc],h2,h3.append h'⟩
theorem aW.one {e:Ty} {c:List Value} {x:e.den} (h:bE g e c x):aW g e c [x]:=⟨c,[],by simp,h,rfl⟩
theorem aW.get {e:Ty}:∀ {l:List e.den} {xs:List Value} {i:Nat} {x:e.den},aW g e xs l→l[i]? = some x →
    ∃ c,c.length=e.size∧bE g e c x∧∀ j,j<e.size→xs[i * e.size+j]? = c[j]?
  | [],_,_,_,_,hi=>by simp at hi
  | y::l,xs,0,x,⟨c,r,h1,h2,h3⟩,hi=>by
    simp only [List.getElem?_cons_zero,Option.some.injEq] at hi;subst hi;exact ⟨c,h2.size,h2,fun j hj=>by rw [h1,Nat.zero_mul,Nat.zero_add,List.getElem?_append_left (by rw [h2.size]; exact hj)]⟩
  | y::l,xs,i+1,x,⟨c,r,h1,h2,h3⟩,hi=>by
    rw [List.getElem?_cons_succ] at hi;obtain ⟨d,hl,hr,hd⟩:=aW.get h3 hi;refine ⟨d,hl,hr,fun j hj=>?_⟩;rw [h1,List.getElem?_append_right (by rw [h2.size,Nat.succ_mul]; omega),← hd j hj,h2.size];congr 1;rw [Nat.succ_mul]; omega
theorem aW.set {e:Ty}:∀ {l:List e.den} {xs c:List Value} {i:Nat} {x:e.den},aW g e xs l→i<l.length→bE g e c x →
    aW g e (xs.take (i * e.size)++c++xs.drop (i * e.size+e.size)) (l.set i x)
  | [],_,_,_,_,_,hi,_=>by simp at hi
  | y::l,xs,c,0,x,⟨d,r,h1,h2,h3⟩,_,hc=>⟨c,r,by rw [h1,Nat.zero_mul,List.take_zero,Nat.zero_add,List.nil_append,← h2.size,List.drop_left],hc,h3⟩
  | y::l,xs,c,i+1,x,⟨d,r,h1,h2,h3⟩,hi,hc=>by
    refine ⟨d,_,?_,h2,aW.set h3 (by simpa using hi) hc⟩
    have e1:(i+1) * e.size=d.length+i * e.size:=by rw [h2.size,Nat.succ_mul]; omega
    rw [h1,e1,Nat.add_assoc,List.take_append,List.drop_append,List.take_of_length_le (by omega),show d.length+i * e.size - d.length=i * e.size by omega,
      List.drop_eq_nil_of_le (by omega),List.nil_append,show d.length+(i * e.size+e.size) - d.length=i * e.size+e.size by omega]
    simp

end

abbrev Bs:=List UInt8
abbrev w6 (x:Int):Int:=IntKind.wrap .i64 x
abbrev sv (s:List UInt8):Value:=.string ⟨⟨s⟩⟩
abbrev pv (b o:Nat):Value:=.pointer (some ⟨b,o,none⟩)
inductive YZ:Env→Nat→Value→Prop
  | here {k:Nat} {v:Value} {m:Env}:YZ ((k,v)::m) k v
  | next {k:Nat} {v:Value} {e:Nat×Value} {m:Env}:YZ m k v→YZ (e::m) k v
inductive El (m:Env) (r:Env):List Nat→Env→Prop
  | nil:El m r [] r
  | cons {k:Nat} {v:Value} {ks:List Nat} {r':Env}:YZ m k v→El m r ks r'→El m r (k::ks) ((k,v)::r')
inductive mR (x:cu):List cu→Nat→List cu→Prop
  | here {e:cu} {H:List cu}:mR x (e::H) 0 (x::H)
  | next {e:cu} {H H':List cu} {i:Nat}:mR x H i H'→mR x (e::H) (i+1) (e::H')
theorem mR.eq {x:cu} {H H':List cu} {i:Nat} (h:mR x H i H'):H.set i x=H':=by
  induction h with
  | here=>rfl
  | next _ ih=>rw [List.set_cons_succ,ih]
inductive F3:List cu→Nat→List cu→Prop
  | here {e:cu} {H:List cu}:F3 (e::H) 0 H
  | next {e:cu} {H H':List cu} {i:Nat}:F3 H i H'→F3 (e::H) (i+1) (e::H')
theorem F3.eq {H H':List cu} {i:Nat} (h:F3 H i H'):H.eraseIdx i=H':=by
  induction h with
  | here=>rfl
  | next _ ih=>rw [List.eraseIdx_cons_succ,ih]
section
variable {P:Program} {pos:String} {after:Array Edge} {gd:Option (Nat×Bool)} {n:nQ} {w0:Base} {m:Env} {H:List cu} {g:ak} {R:Act→World→Prop} {Q:Exit→Act→World→Prop} {ops:Array Oper}
theorem ag {l:List Oper} (k:Nat) (ks:List Nat) (r:Env) {m':Env} (hr:Ok n w0 m' H g (wpList P ops Q (l.drop k))) (_hp:El m r ks m':=by repeat constructor) (h:(iL P n ops k m l).map (keep (m'.map (·.1)))=some m':=by kernel_rfl):Ok n w0 m H g (wpList P ops Q l):=av k m' h hr
theorem eZ {l:List Oper} (k:Nat) (ks:List Nat) (r:Env) {m':Env} (hr:dS P ops n w0 m' H g R (l.drop k)) (_hp:El m r ks m':=by repeat constructor) (h:(iL P n ops k m l).map (keep (m'.map (·.1)))=some m':=by kernel_rfl):dS P ops n w0 m H g R l:=yX k m' h hr
theorem iJ {g0:ak} {pre soft:List Nat} {Hf H0:List cu} {os:List (Nat×Bool)} (k:Nat) (ks:List Nat) (r:Env) {m':Env} (hr:eH P ops n w0 g0 pre soft Hf H0 m' H g R (os.drop k)) (_hp:El m r ks m':=by repeat constructor) (h:(((heads ops k os).bind (iL P n ops k m)).map (keep (m'.map (·.1))))=some m':=by kernel_rfl):eH P ops n w0 g0 pre soft Hf H0 m H g R os:=Qb k m' h hr
theorem gU {o:Oper} {f:FuncId} {args:Array Value} (hk:known m o=true:=by kernel_rfl) (hr:∀ W,(execOp (JR m) o).run P W=.ok (.enter f args) W:=by intro _; kernel_rfl) :
    ∀ a W,fC n m a→(execOp a.eval o).run P W=.ok (.enter f args) W:=enters hk hr
theorem mU {T ty:TypeId} {x y:Operand} {K:Act→World→Prop} {b off:Nat} {v:Value} {cs:Array Value} {T':TypeId} {k:Nat} {H':List cu}
    (i:Nat) (ncs:Array Value) (hx:val m x=some (.pointer (some ⟨b,off,none⟩))) (hy:val m y=some v) (hH:H[i]? = some (.blk b (.cells cs T')))
    (h:Ok n w0 m H' g K) (hk:(P.info? T).map (·.size)=some k:=by kernel_rfl)
    (hl:Nat.beq v.cells.size k=true:=by kernel_rfl) (hfit:Nat.ble (off+k) cs.size=true:=by kernel_rfl) (h1:v.cells.all (·.oneCell')=true:=by kernel_rfl)
    (hs:mR (.blk b (.cells ncs T')) H i H':=by repeat constructor) (hc:(cs.toList.take off++v.cells.toList++cs.toList.drop (off+k)).toArray=ncs:=by kernel_rfl) :
    af P K Q ⟨none,.store T x y,ty,pos,after,gd⟩ n w0 m H g:=af.store i hx hy hH hk hl hfit h1 (by rw [hc]; exact hs.eq) h
end
inductive Fc (P:Program) (w0:Base) (H:List cu) (g:ak):Type
  | e (i:Nat):Fc P w0 H g
  | a {b o:Nat} {cells:List Value} (j:Nat) (h:At g b o cells):Fc P w0 H g
  | c {f:FuncId} {args:Array Value} {v:Value} (h:∀ W,dm w0 H g W→bC P f args (eG W) v):Fc P w0 H g
abbrev Fc.k {P:Program} {w0:Base} {H:List cu} {g:ak} {f:FuncId} {args:Array Value} {v:Value} (h:bC P f args g v):Fc P w0 H g:=.c fun _ hW W hg=>h W fun b o q=>hg b o (hW.sees b o q)   -- | k {f
section
variable {P:Program} {pos:String} {after:Array Edge} {gd:Option (Nat×Bool)} {n:nQ} {w0:Base} {m:Env} {H:List cu} {g:ak} {R:Act→World→Prop} {Q:Exit→Act→World→Prop} {ops:Array Oper}
def rowOf (P:Program) (T:TypeId) (l:List Value):Option Value :=
  match P.underlying T with
  | none=>none
  | some d=>match d.isRow with
    | false=>l[0]?
    | true=>match (P.info? T).map (·.size) with
      | none=>none
      | some k=>match Nat.beq (l.take k).length k with | true=>some (.agg (l.take k).toArray) | false=>none
abbrev Rl (P:Program) (w0:Base) (H:List cu) (g:ak):=Option (Value×List (Fc P w0 H g)×List (Value×Value))
def ldE (P:Program) (T:TypeId) (fs:List (Fc P w0 H g)) (i:Nat):Value→Rl P w0 H g
  | .pointer (some ⟨b,off,none⟩)=>match H[i]? with
    | some (.blk b' (.cells cs _ _))=>(rowOf P T (cs.toList.drop off)).map fun v=>(v,fs,[(.pointer (some ⟨b,0,none⟩),.pointer (some ⟨b',0,none⟩))])
    | _=>none
  | _=>none
def ldF (P:Program) (T:TypeId) (p:Value):List (Fc P w0 H g)→Rl P w0 H g
  | .e i::fs=>ldE P T fs i p
  | @Fc.a _ _ _ _ b o cells j _::fs=>(rowOf P T (cells.drop j)).map fun v=>(v,fs,[(p,.pointer (some ⟨b,o+j,none⟩))])
  | _=>none
def puF (P:Program) (m:Env) (o:Oper) (fs:List (Fc P w0 H g)):Rl P w0 H g :=
  match known m o,quick P (execOp (JR m) o) with
  | true,some (.value v)=>some (v,fs,[])
  | _,_=>none
def caF (f:FuncId) (args:Array Value):List (Fc P w0 H g)→Rl P w0 H g
  | @Fc.c _ _ _ _ f' args' v _::fs=>some (v,fs,[(.agg args,.agg args'),(.int .i64 f,.int .i64 f')])
  | _=>none
def alX (P:Program) (m:Env) (o:Oper) (f:BinOp) (fs:List (Fc P w0 H g)):Option Value→Option Value→Rl P w0 H g
  | some (.string a),some (.string b)=>(R9 f a.data.toList b.data.toList).map fun r=>(.bool r,fs,[])
  | _,_=>puF P m o fs
def rU (P:Program) (m:Env) (o:Oper) (fs:List (Fc P w0 H g)):Rl P w0 H g :=
  match o.op with
  | .load T x=>match val m x with
    | none=>none
    | some p=>ldF P T p fs
  | .call _=>match known m o,quick P (execOp (JR m) o) with
    | true,some (.enter f args)=>caF f args fs
    | true,some (.value v)=>some (v,fs,[])
    | _,_=>none
  | .binOp f _ x y _=>alX P m o f fs (val m x) (val m y)
  | _=>puF P m o fs
def Q8 (P:Program) (n:nQ) (ops:Array Oper):Nat→List (Fc P w0 H g)→Env→List Oper→Option (Env×List (Value×Value))
  | 0,_,m,_=>some (m,[])
  | _+1,_,_,[]=>none
  | k+1,fs,m,o::l =>
    match wants ops m o,o.dst with
    | some false,some d=>match Nat.ble (d+1) n with | true=>Q8 P n ops k fs ((d,undef)::m) l | false=>none
    | some true,some d=>match Nat.ble (d+1) n,rU P m o fs with
      | true,some (v,fs',q)=>match Q8 P n ops k fs' ((d,v)::m) l with
        | some (m',q')=>some (m',q++q')
        | none=>none
      | _,_=>none
    | _,_=>none
theorem VQ {o:Oper} {rest:List Oper} (hw:wants ops m o=some true) (h:af P (wpList P ops Q rest) Q o n w0 m H g):Ok n w0 m H g (wpList P ops Q (o::rest)):=fun a W hA hW=>by
  unfold wpList;rw [if_pos (by rw [l8 hA hw])];exact .inl (h a W hA hW)
theorem Yields.quick {o:Oper} {v:Value} (hk:known m o=true) (hq:Go.iT.quick P (execOp (JR m) o)=some (.value v)):Yields P n w0 m H g o v:=fun a W hA hW=>by
  rw [jS hA hk,qW hq W]
theorem anq {i off b:Nat} {cs:Array Value} {T':TypeId} {fz:Nat×Nat} {dst:Option Nat} {T ty:TypeId} {x:Operand} {v:Value}
    (hx:val m x=some (.pointer (some ⟨b,off,none⟩))) (hH:H[i]? = some (.blk b (.cells cs T' fz))) (h:rowOf P T (cs.toList.drop off)=some v):Yields P n w0 m H g ⟨dst,.load T x,ty,pos,after,gd⟩ v:=by
  unfold rowOf at h
  split at h
  · cases h
  rename_i d hd
  split at h
  · rename_i hr
    refine aS i hx hH hd hr ?_;rw [List.getElem?_drop,Nat.add_zero] at h;rw [← Array.getElem?_toList]; exact h
  rename_i hr
  split at h
  · cases h
  rename_i k hk
  split at h
  · rename_i hl
    cases h;exact aZ i k _ hx hH hd hr hk rfl hl
  · cases h
theorem anr {j o b:Nat} {cells:List Value} {dst:Option Nat} {T ty:TypeId} {x:Operand} {v:Value} (hat:At g b o cells)
    (hx:val m x=some (.pointer (some ⟨b,o+j,none⟩))) (h:rowOf P T (cells.drop j)=some v):Yields P n w0 m H g ⟨dst,.load T x,ty,pos,after,gd⟩ v:=by
  unfold rowOf at h
  split at h
  · cases h
  rename_i d hd
  split at h
  · rename_i hr
    refine fe j hat hx hd hr ?_;rw [List.getElem?_drop,Nat.add_zero] at h;exact h
  rename_i hr
  split at h
  · cases h
  rename_i k hk
  split at h
  · rename_i hl
    cases h;exact bL j k _ hat hx hd hr hk rfl hl
  · cases h
theorem ah3 {o:Oper} {rest:List Oper} {d:Nat} {v:Value} {fs fs':List (Fc P w0 H g)} {q:List (Value×Value)} (h:puF P m o fs=some (v,fs',q)) (hd:o.dst=some d) (hn:Nat.ble (d+1) n=true)
    (hr:Ok n w0 ((d,v)::m) H g (wpList P ops Q rest)):af P (wpList P ops Q rest) Q o n w0 m H g:=by
  unfold puF at h
  split at h
  · rename_i v' hk hv
    cases h;exact af.s (Yields.quick hk hv) hd hn hr
  · cases h
theorem anI {dst:Option Nat} {T ty:TypeId} {x:Operand} {p v:Value} {fs fs':List (Fc P w0 H g)} {q:List (Value×Value)} (hp:val m x=some p) (h:ldF P T p fs=some (v,fs',q)) (hq:∀ p ∈ q,p.1=p.2) :
    Yields P n w0 m H g ⟨dst,.load T x,ty,pos,after,gd⟩ v:=by
  cases fs with
  | nil=>cases h
  | cons f fs =>
    cases f with
    | e i =>
      have h:ldE P T fs i p=some (v,fs',q):=h;unfold ldE at h
      split at h
      · rename_i b off
        split at h
        · rename_i b' cs T' fz hH
          obtain ⟨v',hv,e⟩:=Option.map_eq_some_iff.1 h;cases e;have:=hq _ (List.mem_singleton.2 rfl);cases this;exact anq hp hH hv
        · cases h
      · cases h
    | a j hat =>
      obtain ⟨v',hv,e⟩:=Option.map_eq_some_iff.1 h;cases e;have:=hq _ (List.mem_singleton.2 rfl);cases this;exact anr hat hp hv
    | c hc=>cases h
theorem ail {o:Oper} {rest:List Oper} {d:Nat} {v:Value} {fs fs':List (Fc P w0 H g)} {q:List (Value×Value)} (h:rU P m o fs=some (v,fs',q)) (hq:∀ p ∈ q,p.1=p.2) (hd:o.dst=some d) (hn:Nat.ble (d+1) n=true)
    (hr:Ok n w0 ((d,v)::m) H g (wpList P ops Q rest)):af P (wpList P ops Q rest) Q o n w0 m H g:=by
  obtain ⟨dst,op,ty,pos,after,gd⟩:=o;unfold rU at h
  split at h
  · rename_i T x he
    have he:op=.load T x:=he;subst he
    split at h
    · cases h
    rename_i p hp
    exact af.s (anI hp h hq) hd hn hr
  · rename_i c he
    split at h
    · rename_i f args hk hv
      cases fs with
      | nil=>cases h
      | cons fc fs =>
        cases fc with
        | e i=>cases h
        | a j hat=>cases h
        | c hc =>
          cases h;have h1:=hq _ (List.mem_cons_self ..);have h2:=hq _ (List.mem_cons_of_mem _ (List.mem_cons_self ..));cases h1
          injection h2 with _ h2
          have h2:=Int.ofNat.inj h2;subst h2;have hd:dst=some d:=hd;subst hd;exact af.f (fun a W hA=>by rw [jS hA hk,qW hv W]) hc hn hr
    · rename_i v' hk hv
      cases h;exact af.s (Yields.quick hk hv) hd hn hr
    · cases h
  · rename_i f T x y T2 he
    have he:op=.binOp f T x y T2:=he;subst he;generalize hx:val m x=vx at h;generalize hy:val m y=vy at h;unfold alX at h
    split at h
    · rename_i a b
      obtain ⟨r,hr',e⟩:=Option.map_eq_some_iff.1 h;cases e;exact af.s (iG (a:=a.data.toList) (b:=b.data.toList) hx hy hr') hd hn hr
    · exact ah3 h hd hn hr
  · exact ah3 h hd hn hr
theorem aet:∀ (k:Nat) (fs:List (Fc P w0 H g)) (m:Env) (l:List Oper) (m':Env) (q:List (Value×Value)),Q8 P n ops k fs m l=some (m',q)→(∀ p ∈ q,p.1=p.2)→Ok n w0 m' H g (wpList P ops Q (l.drop k))→Ok n w0 m H g (wpList P ops Q l)
  | 0,fs,m,l,m',q,h,hq,hr=>by
    simp only [Q8,Option.some.injEq,Prod.mk.injEq] at h;obtain ⟨rfl,rfl⟩:=h;exact hr
  | k+1,fs,m,[],m',q,h,hq,hr=>by simp [Q8] at h
  | k+1,fs,m,o::l,m',q,h,hq,hr=>by
    rw [Q8] at h;rw [List.drop_succ_cons] at hr
    split at h
    · rename_i d hw hd
      split at h
      · rename_i hn
        have:=aet k fs _ l m' q h hq hr;intro a W hA hW;unfold wpList;rw [if_neg (by rw [l8 hA hw]; simp),hd];exact this _ W (hA.put (Nat.le_of_ble_eq_true hn) undef) hW
      · cases h
    · rename_i d hw hd
      split at h
      · rename_i v fs' q1 hn ho
        split at h
        · rename_i m2 q2 hx
          cases h;exact VQ hw (ail ho (fun p hp=>hq p (List.mem_append_left _ hp)) hd hn (aet k fs' _ l m' q2 hx (fun p hp=>hq p (List.mem_append_right _ hp)) hr))
        · cases h
      · cases h
    · cases h
def Q7 (ks:List Nat):Option (Env×List (Value×Value))→Option Env×List Value×List Value
  | none=>(none,[],[])
  | some (m,q)=>(some (keep ks m),q.map (·.1),q.map (·.2))
theorem Km:∀ {q:List (Value×Value)},q.map (·.1)=q.map (·.2)→∀ p ∈ q,p.1=p.2
  | [],_,_,hp=>by cases hp
  | x::q,h,p,hp=>by
    rw [List.map_cons,List.map_cons] at h
    injection h with h1 h2
    rcases List.mem_cons.1 hp with rfl | hp
    · exact h1
    · exact Km h2 p hp
theorem Ok.run {l:List Oper} (k:Nat) (fs:List (Fc P w0 H g)) (m':Env) (h:((Q7 (m'.map (·.1)) (Q8 P n ops k fs m l)).1,(Q7 (m'.map (·.1)) (Q8 P n ops k fs m l)).2.1)=(some m',(Q7 (m'.map (·.1)) (Q8 P n ops k fs m l)).2.2))
    (hr:Ok n w0 m' H g (wpList P ops Q (l.drop k))):Ok n w0 m H g (wpList P ops Q l):=by
  generalize hx:Q8 P n ops k fs m l=x at h
  cases x with
  | none=>cases (Prod.mk.inj h).1
  | some y =>
    obtain ⟨m1,q⟩:=y;have h:=Prod.mk.inj h;have h1:keep (m'.map (·.1)) m1=m':=Option.some.inj h.1;exact aet k fs m l m1 q hx (Km h.2) (Ok.sub h1 hr)
end
section
variable {P:Program} {pos:String} {after:Array Edge} {gd:Option (Nat×Bool)} {n:nQ} {w0:Base} {m:Env} {H:List cu} {g:ak} {R:Act→World→Prop} {Q:Exit→Act→World→Prop} {ops:Array Oper}
theorem aj {l:List Oper} (k:Nat) (fs:List (Fc P w0 H g)) (ks:List Nat) (r:Env) {m':Env} (hr:Ok n w0 m' H g (wpList P ops Q (l.drop k))) (_hp:El m r ks m':=by repeat constructor)
    (h:((Q7 (m'.map (·.1)) (Q8 P n ops k fs m l)).1,(Q7 (m'.map (·.1)) (Q8 P n ops k fs m l)).2.1)=(some m',(Q7 (m'.map (·.1)) (Q8 P n ops k fs m l)).2.2):=by kernel_rfl):Ok n w0 m H g (wpList P ops Q l):=Ok.run k fs m' h hr
theorem fA {m':Env} {H':List cu} {a:Act} {W:World} {F:Prop} (hA:fC n m a) (hW:dm w0 H g W) (hF:F) (h:keep (m'.map (·.1)) m=m':=by kernel_rfl)
    (hs:List.Sublist H' H:=by first | exact List.Sublist.refl _ | repeat first | exact List.Sublist.slnil | refine List.Sublist.cons_cons _ ?_ | refine List.Sublist.cons _ ?_):fC n m' a∧dm w0 H' g W∧F:=⟨hA.sub h,hW.sub hs,hF⟩
theorem jn {F:Prop} (h:F→Ok n w0 m H g R):∀ a W,(fC n m a∧dm w0 H g W∧F)→R a W:=fun a W q=>h q.2.2 a W q.1 q.2.1
theorem aB (t:Nat) (b':Bool) {b:Bool} (e:b=b') (h:Ok n w0 ((t,.bool b')::m) H g R) (ht:get m t=some (.bool b):=by kernel_rfl):Ok n w0 m H g R:=gX t ht (congrArg Value.bool e) h
theorem aJ {A B:Prop} {c:Operand} {x y:Code} {b:Bool} (hF:(b=true→A)∧(b=false→B)) (ht:b=true→A→Ok n w0 m H g (x.wp P Q)) (hf:b=false→B→Ok n w0 m H g (y.wp P Q)) (hb:val m c=some (.bool b):=by kernel_rfl):Ok n w0 m H g ((Code.cond c x y).wp P Q):=Ok.c hb (fun h=>ht h (hF.1 h)) (fun h=>hf h (hF.2 h))
theorem bP {A B:Prop} (d:Nat) {c:Bool} (hF:(c=true→A)∧(c=false→B)) (ht:c=true→A→Ok n w0 ((d,.bool true)::m) H g R) (hf:c=false→B→Ok n w0 ((d,.bool false)::m) H g R) (hd:get m d=some (.bool c):=by kernel_rfl):Ok n w0 m H g R:=Ok.a d c hd (fun h=>ht h (hF.1 h)) (fun h=>hf h (hF.2 h))
theorem dZ {o:Oper} {rest:List Oper} (h:af P (wpList P ops Q rest) Q o n w0 m H g) (hw:wants ops m o=some true:=by kernel_rfl):Ok n w0 m H g (wpList P ops Q (o::rest)):=VQ hw h
theorem qg {fn:Func} {e:Exit} {rs:List ResultVar} {V:ak→List cu→Value→Prop} {g0:ak} (v:Value) (hx:bf w0 g0 g) (h:V g H v) (he:e=.ret∨e=.normal:=by first | exact .inl rfl | exact .inr rfl) (hr:fn.results=rs.toArray:=by rfl) (h1:lF P n w0 m H g rs [v]:=by exact .cons (.tmp rfl) .nil) (hD:n.ds=[]:=by rfl) :
    Ok n w0 m H g (bodyPost P fn (fun e W'=>∃ v g' H',e=.returned v∧V g' H' v∧bf w0 g0 g'∧dm w0 H' g' W') e):=gZ (vs:=[v]) he hr h1 hx h hD
theorem pO {fn:Func} {e:Exit} {rs:List ResultVar} {V:ak→List cu→Value→Prop} (v:Value) (h:V g H v) (he:e=.ret∨e=.normal:=by first | exact .inl rfl | exact .inr rfl) (hr:fn.results=rs.toArray:=by rfl) (h1:lF P n w0 m H g rs [v]:=by exact .cons (.tmp rfl) .nil) (hD:n.ds=[]:=by rfl) :
    Ok n w0 m H g (bodyPost P fn (fun e W'=>∃ v g' H',e=.returned v∧V g' H' v∧bf w0 g g'∧dm w0 H' g' W') e):=gZ (vs:=[v]) he hr h1 (bu w0 g) h hD
theorem jg {fn:Func} {e:Exit} {rs:List ResultVar} {V:ak→List cu→Value→Prop} {g0:ak} (v:Value) (hx:bf w0 g0 g) (h:V g [] v) (he:e=.ret∨e=.normal:=by first | exact .inl rfl | exact .inr rfl) (hr:fn.results=rs.toArray:=by rfl) (h1:lF P n w0 m H g rs [v]:=by exact .cons (.tmp rfl) .nil) (hD:n.ds=[]:=by rfl) :
    Ok n w0 m H g (bodyPost P fn (fun e W'=>∃ v g' H',e=.returned v∧V g' H' v∧bf w0 g0 g'∧dm w0 H' g' W') e):=AR (vs:=[v]) [] [] (by decide) rfl he hr h1 hx h hD
theorem gV {fn:Func} {e:Exit} {rs:List ResultVar} {V:ak→List cu→Value→Prop} (v:Value) (h:V g [] v) (he:e=.ret∨e=.normal:=by first | exact .inl rfl | exact .inr rfl) (hr:fn.results=rs.toArray:=by rfl) (h1:lF P n w0 m H g rs [v]:=by exact .cons (.tmp rfl) .nil) (hD:n.ds=[]:=by rfl) :
    Ok n w0 m H g (bodyPost P fn (fun e W'=>∃ v g' H',e=.returned v∧V g' H' v∧bf w0 g g'∧dm w0 H' g' W') e):=AR (vs:=[v]) [] [] (by decide) rfl he hr h1 (bu w0 g) h hD
theorem fz {m':Env} {H':List cu} {F:Prop} (hF:F) (h:keep (m'.map (·.1)) m=m':=by kernel_rfl)
    (hs:List.Sublist H' H:=by first | exact List.Sublist.refl _ | repeat first | exact List.Sublist.slnil | refine List.Sublist.cons_cons _ ?_ | refine List.Sublist.cons _ ?_):Ok n w0 m H g (fun a W=>fC n m' a∧dm w0 H' g W∧F):=fun a W hA hW=>⟨hA.sub h,hW.sub hs,hF⟩
theorem ai {o:Oper} {rest:List Oper} (h:af P (wpList P ops Q rest) Q o n w0 m H g) (hg:o.guard=none:=by rfl):Ok n w0 m H g (wpList P ops Q (o::rest)):=Ok.op hg h
theorem Y4 {T ty:TypeId} {x y:Operand} {K:Act→World→Prop} {b off:Nat} {cs:Array Value} {T':TypeId} {H':List cu}
    (i:Nat) (X:Array Value) (hx:val m x=some (.pointer (some ⟨b,off,none⟩))) (hy:val m y=some (.agg X)) (hH:H[i]? = some (.blk b (.cells cs T')))
    (h:Ok n w0 m H' g K) (hk:(P.info? T).map (·.size)=some X.size:=by kernel_rfl)
    (hl:Nat.beq (Value.agg X).cells.size X.size=true:=by kernel_rfl) (hfit:Nat.ble (off+X.size) cs.size=true:=by kernel_rfl) (h1:(Value.agg X).cells.all (·.oneCell')=true:=by kernel_rfl)
    (hs:mR (.blk b (.cells X T')) H i H':=by repeat constructor) (hc:(cs.toList.take off++(Value.agg X).cells.toList++cs.toList.drop (off+X.size)).toArray=X:=by kernel_rfl) :
    af P K Q ⟨none,.store T x y,ty,pos,after,gd⟩ n w0 m H g:=mU (k:=X.size) (v:=.agg X) i X hx hy hH h hk hl hfit h1 hs hc
theorem oS {e:Ty} {cs:List Value} {x:(Ty.slice e).den} (h:bE g (.slice e) cs x):∃ (a:Option Addr) (c:Nat),cs=[.slice a (List.length (α:=e.den) x) c]∧bE g (.slice e) [.slice a (List.length (α:=e.den) x) c] x:=by
  obtain ⟨a,c,rfl,h1,h2⟩:=h;exact ⟨a,c,rfl,a,c,rfl,h1,h2⟩
theorem RZ (s:List UInt8) (k:Nat):(s.take (s.length:Int).toNat).drop k=s.drop k:=by rw [show (s.length:Int).toNat=s.length from Int.toNat_natCast _,List.take_length]
theorem bI {dst:Nat} {T ty:TypeId} {K:Act→World→Prop} (X:Array Value)
    (h:∀ b,Ok n w0 ((dst,.pointer (some ⟨b,0,none⟩))::m) (.blk b (.cells X T)::H) g K) (hz:(P.info? T).bind (·.zero)=some (.agg X):=by kernel_rfl) (hc:(Value.agg X).cells=X:=by kernel_rfl) (hn:Nat.ble (dst+1) n=true:=by kernel_rfl):af P K Q ⟨some dst,.alloc T,ty,pos,after,gd⟩ n w0 m H g:=af.a hz hc hn h
theorem gB {x y:Code} (m':Env) (H':List cu) (F:Prop) (h:Ok n w0 m H g (x.wp P (Exit.then (fun a W=>fC n m' a∧dm w0 H' g W∧F) Q))) (h2:F→Ok n w0 m' H' g (y.wp P Q)):Ok n w0 m H g ((Code.seq x y).wp P Q):=Ok.cut _ h fun a W q=>h2 q.2.2 a W q.1 q.2.1
theorem iK {x y:Code} (g0:ak) (m':Env) (H':List cu) (F:Prop) (h:Ok n w0 m H g (x.wp P (Exit.then (fun a W=>∃ g':ak,bf w0 g0 g'∧fC n m' a∧dm w0 H' g' W∧F) Q))) (h2:∀ g',bf w0 g0 g'→F→Ok n w0 m' H' g' (y.wp P Q)):Ok n w0 m H g ((Code.seq x y).wp P Q):=Ok.cut _ h fun a W q=>by
  obtain ⟨g',hx,q⟩:=q;exact h2 g' hx q.2.2 a W q.1 q.2.1
theorem dE {fn:Func} {e:Exit} {rs:List ResultVar} {K:Bool→Prop} (b:Bool) (h:K b) (he:e=.ret∨e=.normal:=by first | exact .inl rfl | exact .inr rfl) (hr:fn.results=rs.toArray:=by rfl) (h1:lF P n w0 m H g rs [.bool b]:=by exact .cons (.tmp rfl) .nil) (hD:n.ds=[]:=by rfl) :
    Ok n w0 m H g (bodyPost P fn (fun e W'=>∃ v g' H',e=.returned v∧(∃ r0,v=.bool r0∧H'=[]∧K r0)∧bf w0 g g'∧dm w0 H' g' W') e):=AR (V:=fun _ H' v=>∃ r0,v=.bool r0∧H'=[]∧K r0) (vs:=[.bool b]) [] [] (by decide) rfl he hr h1 (bu w0 g) ⟨_,rfl,rfl,h⟩ hD
theorem az.gv {α:Type} {f:FuncId} {args:Array Value} {C:α→Value} {x:α} (h:az P f args g [] (fun _ H' v=>∃ r0:α,v=C r0∧H'=[]∧r0=x)):bC P f args g (C x):=h.gives (by rintro _ _ _ _ ⟨_,rfl,rfl,rfl⟩; rfl)
theorem fg {m':Env} {H':List cu} {F:Prop} (hF:F) (h:keep (m'.map (·.1)) m=m':=by kernel_rfl)
    (hs:List.Sublist H' H:=by first | exact List.Sublist.refl _ | repeat first | exact List.Sublist.slnil | refine List.Sublist.cons_cons _ ?_ | refine List.Sublist.cons _ ?_):Ok n w0 m H g (fun a W=>∃ g':ak,bf w0 g g'∧fC n m' a∧dm w0 H' g' W∧F):=fun a W hA hW=>⟨g,bu w0 g,hA.sub h,hW.sub hs,hF⟩
theorem nl {k:Nat}:k<k+1:=Nat.lt_succ_self k
theorem dR (k:Nat):Int.toNat (k:Int)=k:=Int.toNat_natCast k
theorem od {c:Prop} [Decidable c] {p:Prop} (h:decide c=true) (k:c→p:=by intro; omega):p:=k (of_decide_eq_true h)
theorem oe {c:Prop} [Decidable c] {p:Prop} (h:decide c=false) (k:¬ c→p:=by intro; omega):p:=k (of_decide_eq_false h)
def al3 (args:Array Value):Env:=(List.range args.size).map fun i=>(i,args.toList.getD i undef)
theorem aP {f:FuncId} {fn:Func} {c:Code} {args:Array Value} {H0:List cu} {V:ak→List cu→Value→Prop} (n:nQ) (hf:P.funcs[f]? = some fn) (hb:fn.body=some c)
    (h:∀ w0,Ok n w0 (al3 args) H0 g (c.wp P (bodyPost P fn fun e W'=>∃ v g' H',e=.returned v∧V g' H' v∧bf w0 g g'∧dm w0 H' g' W'))) (hn:fn.ntmps=n:=by kernel_rfl) (hle:Nat.ble args.size n=true:=by kernel_rfl) (hD:n.ds=[]:=by rfl):az P f args g H0 V:=az.enter n (al3 args) hf hb hn hle rfl h hD
end
inductive AtE:List cu→Nat→cu→Prop
  | here {e:cu} {H:List cu}:AtE (e::H) 0 e
  | next {e x:cu} {H:List cu} {i:Nat}:AtE H i e→AtE (x::H) (i+1) e
inductive wD (H:List cu):List Nat→List cu→Prop
  | nil:wD H [] []
  | cons {i:Nat} {e:cu} {is:List Nat} {H':List cu}:AtE H i e→wD H is H'→wD H (i::is) (e::H')
theorem AtE.eq {H:List cu} {i:Nat} {e:cu} (h:AtE H i e):H[i]? = some e:=by
  induction h with
  | here=>rfl
  | next _ ih=>simpa using ih
theorem wD.eq {H:List cu} {is:List Nat} {H':List cu} (h:wD H is H'):is.map (fun i=>H[i]?)=H'.map some:=by
  induction h with
  | nil=>rfl
  | cons h _ ih=>rw [List.map_cons,List.map_cons,ih,h.eq]
theorem mR.same {x:cu} {H H':List cu} {i:Nat} (h:mR x H i H'):H[i]? = some x→H'=H:=by
  induction h with
  | here=>intro h0; rw [Option.some.inj h0]
  | next _ ih=>intro h0; rw [ih (by simpa using h0)]
inductive Z5:List cu→List Nat→List cu→Prop
  | nil:Z5 [] [] []
  | keep {e:cu} {H:List cu} {b:List Nat} {H':List cu}:Z5 H b H'→Z5 (e::H) (1::b) (e::H')
  | drop {e:cu} {H:List cu} {b:List Nat} {H':List cu}:Z5 H b H'→Z5 (e::H) (0::b) H'
theorem Z5.sub {H:List cu} {b:List Nat} {H':List cu} (h:Z5 H b H'):List.Sublist H' H:=by
  induction h with
  | nil=>exact .slnil
  | keep _ ih=>exact .cons_cons _ ih
  | drop _ ih=>exact .cons _ ih
inductive YY (v:Value):List Value→Nat→List Value→Prop
  | here {c:Value} {cs:List Value}:YY v (c::cs) 0 (v::cs)
  | next {c:Value} {cs cs':List Value} {i:Nat}:YY v cs i cs'→YY v (c::cs) (i+1) (c::cs')
section
variable {P:Program} {pos:String} {after:Array Edge} {gd:Option (Nat×Bool)} {n:nQ} {w0:Base} {m:Env} {H:List cu} {g g0:ak} {R:Act→World→Prop} {Q:Exit→Act→World→Prop} {ops:Array Oper} {pre soft:List Nat} {Hf H0:List cu} {os:List (Nat×Bool)}
theorem jE {H':List cu} (is:List Nat) (h:Ok n w0 m H' g R) (hs:wD H is H':=by repeat constructor) (hp:is.Nodup:=by decide):Ok n w0 m H g R:=Ok.e is H' hp hs.eq h
theorem wH {id:Nat} {l:List Oper} (pre soft:List Nat) {H0:List cu} (b:List Nat) (os:List (Nat×Bool)) (h:eH P l.toArray n w0 g pre soft H H0 m H g (Q .normal) os) (hs:Z5 H b H0:=by repeat constructor)
    (hm:P.follows .mixedOrders=true:=by kernel_rfl) (hB:Kh l.toArray pre soft os=true:=by kernel_rfl):Ok n w0 m H g ((Code.region id l.toArray true).wp P Q):=afQ pre soft H0 os hm hB hs.sub h
theorem eH.hd {i:Nat} {o:Oper} {Hv:List cu} (h:fK P (fun a=>sS P ops (fun c W=>dm w0 c.2 c.1 W) (EI g0 pre Hf H0) (fun i c=>lG g0 c.1∧List.Sublist (bif soft.contains i then Hf else H0) c.2) R os a (g,H)) o n w0 m Hv g0)
    (hi:ops[i]? = some o:=by rfl) (hv:(bif pre.contains i then Hf else H0)=Hv:=by rfl) (hg:o.guard=none:=by rfl):eH P ops n w0 g0 pre soft Hf H0 m H g R ((i,true)::os):=amz hi hg hv h
theorem h_ {i:Nat} {Hv:List cu} (hg:lG g0 g) (h:eH P ops n w0 g0 pre soft Hf H0 m H g R os) (hv:(bif soft.contains i then Hf else H0)=Hv:=by rfl)
    (hs:List.Sublist Hv H:=by first | exact List.Sublist.refl _ | repeat first | exact List.Sublist.slnil | refine List.Sublist.cons_cons _ ?_ | refine List.Sublist.cons _ ?_) :
    Ok n w0 m H g (fun a' W'=>∃ c':ak×List cu,dm w0 c'.2 c'.1 W'∧(lG g0 c'.1∧List.Sublist (bif soft.contains i then Hf else H0) c'.2)∧sS P ops (fun c W=>dm w0 c.2 c.1 W) (EI g0 pre Hf H0) (fun i c=>lG g0 c.1∧List.Sublist (bif soft.contains i then Hf else H0) c.2) R os a' c'):=amy hv hg hs h
theorem af.w {T ty:TypeId} {x y:Operand} {K:Act→World→Prop} {b off:Nat} {cs X:Array Value} {T':TypeId} {H':List cu}
    (i:Nat) (h:Ok n w0 m H' g K) (hx:val m x=some (.pointer (some ⟨b,off,none⟩)):=by rfl) (hy:val m y=some (.agg X):=by rfl) (hH:H[i]? = some (.blk b (.cells cs T')):=by rfl)
    (hs:mR (.blk b (.cells X T')) H i H':=by repeat constructor) (hk:(P.info? T).map (·.size)=some X.size:=by kernel_rfl)
    (hl:Nat.beq (Value.agg X).cells.size X.size=true:=by kernel_rfl) (hfit:Nat.ble (off+X.size) cs.size=true:=by kernel_rfl) (h1:(Value.agg X).cells.all (·.oneCell')=true:=by kernel_rfl)
    (hc:(cs.toList.take off++(Value.agg X).cells.toList++cs.toList.drop (off+X.size)).toArray=X:=by kernel_rfl) :
    af P K Q ⟨none,.store T x y,ty,pos,after,gd⟩ n w0 m H g:=mU (k:=X.size) (v:=.agg X) i X hx hy hH h hk hl hfit h1 hs hc
theorem dA {T ty:TypeId} {x y:Operand} {K:Act→World→Prop} {b off:Nat} {v:Value} {cs cs':List Value} {T':TypeId} {H':List cu}
    (i:Nat) (h:Ok n w0 m H' g K) (hx:val m x=some (.pointer (some ⟨b,off,none⟩)):=by rfl) (hy:val m y=some v:=by rfl) (hH:H[i]? = some (.blk b (.cells cs.toArray T')):=by rfl)
    (hp:YY v cs off cs':=by repeat constructor) (hs:mR (.blk b (.cells cs'.toArray T')) H i H':=by repeat constructor) (hk:(P.info? T).map (·.size)=some 1:=by kernel_rfl)
    (hl:Nat.beq v.cells.size 1=true:=by kernel_rfl) (hfit:Nat.ble (off+1) cs.toArray.size=true:=by kernel_rfl) (h1:v.cells.all (·.oneCell')=true:=by kernel_rfl)
    (hc:(cs.toArray.toList.take off++v.cells.toList++cs.toArray.toList.drop (off+1)).toArray=cs'.toArray:=by kernel_rfl) :
    af P K Q ⟨none,.store T x y,ty,pos,after,gd⟩ n w0 m H g:=mU (k:=1) (v:=v) i cs'.toArray hx hy hH h hk hl hfit h1 hs hc
theorem cO {dst:Nat} {T ty:TypeId} {x:Operand} {K:Act→World→Prop} {X:Array Value}
    (h:∀ b,Ok n w0 ((dst,.pointer (some ⟨b,0,none⟩))::m) (.blk b (.cells X T)::H) g K) (hx:val m x=some (.agg X):=by rfl) (hc:(Value.agg X).cells=X:=by kernel_rfl) (hn:Nat.ble (dst+1) n=true:=by kernel_rfl) :
    af P K Q ⟨some dst,.box T x,ty,pos,after,gd⟩ n w0 m H g:=af.box hx hc hn h
theorem bS {o:Oper} {K:Act→World→Prop} {f:FuncId} {args:Array Value} {Hc F:List cu} {V:ak→List cu→Value→Prop} (hc:az P f args g Hc V)
    (h:∀ g' H' v,bf w0 g g'→V g' H' v→Ok n w0 (dstE o.dst v m) (H'++F) g' K) (hH:Hc++F=H:=by rfl) (hn:NG n o.dst=true:=by rfl)
    (hk:known m o=true:=by kernel_rfl) (hr:∀ W,(execOp (JR m) o).run P W=.ok (.enter f args) W:=by intro _; kernel_rfl):af P K Q o n w0 m H g:=NU Hc F (enters hk hr) hH hc hn h
theorem kg {E' e:cu} {H':List cu} (i:Nat) (e1:e=E') (h:Ok n w0 m H' g R) (h0:H[i]? = some e:=by rfl) (hs:mR E' H i H':=by repeat constructor):Ok n w0 m H g R:=by
  subst e1;rw [hs.same h0] at h;exact h
end
abbrev TS:=gL (Int×Bs×Int×Bs×Int×Int)
abbrev PH:=List (List TS)×List Int
abbrev KT:=Int×Bs×Bs×Int
abbrev yb:Ty:=.int .u8
abbrev Nd:=Int×Bs×(List (Bs×Bs))×Bs×Int×List Int
abbrev Dc:=(List Nd)×Bool
abbrev yA:Ty:=.pair .str .str
abbrev yN:Ty:=.pair (.int .i64) (.pair .str (.pair (.slice yA) (.pair .str (.pair (.int .i64) (.slice (.int .i64))))))
abbrev qj:Ty:=.slice yN
abbrev aN (x:Nd) (a:Option Addr) (c:Nat) (b:Option Addr) (d:Nat):Array Value:=#[.int .i64 x.1,sv x.2.1,.slice a x.2.2.1.length c,sv x.2.2.2.1,.int .i64 x.2.2.2.2.1,.slice b x.2.2.2.2.2.length d]
abbrev vN (x:Nd) (a:Option Addr) (c:Nat) (b:Option Addr) (d:Nat):List Value:=[.int .i64 x.1,sv x.2.1,.slice a x.2.2.1.length c,sv x.2.2.2.1,.int .i64 x.2.2.2.2.1,.slice b x.2.2.2.2.2.length d]
theorem oN {g:ak} {cs:List Value} {x:Nd} (h:bE g yN cs x):∃ (a:Option Addr) (c:Nat) (b:Option Addr) (d:Nat),cs=vN x a c b d∧bE g (.slice yA) [.slice a x.2.2.1.length c] x.2.2.1∧bE g (.slice (.int .i64)) [.slice b x.2.2.2.2.2.length d] x.2.2.2.2.2:=by
  obtain ⟨_,_,rfl,rfl,⟨_,_,rfl,rfl,⟨_,_,rfl,⟨a,c,rfl,h1,h2⟩,⟨_,_,rfl,rfl,⟨_,_,rfl,rfl,⟨b,d,rfl,h3,h4⟩⟩⟩⟩⟩⟩:=h;exact ⟨a,c,b,d,rfl,⟨a,c,rfl,h1,h2⟩,⟨b,d,rfl,h3,h4⟩⟩
abbrev aD (x:Dc) (a:Option Addr) (c:Nat):Array Value:=#[.slice a x.1.length c,.bool x.2]
abbrev yS:Ty:=.tst (.pair (.int .i64) (.pair .str (.pair (.int .u8) (.pair .str (.pair (.int .i64) (.int .i64))))))
abbrev yP:Ty:=.pair (.slice (.slice yS)) (.slice (.int .u8))
abbrev yK:Ty:=.pair (.int .i64) (.pair .str (.pair .str (.int .i64)))
abbrev vL (x:Int×Bs×Int×Bs×Int×Int) (a:Option Addr) (k c:Nat):List Value:=[.int .i64 x.1,sv x.2.1,.int .u8 x.2.2.1,sv x.2.2.2.1,.int .i64 x.2.2.2.2.1,.int .i64 x.2.2.2.2.2,.slice a k c]
abbrev aL (x:Int×Bs×Int×Bs×Int×Int) (a:Option Addr) (k c:Nat):Array Value:=#[.int .i64 x.1,sv x.2.1,.int .u8 x.2.2.1,sv x.2.2.2.1,.int .i64 x.2.2.2.2.1,.int .i64 x.2.2.2.2.2,.slice a k c]
abbrev vK (x:KT):List Value:=[.int .i64 x.1,sv x.2.1,sv x.2.2.1,.int .i64 x.2.2.2]
abbrev aK (x:KT):Array Value:=#[.int .i64 x.1,sv x.2.1,sv x.2.2.1,.int .i64 x.2.2.2]
abbrev zK:Array Value:=#[.int .i64 0,sv ([]:Bs),sv ([]:Bs),.int .i64 0]
theorem kr {α:Sort _} {a b:α} (h:a=b:=by kernel_rfl):a=b:=h
abbrev iv (x:Int):Value:=.int .i64 x
section
variable {P:Program} {pos:String} {after:Array Edge} {gd:Option (Nat×Bool)} {n:nQ} {w0:Base} {m:Env} {H:List cu} {g:ak} {R:Act→World→Prop} {Q:Exit→Act→World→Prop} {ops:Array Oper}
theorem ae {id:Nat} {l:List Oper} {y:Code} (h:Ok n w0 m H g (wpList P l.toArray (Exit.then (y.wp P Q) Q) l)):Ok n w0 m H g ((Code.seq (Code.region id l.toArray false) y).wp P Q):=aF (aR h)
theorem aa {K:Act→World→Prop} (h:Ok n w0 m H g K):Ok n w0 m H g (wpList P ops (Exit.then K Q) []):=bV (Ok.t h)
theorem dW {A B:Prop} {c:Operand} {x y:Code} {b:Bool} (_:(b=true→A)∧(b=false→B)) (hb:val m c=some (.bool b)) (ht:b=true→Ok n w0 m H g (x.wp P Q)) (hf:b=false→Ok n w0 m H g (y.wp P Q)):Ok n w0 m H g ((Code.cond c x y).wp P Q):=Ok.c hb ht hf
end
theorem om {p:Prop} (h:p:=by omega):p:=h
theorem dc {p:Prop} (h:p:=by decide):p:=h
theorem dk {p:Prop} (h:p:=by decide +kernel):p:=h
theorem asm {p:Prop} (h:p:=by assumption):p:=h
theorem sl {p:Prop} (h:p:=by simp only [List.length_append,List.length_cons,List.length_nil]; omega):p:=h
section
variable {P:Program} {pos:String} {after:Array Edge} {gd:Option (Nat×Bool)} {n:nQ} {w0:Base} {m:Env} {H H':List cu} {g g0:ak} {fn:Func} {e:Exit} {V:ak→List cu→Value→Prop} {t u:Nat} {T:TypeId} {b off:Nat} {cs X:Array Value} {T':TypeId} {d:TypeDesc} {v v':Value}
theorem jf (i:Nat) (is:List Nat) (hx:bf w0 g0 g) (h:V g H' (.agg X)) (hs:wD H is H':=by repeat constructor) (hp:is.Nodup:=by decide) (he:e=.ret∨e=.normal:=by first | exact .inl rfl | exact .inr rfl)
    (hr:fn.results=[ResultVar.cell t T].toArray:=by rfl) (hg:get m t=some (.pointer (some ⟨b,off,none⟩)):=by rfl) (hH:H[i]? = some (.blk b (.cells cs T')):=by rfl)
    (hu:P.underlying T=some d:=by rfl) (hd:d.isRow=true:=by rfl) (hk:(P.info? T).map (·.size)=some X.size:=by kernel_rfl) (hv:((cs.toList.drop off).take X.size).toArray=X:=by kernel_rfl) (hl:Nat.beq ((cs.toList.drop off).take X.size).length X.size=true:=by kernel_rfl) (hD:n.ds=[]:=by rfl) :
    Ok n w0 m H g (bodyPost P fn (fun e W'=>∃ v g' H',e=.returned v∧V g' H' v∧bf w0 g0 g'∧dm w0 H' g' W') e):=AR (vs:=[.agg X]) is H' hp hs.eq he hr (.cons (.iM i X.size X hg hH hu hd hk hv hl) .nil) hx h hD
theorem Em (i:Nat) (is:List Nat) (hx:bf w0 g0 g) (h:V g H' (.tuple #[.agg X,v])) (hs:wD H is H':=by repeat constructor) (hp:is.Nodup:=by decide) (he:e=.ret∨e=.normal:=by first | exact .inl rfl | exact .inr rfl)
    (hr:fn.results=[ResultVar.cell t T,.tmp u].toArray:=by rfl) (hg:get m t=some (.pointer (some ⟨b,off,none⟩)):=by rfl) (hH:H[i]? = some (.blk b (.cells cs T')):=by rfl)
    (hu:P.underlying T=some d:=by rfl) (hd:d.isRow=true:=by rfl) (hk:(P.info? T).map (·.size)=some X.size:=by kernel_rfl) (hv:((cs.toList.drop off).take X.size).toArray=X:=by kernel_rfl) (hl:Nat.beq ((cs.toList.drop off).take X.size).length X.size=true:=by kernel_rfl) (hg':get m u=some v:=by rfl) (hD:n.ds=[]:=by rfl) :
    Ok n w0 m H g (bodyPost P fn (fun e W'=>∃ v g' H',e=.returned v∧V g' H' v∧bf w0 g0 g'∧dm w0 H' g' W') e):=AR (vs:=[.agg X,v]) is H' hp hs.eq he hr (.cons (.iM i X.size X hg hH hu hd hk hv hl) (.cons (.tmp hg') .nil)) hx h hD
theorem Qd (is:List Nat) (hx:bf w0 g0 g) (h:V g H' v) (hs:wD H is H':=by repeat constructor) (hp:is.Nodup:=by decide) (he:e=.ret∨e=.normal:=by first | exact .inl rfl | exact .inr rfl)
    (hr:fn.results=[ResultVar.tmp t].toArray:=by rfl) (hg:get m t=some v:=by rfl) (hD:n.ds=[]:=by rfl) :
    Ok n w0 m H g (bodyPost P fn (fun e W'=>∃ v g' H',e=.returned v∧V g' H' v∧bf w0 g0 g'∧dm w0 H' g' W') e):=AR (vs:=[v]) is H' hp hs.eq he hr (.cons (.tmp hg) .nil) hx h hD
theorem FZ (is:List Nat) (hx:bf w0 g0 g) (h:V g H' (.tuple #[v,v'])) (hs:wD H is H':=by repeat constructor) (hp:is.Nodup:=by decide) (he:e=.ret∨e=.normal:=by first | exact .inl rfl | exact .inr rfl)
    (hr:fn.results=[ResultVar.tmp t,.tmp u].toArray:=by rfl) (hg:get m t=some v:=by rfl) (hg':get m u=some v':=by rfl) (hD:n.ds=[]:=by rfl) :
    Ok n w0 m H g (bodyPost P fn (fun e W'=>∃ v g' H',e=.returned v∧V g' H' v∧bf w0 g0 g'∧dm w0 H' g' W') e):=AR (vs:=[v,v']) is H' hp hs.eq he hr (.cons (.tmp hg) (.cons (.tmp hg') .nil)) hx h hD
end
theorem xD:type_of% @Array.getElem?_modify:=@Array.getElem?_modify
theorem u6:type_of% @Array.length_toList:=@Array.length_toList
theorem uZ:type_of% @Bool.and_assoc:=@Bool.and_assoc
theorem fF:type_of% @Bool.and_eq_false_iff:=@Bool.and_eq_false_iff
theorem aH:type_of% @Bool.and_eq_true:=@Bool.and_eq_true
theorem uY:type_of% @Bool.and_false:=@Bool.and_false
theorem uX:type_of% @Bool.eq_iff_iff:=@Bool.eq_iff_iff
theorem iw:type_of% @Bool.false_and:=@Bool.false_and
theorem zY:type_of% @Bool.false_eq_true:=@Bool.false_eq_true
theorem lC:type_of% @Bool.false_or:=@Bool.false_or
theorem eX:type_of% @Bool.not_eq_false':=@Bool.not_eq_false'
theorem dC:type_of% @Bool.not_eq_true':=@Bool.not_eq_true'
theorem dB:type_of% @Bool.or_eq_false_iff:=@Bool.or_eq_false_iff
theorem dY:type_of% @Bool.or_eq_true:=@Bool.or_eq_true
theorem nD:type_of% @Bool.or_false:=@Bool.or_false
theorem fJ:type_of% @Bool.true_and:=@Bool.true_and
theorem pM:type_of% @Bool.true_or:=@Bool.true_or
theorem oh:type_of% @Classical.byContradiction:=@Classical.byContradiction
theorem au:type_of% @Eq.trans:=@Eq.trans
theorem lv:type_of% @Int.le_refl:=@Int.le_refl
theorem sM:type_of% @List.all_cons:=@List.all_cons
theorem l7:type_of% @List.all_eq_true:=@List.all_eq_true
theorem jM:type_of% @List.any_cons:=@List.any_cons
theorem xC:type_of% @List.any_eq_true:=@List.any_eq_true
theorem xB:type_of% @List.any_nil:=@List.any_nil
theorem dM:type_of% @List.append_assoc:=@List.append_assoc
theorem gK:type_of% @List.append_nil:=@List.append_nil
theorem xA:type_of% @List.cons.inj:=@List.cons.inj
theorem uW:type_of% @List.cons.injEq:=@List.cons.injEq
theorem iP:type_of% @List.cons_append:=@List.cons_append
theorem Eh:type_of% @List.dropWhile_cons_of_neg:=@List.dropWhile_cons_of_neg
theorem Jg:type_of% @List.drop_append_of_le_length:=@List.drop_append_of_le_length
theorem xz:type_of% @List.drop_drop:=@List.drop_drop
theorem eD:type_of% @List.drop_of_length_le:=@List.drop_of_length_le
theorem Eg:type_of% @List.drop_succ_cons:=@List.drop_succ_cons
theorem gm:type_of% @List.drop_zero:=@List.drop_zero
theorem iO:type_of% @List.eq_nil_of_length_eq_zero:=@List.eq_nil_of_length_eq_zero
theorem zX:type_of% @List.ext_getElem?:=@List.ext_getElem?
theorem xy:type_of% @List.filterMap_cons:=@List.filterMap_cons
theorem zW:type_of% @List.filter_append:=@List.filter_append
theorem uV:type_of% @List.filter_nil:=@List.filter_nil
theorem zV:type_of% @List.flatten_cons:=@List.flatten_cons
theorem gT:type_of% @List.getD_eq_getElem?_getD:=@List.getD_eq_getElem?_getD
theorem Ef:type_of% @List.getElem?_drop:=@List.getElem?_drop
theorem gH:type_of% @List.getElem?_eq_getElem:=@List.getElem?_eq_getElem
theorem sK:type_of% @List.getElem?_eq_none:=@List.getElem?_eq_none
theorem jh:type_of% @List.getElem?_eq_some_iff:=@List.getElem?_eq_some_iff
theorem iZ:type_of% @List.getElem?_map:=@List.getElem?_map
theorem uU:type_of% @List.getElem?_set:=@List.getElem?_set
theorem zU:type_of% @List.getElem_mem:=@List.getElem_mem
theorem bD:type_of% @List.length_append:=@List.length_append
theorem di:type_of% @List.length_cons:=@List.length_cons
theorem gJ:type_of% @List.length_drop:=@List.length_drop
theorem zT:type_of% @List.length_filter_le:=@List.length_filter_le
theorem iY:type_of% @List.length_map:=@List.length_map
theorem jW:type_of% @List.length_nil:=@List.length_nil
theorem kP:type_of% @List.length_set:=@List.length_set
theorem mQ:type_of% @List.length_singleton:=@List.length_singleton
theorem gG:type_of% @List.length_take:=@List.length_take
theorem uT:type_of% @List.map_append:=@List.map_append
theorem jL:type_of% @List.map_cons:=@List.map_cons
theorem qH:type_of% @List.map_nil:=@List.map_nil
theorem uS:type_of% @List.map_toArray:=@List.map_toArray
theorem lu:type_of% @List.mem_append:=@List.mem_append
theorem eO:type_of% @List.mem_cons:=@List.mem_cons
theorem dK:type_of% @List.mem_cons_of_mem:=@List.mem_cons_of_mem
theorem cz:type_of% @List.mem_cons_self:=@List.mem_cons_self
theorem pK:type_of% @List.mem_filter:=@List.mem_filter
theorem sJ:type_of% @List.mem_iff_getElem?:=@List.mem_iff_getElem?
theorem iq:type_of% @List.mem_of_getElem?:=@List.mem_of_getElem?
theorem Ee:type_of% @List.mem_of_mem_take:=@List.mem_of_mem_take
theorem xu:type_of% @List.mem_range:=@List.mem_range
theorem il:type_of% @List.mem_singleton:=@List.mem_singleton
theorem jV:type_of% @List.nil_append:=@List.nil_append
theorem zS:type_of% @List.nodup_cons:=@List.nodup_cons
theorem zR:type_of% @List.replicate_succ:=@List.replicate_succ
theorem uR:type_of% @List.take_append_drop:=@List.take_append_drop
theorem iX:type_of% @List.take_length:=@List.take_length
theorem jU:type_of% @List.take_of_length_le:=@List.take_of_length_le
theorem xq:type_of% @List.take_take:=@List.take_take
theorem nC:type_of% @Nat.add_zero:=@Nat.add_zero
theorem iW:type_of% @Nat.eq_of_beq_eq_true:=@Nat.eq_of_beq_eq_true
theorem gy:type_of% @Nat.le_of_ble_eq_true:=@Nat.le_of_ble_eq_true
theorem fP:type_of% @Nat.le_refl:=@Nat.le_refl
theorem gQ:type_of% @Nat.le_trans:=@Nat.le_trans
theorem sI:type_of% @Nat.lt_irrefl:=@Nat.lt_irrefl
theorem og:type_of% @Nat.min_eq_left:=@Nat.min_eq_left
theorem qG:type_of% @Nat.mul_le_mul_right:=@Nat.mul_le_mul_right
theorem iN:type_of% @Nat.not_lt_zero:=@Nat.not_lt_zero
theorem uQ:type_of% @Nat.succ_mul:=@Nat.succ_mul
theorem sH:type_of% @Nat.zero_add:=@Nat.zero_add
theorem ik:type_of% @Nat.zero_le:=@Nat.zero_le
theorem xm:type_of% @Nat.zero_mul:=@Nat.zero_mul
theorem uP:type_of% @Option.bind_eq_some_iff:=@Option.bind_eq_some_iff
theorem uO:type_of% @Option.getD_some:=@Option.getD_some
theorem gP:type_of% @Option.map_eq_some_iff:=@Option.map_eq_some_iff
theorem mP:type_of% @Option.map_some:=@Option.map_some
theorem uN:type_of% @Option.some.inj:=@Option.some.inj
theorem jB:type_of% @Option.some.injEq:=@Option.some.injEq
theorem qF:type_of% @Prod.mk.injEq:=@Prod.mk.injEq
theorem nA:type_of% @and_true:=@and_true
theorem dX:type_of% @beq_eq_false_iff_ne:=@beq_eq_false_iff_ne
theorem dJ:type_of% @beq_iff_eq:=@beq_iff_eq
theorem uM:type_of% @beq_self_eq_true:=@beq_self_eq_true
theorem aA:type_of% @congrArg:=@congrArg
theorem l6:type_of% @decide_eq_false:=@decide_eq_false
theorem eP:type_of% @decide_eq_false_iff_not:=@decide_eq_false_iff_not
theorem gu:type_of% @decide_eq_true:=@decide_eq_true
theorem dI:type_of% @decide_eq_true_eq:=@decide_eq_true_eq
theorem aQ:type_of% @if_neg:=@if_neg
theorem bB:type_of% @if_pos:=@if_pos
theorem gp:type_of% @ne_eq:=@ne_eq
theorem fq:type_of% @of_decide_eq_false:=@of_decide_eq_false
theorem df:type_of% @of_decide_eq_true:=@of_decide_eq_true
end Go.iT
