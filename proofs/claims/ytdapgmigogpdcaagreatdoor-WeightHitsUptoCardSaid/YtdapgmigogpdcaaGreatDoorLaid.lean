/-
 Package variables that start as the text lays them: what a walk is given of them. No program in sight.
-/
import Derived.Test.YtdapgmigogpdcaaGreatDoorLift
import Derived.Test.YtdapgmigogpdcaaGreatDoorByt
import Derived.LaidLaws
import Derived.Handed
import Derived.Shelf.Vars
namespace Go.iT
open Go.RowKit
open Go.ChangeShapes Go.WideShapes Go.ChangeAt
set_option linter.unusedVariables false
section
variable {P:Program} {pos:String} {after:Array Edge} {gd:Option (Nat×Bool)}
def afR (g:ak) (b:Nat) (e:Ty) (D:e.den):Prop:=∃ cells,At g b 0 cells∧bE g e cells D
theorem afR.mono {g g':ak} (h:lG g g') {b:Nat} {e:Ty} {D:e.den}:afR g b e D→afR g' b e D
 | ⟨cells,h1,h2⟩=>⟨cells,h1.mono h,h2.mono h⟩

def mg (g:ak) (b:Nat) (e:Ty) (L:List e.den):Prop:=∃ xs T fz,g b=some (.cells ⟨xs⟩ T fz)∧aW g e xs L
theorem mg.mono {g g':ak} (h:lG g g') {b:Nat} {e:Ty} {L:List e.den}:mg g b e L→mg g' b e L
 | ⟨xs,T,fz,h1,h2⟩=>⟨xs,T,fz,h b _ h1,h2.mono h⟩
theorem mg.var {g:ak} {b:Nat} {e:Ty} {L:List e.den} (h:mg g b e L) {W:World} (hg:Gh g W) {name:String} (hn:P.globalNamed name=some b):∃ xs,W.var? P name=some ⟨xs⟩∧aW g e xs L:=by
 obtain ⟨xs,T,fz,h1,h2⟩:=h;refine ⟨xs,?_,h2⟩;simp [World.var?,hn,hg b _ h1]

theorem O3 {g:ak} {e:Ty}:∀ (L:List e.den) (xs:List Value),xs.length=L.length * e.size→(∀ i x,L[i]? = some x→bE g e ((xs.drop (i * e.size)).take e.size) x)→aW g e xs L
 | [],xs,h,_=>iO (by simpa using h)
 | x::L,xs,h,hr=>by
  rw [di,uQ] at h;refine ⟨xs.take e.size,xs.drop e.size,(uR ..).symm,by simpa using hr 0 x rfl,O3 L _ (by rw [gJ]; omega) fun i y hy=>?_⟩;have:=hr (i+1) y (by simpa using hy);rw [uQ] at this;rw [xz,Nat.add_comm e.size];exact this

theorem mapM_len {α β:Type} {f:α→Option β} {l:List α} {xs:List β} (h:l.mapM f=some xs):xs.length=l.length∧∀ (i:Nat) (a:α),l[i]? = some a→f a=xs[i]?:=uq h

theorem QQ {W:World} {laid:List (String×DataW Unit)} {name:String} {ds:List (DataW Unit)} {b n:Nat} {t E:TypeId} {e:Ty} {L:List e.den} (k:Nat) (h:laidMet P laid W) (hin:(name,DataW.agg ds) ∈ laid) (hg:P.globalNamed name=some b) (ht:(P.globals[b]?).map (·.type)=some t)
  (hu:P.underlying t=some (.array n E)) (hm:Hz P k e E=true) (hs:Nat.beq (P.cellsOf E) e.size=true) (ht2:Nat.beq (P.cellsOf t) (n * e.size)=true) (hD:ds.mapM (fromD P k e E)=some L):mg (eG W) b e L:=by
 have hs:=iW hs;have ht2:=iW ht2;obtain ⟨hLl,hLi⟩:=mapM_len hD;obtain ⟨ps,h1,_⟩:=h
 have key:∀ {laid:List (String×DataW Unit)} {ps:List MemPlace},DataW.LaidVars P W laid ps→(name,DataW.agg ds) ∈ laid→mg (eG W) b e L:=by
  intro laid
  induction laid with
  | nil=>intro ps _ hin; cases hin
  | cons p r ih =>
   intro ps hv hin;obtain ⟨n',d'⟩:=p;obtain ⟨g,t',cs,fuel,p,q,h1,h2,h3,h4,h5,h6⟩:=hv
   rcases eO.1 hin with hin | hin
   ·simp only [qF] at hin;obtain ⟨rfl,rfl⟩:=hin;obtain rfl:=uN (hg.symm.trans h1);obtain rfl:=uN (ht.symm.trans h2);obtain ⟨xs,m,-,hx,hl,hxl,hall⟩:=DataW.trod_array hu h4;obtain ⟨hx1,-⟩:=Prod.mk.inj hx
    injection hx1 with hx1
    obtain ⟨T,fz,aov⟩:∃ T fz,eG W b=some (.cells ⟨cs.toList⟩ T fz):=by
     unfold World.var? at h3;rw [hg] at h3;simp only [Option.bind_some] at h3
     split at h3
     ·rename_i c T fz hc
      injection h3 with h3
      exact ⟨T,fz,by rw [show eG W b=_ from hc,h3]⟩
     cases h3
    refine ⟨cs.toList,T,fz,aov,O3 L _ (by rw [hl,ht2,hLl,hx1,iY,hxl]) fun i x hi=>?_⟩
    have hin:i<n:=by
     have:=(jh.1 hi).1;rw [hLl,hx1,iY,hxl] at this; exact this
    have hti:=hall i hin;rw [gH om] at hti;obtain ⟨y,hy1,_,hy3⟩:=Ad W k e E _ m _ _ hm hti
    have hdi:ds[i]? = some (xs[i]).1:=by rw [hx1,iZ,gH om]; rfl
    have:=hLi i _ hdi;rw [hy3,hi] at this
    injection this with this
    subst this;rw [← hs]; exact hy1
   exact ih h5 hin
 exact key h1 hin

def bR (g:ak) (q:Nat):Prop:=∃ cs T fz m,g q=some (.cells cs T fz)∧cs[0]? = some (.int .i64 m)
def NS (g:ak) (q:Nat):Prop:=∃ cs T fz t p,g q=some (.cells cs T fz)∧cs[0]? = some (.iface t p)
theorem NS.mono {g g':ak} {q:Nat} (h:NS g q) (hg:lG g g'):NS g' q:=by
 obtain ⟨cs,T,fz,t,p,h1,h2⟩:=h;exact ⟨cs,T,fz,t,p,hg _ _ h1,h2⟩
theorem bR.mono {g g':ak} {q:Nat} (h:bR g q) (hg:lG g g'):bR g' q:=by
 obtain ⟨cs,T,fz,m,h1,h2⟩:=h;exact ⟨cs,T,fz,m,hg _ _ h1,h2⟩
theorem xU {W:World} {q:Nat} {t:TypeId} {zero:Array Value} (h:W.ShapedOpen P) (hg:Nat.ble (q+1) P.globals.size=true)
  (h0:((begin P (fun _ _=>0) default).world.heap[q]?).bind Obj.row? = some (zero,t)) (hz:zero.size=1)
  (hb:P.buildable t=true) (hc:P.cellTypes P.depth t=some [t]) (hu:P.underlying t=some (.int .i64)):bR (eG W) q:=by
 obtain ⟨m,hm⟩:=Go.Proofs.cell_of_shapedOpen_int h (gy hg) h0 hz hb hc hu;unfold World.cell? at hm
 cases hq:W.heap[q]? with
 | none=>simp [hq] at hm
 | some o =>
  cases o with
  | cells cs T fz=>exact ⟨cs,T,fz,m,hq,by simpa [hq] using hm⟩
  | _=>simp [hq] at hm
section
variable {n:nQ} {w0:Base} {m:Env} {H:List cu} {g:ak} {R:Act→World→Prop} {Q:Exit→Act→World→Prop}
theorem Aj {dst:Option Nat} {T E ty:TypeId} {x ix:Operand} {e:Ty} {b o len:Nat} {xs:List Value} {L:List e.den} {k:IntKind} {q:Int} {el:e.den}
  (hat:At g b o xs) (hR:aW g e xs L) (hx:val m x=some (.pointer (some ⟨b,o,none⟩))) (hix:val m ix=some (.int k q)) (hu:P.underlying T=some (.array len E)) (hs:(P.info? E).map (·.size)=some e.size)
  (hlen:L.length=len) (h0:0≤q) (he:L[q.toNat]? = some el) :
  ∃ cells,cells.length=e.size∧At g b (o+q.toNat * e.size) cells∧bE g e cells el∧Yields P n w0 m H g ⟨dst,.indexAddr T x ix,ty,pos,after,gd⟩ (.pointer (some ⟨b,o+q.toNat * e.size,none⟩)):=by
 obtain ⟨cells,hl,hr,hc⟩:=hR.get he;have hlt:q.toNat<L.length:=(jh.1 he).1;have hb:q<(len:Int):=om;refine ⟨cells,hl,fun j v hj=>?_,hr,fun ac W hA hW=>?_⟩
 ·have h1:=hc j (by rw [← hl]; exact (jh.1 hj).1);rw [hj] at h1;have:=hat _ v h1
  rwa [← Nat.add_assoc] at this
 cases gW:P.info? E with
 | none=>simp [gW] at hs
 | some inf =>
  simp only [gW,mP,jB] at hs;simp only [execOp,hA.eval hx,hA.eval hix];simp [Instr.indexAt,Instr.sureAddr,asIntOf,underlying,hu,h0,hb,sizeOf,typeInfo,gW,hs,Addr.add_plain,go_sem]
theorem af.qa {K:Act→World→Prop} {d:Nat} {T E ty:TypeId} {x ix:Operand} {e:Ty} {b o len:Nat} {xs:List Value} {L:List e.den} {k:IntKind} {q:Int} {el:e.den}
  (hat:At g b o xs) (hR:aW g e xs L) (hx:val m x=some (.pointer (some ⟨b,o,none⟩))) (hix:val m ix=some (.int k q)) (hu:P.underlying T=some (.array len E)) (hs:(P.info? E).map (·.size)=some e.size)
  (hlen:L.length=len) (h0:0≤q) (he:L[q.toNat]? = some el) (hn:Nat.ble (d+1) n=true)
  (h:∀ cells,cells.length=e.size→At g b (o+q.toNat * e.size) cells→bE g e cells el→Ok n w0 ((d,.pointer (some ⟨b,o+q.toNat * e.size,none⟩))::m) H g K) :
  af P K Q ⟨some d,.indexAddr T x ix,ty,pos,after,gd⟩ n w0 m H g:=by
 obtain ⟨cells,hl,hat,hr,hy⟩:=Aj (P:=P) (n:=n) (w0:=w0) (H:=H) (dst:=some d) (ty:=ty) (pos:=pos) (after:=after) (gd:=gd) hat hR hx hix hu hs hlen h0 he;exact af.s hy rfl hn (h cells hl hat hr)
theorem fK.qa {KQ:Act→Prop} {d:Nat} {T E ty:TypeId} {x ix:Operand} {e:Ty} {b o len:Nat} {xs:List Value} {L:List e.den} {k:IntKind} {q:Int} {el:e.den}
  (hat:At g b o xs) (hR:aW g e xs L) (hx:val m x=some (.pointer (some ⟨b,o,none⟩))) (hix:val m ix=some (.int k q)) (hu:P.underlying T=some (.array len E)) (hs:(P.info? E).map (·.size)=some e.size)
  (hlen:L.length=len) (h0:0≤q) (he:L[q.toNat]? = some el) (hn:Nat.ble (d+1) n=true)
  (h:∀ cells,cells.length=e.size→At g b (o+q.toNat * e.size) cells→bE g e cells el→Y5 n ((d,.pointer (some ⟨b,o+q.toNat * e.size,none⟩))::m) KQ) :
  fK P KQ ⟨some d,.indexAddr T x ix,ty,pos,after,gd⟩ n w0 m H g:=by
 obtain ⟨cells,hl,hat,hr,hy⟩:=Aj (P:=P) (n:=n) (w0:=w0) (H:=H) (dst:=some d) (ty:=ty) (pos:=pos) (after:=after) (gd:=gd) hat hR hx hix hu hs hlen h0 he;exact fK.s hy rfl hn (h cells hl hat hr)
end
end
def lay (cs:Array Value):Obj→Obj
 | .cells _ t f=>.cells cs t f
 | o=>o
section
variable {H:Type} {enc:TypeId×Value→H}
end
end Go.iT
