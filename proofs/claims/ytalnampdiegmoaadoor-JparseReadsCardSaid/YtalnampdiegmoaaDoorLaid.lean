/-
 Package variables that start as the text lays them: what a walk is given of them. No program in sight.
-/
import Derived.Test.YtalnampdiegmoaaDoorLift
import Derived.Test.YtalnampdiegmoaaDoorSto
import Derived.LaidLaws
import Derived.Handed
import Derived.Shelf.Vars
namespace Go.Eng
open Go.RowKit
open Go.ChangeShapes Go.WideShapes Go.ChangeAt
set_option linter.unusedVariables false
section
variable {P:Program} {pos:String} {after:Array Edge} {gd:Option (Nat×Bool)}
/-- the variable in block g holds the datum D, for good -/
def Glob (g:Ghost) (b:Nat) (e:Ty) (D:e.den):Prop:=∃ cells,At g b 0 cells∧Rep g e cells D
theorem Glob.mono {g g':Ghost} (h:Gle g g') {b:Nat} {e:Ty} {D:e.den}:Glob g b e D→Glob g' b e D
 | ⟨cells,h1,h2⟩=>⟨cells,h1.mono h,h2.mono h⟩

/-- the variable in block b is a row of elements -/
def GlobL (g:Ghost) (b:Nat) (e:Ty) (L:List e.den):Prop:=∃ xs T fz,g b=some (.cells ⟨xs⟩ T fz)∧RepL g e xs L
theorem GlobL.mono {g g':Ghost} (h:Gle g g') {b:Nat} {e:Ty} {L:List e.den}:GlobL g b e L→GlobL g' b e L
 | ⟨xs,T,fz,h1,h2⟩=>⟨xs,T,fz,h b _ h1,h2.mono h⟩
theorem GlobL.var {g:Ghost} {b:Nat} {e:Ty} {L:List e.den} (h:GlobL g b e L) {W:World} (hg:Gh g W) {name:String} (hn:P.globalNamed name=some b):∃ xs,W.var? P name=some ⟨xs⟩∧RepL g e xs L:=by
 obtain ⟨xs,T,fz,h1,h2⟩:=h
 refine ⟨xs,?_,h2⟩
 simp [World.var?,hn,hg b _ h1]

theorem repL_of {g:Ghost} {e:Ty}:∀ (L:List e.den) (xs:List Value),xs.length=L.length * e.size→(∀ i x,L[i]? = some x→Rep g e ((xs.drop (i * e.size)).take e.size) x)→RepL g e xs L
 | [],xs,h,_=>List.eq_nil_of_length_eq_zero (by simpa using h)
 | x::L,xs,h,hr=>by
  rw [List.length_cons,Nat.succ_mul] at h
  refine ⟨xs.take e.size,xs.drop e.size,(List.take_append_drop ..).symm,by simpa using hr 0 x rfl,repL_of L _ (by rw [List.length_drop]; omega) fun i y hy=>?_⟩
  have:=hr (i+1) y (by simpa using hy)
  rw [Nat.succ_mul] at this
  rw [List.drop_drop,Nat.add_comm e.size]
  exact this

theorem mapM_len {α β:Type} {f:α→Option β} {l:List α} {xs:List β} (h:l.mapM f=some xs):xs.length=l.length∧∀ (i:Nat) (a:α),l[i]? = some a→f a=xs[i]?:=mapM_get h

theorem laid_repL {W:World} {laid:List (String×DataW Unit)} {name:String} {ds:List (DataW Unit)} {b n:Nat} {t E:TypeId} {e:Ty} {L:List e.den} (k:Nat) (h:laidMet P laid W) (hin:(name,DataW.agg ds) ∈ laid) (hg:P.globalNamed name=some b) (ht:(P.globals[b]?).map (·.type)=some t)
  (hu:P.underlying t=some (.array n E)) (hm:matB P k e E=true) (hs:Nat.beq (P.cellsOf E) e.size=true) (ht2:Nat.beq (P.cellsOf t) (n * e.size)=true) (hD:ds.mapM (fromD P k e E)=some L):GlobL (ghostOf W) b e L:=by
 have hs:=Nat.eq_of_beq_eq_true hs
 have ht2:=Nat.eq_of_beq_eq_true ht2
 obtain ⟨hLl,hLi⟩:=mapM_len hD
 obtain ⟨ps,h1,_⟩:=h
 have key:∀ {laid:List (String×DataW Unit)} {ps:List MemPlace},DataW.LaidVars P W laid ps→(name,DataW.agg ds) ∈ laid→GlobL (ghostOf W) b e L:=by
  intro laid
  induction laid with
  | nil=>intro ps _ hin; cases hin
  | cons p r ih =>
   intro ps hv hin
   obtain ⟨n',d'⟩:=p
   obtain ⟨g,t',cs,fuel,p,q,h1,h2,h3,h4,h5,h6⟩:=hv
   rcases List.mem_cons.1 hin with hin | hin
   ·simp only [Prod.mk.injEq] at hin
    obtain ⟨rfl,rfl⟩:=hin
    obtain rfl:=Option.some.inj (hg.symm.trans h1)
    obtain rfl:=Option.some.inj (ht.symm.trans h2)
    obtain ⟨xs,m,-,hx,hl,hxl,hall⟩:=DataW.trod_array hu h4
    obtain ⟨hx1,-⟩:=Prod.mk.inj hx
    injection hx1 with hx1
    obtain ⟨T,fz,hobj⟩:∃ T fz,ghostOf W b=some (.cells ⟨cs.toList⟩ T fz):=by
     unfold World.var? at h3
     rw [hg] at h3
     simp only [Option.bind_some] at h3
     split at h3
     ·rename_i c T fz hc
      injection h3 with h3
      exact ⟨T,fz,by rw [show ghostOf W b=_ from hc,h3]⟩
     cases h3
    refine ⟨cs.toList,T,fz,hobj,repL_of L _ (by rw [hl,ht2,hLl,hx1,List.length_map,hxl]) fun i x hi=>?_⟩
    have hin:i<n:=by
     have:=(List.getElem?_eq_some_iff.1 hi).1
     rw [hLl,hx1,List.length_map,hxl] at this; exact this
    have hti:=hall i hin
    rw [List.getElem?_eq_getElem (by omega)] at hti
    obtain ⟨y,hy1,_,hy3⟩:=rep_of_trod W k e E _ m _ _ hm hti
    have hdi:ds[i]? = some (xs[i]).1:=by rw [hx1,List.getElem?_map,List.getElem?_eq_getElem (by omega)]; rfl
    have:=hLi i _ hdi
    rw [hy3,hi] at this
    injection this with this
    subst this
    rw [← hs]; exact hy1
   exact ih h5 hin
 exact key h1 hin

/-- a package variable that holds some integer -/
def SomeInt (g:Ghost) (q:Nat):Prop:=∃ cs T fz m,g q=some (.cells cs T fz)∧cs[0]? = some (.int .i64 m)
/-- a variable of an interface's type that holds something -/
def SomeIf (g:Ghost) (q:Nat):Prop:=∃ cs T fz t p,g q=some (.cells cs T fz)∧cs[0]? = some (.iface t p)
theorem SomeIf.mono {g g':Ghost} {q:Nat} (h:SomeIf g q) (hg:Gle g g'):SomeIf g' q:=by
 obtain ⟨cs,T,fz,t,p,h1,h2⟩:=h
 exact ⟨cs,T,fz,t,p,hg _ _ h1,h2⟩
theorem SomeInt.mono {g g':Ghost} {q:Nat} (h:SomeInt g q) (hg:Gle g g'):SomeInt g' q:=by
 obtain ⟨cs,T,fz,m,h1,h2⟩:=h
 exact ⟨cs,T,fz,m,hg _ _ h1,h2⟩
theorem someInt_of_shaped {W:World} {q:Nat} {t:TypeId} {zero:Array Value} (h:W.ShapedOpen P) (hg:Nat.ble (q+1) P.globals.size=true)
  (h0:((begin P (fun _ _=>0) default).world.heap[q]?).bind Obj.row? = some (zero,t)) (hz:zero.size=1)
  (hb:P.buildable t=true) (hc:P.cellTypes P.depth t=some [t]) (hu:P.underlying t=some (.int .i64)):SomeInt (ghostOf W) q:=by
 obtain ⟨m,hm⟩:=Go.Proofs.cell_of_shapedOpen_int h (Nat.le_of_ble_eq_true hg) h0 hz hb hc hu
 unfold World.cell? at hm
 cases hq:W.heap[q]? with
 | none=>simp [hq] at hm
 | some o =>
  cases o with
  | cells cs T fz=>exact ⟨cs,T,fz,m,hq,by simpa [hq] using hm⟩
  | _=>simp [hq] at hm
section
variable {n:Fsz} {w0:Base} {m:Env} {H:List Ent} {g:Ghost} {R:Act→World→Prop} {Q:Exit→Act→World→Prop}
end
end
/-- a package variable, with what it is to hold -/
def lay (cs:Array Value):Obj→Obj
 | .cells _ t f=>.cells cs t f
 | o=>o
section
variable {H:Type} {enc:TypeId×Value→H}
end
end Go.Eng
