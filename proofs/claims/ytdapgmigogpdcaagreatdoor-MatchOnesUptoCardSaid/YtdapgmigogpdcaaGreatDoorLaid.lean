/-
 Package variables that start as the text lays them: what a walk is given of them. No program in sight.
-/
import Derived.Test.YtdapgmigogpdcaaGreatDoorLift
import Derived.Test.YtdapgmigogpdcaaGreatDoorSto
import Derived.LaidLaws
import Derived.Handed
import Derived.Shelf.Vars
namespace Go.Eng
open Go.RowKit
open Go.ChangeShapes Go.WideShapes Go.ChangeAt
set_option linter.unusedVariables false
section
variable {P:Program}
/-- the variable in block g holds the datum D, for good -/
def Glob (g:Ghost) (b:Nat) (e:Ty) (D:e.den):Prop:=∃ cells,At g b 0 cells∧Rep g e cells D
theorem Glob.mono {g g':Ghost} (h:Gle g g') {b:Nat} {e:Ty} {D:e.den}:Glob g b e D→Glob g' b e D
 | ⟨cells,h1,h2⟩=>⟨cells,h1.mono h,h2.mono h⟩

/-- the variable in block b is a row of elements -/
def GlobL (g:Ghost) (b:Nat) (e:Ty) (L:List e.den):Prop:=∃ xs T fz,g b=some (.cells ⟨xs⟩ T fz)∧RepL g e xs L
theorem GlobL.mono {g g':Ghost} (h:Gle g g') {b:Nat} {e:Ty} {L:List e.den}:GlobL g b e L→GlobL g' b e L
 | ⟨xs,T,fz,h1,h2⟩=>⟨xs,T,fz,h b _ h1,h2.mono h⟩
/-- a package variable that holds some integer -/
def SomeInt (g:Ghost) (q:Nat):Prop:=∃ cs T fz m,g q=some (.cells cs T fz)∧cs[0]? = some (.int .i64 m)
/-- a variable of an interface's type that holds something -/
def SomeIf (g:Ghost) (q:Nat):Prop:=∃ cs T fz t p,g q=some (.cells cs T fz)∧cs[0]? = some (.iface t p)
theorem SomeIf.mono {g g':Ghost} {q:Nat} (h:SomeIf g q) (hg:Gle g g'):SomeIf g' q:=by
 obtain ⟨cs,T,fz,t,p,h1,h2⟩:=h
 exact ⟨cs,T,fz,t,p,hg _ _ h1,h2⟩
theorem SomeInt.mono {g g':Ghost} {q:Nat} (h:SomeInt g q) (hg:Gle g g'):SomeInt g' q:=by
 obtain ⟨cs,T,fz,m,h1,h2⟩:=h
 exact ⟨cs,T,fz,m,hg _ _ h1,h2⟩
theorem someInt_of_shaped {W:World} {q:Nat} {t:TypeId} {zero:Array Value} (h:W.ShapedOpen P) (hg:Nat.ble (q+1) P.globals.size=true)
  (h0:((begin P (fun _ _=>0) default).world.heap[q]?).bind Obj.row? = some (zero,t)) (hz:zero.size=1)
  (hb:P.buildable t=true) (hc:P.cellTypes P.depth t=some [t]) (hu:P.underlying t=some (.int .i64)):SomeInt (ghostOf W) q:=by
 obtain ⟨m,hm⟩:=Go.Proofs.cell_of_shapedOpen_int h (Nat.le_of_ble_eq_true hg) h0 hz hb hc hu
 unfold World.cell? at hm
 cases hq:W.heap[q]? with
 | none=>simp [hq] at hm
 | some o =>
  cases o with
  | cells cs T fz=>exact ⟨cs,T,fz,m,hq,by simpa [hq] using hm⟩
  | _=>simp [hq] at hm
section
variable {n:Fsz} {w0:Base} {m:Env} {H:List Ent} {g:Ghost} {R:Act→World→Prop} {Q:Exit→Act→World→Prop}
end
end
/-- a package variable, with what it is to hold -/
def lay (cs:Array Value):Obj→Obj
 | .cells _ t f=>.cells cs t f
 | o=>o
section
variable {H:Type} {enc:TypeId×Value→H}
end
end Go.Eng
