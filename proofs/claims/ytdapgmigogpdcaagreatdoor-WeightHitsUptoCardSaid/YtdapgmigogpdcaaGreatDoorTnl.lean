/-
 Is a slice that is only read nil? No program in sight.
-/
import Derived.Test.YtdapgmigogpdcaaGreatDoorByt
import Derived.Lib.SliceRun
namespace Go.iT
open Go.RowKit (Below)
set_option linter.unusedVariables false
section
variable {P:Program} {pos:String} {after:Array Edge} {gd:Option (Nat×Bool)} {n:nQ} {w0:Base} {m:Env} {H:List cu} {g:ak} {R:Act→World→Prop} {Q:Exit→Act→World→Prop} {ops:Array Oper}
theorem S9 {α:Type} (a:Option α):a=none∨∃ x,a=some x:=by cases a with | none=>exact .inl rfl | some x=>exact .inr ⟨x,rfl⟩
theorem Jj {e:Ty} {l:List e.den} {k c:Nat} (hR:bE g (.slice e) [.slice none k c] l):l=[]:=by
 obtain ⟨a1,c1,hcs,-,hel⟩:=hR;simp only [uW,Value.slice.injEq,nA] at hcs;obtain ⟨rfl,-,-⟩:=hcs
 cases l with
 | nil=>rfl
 | cons z r=>obtain ⟨b,off,h,-⟩:=hel 0 z rfl; cases h
theorem ve {dst:Option Nat} {T E T2 ty:TypeId} {x y:Operand} {a:Option Addr} {k c:Nat} {b:Bool}
  (hx:val m x=some (.slice a k c)) (hy:val m y=some (.slice none 0 0)) (hu:P.underlying T=some (.slice E)) (hg:P.eqGuardType P.depth T=false) (hb:a.isNone=b) :
  Yields P n w0 m H g ⟨dst,.binOp .eql T x y T2,ty,pos,after,gd⟩ (.bool b):=fun ac W hA hW=>by
 subst hb;simp only [execOp,hA.eval hx,hA.eval hy];have h:=Lib.run_eql_slice_nil (P:=P) W T E a k c 0 0 hu;simp [eqGuard,hg,h]
end
end Go.iT
