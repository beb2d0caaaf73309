/- Plain lemmas on lists and integers. No program in sight. -/
import Derived.Test.YtalnampdiegmoaaDoorSto
import Derived.IntWalk
namespace Go.Eng
set_option linter.unusedVariables false
theorem w6e {x:Int} (h : -9223372036854775808≤x∧x≤9223372036854775807):w6 x=x:=IntWalk.i64_in x h
theorem w64 {x:Int} (h : -9223372036854775808≤x∧x≤9223372036854775807):IntKind.wrap .i64 x=x:=IntWalk.i64_in x h
theorem drop_get {α:Type} {l:List α} {k:Nat} (d:α) (h:k<l.length):l.drop k=l.getD k d::l.drop (k+1):=by
 rw [List.drop_eq_getElem_cons h,List.getD_eq_getElem?_getD,List.getElem?_eq_getElem h,Option.getD_some]
theorem take_get {α:Type} {l:List α} {k:Nat} (d:α) (h:k<l.length):l.take (k+1)=l.take k++[l.getD k d]:=by
 rw [List.take_succ_eq_append_getElem h,List.getD_eq_getElem?_getD,List.getElem?_eq_getElem h,Option.getD_some]
theorem maxLen_eq:maxLen=9223372036854775807:=rfl
end Go.Eng
namespace Go.Eng
open Go.RowKit (Below)
set_option linter.unusedVariables false
section
variable {P:Program} {pos:String} {after:Array Edge} {gd:Option (Nat×Bool)} {n:Fsz} {w0:Base} {m:Env} {H:List Ent} {g:Ghost} {R:Act→World→Prop} {Q:Exit→Act→World→Prop} {ops:Array Oper}

end
end Go.Eng
namespace Go.Eng
open Go.RowKit (Below)
set_option linter.unusedVariables false
section
variable {P:Program} {pos:String} {after:Array Edge} {gd:Option (Nat×Bool)} {n:Fsz} {w0:Base} {m:Env} {H:List Ent} {g:Ghost} {R:Act→World→Prop} {ops:Array Oper} {g0:Ghost} {pre soft:List Nat} {Hf H0 Hv:List Ent} {os:List (Nat×Bool)}
end
section
variable {P:Program} {pos:String} {after:Array Edge} {gd:Option (Nat×Bool)} {n:Fsz} {w0:Base} {m:Env} {H:List Ent} {g:Ghost} {R:Act→World→Prop} {Q:Exit→Act→World→Prop} {ops:Array Oper}
end
end Go.Eng
