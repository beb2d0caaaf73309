/- Plain lemmas on lists and integers. No program in sight. -/
import Derived.Test.YtdapgmigogpdcaaGreatDoorByt
import Derived.IntWalk
set_option linter.unusedVariables false
namespace Go.iT
theorem fU {x:Int} (h : -9223372036854775808≤x∧x≤9223372036854775807):w6 x=x:=IntWalk.i64_in x h
theorem bX {α:Type} {l:List α} {k:Nat} (d:α) (h:k<l.length):l.drop k=l.getD k d::l.drop (k+1):=by
 rw [List.drop_eq_getElem_cons h,gT,gH h,uO]
theorem iD {α:Type} {l:List α} {k:Nat} (d:α) (h:k<l.length):l.take (k+1)=l.take k++[l.getD k d]:=by
 rw [List.take_succ_eq_append_getElem h,gT,gH h,uO]
theorem ma:maxLen=9223372036854775807:=rfl
end Go.iT
namespace Go.iT
open Go.RowKit (Below)
section
variable {P:Program} {pos:String} {after:Array Edge} {gd:Option (Nat×Bool)} {n:nQ} {w0:Base} {m:Env} {H:List cu} {g:ak} {R:Act→World→Prop} {ops:Array Oper} {g0:ak} {pre soft:List Nat} {Hf H0 Hv:List cu} {os:List (Nat×Bool)}
end
section
variable {P:Program} {pos:String} {after:Array Edge} {gd:Option (Nat×Bool)} {n:nQ} {w0:Base} {m:Env} {H:List cu} {g:ak} {R:Act→World→Prop} {Q:Exit→Act→World→Prop} {ops:Array Oper}
end
def IfV (v:Value):Bool→Prop
 | true=>v=.nilIface
 | false=>∃ t p,v=.iface t p
theorem VO {n:nQ} {w0:Base} {m:Env} {H:List cu} {g:ak} {R:Act→World→Prop} (c:Bool) (h1:c=true→Ok n w0 m H g R) (h2:c=false→Ok n w0 m H g R):Ok n w0 m H g R:=by
 cases c
 ·exact h2 rfl
 exact h1 rfl
end Go.iT
namespace Go.iT
variable {α:Type}
theorem gY {c:Bool} {A B Q:α→Prop} (ha:c=true→∃ e,A e∧Q e) (hb:c=false→∃ e,B e∧Q e):∃ e,((c=true→A e)∧(c=false→B e))∧Q e:=by
 cases c
 ·obtain ⟨e,h,q⟩:=hb rfl; exact ⟨e,⟨(fun h=>by cases h),fun _=>h⟩,q⟩
 obtain ⟨e,h,q⟩:=ha rfl; exact ⟨e,⟨fun _=>h,(fun h=>by cases h)⟩,q⟩
theorem fG {p:Prop} {A Q:α→Prop} (hp:p) (ha:∃ e,A e∧Q e):∃ e,(p∧A e)∧Q e:=by
 obtain ⟨e,h,q⟩:=ha; exact ⟨e,⟨hp,h⟩,q⟩
theorem pF {x:α} {Q:α→Prop} (h:Q x):∃ e,x=e∧Q e:=⟨x,rfl,h⟩
theorem vH {f:Nat→α→Prop} {Q:α→Prop} (k:Nat) (h:∃ e,f k e∧Q e):∃ e,(∃ k,f k e)∧Q e:=by
 obtain ⟨e,h,q⟩:=h; exact ⟨e,⟨k,h⟩,q⟩
noncomputable def Fq [Inhabited α] (A:α→Prop):α:=by
 classical
 exact if h:∃ e,A e then h.choose else default
theorem yg [Inhabited α] {A:α→Prop} (h:∃ e,A e):A (Fq A):=by
 unfold Fq; rw [dif_pos h]; exact h.choose_spec
end Go.iT
