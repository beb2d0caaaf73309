/- What a walk asks, answered by some answer: laws for going down a predicate without saying the answer beforehand. No program in sight. -/
import Derived.Test.YtdapgmigogpdcaaGreatDoorPl
namespace Go.Eng
set_option linter.unusedVariables false
variable {α:Type}
theorem ex_if {c:Bool} {A B Q:α→Prop} (ha:c=true→∃ e,A e∧Q e) (hb:c=false→∃ e,B e∧Q e):∃ e,((c=true→A e)∧(c=false→B e))∧Q e:=by
 cases c
 ·obtain ⟨e,h,q⟩:=hb rfl; exact ⟨e,⟨(fun h=>by cases h),fun _=>h⟩,q⟩
 obtain ⟨e,h,q⟩:=ha rfl; exact ⟨e,⟨fun _=>h,(fun h=>by cases h)⟩,q⟩
theorem ex_need {p:Prop} {A Q:α→Prop} (hp:p) (ha:∃ e,A e∧Q e):∃ e,(p∧A e)∧Q e:=by
 obtain ⟨e,h,q⟩:=ha; exact ⟨e,⟨hp,h⟩,q⟩
theorem ex_k {x:α} {Q:α→Prop} (h:Q x):∃ e,x=e∧Q e:=⟨x,rfl,h⟩
theorem ex_loop {f:Nat→α→Prop} {Q:α→Prop} (k:Nat) (h:∃ e,f k e∧Q e):∃ e,(∃ k,f k e)∧Q e:=by
 obtain ⟨e,h,q⟩:=h; exact ⟨e,⟨k,h⟩,q⟩
/-- some answer -/
noncomputable def pickE [Inhabited α] (A:α→Prop):α:=by
 classical
 exact if h:∃ e,A e then h.choose else default
theorem pickE_ok [Inhabited α] {A:α→Prop} (h:∃ e,A e):A (pickE A):=by
 unfold pickE; rw [dif_pos h]; exact h.choose_spec
end Go.Eng
