/- What is thrown is caught: a function that defers a closure which recovers. No program in it. -/
import Derived.Test.YtalnampdiegmoaaDoorPan
import Derived.Test.YtalnampdiegmoaaDoorDfr
namespace Go.Eng
open Go.RowKit (Below)
set_option linter.unusedVariables false
section
variable {P:Program} {n:Fsz} {w0:Base} {m:Env} {H:List Ent} {g g0:Ghost} {R:Act→World→Prop} {Q:Exit→Act→World→Prop} {ops:Array Oper} {pv:Value} {Z:Prop}
/-- it is thrown, from slots m0 and a memory F -/
def ThrC (n:Fsz) (m0:Env) (F:List Ent) (w0:Base) (g:Ghost) (Z:Prop) (pv:Value):Exit→Act→World→Prop:=fun e a W=>e=.panic (thrown pv)∧StA n m0 a∧Z∧StW w0 F g W
theorem ThrC.put {l:List Oper} {m0:Env} {F:List Ent} (hm:l.all (fun o=>match o.dst with | none=>true | some d=>(get m0 d).isNone)=true):∀ (e:Exit) (a:Act) (o:Oper) (v:Value) (W:World),o ∈ l→ThrC n m0 F w0 g Z pv e (a.put o.dst v) W→ThrC n m0 F w0 g Z pv e a W:=fun e a o v W ho ⟨h1,h2,h3,h4⟩=>by
 refine ⟨h1,⟨?_,(put_defers a o.dst v).symm.trans h2.defers,fun t u ht=>?_⟩,h3,h4⟩
 ·have:=h2.size
  cases hd:o.dst with
  | none=>rw [hd] at this; exact this
  | some d=>rw [hd] at this; simpa [Act.put] using this
 have h5:=h2.env t u ht
 have h6:=List.all_eq_true.1 hm o ho
 cases hd:o.dst with
 | none=>rw [hd] at h5; exact h5
 | some d =>
  rw [hd] at h5 h6
  have hne:d≠t:=fun e=>by
   subst e
   simp only [ht] at h6
   cases h6
  simp only [Act.put] at h5
  rw [Array.getElem?_setIfInBounds_ne hne] at h5
  exact h5
theorem ThrC.to {m0:Env} {F:List Ent} (h:Z→∀ a W,StA n m0 a→StW w0 F g W→Q (.panic (thrown pv)) a W):∀ (e:Exit) (a:Act) (W:World),ThrC n m0 F w0 g Z pv e a W→Q e a W:=fun e a W ⟨h1,h2,h3,h4⟩=>by subst h1; exact h h3 a W h2 h4
/-- as OpOk.callP, where all else is kept -/
theorem OpOk.callC {o:Oper} {K:Act→World→Prop} {f:FuncId} {args:Array Value} (Hc F:List Ent) {V:Ghost→List Ent→Value→Prop} (hk:∀ a W,StA n m a→(execOp a.eval o).run P W=.ok (.enter f args) W)
  (hH:Hc++F=H) (hc:CallsP P f args g Hc V Z pv) (hn:dstB n o.dst=true) (hz:Z→∀ a W,StA n m a→StW w0 F g W→Q (.panic (thrown pv)) a W)
  (h:∀ g' H' v,Gext w0 g g'→V g' H' v→Ok n w0 (dstE o.dst v m) (H'++F) g' K):OpOk P K Q o n w0 m H g:=fun a W hA hW=>by
 subst hH
 show Oper.upon P o a _ Q (Sem.run P (execOp a.eval o) W)
 rw [hk a W hA,Oper.upon_enter]
 refine (hc W hW.lendH).mono fun e W' hd=>?_
 rcases hd with ⟨v,g',H',he,hV,hx,hW'⟩ | ⟨z,he,hW'⟩
 ·subst he
  obtain ⟨h1,h2⟩:=hW.backH hx hW'
  exact h g' H' v h2 hV _ W' (hA.putD hn v) h1
 subst he
 obtain ⟨h1,h2⟩:=hW.backH (Gext.r _ g) hW'
 exact hz z a W' hA h1
/-- a deferred closure that catches what is thrown: F becomes F' -/
def Rescues (P:Program) (f:FuncId) (args:Array Value) (pv:Value) (F F':List Ent):Prop:=∀ w0 g W,StW w0 F g W→CallsD P f args (.panicking (thrown pv)) W fun e u' W'=>(∃ v,e=.returned v)∧settle u'=.returning∧StW w0 F' g W'
theorem Ok.catchD {fn:Func} {rs:List ResultVar} {vs:List Value} {V:Ghost→List Ent→Value→Prop} {f:FuncId} {cap args:Array Value} {m0:Env} {F F':List Ent} {a:Act} {W:World} (hc:Rescues P f args pv F F') (hds:n.ds=[⟨.fn (.func f) cap,#[]⟩])
  (hi:∀ W,(invoke (.fn (.func f) cap) #[]).run P W=.ok (.enter f args) W) (hr:fn.results=rs.toArray) (h1:ResAll P n w0 m0 F' g rs vs) (hx:Gext w0 g0 g) (h:V g [] (packV vs)) (hA:StA n m0 a) (hW:StW w0 F g W) :
  bodyPostD P fn (fun e W'=>∃ v g' H',e=.returned v∧V g' H' v∧Gext w0 g0 g'∧StW w0 H' g' W') (.panic (thrown pv)) a W:=by
 show Leaves P fn a.tmps _ a.defers (.panicking (thrown pv)) W
 rw [hA.defers,hds]
 refine leaves_cons (by intro h; cases h) (hi W) ((hc w0 g W hW).mono ?_)
 rintro e u' W' ⟨⟨v,rfl⟩,hs,hW'⟩
 show Leaves P fn a.tmps _ [] (settle u') W'
 rw [hs]
 exact ⟨_,h1.run (fn:=fn) hA hW' hr,_,g,[],rfl,h,hx,hW'.sub (List.nil_sublist _)⟩
end
end Go.Eng
