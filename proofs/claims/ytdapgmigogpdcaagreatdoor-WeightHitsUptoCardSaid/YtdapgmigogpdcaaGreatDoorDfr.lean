/- A function that defers one closure, which finds nothing to recover. No program in it. -/
import Derived.Test.YtdapgmigogpdcaaGreatDoorOwn
import Derived.Defers
import Derived.Recover
namespace Go.iT
open Go.RowKit (Below)
set_option linter.unusedVariables false
section
variable {P:Program} {n:nQ} {w0:Base} {m:Env} {H:List cu} {g:ak} {R:Act→World→Prop} {Q:Exit→Act→World→Prop} {ops:Array Oper}
theorem af.defer {o:Oper} {K:Act→World→Prop} (d:Deferred) (hk:known m o=true) (hr:∀ W,(execOp (JR m) o).run P W=.ok (.defer d) W) (ho:o.dst=none)
  (h:Ok ⟨n.size,d::n.ds⟩ w0 m H g K):af P K Q o n w0 m H g:=fun a W hA hW=>by
 show Oper.upon P o a _ Q (Sem.run P (execOp a.eval o) W);rw [jS hA hk,hr W,Oper.upon_defer,ho];refine h _ W ⟨hA.size,?_,hA.env⟩ hW;show d::a.defers=d::n.ds;rw [hA.defers]
theorem EH {f:FuncId} {fn:Func} {c:Code} {args:Array Value} {H0:List cu} {V:ak→List cu→Value→Prop} (n:nQ) (m0:Env) (hf:P.funcs[f]? = some fn) (hb:fn.body=some c) (hn:fn.ntmps=n) (hle:Nat.ble args.size n=true)
  (hm:(List.range args.size).map (fun i=>(i,args.toList.getD i undef))=m0)
  (h:∀ w0,Ok n w0 m0 H0 g (c.wp P (bodyPostD P fn fun e W'=>∃ v g' H',e=.returned v∧V g' H' v∧bf w0 g g'∧dm w0 H' g' W'))) (hD:n.ds=[]:=by rfl):az P f args g H0 V:=fun W hW=>by
 refine calls_of_wp_defers hf hb (h _ _ W (fC.Mx hn hle hm hD) hW)
def Idle (P:Program) (f:FuncId) (args:Array Value):Prop:=∀ W,CallsD P f args .returning W fun e u' W'=>(∃ v,e=.returned v)∧u'=.returning∧Below W.heap.size W W'
theorem Qc {fn:Func} {e:Exit} {rs:List ResultVar} {vs:List Value} {V:ak→List cu→Value→Prop} {g0:ak} {f:FuncId} {cap args:Array Value} (hc:Idle P f args) (hds:n.ds=[⟨.fn (.func f) cap,#[]⟩])
  (hi:∀ W,(invoke (.fn (.func f) cap) #[]).run P W=.ok (.enter f args) W) (is:List Nat) (H':List cu) (hp:is.Nodup) (hH:is.map (fun i=>H[i]?)=H'.map some) (he:e=.ret∨e=.normal) (hr:fn.results=rs.toArray) (h1:lF P n w0 m H g rs vs) (hx:bf w0 g0 g) (h:V g H' (Fs vs)) :
  Ok n w0 m H g (bodyPostD P fn (fun e W'=>∃ v g' H',e=.returned v∧V g' H' v∧bf w0 g0 g'∧dm w0 H' g' W') e):=fun a W hA hW=>by
 have key:Leaves P fn a.tmps (fun e W'=>∃ v g' H',e=.returned v∧V g' H' v∧bf w0 g0 g'∧dm w0 H' g' W') a.defers .returning W:=by
  rw [hA.defers,hds];refine leaves_cons (by intro h; cases h) (hi W) ((hc W).mono ?_);rintro e u' W' ⟨⟨v,rfl⟩,rfl,hb⟩;have hW':=hW.of_below hb;exact ⟨_,h1.run (fn:=fn) hA hW' hr,_,g,H',rfl,h,hx,hW'.pick is H' hp hH⟩
 rcases he with rfl | rfl <;> exact key
theorem VP {fn:Func} {e:Exit} {rs:List ResultVar} {vs:List Value} {V:ak→List cu→Value→Prop} {g0:ak} (hds:n.ds=[]) (is:List Nat) (H':List cu) (hp:is.Nodup) (hH:is.map (fun i=>H[i]?)=H'.map some) (he:e=.ret∨e=.normal) (hr:fn.results=rs.toArray) (h1:lF P n w0 m H g rs vs) (hx:bf w0 g0 g) (h:V g H' (Fs vs)) :
  Ok n w0 m H g (bodyPostD P fn (fun e W'=>∃ v g' H',e=.returned v∧V g' H' v∧bf w0 g0 g'∧dm w0 H' g' W') e):=fun a W hA hW=>by
 have key:Leaves P fn a.tmps (fun e W'=>∃ v g' H',e=.returned v∧V g' H' v∧bf w0 g0 g'∧dm w0 H' g' W') a.defers .returning W:=by
  rw [hA.defers,hds];exact ⟨_,h1.run (fn:=fn) hA hW hr,_,g,H',rfl,h,hx,hW.pick is H' hp hH⟩
 rcases he with rfl | rfl <;> exact key
end
end Go.iT
