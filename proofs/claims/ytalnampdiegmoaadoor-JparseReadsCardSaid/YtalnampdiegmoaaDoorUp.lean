/- Rows that bound what is handed in: the bound, in plain data; and the lift of such a row. -/
import Derived.Test.YtalnampdiegmoaaDoorLaid
import Derived.Test.YtalnampdiegmoaaDoorRows
import Derived.Deep.DeepHandedRow
namespace Go.Eng
open Go.RowKit
open Go.ChangeShapes Go.WideShapes Go.ChangeAt
open Go.Proofs.YtalnampdiegmoaaDoor
set_option linter.unusedVariables false
section
variable {P:Program} {H:Type} {enc:TypeId×Value→H}
/-- a law whose row has a condition: true, and what was there stays -/
theorem law_lift_row {C:Checked} {os:Os} {f:FuncId} {fn:Func} {s:OpenSpec} {sp:ChangeSpec} {F:Stop.Interp} {conds:List PathCond} {tb:TypeId} {laid:List (String×DataW Unit)}
  (own:ownKnob C.prog.godebug=none) (started:os.Started) (noInit:C.prog.inits.idxOf? f=none) (hfn:C.prog.funcs[f]? = some fn)
  (witness:∃ (w:World) (tape:Tape) (i:Input),w.os=os∧(w.forCall tape i).Shaped C.prog∧i.vars=[]∧Input.okWide C.prog (w.forCall tape i) .any w.heap.size f i ∧
   s.preRow enc C.prog fn conds false laid (w.forCall tape i).memory i.args∧({}:Assume).holds C.prog (lone (Frame.enter C.prog f i.args .normal) [] (w.forCall tape i)))
  (hat:s.at F=sp) (hsv:s.vars=[]) (hvars:sp.vars=[]) (hbt:s.bare.plain.varTypes C.prog=[])
  (hspec:∀ ds:List (DataW H),ds.length=fn.params.toList.length→sp.fn H (ds++[]) = { results:=[.lit (.bool true)],args:=ds })
  (hres:fn.resultTypes=#[tb]) (htb:C.prog.underlying tb=some .bool) (hl:laidOutB C.prog=true) (ht:(fn.params.toList.all fun t=>C.prog.readableRec t&&Nat.ble (t+1) C.prog.types.size)=true)
  (hh:(laid.filter fun x=>x.2.handleName?.isSome)=[])
  (walk:∀ (W:World) (base:Nat) (args:Array Value) (ds:List (DataW H)) (p:List MemPlace),W.ShapedOpen C.prog→laidMet C.prog laid W→(∀ (j:Nat) t v,fn.params[j]? = some t→args[j]? = some v→Value.okWide C.prog W .any base t v) →
   DataW.TrodAll enc C.prog W 0 (fun _=>true) true fn.params.toList args.toList ds p→(DataW.weightsEach C.prog fn.params.toList ds).all (·≤reachBytes)=true→(∀ k,s.cond=some k→k H ds=true)→Calls C.prog f args W fun e W'=>e=.returned (.bool true)∧Below W.heap.size W W') :
  ReturnsInHanded {} C os f .any (s.preRow enc C.prog fn conds false laid) ((s.at F).post enc C.prog fn false true false false):=by
 refine returnsInHanded_of_row own started noInit hfn witness fun W base args ds gs before hval hW _ hk hsz hL hsh _=>?_
 rw [hat]
 have hL:laidMet C.prog laid W:=by
  unfold laidMetH at hL
  rw [hh] at hL
  exact hL
 rw [hsv,← hvars] at hW
 have hW':=hW
 obtain ⟨p,q,hA,hV,rfl,-,-⟩:=hW
 rw [hvars] at hV
 obtain ⟨rfl,rfl⟩:=trodVars_none hV
 have hsz:(DataW.weightsEach C.prog fn.params.toList ds).all (·≤reachBytes)=true:=by
  rw [hbt,List.append_nil,List.append_nil] at hsz
  exact hsz
 have hk:∀ k,s.cond=some k→k H ds=true:=fun k h=>by have:=hk k h; rwa [List.append_nil] at this
 refine (walk W base args ds p hsh hL hval hA hsz hk).mono fun e W' ⟨he,hb⟩=>⟨.bool true,he,ds,[],p++[],[],p,[],hW',?_,?_,?_,?_,fun h=>by cases h⟩
 ·rw [hspec ds (TrodAll.length hA),hres]
  exact trodAll_cons_mk (shut_bool htb true) trodAll_mk0
 ·rw [hspec ds (TrodAll.length hA)]
  have hlt:∀ x ∈ p,x.block<W.heap.size:=fun x hx=>hW'.lt x (by simpa using hx)
  refine TrodAll.stays hl (fun t h'=>?_) hA (fun x hx=>hb.same (hlt x hx)) (fun x hx=>by simpa using hlt x hx)
  have:=List.all_eq_true.1 ht t h'
  rw [Bool.and_eq_true] at this
  exact ⟨this.1,Nat.le_of_ble_eq_true this.2⟩
 ·rw [hvars]
  rw [hspec ds (TrodAll.length hA)]
  exact rfl
 exact hb.frame _
end
end Go.Eng
