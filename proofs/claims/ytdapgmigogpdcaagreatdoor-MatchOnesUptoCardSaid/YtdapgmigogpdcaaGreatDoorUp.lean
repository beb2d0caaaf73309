/- Rows that bound what is handed in: the bound, in plain data; and the lift of such a row. -/
import Derived.Test.YtdapgmigogpdcaaGreatDoorLaid
import Derived.Test.YtdapgmigogpdcaaGreatDoorRows
import Derived.Deep.DeepHandedRow
namespace Go.Eng
open Go.RowKit
open Go.ChangeShapes Go.WideShapes Go.ChangeAt
open Go.Proofs.YtdapgmigogpdcaaGreatDoor
set_option linter.unusedVariables false
section
variable {P:Program} {H:Type} {enc:TypeId×Value→H}
/-- how many values and letters a datum holds -/
def bulkT:(t:Ty)→t.den→Nat
 | .int _,_=>1
 | .bool,_=>1
 | .str,s=>s.length+1
 | .slice e,xs=>(xs.map (bulkT e)).sum+1
 | .pair a b,x=>bulkT a x.1+bulkT b x.2
 | .unit,_=>0
 | .tst a,x=>x.sum (bulkT a)
theorem bulk_fs {f:(e:Ty)→TypeId→DataW H→Option e.den} (hf:∀ e t d x,f e t d=some x→bulkT e x≤Rows.uptoBulk d):∀ {e:Ty} {ts:List TypeId} {ds:List (DataW H)} {x:e.den},fromFs f e ts ds=some x→bulkT e x≤Rows.uptoBulkAll ds
 | e,[],ds,x,h=>by
  cases e <;> cases ds <;> simp [fromFs] at h
  exact Nat.zero_le _
 | e,[t],ds,x,h=>by
  cases ds with
  | nil=>cases e <;> simp [fromFs] at h
  | cons d ds =>
   cases ds with
   | nil =>
    have h:f e t d=some x:=by cases e <;> exact h
    have:=hf e t d x h
    simp only [Rows.uptoBulkAll]; omega
   | cons d2 ds =>
    cases e with
    | pair a b =>
     simp only [fromFs,Option.bind_eq_some_iff,Option.map_eq_some_iff] at h
     obtain ⟨x1,h1,x2,h2,rfl⟩:=h
     cases b <;> simp [fromFs] at h2
    | _=>simp [fromFs] at h
 | e,t::t2::ts,ds,x,h=>by
  cases ds with
  | nil=>cases e <;> simp [fromFs] at h
  | cons d ds =>
   cases e with
   | pair a b =>
    simp only [fromFs,Option.bind_eq_some_iff,Option.map_eq_some_iff] at h
    obtain ⟨x1,h1,x2,h2,rfl⟩:=h
    have a1:=hf a t d x1 h1
    have a2:=bulk_fs hf h2
    simp only [bulkT,Rows.uptoBulkAll]; omega
   | _=>simp [fromFs] at h
theorem bulk_mapM {e:Ty} {f:DataW H→Option e.den} (hf:∀ d x,f d=some x→bulkT e x≤Rows.uptoBulk d):∀ {es:List (DataW H)} {xs:List e.den},es.mapM f=some xs→(xs.map (bulkT e)).sum≤Rows.uptoBulkAll es
 | [],xs,h=>by simp at h; subst h; exact Nat.zero_le _
 | d::es,xs,h=>by
  rw [List.mapM_cons] at h
  cases ha:f d with
  | none=>simp [ha] at h
  | some b =>
   cases hl:es.mapM f with
   | none=>simp [ha,hl] at h
   | some ys =>
    simp [ha,hl] at h
    subst h
    have h1:=hf d b ha
    have h2:=bulk_mapM hf hl
    simp only [List.map_cons,List.sum_cons,Rows.uptoBulkAll]; omega
theorem bulk_of_fromD:∀ (k:Nat) (e:Ty) (t:TypeId) (d:DataW H) (x:e.den),fromD P k e t d=some x→bulkT e x≤Rows.uptoBulk d
 | 0,_,_,_,_,h=>by cases h
 | k+1,e,t,d,x,h=>by
  unfold fromD at h
  split at h
  ·cases e <;> simp at h; simp [bulkT,Rows.uptoBulk]
  ·cases e <;> simp at h; simp [bulkT,Rows.uptoBulk]
  ·cases e <;> simp at h
   subst h; simp [bulkT,Rows.uptoBulk]
  ·cases e <;> simp at h
   subst h; simp [bulkT,Rows.uptoBulk]
  ·cases e with
   | slice e' =>
    simp only at h
    have:=bulk_mapM (fun d x=>bulk_of_fromD k e' _ d x) h
    simp only [bulkT,Rows.uptoBulk]; omega
   | _=>simp at h
  ·have:=bulk_fs (fun e t d x=>bulk_of_fromD k e t d x) h
   simp only [Rows.uptoBulk]; omega
  ·have:=bulk_fs (fun e t d x=>bulk_of_fromD k e t d x) h
   simp only [Rows.uptoBulk]; omega
  cases h
def DomU (e:Ty) (x:e.den):Prop:=DomS e x∧bulkT e x≤1048576
theorem uptoBulkAll_mem {d:DataW H} {l:List (DataW H)} (h:d ∈ l):Rows.uptoBulk d≤Rows.uptoBulkAll l:=by
 induction l with
 | nil=>cases h
 | cons x r ih =>
  simp only [Rows.uptoBulkAll]
  rcases List.mem_cons.1 h with rfl | h
  ·omega
  have:=ih h; omega
theorem rep_of_TrodU {W:World} {t:TypeId} {v:Value} {d:DataW H} {ps:List MemPlace} {ds:List (DataW H)} (k:Nat) (e:Ty) (hm:matB P k e t=true) (hpos:posB P k e t=true) (h:DataW.Trod enc P W 0 (fun _=>true) true t v d ps) (hw:∀ n ∈ d.weights P t,n≤reachBytes)
  (hu:Rows.uptoSmall H ds=true) (hd:d ∈ ds):∃ x:e.den,Rep (ghostOf W) e v.cells.toList x∧DomU e x:=by
 obtain ⟨f,hf⟩:=h
 obtain ⟨x,h1,h2,h3⟩:=rep_of_trod W k e t _ f _ _ hm hf
 exact ⟨x,h1,⟨h2,small_of_fromD k e t d x hpos h3 hw⟩,Nat.le_trans (bulk_of_fromD k e t d x h3) (Nat.le_trans (uptoBulkAll_mem hd) (of_decide_eq_true hu))⟩
/-- a law whose row has a condition: true, and what was there stays -/
theorem law_lift_row {C:Checked} {os:Os} {f:FuncId} {fn:Func} {s:OpenSpec} {sp:ChangeSpec} {F:Stop.Interp} {conds:List PathCond} {tb:TypeId} {laid:List (String×DataW Unit)}
  (own:ownKnob C.prog.godebug=none) (started:os.Started) (noInit:C.prog.inits.idxOf? f=none) (hfn:C.prog.funcs[f]? = some fn)
  (witness:∃ (w:World) (tape:Tape) (i:Input),w.os=os∧(w.forCall tape i).Shaped C.prog∧i.vars=[]∧Input.okWide C.prog (w.forCall tape i) .any w.heap.size f i ∧
   s.preRow enc C.prog fn conds false laid (w.forCall tape i).memory i.args∧({}:Assume).holds C.prog (lone (Frame.enter C.prog f i.args .normal) [] (w.forCall tape i)))
  (hat:s.at F=sp) (hsv:s.vars=[]) (hvars:sp.vars=[]) (hbt:s.bare.plain.varTypes C.prog=[])
  (hspec:∀ ds:List (DataW H),ds.length=fn.params.toList.length→sp.fn H (ds++[]) = { results:=[.lit (.bool true)],args:=ds })
  (hres:fn.resultTypes=#[tb]) (htb:C.prog.underlying tb=some .bool) (hl:laidOutB C.prog=true) (ht:(fn.params.toList.all fun t=>C.prog.readableRec t&&Nat.ble (t+1) C.prog.types.size)=true)
  (hh:(laid.filter fun x=>x.2.handleName?.isSome)=[])
  (walk:∀ (W:World) (base:Nat) (args:Array Value) (ds:List (DataW H)) (p:List MemPlace),W.ShapedOpen C.prog→laidMet C.prog laid W→(∀ (j:Nat) t v,fn.params[j]? = some t→args[j]? = some v→Value.okWide C.prog W .any base t v) →
   DataW.TrodAll enc C.prog W 0 (fun _=>true) true fn.params.toList args.toList ds p→(DataW.weightsEach C.prog fn.params.toList ds).all (·≤reachBytes)=true→(∀ k,s.cond=some k→k H ds=true)→Calls C.prog f args W fun e W'=>e=.returned (.bool true)∧Below W.heap.size W W') :
  ReturnsInHanded {} C os f .any (s.preRow enc C.prog fn conds false laid) ((s.at F).post enc C.prog fn false true false false):=by
 refine returnsInHanded_of_row own started noInit hfn witness fun W base args ds gs before hval hW _ hk hsz hL hsh _=>?_
 rw [hat]
 have hL:laidMet C.prog laid W:=by
  unfold laidMetH at hL
  rw [hh] at hL
  exact hL
 rw [hsv,← hvars] at hW
 have hW':=hW
 obtain ⟨p,q,hA,hV,rfl,-,-⟩:=hW
 rw [hvars] at hV
 obtain ⟨rfl,rfl⟩:=trodVars_none hV
 have hsz:(DataW.weightsEach C.prog fn.params.toList ds).all (·≤reachBytes)=true:=by
  rw [hbt,List.append_nil,List.append_nil] at hsz
  exact hsz
 have hk:∀ k,s.cond=some k→k H ds=true:=fun k h=>by have:=hk k h; rwa [List.append_nil] at this
 refine (walk W base args ds p hsh hL hval hA hsz hk).mono fun e W' ⟨he,hb⟩=>⟨.bool true,he,ds,[],p++[],[],p,[],hW',?_,?_,?_,?_,fun h=>by cases h⟩
 ·rw [hspec ds (TrodAll.length hA),hres]
  exact trodAll_cons_mk (shut_bool htb true) trodAll_mk0
 ·rw [hspec ds (TrodAll.length hA)]
  have hlt:∀ x ∈ p,x.block<W.heap.size:=fun x hx=>hW'.lt x (by simpa using hx)
  refine TrodAll.stays hl (fun t h'=>?_) hA (fun x hx=>hb.same (hlt x hx)) (fun x hx=>by simpa using hlt x hx)
  have:=List.all_eq_true.1 ht t h'
  rw [Bool.and_eq_true] at this
  exact ⟨this.1,Nat.le_of_ble_eq_true this.2⟩
 ·rw [hvars]
  rw [hspec ds (TrodAll.length hA)]
  exact rfl
 exact hb.frame _
end
end Go.Eng
