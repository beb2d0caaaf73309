/- A region that draws its order, with an exit that is allowed: a call in it may panic. No program in it. -/
import Derived.Test.YtalnampdiegmoaaDoorFrk
namespace Go.Eng
open Go.RowKit (Below)
set_option linter.unusedVariables false
section
variable {P:Program} {n:Fsz} {w0:Base} {m:Env} {H:List Ent} {g:Ghost} {R:Act→World→Prop} {Q:Exit→Act→World→Prop} {ops:Array Oper} {E:Exit→Act→World→Prop}
theorem mem_at {i:Nat} {o:Oper} (h:ops[i]? = some o):o ∈ ops.toList:=Array.mem_toList_iff.2 (Array.mem_of_getElem? h)
theorem wp_of_exit (hQ:∀ e a W,E e a W→Q e a W) {o:Oper} {a:Act} {W:World} {K:Act→World→Prop} (h:o.wp P a W K E):o.wp P a W K Q:=by
  unfold Oper.wp at *
  generalize (execOp a.eval o).run P W=r at *
  cases r with
  | ok x w' =>
    cases x <;> simp only [Oper.upon] at h ⊢ <;>
      first
        | exact h
        | exact Calls.mono h fun e w'' he=>by
            cases e
            · exact he
            · exact hQ _ _ _ he
            · obtain ⟨a,w,h⟩:=he; exact ⟨a,w,hQ _ _ _ h⟩
  | halt x w'=>cases x <;> simp only [Oper.upon] at h ⊢; exact hQ _ _ _ h
section
variable {B:Type} {C:B→World→Prop} {S:B→Prop} {T:Nat→B→Prop} {md:Region.Mode} {Qn:Act→World→Prop}
def mOpE (P:Program) (ops:Array Oper) (E:Exit→Act→World→Prop) (i:Nat) (K:Act→World→Prop) (a:Act) (W:World):Prop :=
  match ops[i]? with
  | none=>K a W
  | some o=>if Region.wanted o (yielded ops a.tmps) then o.wp P a W K E else K (a.put o.dst undef) W
theorem mOpE_mono {i:Nat} {a:Act} {W:World} {K K':Act→World→Prop} (h:∀ a w,K a w→K' a w) (hh:mOpE P ops E i K a W):mOpE P ops E i K' a W:=by
  unfold mOpE at *
  split
  · exact h _ _ (by simpa [*] using hh)
  · rename_i o ho
    simp only [ho] at hh
    split
    · rename_i hw; simp only [hw,if_true] at hh; exact Oper.wp_mono h hh
    · rename_i hw; simp only [hw] at hh; exact h _ _ hh
theorem wpOp_of_mOpE (hQ:∀ e a W,E e a W→Q e a W) {i:Nat} {a:Act} {W:World} {K K':Act→World→Prop} (h:∀ a w,K a w→K' a w) (hh:mOpE P ops E i K a W):wpOp P ops Q i K' a W:=by
  have hh:=mOpE_mono h hh
  unfold mOpE at hh
  unfold wpOp
  split
  · rename_i ho; simpa only [ho] using hh
  · rename_i o ho
    simp only [ho] at hh
    split
    · rename_i hw; simp only [hw,if_true] at hh; exact .inl (wp_of_exit hQ hh)
    · rename_i hw; simp only [hw] at hh; exact hh
def wpAnyE (P:Program) (md:Region.Mode) (ops:Array Oper) (E:Exit→Act→World→Prop) (C:B→World→Prop) (T:Nat→B→Prop) (Qn:Act→World→Prop):Nat→Array Bool→Act→B→Prop
  | 0,listed,a,c=>Region.ready md ops listed=[]∧∀ W,C c W→Qn a W
  | fuel+1,listed,a,c=>(Region.ready md ops listed=[]→∀ W,C c W→Qn a W) ∧
    ∀ i ∈ Region.ready md ops listed,∀ W,C c W→mOpE P ops E i (fun a' W'=>∃ c',C c' W'∧(∀ i',NotAfter md ops i i'→T i' c→T i' c')∧wpAnyE P md ops E C T Qn fuel (listed.setIfInBounds i true) a' c') a W
theorem wpAny_of_E (hQ:∀ e a W,E e a W→Q e a W):∀ (fuel:Nat) (listed:Array Bool) (a:Act) (c:B) (W:World),wpAnyE P md ops E C T (Q .normal) fuel listed a c→C c W→wpAny P md ops Q fuel listed a W
  | 0,_,_,_,W,h,hW=>⟨h.1,h.2 W hW⟩
  | fuel+1,_,_,_,W,h,hW=>⟨fun h0=>h.1 h0 W hW,fun i hi=>wpOp_of_mOpE hQ (fun a' W' ⟨c',h1,_,h3⟩=>wpAny_of_E hQ fuel _ a' c' W' h3 h1) (h.2 i hi W hW)⟩
theorem YieldsM.mOpE {i:Nat} {o:Oper} {v:Value} {a:Act} (hi:ops[i]? = some o) (hy:YieldsM P ops C S o v a) {c:B} (hc:S c) {W:World} (hW:C c W) {K:Act→World→Prop} (h:∀ W',C c W'→K (a.put o.dst v) W'):mOpE P ops E i K a W:=by
  unfold Go.Eng.mOpE
  simp only [hi]
  rcases hy with ⟨hw,hv⟩ | ⟨hw,rfl⟩
  · simp only [hw,if_true]
    have h3:=hv c hc W hW
    unfold Oper.quietAt at h3
    unfold Oper.wp
    generalize (execOp a.eval o).run P W=r at *
    cases r with
    | ok x w' =>
      cases x <;> simp only [Oper.quietUpon] at h3 <;> simp only [Oper.upon]
      case value u=>obtain ⟨e1,e2⟩:=h3; subst e1; subst e2; exact h _ hW
      case skip=>obtain ⟨e1,e2⟩:=h3; subst e1; subst e2; exact h _ hW
      case enter f args =>
        obtain ⟨e1,hc⟩:=h3
        rw [e1]
        exact hc.mono fun e w'' ⟨he,hw''⟩=>by subst he; exact h _ hw''
    | halt x w'=>simp only [Oper.quietUpon] at h3
  · simp only [hw,Bool.false_eq_true,if_false]; exact h _ hW
theorem mOpE_put (hE:∀ e (a:Act) (o:Oper) v W,o ∈ ops.toList→E e (a.put o.dst v) W→E e a W) {j:Nat} {oi oj:Oper} {v:Value} (hio:oi ∈ ops.toList) (hj:ops[j]? = some oj) (hap:oi.apart ops oj=true) (hsi:∀ cs b,oi.op≠.select cs b) (hsj:∀ cs b,oj.op≠.select cs b)
    {K:Act→World→Prop} {a:Act} {W:World} (hy:YieldsM P ops C S oi v a) (h:mOpE P ops E j K (a.put oi.dst v) W) :
    mOpE P ops E j (fun a' W'=>YieldsM P ops C S oi v a'∧K (a'.put oi.dst v) W') a W:=by
  obtain ⟨h1,h2,h3⟩:=Oper.apart_spec hap
  have keep:∀ (a:Act),YieldsM P ops C S oi v a→∀ u,YieldsM P ops C S oi v (a.put oj.dst u):=fun a hy u =>
    hy.of_same (execOp_put oi hsi a oj.dst u h3) (wanted_put oi a oj.dst u h3)
  have keepD:∀ d,YieldsM P ops C S oi v { a with defers:=d::a.defers }:=fun d=>hy.of_same rfl rfl
  unfold mOpE at *
  simp only [hj] at *
  rw [wanted_put oj a oi.dst v h1] at h
  split
  · rename_i hw
    simp only [hw,if_true] at h
    unfold Oper.wp at *
    rw [execOp_put oj hsj a oi.dst v h1] at h
    generalize (execOp a.eval oj).run P W=r at *
    cases r with
    | ok x w' =>
      cases x <;> simp only [Oper.upon] at h ⊢
      case value u=>exact ⟨keep a hy u,by rw [← Act.put_comm a v u h2]; exact h⟩
      case skip=>exact ⟨keep a hy _,by rw [← Act.put_comm a v undef h2]; exact h⟩
      case defer d =>
        refine ⟨keep _ (keepD d) _,?_⟩
        rw [← Act.put_comm _ v undef h2,← Act.put_defers]
        exact h
      case enter f args =>
        refine Calls.mono h fun e w'' he=>?_
        cases e with
        | returned u=>exact ⟨keep a hy u,by rw [← Act.put_comm a v u h2]; exact he⟩
        | panicked c=>exact hE _ _ _ _ _ hio he
        | outgrown=>exact he
      case row row args=>exact Rows.mono h fun u w'' he=>⟨keep a hy u,by rw [← Act.put_comm a v u h2]; exact he⟩
    | halt x w' =>
      cases x <;> simp only [Oper.upon] at h ⊢
      case panic u=>exact hE _ _ _ _ _ hio h
  · rename_i hw
    simp only [hw] at h
    exact ⟨keep a hy _,by rw [← Act.put_comm a v undef h2]; exact h⟩
theorem wpAnyE_first (hE:∀ e (a:Act) (o:Oper) v W,o ∈ ops.toList→E e (a.put o.dst v) W→E e a W) {i:Nat} {oi:Oper} {v:Value} (hi:ops[i]? = some oi) (hsel:∀ (j:Nat) (o:Oper) cs b,ops[j]? = some o→o.op≠.select cs b) :
    ∀ (fuel:Nat) (listed:Array Bool) (a:Act) (c:B),
      (∀ j oj,ops[j]? = some oj→j≠i→listed.getD j true=false→(∀ e ∈ oj.after,Region.binds md e=true→e.on≠i)→oi.apart ops oj=true) →
      ClosedL md ops listed→i ∈ Region.ready md ops listed→YieldsM P ops C (T i) oi v a→T i c →
      wpAnyE P md ops E C T Qn fuel (listed.setIfInBounds i true) (a.put oi.dst v) c→wpAnyE P md ops E C T Qn (fuel+1) listed a c:=by
  intro fuel
  induction fuel with
  | zero =>
    intro listed a c _ _ hr hy hS H
    refine ⟨fun h=>(by rw [h] at hr; cases hr),fun j hj W hW=>?_⟩
    by_cases hji:j=i
    · subst hji; exact hy.mOpE hi hS hW fun W' hW'=>⟨c,hW',fun _ _ h=>h,H⟩
    · have:=ready_mono hj hji
      rw [H.1] at this
      cases this
  | succ fuel ih =>
    intro listed a c hfree hcl hr hy hS H
    refine ⟨fun h=>(by rw [h] at hr; cases hr),fun j hj W hW=>?_⟩
    by_cases hji:j=i
    · subst hji; exact hy.mOpE hi hS hW fun W' hW'=>⟨c,hW',fun _ _ h=>h,H⟩
    · have h1:=H.2 j (ready_mono hj hji) W hW
      obtain ⟨hjun,oj,hoj,hall⟩:=mem_ready.1 hj
      have hun:=(mem_ready.1 hr).1
      have hnot:∀ e ∈ oj.after,Region.binds md e=true→e.on≠i:=fun e he hb heq=>by
        have h1:=hall e he hb
        rw [heq,getD_both hun] at h1
        cases h1
      have h2:=mOpE_put hE (mem_at hi) hoj (hfree j oj hoj hji hjun hnot) (fun cs b=>hsel i oi cs b hi) (fun cs b=>hsel j oj cs b hoj) hy h1
      have hfree':∀ k ok,ops[k]? = some ok→k≠i→(listed.setIfInBounds j true).getD k true=false →
          (∀ e ∈ ok.after,Region.binds md e=true→e.on≠i)→oi.apart ops ok=true:=fun k ok hk hki hun hno=>by
        refine hfree k ok hk hki ?_ hno
        by_cases hjk:j=k
        · subst hjk; exact hjun
        · rw [getD_set_ne true hjk] at hun; exact hun
      refine mOpE_mono (fun a' W' h3=>?_) h2
      obtain ⟨hy',c',hW',hT',H'⟩:=h3
      have hafter:∀ oj',ops[j]? = some oj'→∀ e ∈ oj'.after,Region.binds md e=true→listed.getD e.on false=true:=fun oj' hoj'=>by rw [hoj] at hoj'; cases hoj'; exact hall
      have hS':T i c':=hT' i (fun d=>notAfter_of hcl (getD_both hun) d j hafter) hS
      refine ⟨c',hW',hT',ih _ a' c' hfree' (hcl.set hafter) (ready_mono hr (Ne.symm hji)) hy' hS' ?_⟩
      rw [Array.setIfInBounds_comm _ _ hji]
      exact H'
def wpMixE (P:Program) (ops:Array Oper) (E:Exit→Act→World→Prop) (C:B→World→Prop) (T:Nat→B→Prop) (S:Nat→B→Prop) (Qn:Act→World→Prop):List (Nat×Bool)→Act→B→Prop
  | [],a,c=>∀ W,C c W→Qn a W
  | (i,true)::os,a,c=>∃ o v,ops[i]? = some o∧YieldsM P ops C (T i) o v a∧wpMixE P ops E C T S Qn os (a.put o.dst v) c
  | (i,false)::os,a,c=>∀ W,C c W→mOpE P ops E i (fun a' W'=>∃ c',C c' W'∧S i c'∧wpMixE P ops E C T S Qn os a' c') a W
theorem wpAnyE_of_mix (hE:∀ e (a:Act) (o:Oper) v W,o ∈ ops.toList→E e (a.put o.dst v) W→E e a W) {pre soft:List Nat} {S:Nat→B→Prop} (hT:∀ c i j,S j c→(soft.contains j=true∨pre.contains i=false)→T i c) (hs:Region.noSelect ops=true):∀ (os:List (Nat×Bool)) (listed:Array Bool) (a:Act) (c:B),ClosedL md ops listed→mixB md ops pre soft os listed=true→(∀ x ∈ os,T x.1 c) →
    wpMixE P ops E C T S Qn os a c→wpAnyE P md ops E C T Qn os.length listed a c
  | [],_,_,_,_,hB,_,h=>⟨by simpa [mixB] using hB,h⟩
  | (i,true)::os,listed,a,c,hcl,hB,hS,h=>by
    obtain ⟨o,v,hi,hy,h⟩:=h
    simp only [mixB,Bool.and_eq_true] at hB
    exact wpAnyE_first hE hi (Region.noSelect_spec hs) os.length listed a c (Region.free_spec hi hB.1.2) hcl (by simpa using hB.1.1) hy (hS _ (List.mem_cons_self ..)) (wpAnyE_of_mix hE hT hs os _ _ _ (hcl.ready (by simpa using hB.1.1)) hB.2 (fun x hx=>hS x (List.mem_cons_of_mem _ hx)) h)
  | (i,false)::os,listed,a,c,hcl,hB,hS,h=>by
    simp only [mixB,Bool.and_eq_true,beq_iff_eq] at hB
    refine ⟨fun h0=>(by rw [hB.1.1] at h0; cases h0),fun j hj W hW=>?_⟩
    rw [hB.1.1] at hj
    obtain rfl:=List.mem_singleton.1 hj
    have hB2:=hB.2
    rw [Bool.or_eq_true] at hB2
    refine mOpE_mono (fun a' W' ⟨c',h1,h2,h3⟩=>⟨c',h1,fun i' hn _=>?_,wpAnyE_of_mix hE hT hs os _ _ _ (hcl.ready (by rw [hB.1.1]; simp)) hB.1.2 (fun x hx=>?_) h3⟩) (h W hW)
    · rcases hB2 with hB2 | hB2
      · exact hT c' i' _ h2 (.inl hB2)
      · rw [Bool.and_eq_true] at hB2
        exact hT c' i' _ h2 (.inr (awaits_spec hB2.1 hn))
    · rcases hB2 with hB2 | hB2
      · exact hT c' x.1 _ h2 (.inl hB2)
      · rw [Bool.and_eq_true] at hB2
        exact hT c' x.1 _ h2 (.inr (by have:=List.all_eq_true.1 hB2.2 x hx; simpa using this))
theorem wp_region_mixE (hE:∀ e (a:Act) (o:Oper) v W,o ∈ ops.toList→E e (a.put o.dst v) W→E e a W) (hQ:∀ e a W,E e a W→Q e a W) {id:Nat} {a:Act} {w:World} {c:B} {T:Nat→B→Prop} {S:Nat→B→Prop} {pre soft:List Nat} (os:List (Nat×Bool)) (hm:P.follows .mixedOrders=true) (hB:mixOk ops pre soft os=true) (hT:∀ c i j,S j c→(soft.contains j=true∨pre.contains i=false)→T i c) (hS:∀ i,T i c) (hC:C c { w with drawn:=w.drawn+1 })
    (h:wpMixE P ops E C T S (Q .normal) os a c):(Code.region id ops true).wp P Q a w:=by
  simp only [mixOk,Bool.and_eq_true] at hB
  have:=wpAnyE_of_mix hE (md:=.any) hT hB.1.1 os _ a c (fun k ok _ hk=>by simp [Array.getD_eq_getD_getElem?,Array.getElem?_replicate] at hk; split at hk <;> simp at hk) hB.1.2 (fun x _=>hS x.1) h
  rw [Nat.eq_of_beq_eq_true hB.2] at this
  exact wp_region_any hm (wpAny_of_E hQ _ _ _ _ _ this hC)
end
variable {g0:Ghost} {pre soft:List Nat} {Hf H0 Hv:List Ent} {os:List (Nat×Bool)}
def OkME (P:Program) (ops:Array Oper) (E:Exit→Act→World→Prop) (n:Fsz) (w0:Base) (g0:Ghost) (pre soft:List Nat) (Hf H0:List Ent) (m:Env) (H:List Ent) (g:Ghost) (R:Act→World→Prop) (os:List (Nat×Bool)):Prop :=
  OnA n m fun a=>wpMixE P ops E (fun c W=>StW w0 c.2 c.1 W) (Asks g0 pre Hf H0) (fun i c=>Gle g0 c.1∧List.Sublist (bif soft.contains i then Hf else H0) c.2) R os a (g,H)
theorem OkME.nil (h:Ok n w0 m H g R):OkME P ops E n w0 g0 pre soft Hf H0 m H g R []:=fun a hA W hW=>h a W hA hW
theorem OkME.of_head {i:Nat} {o:Oper} {a:Act} (hi:ops[i]? = some o) (hA:StA n m a) (hw:Region.wanted o (yielded ops a.tmps)=true) (hv:(bif pre.contains i then Hf else H0)=Hv)
    (h:OpQ P (fun a=>wpMixE P ops E (fun c W=>StW w0 c.2 c.1 W) (Asks g0 pre Hf H0) (fun i c=>Gle g0 c.1∧List.Sublist (bif soft.contains i then Hf else H0) c.2) R os a (g,H)) o n w0 m Hv g0) :
    wpMixE P ops E (fun c W=>StW w0 c.2 c.1 W) (Asks g0 pre Hf H0) (fun i c=>Gle g0 c.1∧List.Sublist (bif soft.contains i then Hf else H0) c.2) R ((i,true)::os) a (g,H):=by
  obtain ⟨v,h1,h2⟩:=h a hA
  exact ⟨o,v,hi,.inl ⟨hw,fun c hc W hW=>headUpon.quiet (fun w'' hb=>hW.of_below hb) (h1 W ((hW.less hc.1).sub (by have:=hc.2; rw [hv] at this; exact this)))⟩,h2⟩
theorem OkME.head {i:Nat} {o:Oper} (hi:ops[i]? = some o) (hg:o.guard=none) (hv:(bif pre.contains i then Hf else H0)=Hv)
    (h:OpQ P (fun a=>wpMixE P ops E (fun c W=>StW w0 c.2 c.1 W) (Asks g0 pre Hf H0) (fun i c=>Gle g0 c.1∧List.Sublist (bif soft.contains i then Hf else H0) c.2) R os a (g,H)) o n w0 m Hv g0):OkME P ops E n w0 g0 pre soft Hf H0 m H g R ((i,true)::os) :=
  fun _ hA=>OkME.of_head hi hA (by simp [Region.wanted,hg]) hv h
theorem OkME.tail {i:Nat} {o:Oper} (hi:ops[i]? = some o) (hg:o.guard=none)
    (h:OpOk P (fun a' W'=>∃ c':Ghost×List Ent,StW w0 c'.2 c'.1 W'∧(Gle g0 c'.1∧List.Sublist (bif soft.contains i then Hf else H0) c'.2)∧wpMixE P ops E (fun c W=>StW w0 c.2 c.1 W) (Asks g0 pre Hf H0) (fun i c=>Gle g0 c.1∧List.Sublist (bif soft.contains i then Hf else H0) c.2) R os a' c') E o n w0 m H g) :
    OkME P ops E n w0 g0 pre soft Hf H0 m H g R ((i,false)::os):=fun a hA W hW=>by
  unfold mOpE
  simp only [hi]
  rw [if_pos (by simp [Region.wanted,hg])]
  exact h a W hA hW
theorem OkME.leaf {i:Nat} (hv:(bif soft.contains i then Hf else H0)=Hv) (hg:Gle g0 g) (hs:List.Sublist Hv H) (h:OkME P ops E n w0 g0 pre soft Hf H0 m H g R os) :
    Ok n w0 m H g (fun a' W'=>∃ c':Ghost×List Ent,StW w0 c'.2 c'.1 W'∧(Gle g0 c'.1∧List.Sublist (bif soft.contains i then Hf else H0) c'.2)∧wpMixE P ops E (fun c W=>StW w0 c.2 c.1 W) (Asks g0 pre Hf H0) (fun i c=>Gle g0 c.1∧List.Sublist (bif soft.contains i then Hf else H0) c.2) R os a' c') :=
  fun a _ hA hW=>⟨(g,H),hW,⟨hg,by rw [hv]; exact hs⟩,h a hA⟩
theorem OkME.batch' (k:Nat):∀ (m:Env) (os:List (Nat×Bool)) (l:List Oper) (m':Env),heads ops k os=some l→pureAll P n ops k m l=some m'→OkME P ops E n w0 g0 pre soft Hf H0 m' H g R (os.drop k)→OkME P ops E n w0 g0 pre soft Hf H0 m H g R os:=by
  induction k with
  | zero=>intro m os l m' hl h hr; simp only [pureAll,Option.some.injEq] at h; subst h; simpa using hr
  | succ k ih =>
    intro m os l m' hl h hr
    match os,hl with
    | (i,true)::os,hl =>
      simp only [heads] at hl
      split at hl
      · rename_i o l2 hi hl2
        simp only [Option.some.injEq] at hl
        subst hl
        simp only [pureAll] at h
        simp only [List.drop_succ_cons] at hr
        split at h
        · cases h
        · rename_i hw
          split at h
          · rename_i d hd
            split at h
            · rename_i hn
              have:=ih _ os l2 m' hl2 h hr
              intro a hA
              exact ⟨o,undef,hi,.inr ⟨by rw [wanted_of hA hw],rfl⟩,by rw [hd]; exact this _ (hA.put (Nat.le_of_ble_eq_true hn) undef)⟩
            · cases h
          · cases h
        · rename_i hw
          split at h
          · rename_i d v hd hk hq
            split at h
            · rename_i hn
              have:=ih _ os l2 m' hl2 h hr
              intro a hA
              refine ⟨o,v,hi,.inl ⟨by rw [wanted_of hA hw],fun c hc W hW=>?_⟩,by rw [hd]; exact this _ (hA.put (Nat.le_of_ble_eq_true hn) v)⟩
              unfold Oper.quietAt
              rw [exec_known hA hk,quick_run hq W]
              exact ⟨rfl,rfl⟩
            · cases h
          · cases h
      · cases hl
theorem OkME.sub {m':Env} (e:keep (m'.map (·.1)) m=m') (h:OkME P ops E n w0 g0 pre soft Hf H0 m' H g R os):OkME P ops E n w0 g0 pre soft Hf H0 m H g R os:=fun a hA=>h a (hA.sub e)
theorem OkME.batch (k:Nat) (m':Env) (h:(((heads ops k os).bind (pureAll P n ops k m)).map (keep (m'.map (·.1))))=some m') (hr:OkME P ops E n w0 g0 pre soft Hf H0 m' H g R (os.drop k)):OkME P ops E n w0 g0 pre soft Hf H0 m H g R os:=by
  obtain ⟨m1,h1,h2⟩:=Option.map_eq_some_iff.1 h
  obtain ⟨l,h3,h4⟩:=Option.bind_eq_some_iff.1 h1
  exact OkME.batch' k m os l m1 h3 h4 (OkME.sub h2 hr)
theorem Ok.mixsE {l:List Oper} (hE:∀ e (a:Act) (o:Oper) v W,o ∈ l→E e (a.put o.dst v) W→E e a W) (hQ:∀ e a W,E e a W→Q e a W) {id:Nat} (pre soft:List Nat) (Hf H0:List Ent) (os:List (Nat×Bool)) (hm:P.follows .mixedOrders=true) (hB:mixOk l.toArray pre soft os=true) (hs:List.Sublist H0 Hf) (hf:List.Sublist Hf H)
    (h:OkME P l.toArray E n w0 g pre soft Hf H0 m H g (Q .normal) os):Ok n w0 m H g ((Code.region id l.toArray true).wp P Q) :=
  fun a _ hA hW=>wp_region_mixE hE hQ (C:=fun c W=>StW w0 c.2 c.1 W) (S:=fun i c=>Gle g c.1∧List.Sublist (bif soft.contains i then Hf else H0) c.2) (T:=Asks g pre Hf H0) (c:=(g,H)) os hm hB (fun c i j h hp=>⟨h.1,by
    have h2:=h.2
    rcases hp with hp | hp
    · rw [hp] at h2
      cases pre.contains i
      · exact hs.trans h2
      · exact h2
    · rw [hp]
      cases hj:soft.contains j
      · rw [hj] at h2; exact h2
      · rw [hj] at h2; exact hs.trans h2⟩) (fun i=>⟨Gle.refl g,by
    cases pre.contains i
    · exact hs.trans hf
    · exact hf⟩) (hW.of_below ((Below.refl _ _).drew)) (h a hA)

/-- an order of a region that draws it, which may fork: two operations that write may come in either order -/
inductive Pl | leaf (os:List (Nat×Bool)) | fork (os:List (Nat×Bool)) (i:Nat) (t1:Pl) (j:Nat) (t2:Pl)
def Pl.hd:Pl→List (Nat×Bool)
  | .leaf os=>os
  | .fork os _ _ _ _=>os
def Pl.len:Pl→Nat
  | .leaf os=>os.length
  | .fork os _ t1 _ _=>os.length+(t1.len+1)
/-- as mixB; fin: what is asked at its end -/
def mixF (ops:Array Oper) (pre soft:List Nat) (fin:Array Bool→Bool):List (Nat×Bool)→Array Bool→Bool
  | [],listed=>fin listed
  | (i,true)::os,listed=>(Region.ready .any ops listed).contains i&&Region.free .any ops listed i&&mixF ops pre soft fin os (listed.setIfInBounds i true)
  | (i,false)::os,listed=>(Region.ready .any ops listed==[i])&&mixF ops pre soft fin os (listed.setIfInBounds i true)&&(soft.contains i||(awaits .any ops pre i&&os.all fun x=>!pre.contains x.1))
def plB (ops:Array Oper) (pre soft:List Nat):Pl→Array Bool→Bool
  | .leaf os,listed=>mixF ops pre soft (fun l=>(Region.ready .any ops l).isEmpty) os listed
  | .fork os i t1 j t2,listed=>mixF ops pre soft (fun l=>(Region.ready .any ops l==[i,j])&&plB ops pre soft t1 (l.setIfInBounds i true)&&plB ops pre soft t2 (l.setIfInBounds j true)&&(soft.contains i||(awaits .any ops pre i&&t1.hd.all fun x=>!pre.contains x.1))&&(soft.contains j||(awaits .any ops pre j&&t2.hd.all fun x=>!pre.contains x.1))&&Nat.beq t1.len t2.len) os listed
def plOk (ops:Array Oper) (pre soft:List Nat) (t:Pl):Bool:=Region.noSelect ops&&plB ops pre soft t (Array.replicate ops.size false)&&Nat.beq t.len ops.size
section
variable {B:Type} {C:B→World→Prop} {S:Nat→B→Prop} {T:Nat→B→Prop} {Qn:Act→World→Prop}
/-- what is asked at the end of the first part -/
def plR (P:Program) (ops:Array Oper) (E:Exit→Act→World→Prop) (C:B→World→Prop) (T:Nat→B→Prop) (S:Nat→B→Prop) (Qn:Act→World→Prop):Pl→Act→World→Prop
  | .leaf _=>Qn
  | .fork _ i t1 j t2=>fun a W=>∃ c,C c W∧wpMixE P ops E C T S (plR P ops E C T S Qn t1) ((i,false)::t1.hd) a c∧wpMixE P ops E C T S (plR P ops E C T S Qn t2) ((j,false)::t2.hd) a c
theorem wpAnyE_of_list (hE:∀ e (a:Act) (o:Oper) v W,o ∈ ops.toList→E e (a.put o.dst v) W→E e a W) {pre soft:List Nat} (hT:∀ c i j,S j c→(soft.contains j=true∨pre.contains i=false)→T i c) (hs:Region.noSelect ops=true) {fin:Array Bool→Bool} {R:Act→World→Prop} {k:Nat}
    (hf:∀ listed a c,ClosedL .any ops listed→fin listed=true→(∀ W,C c W→R a W)→wpAnyE P .any ops E C T Qn k listed a c):∀ (os:List (Nat×Bool)) (listed:Array Bool) (a:Act) (c:B),ClosedL .any ops listed→mixF ops pre soft fin os listed=true→(∀ x ∈ os,T x.1 c) →
    wpMixE P ops E C T S R os a c→wpAnyE P .any ops E C T Qn (os.length+k) listed a c
  | [],listed,a,c,hcl,hB,_,h=>by rw [show ([]:List (Nat×Bool)).length+k=k by simp]; exact hf listed a c hcl hB h
  | (i,true)::os,listed,a,c,hcl,hB,hS,h=>by
    obtain ⟨o,v,hi,hy,h⟩:=h
    simp only [mixF,Bool.and_eq_true] at hB
    rw [show ((i,true)::os).length+k=(os.length+k)+1 by simp; omega]
    exact wpAnyE_first hE hi (Region.noSelect_spec hs) (os.length+k) listed a c (Region.free_spec hi hB.1.2) hcl (by simpa using hB.1.1) hy (hS _ (List.mem_cons_self ..)) (wpAnyE_of_list hE hT hs hf os _ _ _ (hcl.ready (by simpa using hB.1.1)) hB.2 (fun x hx=>hS x (List.mem_cons_of_mem _ hx)) h)
  | (i,false)::os,listed,a,c,hcl,hB,hS,h=>by
    simp only [mixF,Bool.and_eq_true,beq_iff_eq] at hB
    rw [show ((i,false)::os).length+k=(os.length+k)+1 by simp; omega]
    refine ⟨fun h0=>(by rw [hB.1.1] at h0; cases h0),fun j hj W hW=>?_⟩
    rw [hB.1.1] at hj
    obtain rfl:=List.mem_singleton.1 hj
    have hB2:=hB.2
    rw [Bool.or_eq_true] at hB2
    refine mOpE_mono (fun a' W' ⟨c',h1,h2,h3⟩=>⟨c',h1,fun i' hn _=>?_,wpAnyE_of_list hE hT hs hf os _ _ _ (hcl.ready (by rw [hB.1.1]; simp)) hB.1.2 (fun x hx=>?_) h3⟩) (h W hW)
    · rcases hB2 with hB2 | hB2
      · exact hT c' i' _ h2 (.inl hB2)
      · rw [Bool.and_eq_true] at hB2
        exact hT c' i' _ h2 (.inr (awaits_spec hB2.1 hn))
    · rcases hB2 with hB2 | hB2
      · exact hT c' x.1 _ h2 (.inl hB2)
      · rw [Bool.and_eq_true] at hB2
        exact hT c' x.1 _ h2 (.inr (by have:=List.all_eq_true.1 hB2.2 x hx; simpa using this))
theorem wpAnyE_of_pl (hE:∀ e (a:Act) (o:Oper) v W,o ∈ ops.toList→E e (a.put o.dst v) W→E e a W) {pre soft:List Nat} (hT:∀ c i j,S j c→(soft.contains j=true∨pre.contains i=false)→T i c) (hs:Region.noSelect ops=true):∀ (t:Pl) (listed:Array Bool) (a:Act) (c:B),ClosedL .any ops listed→plB ops pre soft t listed=true→(∀ x ∈ t.hd,T x.1 c) →
    wpMixE P ops E C T S (plR P ops E C T S Qn t) t.hd a c→wpAnyE P .any ops E C T Qn t.len listed a c
  | .leaf os,listed,a,c,hcl,hB,hS,h=>by
    refine wpAnyE_of_list hE hT hs (k:=0) (fun l a c _ hb h=>?_) os listed a c hcl hB hS h
    exact ⟨by simpa using hb,h⟩
  | .fork os i t1 j t2,listed,a,c,hcl,hB,hS,h=>by
    refine wpAnyE_of_list hE hT hs (k:=t1.len+1) (fun l a c hcl hb h=>?_) os listed a c hcl hB hS h
    simp only [Bool.and_eq_true,beq_iff_eq] at hb
    obtain ⟨⟨⟨⟨⟨hr,h1⟩,h2⟩,h3⟩,h4⟩,h5⟩:=hb
    have h5:=Nat.eq_of_beq_eq_true h5
    have leg:∀ (i:Nat) (t:Pl),i ∈ Region.ready .any ops l→(∀ (l':Array Bool) (a:Act) (c:B),ClosedL .any ops l'→plB ops pre soft t l'=true→(∀ x ∈ t.hd,T x.1 c)→wpMixE P ops E C T S (plR P ops E C T S Qn t) t.hd a c→wpAnyE P .any ops E C T Qn t.len l' a c)→plB ops pre soft t (l.setIfInBounds i true)=true→(soft.contains i||(awaits .any ops pre i&&t.hd.all fun x=>!pre.contains x.1))=true →
        ∀ c2 W,C c2 W→wpMixE P ops E C T S (plR P ops E C T S Qn t) ((i,false)::t.hd) a c2→mOpE P ops E i (fun a' W'=>∃ c',C c' W'∧(∀ i',NotAfter .any ops i i'→T i' c→T i' c')∧wpAnyE P .any ops E C T Qn t.len (l.setIfInBounds i true) a' c') a W:=by
      intro i t hi ih hb hx c2 W hW h
      rw [Bool.or_eq_true] at hx
      refine mOpE_mono (fun a' W' ⟨c',h1,h2,h3⟩=>⟨c',h1,fun i' hn _=>?_,ih _ a' c' (hcl.ready hi) hb (fun x hx'=>?_) h3⟩) (h W hW)
      · rcases hx with hB2 | hB2
        · exact hT c' i' _ h2 (.inl hB2)
        · rw [Bool.and_eq_true] at hB2
          exact hT c' i' _ h2 (.inr (awaits_spec hB2.1 hn))
      · rcases hx with hB2 | hB2
        · exact hT c' x.1 _ h2 (.inl hB2)
        · rw [Bool.and_eq_true] at hB2
          exact hT c' x.1 _ h2 (.inr (by have:=List.all_eq_true.1 hB2.2 x hx'; simpa using this))
    refine ⟨fun h0=>(by rw [hr] at h0; cases h0),fun x hx W hW=>?_⟩
    obtain ⟨c2,hc2,hl1,hl2⟩:=h W hW
    have hx':=hx
    rw [hr] at hx
    rcases List.mem_cons.1 hx with rfl | hx
    · exact leg _ t1 hx' (wpAnyE_of_pl hE hT hs t1) h1 h3 c2 W hc2 hl1
    · obtain rfl:=List.mem_singleton.1 hx
      rw [h5]
      exact leg _ t2 hx' (wpAnyE_of_pl hE hT hs t2) h2 h4 c2 W hc2 hl2
theorem wp_region_pl (hE:∀ e (a:Act) (o:Oper) v W,o ∈ ops.toList→E e (a.put o.dst v) W→E e a W) (hQ:∀ e a W,E e a W→Q e a W) {id:Nat} {a:Act} {w:World} {c:B} {pre soft:List Nat} (t:Pl) (hm:P.follows .mixedOrders=true) (hB:plOk ops pre soft t=true) (hT:∀ c i j,S j c→(soft.contains j=true∨pre.contains i=false)→T i c) (hS:∀ i,T i c) (hC:C c { w with drawn:=w.drawn+1 })
    (h:wpMixE P ops E C T S (plR P ops E C T S (Q .normal) t) t.hd a c):(Code.region id ops true).wp P Q a w:=by
  simp only [plOk,Bool.and_eq_true] at hB
  have:=wpAnyE_of_pl hE hT hB.1.1 t _ a c (fun k ok _ hk=>by simp [Array.getD_eq_getD_getElem?,Array.getElem?_replicate] at hk; split at hk <;> simp at hk) hB.1.2 (fun x _=>hS x.1) h
  rw [Nat.eq_of_beq_eq_true hB.2] at this
  exact wp_region_any hm (wpAny_of_E hQ _ _ _ _ _ this hC)
end
/-- plR over memories -/
def plM (P:Program) (ops:Array Oper) (E:Exit→Act→World→Prop) (w0:Base) (g0:Ghost) (pre soft:List Nat) (Hf H0:List Ent) (R:Act→World→Prop) (t:Pl):Act→World→Prop :=
  plR P ops E (fun c W=>StW w0 c.2 c.1 W) (Asks g0 pre Hf H0) (fun i c=>Gle g0 c.1∧List.Sublist (bif soft.contains i then Hf else H0) c.2) R t
theorem Ok.plE {l:List Oper} (hE:∀ e (a:Act) (o:Oper) v W,o ∈ l→E e (a.put o.dst v) W→E e a W) (hQ:∀ e a W,E e a W→Q e a W) {id:Nat} (pre soft:List Nat) (Hf H0:List Ent) (os:List (Nat×Bool)) (i:Nat) (t1:Pl) (j:Nat) (t2:Pl) (hm:P.follows .mixedOrders=true) (hB:plOk l.toArray pre soft (.fork os i t1 j t2)=true) (hs:List.Sublist H0 Hf) (hf:List.Sublist Hf H)
    (h:OkME P l.toArray E n w0 g pre soft Hf H0 m H g (plM P l.toArray E w0 g pre soft Hf H0 (Q .normal) (.fork os i t1 j t2)) os):Ok n w0 m H g ((Code.region id l.toArray true).wp P Q) :=
  fun a _ hA hW=>wp_region_pl hE hQ (C:=fun c W=>StW w0 c.2 c.1 W) (S:=fun i c=>Gle g c.1∧List.Sublist (bif soft.contains i then Hf else H0) c.2) (T:=Asks g pre Hf H0) (c:=(g,H)) (.fork os i t1 j t2) hm hB (fun c i j h hp=>⟨h.1,by
    have h2:=h.2
    rcases hp with hp | hp
    · rw [hp] at h2
      cases pre.contains i
      · exact hs.trans h2
      · exact h2
    · rw [hp]
      cases hj:soft.contains j
      · rw [hj] at h2; exact h2
      · rw [hj] at h2; exact hs.trans h2⟩) (fun i=>⟨Gle.refl g,by
    cases pre.contains i
    · exact hs.trans hf
    · exact hf⟩) (hW.of_below ((Below.refl _ _).drew)) (h a hA)
theorem wpMixE_at {B:Type} {C:B→World→Prop} {S:Nat→B→Prop} {T:Nat→B→Prop} {c c':B} (hc:∀ W,C c W→C c' W):∀ (os:List (Nat×Bool)) (a:Act),wpMixE P ops E C T S R os a c'→wpMixE P ops E C T S R os a c
  | [],_,h=>fun W hW=>h W (hc W hW)
  | (_,true)::os,_,⟨o,v,hi,hy,h⟩=>⟨o,v,hi,hy,wpMixE_at hc os _ h⟩
  | (_,false)::_,_,h=>fun W hW=>h W (hc W hW)
theorem OkME.entries (is:List Nat) (H':List Ent) (hp:is.Nodup) (hH:is.map (fun i=>H[i]?)=H'.map some) (h:OkME P ops E n w0 g0 pre soft Hf H0 m H' g R os):OkME P ops E n w0 g0 pre soft Hf H0 m H g R os :=
  fun a hA=>wpMixE_at (fun _ hW=>hW.pick is H' hp hH) os a (h a hA)
theorem Ok.leafE (h:Ok n w0 m H g R) {l:List (Nat×Bool)}:Ok n w0 m H g (plM P ops E w0 g0 pre soft Hf H0 R (.leaf l)):=h
theorem Ok.bothE {i j:Nat} {t1 t2:Pl} {o:List (Nat×Bool)} {o1 o2:List (Nat×Bool)} (e1:t1.hd=o1) (e2:t2.hd=o2) (h1:OkME P ops E n w0 g0 pre soft Hf H0 m H g (plM P ops E w0 g0 pre soft Hf H0 R t1) ((i,false)::o1)) (h2:OkME P ops E n w0 g0 pre soft Hf H0 m H g (plM P ops E w0 g0 pre soft Hf H0 R t2) ((j,false)::o2)) :
    Ok n w0 m H g (plM P ops E w0 g0 pre soft Hf H0 R (.fork o i t1 j t2)):=fun a W hA hW=>⟨(g,H),hW,by rw [e1]; exact h1 a hA,by rw [e2]; exact h2 a hA⟩
end
end Go.Eng
