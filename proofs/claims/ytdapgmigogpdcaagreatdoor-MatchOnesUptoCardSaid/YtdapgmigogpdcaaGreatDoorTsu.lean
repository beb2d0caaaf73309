/- Tests of paths of tests as arguments: what is read as data represents them. No program in sight. -/
import Derived.Test.YtdapgmigogpdcaaGreatDoorLift
import Derived.Test.YtdapgmigogpdcaaGreatDoorUp
namespace Go.Eng
open Go.RowKit
open Go.ChangeShapes Go.WideShapes Go.ChangeAt
set_option linter.unusedVariables false
def Ty.same:Ty→Ty→Bool
 | .int k,.int k'=>kindEq k k'
 | .bool,.bool=>true
 | .str,.str=>true
 | .slice a,.slice b=>a.same b
 | .pair a b,.pair c d=>a.same c&&b.same d
 | .unit,.unit=>true
 | .tst a,.tst b=>a.same b
 | _,_=>false
theorem Ty.same_eq:∀ {a b:Ty},a.same b=true→a=b
 | .int k,.int k',h=>by rw [kindEq_eq h]
 | .bool,.bool,_=>rfl
 | .str,.str,_=>rfl
 | .slice a,.slice b,h=>by rw [Ty.same_eq (a:=a) (b:=b) h]
 | .pair a b,.pair c d,h=>by
  have h:(a.same c&&b.same d)=true:=h
  rw [Bool.and_eq_true] at h
  rw [Ty.same_eq h.1,Ty.same_eq h.2]
 | .unit,.unit,_=>rfl
 | .tst a,.tst b,h=>by rw [Ty.same_eq (a:=a) (b:=b) h]
/-- a label of m + 1 fields, and one field more behind -/
def snocN:Nat→Ty→Ty→Ty
 | m+1,.pair a b,k=>.pair a (snocN m b k)
 | _,a,k=>.pair a k
def unsn:(m:Nat)→(a k:Ty)→(snocN m a k).den→a.den×k.den
 | 0,_,_,x=>x
 | m+1,.pair _ b,k,x=>((x.1,(unsn m b k x.2).1),(unsn m b k x.2).2)
 | _+1,.int _,_,x=>x
 | _+1,.bool,_,x=>x
 | _+1,.str,_,x=>x
 | _+1,.slice _,_,x=>x
 | _+1,.unit,_,x=>x
 | _+1,.tst _,_,x=>x
theorem rep_unsn {g:Ghost}:∀ (m:Nat) (a k:Ty) (cs:List Value) (x:(snocN m a k).den),Rep g (snocN m a k) cs x→Rep g (.pair a k) cs (unsn m a k x)
 | 0,_,_,_,_,h=>h
 | m+1,.pair a b,k,cs,x,h=>by
  obtain ⟨c1,c2,rfl,h1,h2⟩:=h
  obtain ⟨c3,c4,rfl,h3,h4⟩:=rep_unsn m b k c2 x.2 h2
  exact ⟨c1++c3,c4,by rw [List.append_assoc],⟨c1,c3,rfl,h1,h3⟩,h4⟩
 | _+1,.int _,_,_,_,h=>h
 | _+1,.bool,_,_,_,h=>h
 | _+1,.str,_,_,_,h=>h
 | _+1,.slice _,_,_,_,h=>h
 | _+1,.unit,_,_,_,h=>h
 | _+1,.tst _,_,_,_,h=>h
theorem dom_unsn:∀ (m:Nat) (a k:Ty) (x:(snocN m a k).den),Dom (snocN m a k) x→Dom (.pair a k) (unsn m a k x)
 | 0,_,_,_,h=>h
 | m+1,.pair a b,k,x,h=>by
  obtain ⟨h1,h2⟩:=h
  obtain ⟨h3,h4⟩:=dom_unsn m b k x.2 h2
  exact ⟨⟨h1,h3⟩,h4⟩
 | _+1,.int _,_,_,h=>h
 | _+1,.bool,_,_,h=>h
 | _+1,.str,_,_,h=>h
 | _+1,.slice _,_,_,h=>h
 | _+1,.unit,_,_,h=>h
 | _+1,.tst _,_,_,h=>h
theorem small_unsn:∀ (m:Nat) (a k:Ty) (x:(snocN m a k).den),Small (snocN m a k) x→Small (.pair a k) (unsn m a k x)
 | 0,_,_,_,h=>h
 | m+1,.pair a b,k,x,h=>by
  obtain ⟨h1,h2⟩:=h
  obtain ⟨h3,h4⟩:=small_unsn m b k x.2 h2
  exact ⟨⟨h1,h3⟩,h4⟩
 | _+1,.int _,_,_,h=>h
 | _+1,.bool,_,_,h=>h
 | _+1,.str,_,_,h=>h
 | _+1,.slice _,_,_,h=>h
 | _+1,.unit,_,_,h=>h
 | _+1,.tst _,_,_,h=>h
section
variable {H:Type} {enc:TypeId×Value→H} {P:Program}
/-- does a Ty say what a type of the program is? (T: the type that trees have; A: their labels) -/
def matT (P:Program) (T:TypeId) (A:Ty):Nat→Ty→TypeId→Bool
 | 0,_,_=>false
 | k+1,e,t =>
  match e with
  | .tst a=>Nat.beq t T&&a.same A
  | e =>
  match P.underlying t with
  | some .bool=>(match e with | .bool=>true | _=>false)
  | some (.int kd)=>(match e with | .int kd'=>kindEq kd' kd | _=>false)
  | some .string=>(match e with | .str=>true | _=>false)
  | some (.slice E)=>(match e with | .slice e'=>matT P T A k e' E&&Nat.beq (P.cellsOf E) e'.size&&Nat.ble 1 e'.size | _=>false)
  | some (.struct fs)=>matFs (matT P T A k) P e (fs.toList.map fun f=>(f.type,f.offset)) 0&&Nat.beq (P.cellsOf t) e.size
  | some (.array n E)=>matFs (matT P T A k) P e ((List.range n).map fun i=>(E,i * P.cellsOf E)) 0&&Nat.beq (P.cellsOf t) e.size
  | _=>false
def treeOk (P:Program) (T:TypeId) (A:Ty) (K:Nat):Bool :=
 match P.underlying T with
 | some (.struct fs)=>matFs (matT P T A K) P (snocN (fs.size - 2) A (.slice (.pair (.slice (.slice (.tst A))) (.slice (.int .u8))))) (fs.toList.map fun f=>(f.type,f.offset)) 0&&Nat.beq (P.cellsOf T) (snocN (fs.size - 2) A (.slice (.pair (.slice (.slice (.tst A))) (.slice (.int .u8))))).size
 | _=>false
def fromT (P:Program):Nat→(e:Ty)→TypeId→DataW H→Option e.den
 | 0,_,_,_=>none
 | k+1,e,t,d =>
  match P.underlying t,d with
  | some .bool,.lit (.bool b)=>(match e with | .bool=>some b | _=>none)
  | some (.int _),.lit (.int _ n)=>(match e with | .int _=>some n | _=>none)
  | some .string,.lit (.string s)=>(match e with | .str=>some s | _=>none)
  | some (.slice _),.nil=>(match e with | .slice _=>some [] | _=>none)
  | some (.slice E),.slice es _=>(match e with | .slice e'=>es.mapM (fromT P k e' E) | _=>none)
  | some (.struct fs),.agg ds=>(match e with
   | .tst a=>(fromFs (fromT P k) (snocN (fs.size - 2) a (.slice (.pair (.slice (.slice (.tst a))) (.slice (.int .u8))))) (fs.toList.map (·.type)) ds).map fun y=>Tst.mk (unsn (fs.size - 2) a (.slice (.pair (.slice (.slice (.tst a))) (.slice (.int .u8)))) y).1 (unsn (fs.size - 2) a (.slice (.pair (.slice (.slice (.tst a))) (.slice (.int .u8)))) y).2
   | e=>fromFs (fromT P k) e (fs.toList.map (·.type)) ds)
  | some (.array n E),.agg ds=>fromFs (fromT P k) e (List.replicate n E) ds
  | _,_=>none
theorem rep_of_trodT (W:World) (T:TypeId) (A:Ty) (K:Nat) (hT:treeOk P T A K=true) (hd:Bool):∀ (fuel k:Nat) (e:Ty) (t:TypeId) (cs:List Value) (y:DataW H×List MemPlace),matT P T A k e t=true→DataW.trod enc P W 0 (fun _=>true) hd fuel t cs=some y →
  ∃ x:e.den,Rep (ghostOf W) e cs x∧Dom e x∧fromT P fuel e t y.1=some x:=by
 intro fuel
 induction fuel with
 | zero=>intro k e t cs y _ hy; simp [DataW.trod] at hy
 | succ m ih =>
  intro k e t cs y hm hy
  -- the fields of a struct,the elements of an array
  have fields:∀ (k:Nat) (e:Ty) (l:List (TypeId×Nat)) (ds:List (DataW H)) (off:Nat),matFs (matT P T A k) P e l off=true→cs.length=off+e.size→ds.length=l.length →
    (∀ (i:Nat) (t:TypeId) (o:Nat) (d:DataW H),l[i]? = some (t,o)→ds[i]? = some d→∃ y,DataW.trod enc P W 0 (fun _=>true) hd m t ((cs.drop o).take (P.cellsOf t))=some y∧y.1=d) →
    ∃ x:e.den,Rep (ghostOf W) e (cs.drop off) x∧Dom e x∧fromFs (fromT P m) e (l.map (·.1)) ds=some x:=by
   intro k e l
   induction l generalizing e with
   | nil =>
    intro ds off h hl hds _
    have hds:ds=[]:=List.eq_nil_of_length_eq_zero (by simpa using hds)
    subst hds
    cases e <;> simp [matFs] at h
    refine ⟨(),?_,trivial,by simp [fromFs]⟩
    simp only [Rep,List.drop_eq_nil_iff]
    simp [Ty.size] at hl
    omega
   | cons to l ihl =>
    intro ds off h hl hds hall
    obtain ⟨t,o⟩:=to
    cases l with
    | nil =>
     obtain ⟨d,rfl⟩:∃ d,ds=[d]:=by
      match ds,hds with
      | [d],_=>exact ⟨d,rfl⟩
     have h':(Nat.beq o off&&matT P T A k e t&&Nat.beq (P.cellsOf t) e.size)=true:=by
      cases e <;> simpa only [matFs] using h
     rw [Bool.and_eq_true,Bool.and_eq_true] at h'
     obtain ⟨⟨ho,hmt⟩,hs⟩:=h'
     have ho:=Nat.eq_of_beq_eq_true ho
     have hs:=Nat.eq_of_beq_eq_true hs
     subst ho
     obtain ⟨y,hy,hyd⟩:=hall 0 t o d rfl rfl
     obtain ⟨x,hx,hdm,hfd⟩:=ih k e t _ y hmt hy
     rw [hs,List.take_of_length_le (by simp; omega)] at hx
     refine ⟨x,hx,hdm,?_⟩
     rw [← hyd]
     simp only [List.map_cons,List.map_nil]
     unfold fromFs
     exact hfd
    | cons z l =>
     cases e with
     | pair a b =>
      simp only [matFs,Bool.and_eq_true] at h
      obtain ⟨⟨⟨ho,hmt⟩,hs⟩,hrest⟩:=h
      have ho:=Nat.eq_of_beq_eq_true ho
      have hs:=Nat.eq_of_beq_eq_true hs
      subst ho
      obtain ⟨d,d2,ds,rfl⟩:∃ d d2 ds',ds=d::d2::ds':=by
       match ds,hds with
       | d::d2::ds',_=>exact ⟨d,d2,ds',rfl⟩
      obtain ⟨y,hy,hyd⟩:=hall 0 t o d rfl rfl
      obtain ⟨x1,hx1,hd1,hf1⟩:=ih k a t _ y hmt hy
      obtain ⟨x2,hx2,hd2,hf2⟩:=ihl b (d2::ds) (o+a.size) hrest (by simp [Ty.size] at hl ⊢; omega) (by simpa using hds) fun i t' o' d' hi hdi=>hall (i+1) t' o' d' (by simpa using hi) (by simpa using hdi)
      refine ⟨(x1,x2),⟨(cs.drop o).take a.size,cs.drop (o+a.size),?_,by rw [← hs]; exact hx1,hx2⟩,⟨hd1,hd2⟩,by rw [hyd] at hf1; simp only [List.map_cons,fromFs,hf1,Option.bind_some] at hf2 ⊢; rw [hf2]; rfl⟩
      rw [← List.drop_drop,List.take_append_drop]
     | _=>simp [matFs] at h
  have struct:∀ (k:Nat) (e:Ty) (fs:Array Field),P.underlying t=some (.struct fs)→matFs (matT P T A k) P e (fs.toList.map fun f=>(f.type,f.offset)) 0=true→P.cellsOf t=e.size →
    ∃ x:e.den,Rep (ghostOf W) e cs x∧Dom e x∧∃ ds,y.1=.agg ds∧fromFs (fromT P m) e (fs.toList.map (·.type)) ds=some x:=by
   intro k e fs hu hf hs
   obtain ⟨xs,n,hn,rfl,hl,hxl,hall⟩:=DataW.trod_struct hu hy
   obtain rfl:m=n:=by omega
   have:=fields k e _ (xs.map (·.1)) 0 hf om (by simp [hxl]) fun i t o d hi hd=>by
    rw [List.getElem?_map,Option.map_eq_some_iff] at hi
    obtain ⟨f,hf1,hf2⟩:=hi
    simp only [Prod.mk.injEq] at hf2
    obtain ⟨rfl,rfl⟩:=hf2
    have hfa:fs[i]? = some f:=by simpa using hf1
    have:=hall i f hfa
    rw [List.getElem?_map,Option.map_eq_some_iff] at hd
    obtain ⟨p,hp,rfl⟩:=hd
    rw [hp] at this
    exact ⟨_,this,rfl⟩
   rw [List.drop_zero,List.map_map] at this
   obtain ⟨x,h1,h2,h3⟩:=this
   exact ⟨x,h1,h2,_,rfl,h3⟩
  have notTree:∀ {k:Nat} {e:Ty},(∀ a,e≠.tst a)→matT P T A k e t=true→∃ j,k=j+1∧(match P.underlying t with
    | some .bool=>(match e with | .bool=>true | _=>false)
    | some (.int kd)=>(match e with | .int kd'=>kindEq kd' kd | _=>false)
    | some .string=>(match e with | .str=>true | _=>false)
    | some (.slice E)=>(match e with | .slice e'=>matT P T A j e' E&&Nat.beq (P.cellsOf E) e'.size&&Nat.ble 1 e'.size | _=>false)
    | some (.struct fs)=>matFs (matT P T A j) P e (fs.toList.map fun f=>(f.type,f.offset)) 0&&Nat.beq (P.cellsOf t) e.size
    | some (.array n E)=>matFs (matT P T A j) P e ((List.range n).map fun i=>(E,i * P.cellsOf E)) 0&&Nat.beq (P.cellsOf t) e.size
    | _=>false)=true:=by
   intro k e hne hm
   cases k with
   | zero=>cases hm
   | succ j =>
    refine ⟨j,rfl,?_⟩
    unfold matT at hm
    split at hm
    ·exact absurd rfl (hne _)
    exact hm
  by_cases htr:∃ a,e=.tst a
  ·obtain ⟨a,rfl⟩:=htr
   cases k with
   | zero=>cases hm
   | succ k =>
    have hm:(Nat.beq t T&&a.same A)=true:=by simpa only [matT] using hm
    rw [Bool.and_eq_true] at hm
    have h1:=Nat.eq_of_beq_eq_true hm.1
    have h2:=Ty.same_eq hm.2
    subst h1 h2
    unfold treeOk at hT
    split at hT
    ·rename_i fs hu
     rw [Bool.and_eq_true] at hT
     obtain ⟨x,hx,hdm,ds,hds,hf⟩:=struct K _ fs hu hT.1 (Nat.eq_of_beq_eq_true hT.2)
     refine ⟨.mk (unsn (fs.size - 2) a (.slice (.pair (.slice (.slice (.tst a))) (.slice (.int .u8)))) x).1 (unsn (fs.size - 2) a (.slice (.pair (.slice (.slice (.tst a))) (.slice (.int .u8)))) x).2,Rep.tst.2 (rep_unsn _ _ _ _ _ hx),?_,?_⟩
     ·obtain ⟨q1,q2,q3⟩:=dom_unsn _ _ _ _ hdm
      show Tst.All _ _
      rw [Tst.all_mk]
      exact ⟨⟨q1,q2,fun q hq=>⟨⟨(q3 q hq).1.1,fun s hs=>((q3 q hq).1.2 s hs).1⟩,(q3 q hq).2⟩⟩,fun q hq s hs k hk=>((q3 q hq).1.2 s hs).2 k hk⟩
     simp only [fromT,hu,hds,hf,Option.map_some]
    cases hT
  have hne:∀ a,e≠.tst a:=fun a h=>htr ⟨a,h⟩
  obtain ⟨k,-,hm⟩:=notTree hne hm
  split at hm
  ·rename_i hu
   cases e <;> simp at hm
   obtain ⟨b,rfl,rfl⟩:=DataW.trod_bool hu hy
   exact ⟨b,rfl,trivial,by simp [fromT,hu]⟩
  ·rename_i kd hu
   cases e <;> simp only [Bool.false_eq_true] at hm
   obtain rfl:=kindEq_eq hm
   obtain ⟨n,rfl,rfl,hw⟩:=DataW.trod_int hu hy
   exact ⟨n,rfl,hw,by simp [fromT,hu]⟩
  ·rename_i hu
   cases e <;> simp at hm
   obtain ⟨s,rfl,rfl,hs⟩:=DataW.trod_string hu hy
   exact ⟨s.data.toList,rfl,hs,by simp [fromT,hu]⟩
  ·rename_i E hu
   cases e with
   | slice e' =>
    simp only [Bool.and_eq_true] at hm
    obtain ⟨⟨hmt,hs⟩,h1⟩:=hm
    have hs:=Nat.eq_of_beq_eq_true hs
    have h1:=Nat.le_of_ble_eq_true h1
    rcases DataW.trod_slice hu hy with ⟨rfl,rfl⟩ | ⟨a,len,cap,elems,rest,n,hn,rfl,rfl,-,hlc,hcm,hel,hall,-⟩
    ·exact ⟨[],⟨none,0,rfl,by simp,fun i x hx=>by simp at hx⟩,⟨by simp,fun x hx=>by simp at hx⟩,by simp [fromT,hu]⟩
    obtain rfl:m=n:=by omega
    have each:∀ i,i<len→∃ x:e'.den,(Dom e' x∧∀ d,elems[i]? = some d→fromT P m e' E d.1=some x)∧∃ b off,a=⟨b,off,none⟩∧∃ ecs,ecs.length=e'.size∧At (ghostOf W) b (off+i * e'.size) ecs∧Rep (ghostOf W) e' ecs x:=by
     intro i hi
     have hspot:∃ b off,a=⟨b,off,none⟩:=by
      have h0:=hall 0 om
      rw [List.getElem?_eq_getElem om] at h0
      obtain ⟨cs0,hc0,_⟩:=Option.bind_eq_some_iff.1 h0
      obtain ⟨hl0,hcell⟩:=cellsAt hc0
      have:=hcell 0 om
      rw [List.getElem?_eq_getElem om] at this
      obtain ⟨b,off,sp⟩:=a
      cases sp with
      | none=>exact ⟨b,off,rfl⟩
      | some s =>
       simp only [Nat.zero_mul,Addr.add,if_true] at this
       simp only [World.cell?] at this
       split at this <;> simp at this
     obtain ⟨b,off,rfl⟩:=hspot
     have h0:=hall i hi
     rw [List.getElem?_eq_getElem om] at h0
     obtain ⟨csi,hci,hti⟩:=Option.bind_eq_some_iff.1 h0
     obtain ⟨hli,hcell⟩:=cellsAt hci
     obtain ⟨x,hx,hdm,hfd⟩:=ih k e' E csi _ hmt hti
     refine ⟨x,⟨hdm,fun d hdd=>by rw [List.getElem?_eq_getElem om] at hdd; injection hdd with hdd; rw [← hdd]; exact hfd⟩,b,off,rfl,csi,by rw [hli,hs],fun j v hj=>?_,hx⟩
     have hjl:j<P.cellsOf E:=by rw [← hli]; exact (List.getElem?_eq_some_iff.1 hj).1
     have:=hcell j hjl
     rw [Addr.add_plain,Addr.add_plain,hs] at this
     rw [gcell_ghostOf,this,hj]
    obtain ⟨xs,hxl,hxs⟩:=exists_list len _ each
    subst hxl
    refine ⟨xs,⟨some a,cap,rfl,⟨by omega,by omega⟩,fun i x hx=>?_⟩,⟨by omega,fun x hx=>?_⟩,?_⟩
    ·obtain ⟨-,b,off,ha,hr⟩:=hxs i x hx
     exact ⟨b,off,by rw [ha],hr⟩
    ·obtain ⟨i,hi⟩:=List.mem_iff_getElem?.1 hx
     exact (hxs i x hi).1.1
    simp only [fromT,hu]
    refine mapM_of (by simp [hel]) fun i d x hdi hxi=>?_
    rw [List.getElem?_map,Option.map_eq_some_iff] at hdi
    obtain ⟨p,hp,rfl⟩:=hdi
    exact (hxs i x hxi).1.2 p hp
   | _=>simp at hm
  ·rename_i fs hu
   rw [Bool.and_eq_true] at hm
   obtain ⟨x,hx,hdm,ds,hds,hf⟩:=struct k e fs hu hm.1 (Nat.eq_of_beq_eq_true hm.2)
   refine ⟨x,hx,hdm,?_⟩
   cases e <;> first | exact absurd rfl (hne _) | simp only [fromT,hu,hds,hf]
  ·rename_i n E hu
   rw [Bool.and_eq_true] at hm
   obtain ⟨hf,hs⟩:=hm
   have hs:=Nat.eq_of_beq_eq_true hs
   obtain ⟨xs,m',hm',rfl,hl,hxl,hall⟩:=DataW.trod_array hu hy
   obtain rfl:m=m':=by omega
   have:=fields k e _ (xs.map (·.1)) 0 hf om (by simp [hxl]) fun i t o d hi hd=>by
    rw [List.getElem?_map,Option.map_eq_some_iff] at hi
    obtain ⟨j,hj1,hj2⟩:=hi
    have hij:i=j∧i<n:=by
     obtain ⟨hlt,he⟩:=List.getElem?_eq_some_iff.1 hj1
     simp at hlt he
     exact ⟨he,hlt⟩
    obtain ⟨rfl,hin⟩:=hij
    simp only [Prod.mk.injEq] at hj2
    obtain ⟨rfl,rfl⟩:=hj2
    have:=hall i hin
    rw [List.getElem?_map,Option.map_eq_some_iff] at hd
    obtain ⟨p,hp,rfl⟩:=hd
    rw [hp] at this
    exact ⟨_,this,rfl⟩
   rw [List.drop_zero,List.map_map] at this
   obtain ⟨x,h1,h2,h3⟩:=this
   refine ⟨x,h1,h2,?_⟩
   simp only [fromT,hu]
   have e1:(List.range n).map ((fun x:TypeId×Nat=>x.1) ∘ fun i=>(E,i * P.cellsOf E))=List.replicate n E:=by
    apply List.ext_getElem?
    intro i
    rw [List.getElem?_map,List.getElem?_replicate]
    by_cases hi:i<n
    ·simp [hi]
    simp [hi]
   rw [← e1]; exact h3
  cases hm
/-! ### the form's own reach -/
def pos1 (P:Program) (f:Ty→TypeId→Bool) (e:Ty) (t:TypeId):Bool :=
 match P.underlying t with
 | some (.slice E)=>(match e with | .slice e'=>f e' E&&Nat.ble 1 (P.bytesOf E) | _=>false)
 | some (.struct fs)=>posFs f e (fs.toList.map (·.type))
 | some (.array n E)=>posFs f e (List.replicate n E)
 | _=>true
def posT (P:Program) (T:TypeId) (A:Ty):Nat→Ty→TypeId→Bool
 | 0,_,_=>false
 | k+1,e,t =>
  match e with
  | .tst a=>Nat.beq t T&&a.same A
  | e=>pos1 P (posT P T A k) e t
def treePos (P:Program) (T:TypeId) (A:Ty) (K:Nat):Bool :=
 match P.underlying T with
 | some (.struct fs)=>posFs (posT P T A K) (snocN (fs.size - 2) A (.slice (.pair (.slice (.slice (.tst A))) (.slice (.int .u8))))) (fs.toList.map (·.type))
 | _=>false
theorem small_of_fromT (T:TypeId) (A:Ty) (K:Nat) (hT:treePos P T A K=true):∀ (m k:Nat) (e:Ty) (t:TypeId) (d:DataW H) (x:e.den),posT P T A k e t=true→fromT P m e t d=some x→(∀ n ∈ d.weights P t,n≤reachBytes)→Small e x
 | 0,_,_,_,_,_,_,h,_=>by cases h
 | m+1,k,e,t,d,x,hp,h,hw=>by
  by_cases htr:∃ a,e=.tst a
  ·obtain ⟨a,rfl⟩:=htr
   cases k with
   | zero=>cases hp
   | succ k =>
    have hm:(Nat.beq t T&&a.same A)=true:=by simpa only [posT] using hp
    rw [Bool.and_eq_true] at hm
    have h1:=Nat.eq_of_beq_eq_true hm.1
    have h2:=Ty.same_eq hm.2
    subst h1 h2
    have hT0:=hT
    unfold treePos at hT
    split at hT
    ·rename_i fs hu
     unfold fromT at h
     rw [hu] at h
     cases d <;> simp only [reduceCtorEq] at h
     rename_i ds
     obtain ⟨y,hy,rfl⟩:=Option.map_eq_some_iff.1 h
     have:=small_fs (fun e t d x=>small_of_fromT _ a K hT0 m K e t d x) hT hy fun n hn=>hw n (by simp only [DataW.weights,hu]; exact hn)
     obtain ⟨q1,q2,q3⟩:=small_unsn _ _ _ _ this
     show Tst.All _ _
     rw [Tst.all_mk]
     exact ⟨⟨q1,q2,fun q hq=>⟨⟨(q3 q hq).1.1,fun s hs=>((q3 q hq).1.2 s hs).1⟩,(q3 q hq).2.1⟩⟩,fun q hq s hs k hk=>((q3 q hq).1.2 s hs).2 k hk⟩
    cases hT
  have hne:∀ a,e≠.tst a:=fun a h=>htr ⟨a,h⟩
  obtain ⟨k,rfl⟩:∃ j,k=j+1:=by
   cases k with
   | zero=>cases hp
   | succ j=>exact ⟨j,rfl⟩
  have hp:pos1 P (posT P T A k) e t=true:=by
   unfold posT at hp
   split at hp
   ·exact absurd rfl (hne _)
   exact hp
  unfold pos1 at hp
  unfold fromT at h
  split at h
  ·rename_i hu; cases e <;> simp at h; trivial
  ·rename_i hu; cases e <;> simp at h; trivial
  ·rename_i s hu
   cases e <;> simp at h
   subst h
   exact hw _ (by simp [DataW.weights])
  ·cases e <;> simp at h
   subst h
   exact ⟨Nat.zero_le _,fun x hx=>by cases hx⟩
  ·rename_i E elems spare hu
   simp only [hu] at hp
   cases e with
   | slice e' =>
    simp only [Bool.and_eq_true] at hp h
    have h1:=Nat.le_of_ble_eq_true hp.2
    obtain ⟨hl,hi⟩:=mapM_get h
    have h2:=hw ((elems.length+spare.length) * P.bytesOf E) (by simp [DataW.weights,hu])
    have h3:elems.length≤reachBytes:=Nat.le_trans (Nat.le_trans (Nat.le_add_right _ _) (Nat.le_mul_of_pos_right _ h1)) h2
    refine ⟨by rw [hl]; exact h3,fun y hy=>?_⟩
    obtain ⟨i,hiy⟩:=List.mem_iff_getElem?.1 hy
    have hlt:i<elems.length:=by rw [← hl]; exact (List.getElem?_eq_some_iff.1 hiy).1
    have:=hi i elems[i] (List.getElem?_eq_getElem hlt)
    rw [hiy] at this
    exact small_of_fromT T A K hT m k e' E _ y hp.1 this fun n hn=>hw n (by
     simp only [DataW.weights,hu,List.mem_cons,List.mem_append]
     exact .inr (.inl (weightsAll_in (List.getElem_mem hlt) n hn)))
   | _=>simp at h
  ·rename_i fs ds hu
   simp only [hu] at hp
   have h:fromFs (fromT P m) e (fs.toList.map (·.type)) ds=some x:=by
    cases e <;> first | exact absurd rfl (hne _) | exact h
   exact small_fs (fun e t d x=>small_of_fromT T A K hT m k e t d x) hp h fun n hn=>hw n (by simp only [DataW.weights,hu]; exact hn)
  ·rename_i q E ds hu
   simp only [hu] at hp
   refine small_fs (fun e t d x=>small_of_fromT T A K hT m k e t d x) hp h fun n hn=>hw n ?_
   rw [weightsEach_rep q ds (by have:=fromFs_len h; simpa using this)] at hn
   simp only [DataW.weights,hu]; exact hn
  cases h
end
end Go.Eng
namespace Go.Eng
open Go.RowKit
open Go.ChangeShapes Go.WideShapes Go.ChangeAt
open Go.Proofs.YtdapgmigogpdcaaGreatDoor
section
variable {P:Program} {H:Type} {enc:TypeId×Value→H}
theorem bulk_unsn:∀ (m:Nat) (a k:Ty) (x:(snocN m a k).den),bulkT (snocN m a k) x=bulkT (.pair a k) (unsn m a k x)
 | 0,_,_,_=>rfl
 | m+1,.pair a b,k,x=>by
  have:=bulk_unsn m b k x.2
  show bulkT a x.1+bulkT (snocN m b k) x.2=(bulkT a x.1+bulkT b _)+bulkT k _
  rw [this]
  show _+(_+_)=_
  rw [Nat.add_assoc]; rfl
 | _+1,.int _,_,_=>rfl
 | _+1,.bool,_,_=>rfl
 | _+1,.str,_,_=>rfl
 | _+1,.slice _,_,_=>rfl
 | _+1,.unit,_,_=>rfl
 | _+1,.tst _,_,_=>rfl
theorem bulk_of_fromT:∀ (k:Nat) (e:Ty) (t:TypeId) (d:DataW H) (x:e.den),fromT P k e t d=some x→bulkT e x≤Rows.uptoBulk d
 | 0,_,_,_,_,h=>by cases h
 | k+1,e,t,d,x,h=>by
  unfold fromT at h
  split at h
  ·cases e <;> simp at h; simp [bulkT,Rows.uptoBulk]
  ·cases e <;> simp at h; simp [bulkT,Rows.uptoBulk]
  ·cases e <;> simp at h
   subst h; simp [bulkT,Rows.uptoBulk]
  ·cases e <;> simp at h
   subst h; simp [bulkT,Rows.uptoBulk]
  ·cases e with
   | slice e' =>
    simp only at h
    have:=bulk_mapM (fun d x=>bulk_of_fromT k e' _ d x) h
    simp only [bulkT,Rows.uptoBulk]; omega
   | _=>simp at h
  ·split at h
   ·obtain ⟨y,hy,rfl⟩:=Option.map_eq_some_iff.1 h
    have:=bulk_fs (fun e t d x=>bulk_of_fromT k e t d x) hy
    rename_i a
    rw [bulk_unsn] at this
    generalize unsn _ a (.slice (.pair (.slice (.slice (.tst a))) (.slice (.int .u8)))) y=z at this
    have e1:bulkT (.tst a) (.mk z.1 z.2)=bulkT (.pair a (.slice (.pair (.slice (.slice (.tst a))) (.slice (.int .u8))))) z:=by
     show Tst.sum (bulkT a) _=bulkT a z.1+((z.2.map (bulkT (.pair (.slice (.slice (.tst a))) (.slice (.int .u8))))).sum+1)
     rw [Tst.sum,Tst.sum3_eq]; rfl
    rw [e1]
    simp only [Rows.uptoBulk]; omega
   have:=bulk_fs (fun e t d x=>bulk_of_fromT k e t d x) h
   simp only [Rows.uptoBulk]; omega
  ·have:=bulk_fs (fun e t d x=>bulk_of_fromT k e t d x) h
   simp only [Rows.uptoBulk]; omega
  cases h
theorem rep_of_TrodTU {W:World} {t:TypeId} {v:Value} {d:DataW H} {ps:List MemPlace} {ds:List (DataW H)} (T:TypeId) (A:Ty) (k:Nat) (e:Ty) (hT:treeOk P T A k=true) (hT2:treePos P T A k=true) (hm:matT P T A k e t=true) (hpos:posT P T A k e t=true) (h:DataW.Trod enc P W 0 (fun _=>true) true t v d ps) (hw:∀ n ∈ d.weights P t,n≤reachBytes)
  (hu:Rows.uptoSmall H ds=true) (hd:d ∈ ds):∃ x:e.den,Rep (ghostOf W) e v.cells.toList x∧DomU e x:=by
 obtain ⟨f,hf⟩:=h
 obtain ⟨x,h1,h2,h3⟩:=rep_of_trodT W T A k hT true f k e t _ _ hm hf
 exact ⟨x,h1,⟨h2,small_of_fromT T A k hT2 f k e t d x hpos h3 hw⟩,Nat.le_trans (bulk_of_fromT f e t d x h3) (Nat.le_trans (uptoBulkAll_mem hd) (of_decide_eq_true hu))⟩
end
end Go.Eng
