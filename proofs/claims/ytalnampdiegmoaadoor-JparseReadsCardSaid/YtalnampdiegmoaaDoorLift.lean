/-
 From a contract of a law's Go function to the law's row. No program in sight.
-/
import Derived.Test.YtalnampdiegmoaaDoorEng
import Derived.OpenShut
import Derived.WideKeyArgs
import Derived.Carry
import Derived.ChangeSame
import Derived.SizedLaws
namespace Go.Eng
open Go.RowKit
open Go.ChangeShapes Go.WideShapes Go.ChangeAt
set_option linter.unusedVariables false
section
variable {H:Type} {enc:TypeId×Value→H} {P:Program}

/-- does a Ty say what a type of the program is? -/
def matFs (mt:Ty→TypeId→Bool) (P:Program):Ty→List (TypeId×Nat)→Nat→Bool
 | e,[(t,o)],off=>Nat.beq o off&&mt e t&&Nat.beq (P.cellsOf t) e.size
 | .pair a b,(t,o)::x::l,off=>Nat.beq o off&&mt a t&&Nat.beq (P.cellsOf t) a.size&&matFs mt P b (x::l) (off+a.size)
 | .unit,[],_=>true
 | _,_,_=>false

def kindEq:IntKind→IntKind→Bool
 | .i8,.i8 | .i16,.i16 | .i32,.i32 | .i64,.i64 | .u8,.u8 | .u16,.u16 | .u32,.u32 | .u64,.u64=>true
 | _,_=>false
theorem kindEq_eq {a b:IntKind} (h:kindEq a b=true):a=b:=by cases a <;> cases b <;> first | rfl | cases h

def matB (P:Program):Nat→Ty→TypeId→Bool
 | 0,_,_=>false
 | k+1,e,t =>
  match P.underlying t with
  | some .bool=>(match e with | .bool=>true | _=>false)
  | some (.int kd)=>(match e with | .int kd'=>kindEq kd' kd | _=>false)
  | some .string=>(match e with | .str=>true | _=>false)
  | some (.slice E)=>(match e with | .slice e'=>matB P k e' E&&Nat.beq (P.cellsOf E) e'.size&&Nat.ble 1 e'.size | _=>false)
  | some (.struct fs)=>matFs (matB P k) P e (fs.toList.map fun f=>(f.type,f.offset)) 0&&Nat.beq (P.cellsOf t) e.size
  | some (.array n E)=>matFs (matB P k) P e ((List.range n).map fun i=>(E,i * P.cellsOf E)) 0&&Nat.beq (P.cellsOf t) e.size
  | _=>false

theorem exists_list {α:Type} (n:Nat) (p:Nat→α→Prop) (h:∀ i,i<n→∃ x,p i x):∃ l:List α,l.length=n∧∀ (i:Nat) (x:α),l[i]? = some x→p i x:=by
 induction n with
 | zero=>exact ⟨[],rfl,fun i x hx=>by simp at hx⟩
 | succ n ih =>
  obtain ⟨l,hl,hp⟩:=ih fun i hi=>h i (by omega)
  obtain ⟨x,hx⟩:=h n (by omega)
  refine ⟨l++[x],by simp [hl],fun i y hy=>?_⟩
  rw [List.getElem?_append] at hy
  split at hy
  ·exact hp i y hy
  rename_i hge
  have hi:i=n:=by
   rcases Nat.lt_or_ge i (n+1) with h1 | h1
   ·omega
   rw [List.getElem?_eq_none (by simp; omega)] at hy; cases hy
  subst hi
  simp only [hl,Nat.sub_self,List.getElem?_cons_zero,Option.some.injEq] at hy
  subst hy
  exact hx

theorem mapM_get {α β:Type} {f:α→Option β}:∀ {l:List α} {xs:List β},l.mapM f=some xs→xs.length=l.length∧∀ (i:Nat) (a:α),l[i]? = some a→f a=xs[i]?
 | [],xs,h=>by simp at h; subst h; simp
 | a::l,xs,h=>by
  rw [List.mapM_cons] at h
  cases ha:f a with
  | none=>simp [ha] at h
  | some b =>
   cases hl:l.mapM f with
   | none=>simp [ha,hl] at h
   | some ys =>
    simp [ha,hl] at h
    subst h
    obtain ⟨h1,h2⟩:=mapM_get hl
    refine ⟨by simp [h1],fun i c hc=>?_⟩
    cases i with
    | zero=>simp at hc; subst hc; simpa using ha
    | succ i=>simp at hc; simpa using h2 i c hc

theorem cellsAt {W:World} {base:Nat} {a:Addr} {n:Nat} {cs:List Value} (h:W.cells? base a n=some cs):cs.length=n∧∀ j,j<n→W.cell? (a.add j)=cs[j]?:=by
 unfold World.cells? at h
 split at h
 ·obtain ⟨h1,h2⟩:=mapM_get h
  refine ⟨by simpa using h1,fun j hj=>h2 j j (by simp [hj])⟩
 cases h

/-- data that Go can hold -/
def Dom:(t:Ty)→t.den→Prop
 | .int k,x=>(Lit.int k x).wf=true
 | .bool,_=>True
 | .str,s=>s.length≤maxLen
 | .slice e,xs=>xs.length≤maxLen∧∀ x ∈ xs,Dom e x
 | .pair a b,x=>Dom a x.1∧Dom b x.2
 | .unit,_=>True
 | .tree a,x=>x.All fun y n=>Dom a y∧n≤maxLen

/-- the Lean datum of what is read -/
def fromFs (f:(e:Ty)→TypeId→DataW H→Option e.den):(e:Ty)→List TypeId→List (DataW H)→Option e.den
 | e,[t],[d]=>f e t d
 | .pair a b,t::ts,d::ds=>(f a t d).bind fun x=>(fromFs f b ts ds).map fun y=>(x,y)
 | .unit,[],[]=>some ()
 | _,_,_=>none
def fromD (P:Program):Nat→(e:Ty)→TypeId→DataW H→Option e.den
 | 0,_,_,_=>none
 | k+1,e,t,d =>
  match P.underlying t,d with
  | some .bool,.lit (.bool b)=>(match e with | .bool=>some b | _=>none)
  | some (.int _),.lit (.int _ n)=>(match e with | .int _=>some n | _=>none)
  | some .string,.lit (.string s)=>(match e with | .str=>some s | _=>none)
  | some (.slice _),.nil=>(match e with | .slice _=>some [] | _=>none)
  | some (.slice E),.slice es _=>(match e with | .slice e'=>es.mapM (fromD P k e' E) | _=>none)
  | some (.struct fs),.agg ds=>fromFs (fromD P k) e (fs.toList.map (·.type)) ds
  | some (.array n E),.agg ds=>fromFs (fromD P k) e (List.replicate n E) ds
  | _,_=>none

theorem mapM_of {α β:Type} {f:α→Option β}:∀ {l:List α} {xs:List β},xs.length=l.length→(∀ (i:Nat) (a:α) (x:β),l[i]? = some a→xs[i]? = some x→f a=some x)→l.mapM f=some xs
 | [],[],_,_=>by simp
 | [],_::_,h,_=>by simp at h
 | _::_,[],h,_=>by simp at h
 | a::l,x::xs,h,hf=>by
  rw [List.mapM_cons,hf 0 a x rfl rfl,mapM_of (l:=l) (xs:=xs) (by simpa using h) fun i b y hb hy=>hf (i+1) b y (by simpa using hb) (by simpa using hy)]
  rfl
/-- what can be read as data is a representation of data -/
theorem rep_of_trod (W:World):∀ (k:Nat) (e:Ty) (t:TypeId) (cs:List Value) (fuel:Nat) (hd:Bool) (y:DataW H×List MemPlace),matB P k e t=true→DataW.trod enc P W 0 (fun _=>true) hd fuel t cs=some y →
  ∃ x:e.den,Rep (ghostOf W) e cs x∧Dom e x∧fromD P k e t y.1=some x:=by
 intro k
 induction k with
 | zero=>intro e t cs fuel hd y hm; cases hm
 | succ k ih =>
  intro e t cs fuel hd y hm hy
  -- the fields of a struct,the elements of an array
  have fields:∀ (e:Ty) (l:List (TypeId×Nat)) (ds:List (DataW H)) (off:Nat),matFs (matB P k) P e l off=true→cs.length=off+e.size→ds.length=l.length →
    (∀ (i:Nat) (t:TypeId) (o:Nat) (d:DataW H),l[i]? = some (t,o)→ds[i]? = some d→∃ f y,DataW.trod enc P W 0 (fun _=>true) hd f t ((cs.drop o).take (P.cellsOf t))=some y∧y.1=d) →
    ∃ x:e.den,Rep (ghostOf W) e (cs.drop off) x∧Dom e x∧fromFs (fromD P k) e (l.map (·.1)) ds=some x:=by
   intro e l
   induction l generalizing e with
   | nil =>
    intro ds off h hl hds _
    have hds:ds=[]:=List.eq_nil_of_length_eq_zero (by simpa using hds)
    subst hds
    cases e <;> simp [matFs] at h
    refine ⟨(),?_,trivial,by simp [fromFs]⟩
    simp only [Rep,List.drop_eq_nil_iff]
    simp [Ty.size] at hl
    omega
   | cons to l ihl =>
    intro ds off h hl hds hall
    obtain ⟨t,o⟩:=to
    cases l with
    | nil =>
     obtain ⟨d,rfl⟩:∃ d,ds=[d]:=by
      match ds,hds with
      | [d],_=>exact ⟨d,rfl⟩
     have h':(Nat.beq o off&&matB P k e t&&Nat.beq (P.cellsOf t) e.size)=true:=by
      cases e <;> simpa only [matFs] using h
     rw [Bool.and_eq_true,Bool.and_eq_true] at h'
     obtain ⟨⟨ho,hmt⟩,hs⟩:=h'
     have ho:=Nat.eq_of_beq_eq_true ho
     have hs:=Nat.eq_of_beq_eq_true hs
     subst ho
     obtain ⟨f,y,hy,hyd⟩:=hall 0 t o d rfl rfl
     obtain ⟨x,hx,hdm,hfd⟩:=ih e t _ f hd y hmt hy
     rw [hs,List.take_of_length_le (by simp; omega)] at hx
     refine ⟨x,hx,hdm,?_⟩
     rw [← hyd]
     simp only [List.map_cons,List.map_nil]
     unfold fromFs
     exact hfd
    | cons z l =>
     cases e with
     | pair a b =>
      simp only [matFs,Bool.and_eq_true] at h
      obtain ⟨⟨⟨ho,hmt⟩,hs⟩,hrest⟩:=h
      have ho:=Nat.eq_of_beq_eq_true ho
      have hs:=Nat.eq_of_beq_eq_true hs
      subst ho
      obtain ⟨d,d2,ds,rfl⟩:∃ d d2 ds',ds=d::d2::ds':=by
       match ds,hds with
       | d::d2::ds',_=>exact ⟨d,d2,ds',rfl⟩
      obtain ⟨f,y,hy,hyd⟩:=hall 0 t o d rfl rfl
      obtain ⟨x1,hx1,hd1,hf1⟩:=ih a t _ f hd y hmt hy
      obtain ⟨x2,hx2,hd2,hf2⟩:=ihl b (d2::ds) (o+a.size) hrest (by simp [Ty.size] at hl ⊢; omega) (by simpa using hds) fun i t' o' d' hi hdi=>hall (i+1) t' o' d' (by simpa using hi) (by simpa using hdi)
      refine ⟨(x1,x2),⟨(cs.drop o).take a.size,cs.drop (o+a.size),?_,by rw [← hs]; exact hx1,hx2⟩,⟨hd1,hd2⟩,by rw [hyd] at hf1; simp only [List.map_cons,fromFs,hf1,Option.bind_some] at hf2 ⊢; rw [hf2]; rfl⟩
      rw [← List.drop_drop,List.take_append_drop]
     | _=>simp [matFs] at h
  unfold matB at hm
  split at hm
  ·rename_i hu
   cases e <;> simp at hm
   obtain ⟨b,rfl,rfl⟩:=DataW.trod_bool hu hy
   exact ⟨b,rfl,trivial,by simp [fromD,hu]⟩
  ·rename_i kd hu
   cases e <;> simp only [Bool.false_eq_true] at hm
   obtain rfl:=kindEq_eq hm
   obtain ⟨n,rfl,rfl,hw⟩:=DataW.trod_int hu hy
   exact ⟨n,rfl,hw,by simp [fromD,hu]⟩
  ·rename_i hu
   cases e <;> simp at hm
   obtain ⟨s,rfl,rfl,hs⟩:=DataW.trod_string hu hy
   exact ⟨s.data.toList,rfl,hs,by simp [fromD,hu]⟩
  ·rename_i E hu
   cases e with
   | slice e' =>
    simp only [Bool.and_eq_true] at hm
    obtain ⟨⟨hmt,hs⟩,h1⟩:=hm
    have hs:=Nat.eq_of_beq_eq_true hs
    have h1:=Nat.le_of_ble_eq_true h1
    rcases DataW.trod_slice hu hy with ⟨rfl,rfl⟩ | ⟨a,len,cap,elems,rest,n,_,rfl,rfl,-,hlc,hcm,hel,hall,-⟩
    ·exact ⟨[],⟨none,0,rfl,by simp,fun i x hx=>by simp at hx⟩,⟨by simp,fun x hx=>by simp at hx⟩,by simp [fromD,hu]⟩
    have each:∀ i,i<len→∃ x:e'.den,(Dom e' x∧∀ d,elems[i]? = some d→fromD P k e' E d.1=some x)∧∃ b off,a=⟨b,off,none⟩∧∃ ecs,ecs.length=e'.size∧At (ghostOf W) b (off+i * e'.size) ecs∧Rep (ghostOf W) e' ecs x:=by
     intro i hi
     have hspot:∃ b off,a=⟨b,off,none⟩:=by
      have h0:=hall 0 (by omega)
      rw [List.getElem?_eq_getElem (by omega)] at h0
      obtain ⟨cs0,hc0,_⟩:=Option.bind_eq_some_iff.1 h0
      obtain ⟨hl0,hcell⟩:=cellsAt hc0
      have:=hcell 0 (by omega)
      rw [List.getElem?_eq_getElem (by omega)] at this
      obtain ⟨b,off,sp⟩:=a
      cases sp with
      | none=>exact ⟨b,off,rfl⟩
      | some s =>
       simp only [Nat.zero_mul,Addr.add,if_true] at this
       simp only [World.cell?] at this
       split at this <;> simp at this
     obtain ⟨b,off,rfl⟩:=hspot
     have h0:=hall i hi
     rw [List.getElem?_eq_getElem (by omega)] at h0
     obtain ⟨csi,hci,hti⟩:=Option.bind_eq_some_iff.1 h0
     obtain ⟨hli,hcell⟩:=cellsAt hci
     obtain ⟨x,hx,hdm,hfd⟩:=ih e' E csi n hd _ hmt hti
     refine ⟨x,⟨hdm,fun d hdd=>by rw [List.getElem?_eq_getElem (by omega)] at hdd; injection hdd with hdd; rw [← hdd]; exact hfd⟩,b,off,rfl,csi,by rw [hli,hs],fun j v hj=>?_,hx⟩
     have hjl:j<P.cellsOf E:=by rw [← hli]; exact (List.getElem?_eq_some_iff.1 hj).1
     have:=hcell j hjl
     rw [Addr.add_plain,Addr.add_plain,hs] at this
     rw [gcell_ghostOf,this,hj]
    obtain ⟨xs,hxl,hxs⟩:=exists_list len _ each
    subst hxl
    refine ⟨xs,⟨some a,cap,rfl,⟨by omega,by omega⟩,fun i x hx=>?_⟩,⟨by omega,fun x hx=>?_⟩,?_⟩
    ·obtain ⟨-,b,off,ha,hr⟩:=hxs i x hx
     exact ⟨b,off,by rw [ha],hr⟩
    ·obtain ⟨i,hi⟩:=List.mem_iff_getElem?.1 hx
     exact (hxs i x hi).1.1
    simp only [fromD,hu]
    refine mapM_of (by simp [hel]) fun i d x hdi hxi=>?_
    rw [List.getElem?_map,Option.map_eq_some_iff] at hdi
    obtain ⟨p,hp,rfl⟩:=hdi
    exact (hxs i x hxi).1.2 p hp
   | _=>simp at hm
  ·rename_i fs hu
   rw [Bool.and_eq_true] at hm
   obtain ⟨hf,hs⟩:=hm
   have hs:=Nat.eq_of_beq_eq_true hs
   obtain ⟨xs,n,-,rfl,hl,hxl,hall⟩:=DataW.trod_struct hu hy
   have:=fields e _ (xs.map (·.1)) 0 hf (by omega) (by simp [hxl]) fun i t o d hi hd=>by
    rw [List.getElem?_map,Option.map_eq_some_iff] at hi
    obtain ⟨f,hf1,hf2⟩:=hi
    simp only [Prod.mk.injEq] at hf2
    obtain ⟨rfl,rfl⟩:=hf2
    have hfa:fs[i]? = some f:=by simpa using hf1
    have:=hall i f hfa
    rw [List.getElem?_map,Option.map_eq_some_iff] at hd
    obtain ⟨p,hp,rfl⟩:=hd
    rw [hp] at this
    exact ⟨n,_,this,rfl⟩
   rw [List.drop_zero,List.map_map] at this
   obtain ⟨x,h1,h2,h3⟩:=this
   exact ⟨x,h1,h2,by simp only [fromD,hu]; exact h3⟩
  ·rename_i n E hu
   rw [Bool.and_eq_true] at hm
   obtain ⟨hf,hs⟩:=hm
   have hs:=Nat.eq_of_beq_eq_true hs
   obtain ⟨xs,m,-,rfl,hl,hxl,hall⟩:=DataW.trod_array hu hy
   have:=fields e _ (xs.map (·.1)) 0 hf (by omega) (by simp [hxl]) fun i t o d hi hd=>by
    rw [List.getElem?_map,Option.map_eq_some_iff] at hi
    obtain ⟨j,hj1,hj2⟩:=hi
    have hij:i=j∧i<n:=by
     obtain ⟨hlt,he⟩:=List.getElem?_eq_some_iff.1 hj1
     simp at hlt he
     exact ⟨he,hlt⟩
    obtain ⟨rfl,hin⟩:=hij
    simp only [Prod.mk.injEq] at hj2
    obtain ⟨rfl,rfl⟩:=hj2
    have:=hall i hin
    rw [List.getElem?_map,Option.map_eq_some_iff] at hd
    obtain ⟨p,hp,rfl⟩:=hd
    rw [hp] at this
    exact ⟨m,_,this,rfl⟩
   rw [List.drop_zero,List.map_map] at this
   obtain ⟨x,h1,h2,h3⟩:=this
   refine ⟨x,h1,h2,?_⟩
   simp only [fromD,hu]
   have e1:(List.range n).map ((fun x:TypeId×Nat=>x.1) ∘ fun i=>(E,i * P.cellsOf E))=List.replicate n E:=by
    apply List.ext_getElem?
    intro i
    rw [List.getElem?_map,List.getElem?_replicate]
    by_cases hi:i<n
    ·simp [hi]
    simp [hi]
   rw [← e1]; exact h3
  cases hm

/-! ### the form's own reach: how long what came in may be -/
def Small:(t:Ty)→t.den→Prop
 | .str,s=>s.length≤reachBytes
 | .slice e,xs=>xs.length≤reachBytes∧∀ x ∈ xs,Small e x
 | .pair a b,x=>Small a x.1∧Small b x.2
 | .int _,_=>True
 | .bool,_=>True
 | .unit,_=>True
 | .tree a,x=>x.All fun y n=>Small a y∧n≤reachBytes
theorem weight_at {ts:List TypeId} {ds:List (DataW H)} (h:(DataW.weightsEach P ts ds).all (·≤reachBytes)=true) (j:Nat) {t:TypeId} {d:DataW H} (ht:ts[j]? = some t) (hd:ds[j]? = some d):∀ n ∈ d.weights P t,n≤reachBytes:=fun n hn=>by
 have:=List.all_eq_true.1 h n (DataW.weights_mem_each ht hd n hn)
 simpa using this

theorem Dom.i64 {x:Int} (h:Dom (.int .i64) x) : -9223372036854775808≤x∧x≤9223372036854775807:=by
 have h':(Lit.int .i64 x).wf=true:=h
 simp only [Lit.wf,IntKind.min,IntKind.max,IntKind.signed,IntKind.bits,Bool.and_eq_true,decide_eq_true_eq,if_true] at h'
 omega

/-! ### the row -/
theorem TrodAll.stays (hl:laidOutB P=true) {W W':World} {sp:Nat→Bool}:∀ {ts:List TypeId} {vs:List Value} {ds:List (DataW H)} {ps:List MemPlace},(∀ t ∈ ts,P.readableRec t=true∧t<P.types.size) →
  DataW.TrodAll enc P W 0 (fun _=>true) true ts vs ds ps→(∀ p ∈ ps,W.sameAt W' p)→(∀ p ∈ ps,sp p.block=true)→DataW.TrodAll enc P W' 0 sp true ts vs ds ps
 | [],[],[],_,_,h,_,_=>h
 | [],[],_::_,_,_,h,_,_=>h.elim
 | [],_::_,_,_,_,h,_,_=>h.elim
 | _::_,[],_,_,_,h,_,_=>h.elim
 | _::_,_::_,[],_,_,h,_,_=>h.elim
 | t::ts,v::vs,d::ds,ps,ht,⟨p,q,h1,h2,e⟩,hs,hsp =>
  ⟨p,q,WideElems.Trod_stays hl (ht t (List.mem_cons_self ..)).1 (ht t (List.mem_cons_self ..)).2 h1 (fun x hx=>hs x (by rw [e]; exact List.mem_append_left _ hx)) (fun x hx=>hsp x (by rw [e]; exact List.mem_append_left _ hx)),
   TrodAll.stays hl (fun t' h'=>ht t' (List.mem_cons_of_mem _ h')) h2 (fun x hx=>hs x (by rw [e]; exact List.mem_append_right _ hx)) (fun x hx=>hsp x (by rw [e]; exact List.mem_append_right _ hx)),e⟩

theorem TrodAll.length {W:World} {sp:Nat→Bool} {hd:Bool} {b:Nat}:∀ {ts:List TypeId} {vs:List Value} {ds:List (DataW H)} {ps:List MemPlace},DataW.TrodAll enc P W b sp hd ts vs ds ps→ds.length=ts.length
 | [],[],[],_,_=>rfl
 | [],[],_::_,_,h=>h.elim
 | [],_::_,_,_,h=>h.elim
 | _::_,[],_,_,h=>h.elim
 | _::_,_::_,[],_,h=>h.elim
 | _::_,_::_,_::_,_,⟨_,_,_,h2,_⟩=>by simp [TrodAll.length h2]

end
end Go.Eng
