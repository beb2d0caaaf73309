/- Rows that bound what is handed in: the bound, in plain data; and the lift of such a row. -/
import Derived.Test.YtdapgmigogpdcaaGreatDoorLaid
import Derived.Test.YtdapgmigogpdcaaGreatDoorRows
import Derived.Deep.DeepHandedRow
import Derived.Test.YtdapgmigogpdcaaGreatDoorLift
set_option linter.unusedVariables false
namespace Go.iT
open Go.RowKit
open Go.ChangeShapes Go.WideShapes Go.ChangeAt
open Go.Proofs.YtdapgmigogpdcaaGreatDoor
section
variable {P:Program} {H:Type} {enc:TypeId×Value→H}
def bulkT:(t:Ty)→t.den→Nat
 | .int _,_=>1
 | .bool,_=>1
 | .str,s=>s.length+1
 | .slice e,xs=>(xs.map (bulkT e)).sum+1
 | .pair a b,x=>bulkT a x.1+bulkT b x.2
 | .unit,_=>0
 | .tst a,x=>x.sum (bulkT a)
theorem vP {f:(e:Ty)→TypeId→DataW H→Option e.den} (hf:∀ e t d x,f e t d=some x→bulkT e x≤Rows.uptoBulk d):∀ {e:Ty} {ts:List TypeId} {ds:List (DataW H)} {x:e.den},ed f e ts ds=some x→bulkT e x≤Rows.uptoBulkAll ds
 | e,[],ds,x,h=>by
  cases e <;> cases ds <;> simp [ed] at h
  exact ik _
 | e,[t],ds,x,h=>by
  cases ds with
  | nil=>cases e <;> simp [ed] at h
  | cons d ds =>
   cases ds with
   | nil =>
    have h:f e t d=some x:=by cases e <;> exact h
    have:=hf e t d x h;simp only [Rows.uptoBulkAll]; omega
   | cons d2 ds =>
    cases e with
    | pair a b =>
     simp only [ed,uP,gP] at h;obtain ⟨x1,h1,x2,h2,rfl⟩:=h
     cases b <;> simp [ed] at h2
    | _=>simp [ed] at h
 | e,t::t2::ts,ds,x,h=>by
  cases ds with
  | nil=>cases e <;> simp [ed] at h
  | cons d ds =>
   cases e with
   | pair a b =>
    simp only [ed,uP,gP] at h;obtain ⟨x1,h1,x2,h2,rfl⟩:=h;have a1:=hf a t d x1 h1;have a2:=vP hf h2;simp only [bulkT,Rows.uptoBulkAll]; omega
   | _=>simp [ed] at h
theorem zO {e:Ty} {f:DataW H→Option e.den} (hf:∀ d x,f d=some x→bulkT e x≤Rows.uptoBulk d):∀ {es:List (DataW H)} {xs:List e.den},es.mapM f=some xs→(xs.map (bulkT e)).sum≤Rows.uptoBulkAll es
 | [],xs,h=>by simp at h; subst h; exact ik _
 | d::es,xs,h=>by
  rw [List.mapM_cons] at h
  cases ha:f d with
  | none=>simp [ha] at h
  | some b =>
   cases hl:es.mapM f with
   | none=>simp [ha,hl] at h
   | some ys =>
    simp [ha,hl] at h;subst h;have h1:=hf d b ha;have h2:=zO hf hl;simp only [jL,List.sum_cons,Rows.uptoBulkAll]; omega
theorem nH:∀ (k:Nat) (e:Ty) (t:TypeId) (d:DataW H) (x:e.den),fromD P k e t d=some x→bulkT e x≤Rows.uptoBulk d
 | 0,_,_,_,_,h=>by cases h
 | k+1,e,t,d,x,h=>by
  unfold fromD at h
  split at h
  ·cases e <;> simp at h; simp [bulkT,Rows.uptoBulk]
  ·cases e <;> simp at h; simp [bulkT,Rows.uptoBulk]
  ·cases e <;> simp at h
   subst h; simp [bulkT,Rows.uptoBulk]
  ·cases e <;> simp at h
   subst h; simp [bulkT,Rows.uptoBulk]
  ·cases e with
   | slice e' =>
    simp only at h;have:=zO (fun d x=>nH k e' _ d x) h;simp only [bulkT,Rows.uptoBulk]; omega
   | _=>simp at h
  ·have:=vP (fun e t d x=>nH k e t d x) h;simp only [Rows.uptoBulk]; omega
  ·have:=vP (fun e t d x=>nH k e t d x) h;simp only [Rows.uptoBulk]; omega
  cases h
def VS (e:Ty) (x:e.den):Prop:=ase e x∧bulkT e x≤1048576
theorem sZ {d:DataW H} {l:List (DataW H)} (h:d ∈ l):Rows.uptoBulk d≤Rows.uptoBulkAll l:=by
 induction l with
 | nil=>cases h
 | cons x r ih =>
  simp only [Rows.uptoBulkAll]
  rcases eO.1 h with rfl | h
  ·omega
  have:=ih h; omega
theorem GD {W:World} {t:TypeId} {v:Value} {d:DataW H} {ps:List MemPlace} {ds:List (DataW H)} (k:Nat) (e:Ty) (hm:Hz P k e t=true) (hpos:QD P k e t=true) (h:DataW.Trod enc P W 0 (fun _=>true) true t v d ps) (hw:∀ n ∈ d.weights P t,n≤reachBytes)
  (hu:Rows.uptoSmall H ds=true) (hd:d ∈ ds):∃ x:e.den,bE (eG W) e v.cells.toList x∧VS e x:=by
 obtain ⟨f,hf⟩:=h;obtain ⟨x,h1,h2,h3⟩:=Ad W k e t _ f _ _ hm hf;exact ⟨x,h1,⟨h2,mD k e t d x hpos h3 hw⟩,gQ (nH k e t d x h3) (gQ (sZ hd) (df hu))⟩
theorem H6 {C:Checked} {os:Os} {f:FuncId} {fn:Func} {s:OpenSpec} {sp:ChangeSpec} {F:Stop.Interp} {conds:List PathCond} {tb:TypeId} {laid:List (String×DataW Unit)}
  (own:ownKnob C.prog.godebug=none) (started:os.Started) (noInit:C.prog.inits.idxOf? f=none) (hfn:C.prog.funcs[f]? = some fn)
  (witness:∃ (w:World) (tape:Tape) (i:Input),w.os=os∧(w.forCall tape i).Shaped C.prog∧i.vars=[]∧Input.okWide C.prog (w.forCall tape i) .any w.heap.size f i ∧
   s.preRow enc C.prog fn conds false laid (w.forCall tape i).memory i.args∧({}:Assume).holds C.prog (lone (Frame.enter C.prog f i.args .normal) [] (w.forCall tape i)))
  (hat:s.at F=sp) (hsv:s.vars=[]) (hvars:sp.vars=[]) (hbt:s.bare.plain.varTypes C.prog=[])
  (hspec:∀ ds:List (DataW H),ds.length=fn.params.toList.length→sp.fn H (ds++[]) = { results:=[.lit (.bool true)],args:=ds })
  (hres:fn.resultTypes=#[tb]) (htb:C.prog.underlying tb=some .bool) (hl:laidOutB C.prog=true) (ht:(fn.params.toList.all fun t=>C.prog.readableRec t&&Nat.ble (t+1) C.prog.types.size)=true)
  (hh:(laid.filter fun x=>x.2.handleName?.isSome)=[])
  (walk:∀ (W:World) (base:Nat) (args:Array Value) (ds:List (DataW H)) (p:List MemPlace),W.ShapedOpen C.prog→laidMet C.prog laid W→(∀ (j:Nat) t v,fn.params[j]? = some t→args[j]? = some v→Value.okWide C.prog W .any base t v) →
   DataW.TrodAll enc C.prog W 0 (fun _=>true) true fn.params.toList args.toList ds p→(DataW.weightsEach C.prog fn.params.toList ds).all (·≤reachBytes)=true→(∀ k,s.cond=some k→k H ds=true)→Calls C.prog f args W fun e W'=>e=.returned (.bool true)∧Below W.heap.size W W') :
  ReturnsInHanded {} C os f .any (s.preRow enc C.prog fn conds false laid) ((s.at F).post enc C.prog fn false true false false):=by
 refine returnsInHanded_of_row own started noInit hfn witness fun W base args ds gs before hval hW _ hk hsz hL hsh _=>?_;rw [hat]
 have hL:laidMet C.prog laid W:=by
  unfold laidMetH at hL;rw [hh] at hL;exact hL
 rw [hsv,← hvars] at hW;have hW':=hW;obtain ⟨p,q,hA,hV,rfl,-,-⟩:=hW;rw [hvars] at hV;obtain ⟨rfl,rfl⟩:=trodVars_none hV
 have hsz:(DataW.weightsEach C.prog fn.params.toList ds).all (·≤reachBytes)=true:=by
  rw [hbt,gK,gK] at hsz;exact hsz
 have hk:∀ k,s.cond=some k→k H ds=true:=fun k h=>by have:=hk k h; rwa [gK] at this
 refine (walk W base args ds p hsh hL hval hA hsz hk).mono fun e W' ⟨he,hb⟩=>⟨.bool true,he,ds,[],p++[],[],p,[],hW',?_,?_,?_,?_,fun h=>by cases h⟩
 ·rw [hspec ds (TrodAll.length hA),hres];exact trodAll_cons_mk (shut_bool htb true) trodAll_mk0
 ·rw [hspec ds (TrodAll.length hA)];have hlt:∀ x ∈ p,x.block<W.heap.size:=fun x hx=>hW'.lt x (by simpa using hx);refine TrodAll.stays hl (fun t h'=>?_) hA (fun x hx=>hb.same (hlt x hx)) (fun x hx=>by simpa using hlt x hx);have:=l7.1 ht t h';rw [aH] at this;exact ⟨this.1,gy this.2⟩
 ·rw [hvars];rw [hspec ds (TrodAll.length hA)];exact rfl
 exact hb.frame _
end
end Go.iT
namespace Go.iT
open Go.RowKit
open Go.ChangeShapes Go.WideShapes Go.ChangeAt
def Ty.same:Ty→Ty→Bool
 | .int k,.int k'=>Dn k k'
 | .bool,.bool=>true
 | .str,.str=>true
 | .slice a,.slice b=>a.same b
 | .pair a b,.pair c d=>a.same c&&b.same d
 | .unit,.unit=>true
 | .tst a,.tst b=>a.same b
 | _,_=>false
theorem Ty.same_eq:∀ {a b:Ty},a.same b=true→a=b
 | .int k,.int k',h=>by rw [zu h]
 | .bool,.bool,_=>rfl
 | .str,.str,_=>rfl
 | .slice a,.slice b,h=>by rw [Ty.same_eq (a:=a) (b:=b) h]
 | .pair a b,.pair c d,h=>by
  have h:(a.same c&&b.same d)=true:=h;rw [aH] at h;rw [Ty.same_eq h.1,Ty.same_eq h.2]
 | .unit,.unit,_=>rfl
 | .tst a,.tst b,h=>by rw [Ty.same_eq (a:=a) (b:=b) h]
def oQ:Nat→Ty→Ty→Ty
 | m+1,.pair a b,k=>.pair a (oQ m b k)
 | _,a,k=>.pair a k
def BR:(m:Nat)→(a k:Ty)→(oQ m a k).den→a.den×k.den
 | 0,_,_,x=>x
 | m+1,.pair _ b,k,x=>((x.1,(BR m b k x.2).1),(BR m b k x.2).2)
 | _+1,.int _,_,x=>x
 | _+1,.bool,_,x=>x
 | _+1,.str,_,x=>x
 | _+1,.slice _,_,x=>x
 | _+1,.unit,_,x=>x
 | _+1,.tst _,_,x=>x
theorem JS {g:ak}:∀ (m:Nat) (a k:Ty) (cs:List Value) (x:(oQ m a k).den),bE g (oQ m a k) cs x→bE g (.pair a k) cs (BR m a k x)
 | 0,_,_,_,_,h=>h
 | m+1,.pair a b,k,cs,x,h=>by
  obtain ⟨c1,c2,rfl,h1,h2⟩:=h;obtain ⟨c3,c4,rfl,h3,h4⟩:=JS m b k c2 x.2 h2;exact ⟨c1++c3,c4,by rw [dM],⟨c1,c3,rfl,h1,h3⟩,h4⟩
 | _+1,.int _,_,_,_,h=>h
 | _+1,.bool,_,_,_,h=>h
 | _+1,.str,_,_,_,h=>h
 | _+1,.slice _,_,_,_,h=>h
 | _+1,.unit,_,_,_,h=>h
 | _+1,.tst _,_,_,_,h=>h
theorem Lc:∀ (m:Nat) (a k:Ty) (x:(oQ m a k).den),Jp (oQ m a k) x→Jp (.pair a k) (BR m a k x)
 | 0,_,_,_,h=>h
 | m+1,.pair a b,k,x,h=>by
  obtain ⟨h1,h2⟩:=h;obtain ⟨h3,h4⟩:=Lc m b k x.2 h2;exact ⟨⟨h1,h3⟩,h4⟩
 | _+1,.int _,_,_,h=>h
 | _+1,.bool,_,_,h=>h
 | _+1,.str,_,_,h=>h
 | _+1,.slice _,_,_,h=>h
 | _+1,.unit,_,_,h=>h
 | _+1,.tst _,_,_,h=>h
theorem Cm:∀ (m:Nat) (a k:Ty) (x:(oQ m a k).den),Small (oQ m a k) x→Small (.pair a k) (BR m a k x)
 | 0,_,_,_,h=>h
 | m+1,.pair a b,k,x,h=>by
  obtain ⟨h1,h2⟩:=h;obtain ⟨h3,h4⟩:=Cm m b k x.2 h2;exact ⟨⟨h1,h3⟩,h4⟩
 | _+1,.int _,_,_,h=>h
 | _+1,.bool,_,_,h=>h
 | _+1,.str,_,_,h=>h
 | _+1,.slice _,_,_,h=>h
 | _+1,.unit,_,_,h=>h
 | _+1,.tst _,_,_,h=>h
section
variable {H:Type} {enc:TypeId×Value→H} {P:Program}
def wZ (P:Program) (T:TypeId) (A:Ty):Nat→Ty→TypeId→Bool
 | 0,_,_=>false
 | k+1,e,t =>
  match e with
  | .tst a=>Nat.beq t T&&a.same A
  | e =>
  match P.underlying t with
  | some .bool=>(match e with | .bool=>true | _=>false)
  | some (.int kd)=>(match e with | .int kd'=>Dn kd' kd | _=>false)
  | some .string=>(match e with | .str=>true | _=>false)
  | some (.slice E)=>(match e with | .slice e'=>wZ P T A k e' E&&Nat.beq (P.cellsOf E) e'.size&&Nat.ble 1 e'.size | _=>false)
  | some (.struct fs)=>mJ (wZ P T A k) P e (fs.toList.map fun f=>(f.type,f.offset)) 0&&Nat.beq (P.cellsOf t) e.size
  | some (.array n E)=>mJ (wZ P T A k) P e ((List.range n).map fun i=>(E,i * P.cellsOf E)) 0&&Nat.beq (P.cellsOf t) e.size
  | _=>false
def LX (P:Program) (T:TypeId) (A:Ty) (K:Nat):Bool :=
 match P.underlying T with
 | some (.struct fs)=>mJ (wZ P T A K) P (oQ (fs.size - 2) A (.slice (.pair (.slice (.slice (.tst A))) (.slice (.int .u8))))) (fs.toList.map fun f=>(f.type,f.offset)) 0&&Nat.beq (P.cellsOf T) (oQ (fs.size - 2) A (.slice (.pair (.slice (.slice (.tst A))) (.slice (.int .u8))))).size
 | _=>false
def kY (P:Program):Nat→(e:Ty)→TypeId→DataW H→Option e.den
 | 0,_,_,_=>none
 | k+1,e,t,d =>
  match P.underlying t,d with
  | some .bool,.lit (.bool b)=>(match e with | .bool=>some b | _=>none)
  | some (.int _),.lit (.int _ n)=>(match e with | .int _=>some n | _=>none)
  | some .string,.lit (.string s)=>(match e with | .str=>some s | _=>none)
  | some (.slice _),.nil=>(match e with | .slice _=>some [] | _=>none)
  | some (.slice E),.slice es _=>(match e with | .slice e'=>es.mapM (kY P k e' E) | _=>none)
  | some (.struct fs),.agg ds=>(match e with
   | .tst a=>(ed (kY P k) (oQ (fs.size - 2) a (.slice (.pair (.slice (.slice (.tst a))) (.slice (.int .u8))))) (fs.toList.map (·.type)) ds).map fun y=>gL.mk (BR (fs.size - 2) a (.slice (.pair (.slice (.slice (.tst a))) (.slice (.int .u8)))) y).1 (BR (fs.size - 2) a (.slice (.pair (.slice (.slice (.tst a))) (.slice (.int .u8)))) y).2
   | e=>ed (kY P k) e (fs.toList.map (·.type)) ds)
  | some (.array n E),.agg ds=>ed (kY P k) e (List.replicate n E) ds
  | _,_=>none
theorem GA (W:World) (T:TypeId) (A:Ty) (K:Nat) (hT:LX P T A K=true) (hd:Bool):∀ (fuel k:Nat) (e:Ty) (t:TypeId) (cs:List Value) (y:DataW H×List MemPlace),wZ P T A k e t=true→DataW.trod enc P W 0 (fun _=>true) hd fuel t cs=some y →
  ∃ x:e.den,bE (eG W) e cs x∧Jp e x∧kY P fuel e t y.1=some x:=by
 intro fuel
 induction fuel with
 | zero=>intro k e t cs y _ hy; simp [DataW.trod] at hy
 | succ m ih =>
  intro k e t cs y hm hy
  -- the fields of a struct,the elements of an array
  have fields:∀ (k:Nat) (e:Ty) (l:List (TypeId×Nat)) (ds:List (DataW H)) (off:Nat),mJ (wZ P T A k) P e l off=true→cs.length=off+e.size→ds.length=l.length →
    (∀ (i:Nat) (t:TypeId) (o:Nat) (d:DataW H),l[i]? = some (t,o)→ds[i]? = some d→∃ y,DataW.trod enc P W 0 (fun _=>true) hd m t ((cs.drop o).take (P.cellsOf t))=some y∧y.1=d) →
    ∃ x:e.den,bE (eG W) e (cs.drop off) x∧Jp e x∧ed (kY P m) e (l.map (·.1)) ds=some x:=by
   intro k e l
   induction l generalizing e with
   | nil =>
    intro ds off h hl hds _;have hds:ds=[]:=iO (by simpa using hds);subst hds
    cases e <;> simp [mJ] at h
    refine ⟨(),?_,trivial,by simp [ed]⟩;simp only [bE,List.drop_eq_nil_iff];simp [Ty.size] at hl;omega
   | cons to l ihl =>
    intro ds off h hl hds hall;obtain ⟨t,o⟩:=to
    cases l with
    | nil =>
     obtain ⟨d,rfl⟩:∃ d,ds=[d]:=by
      match ds,hds with
      | [d],_=>exact ⟨d,rfl⟩
     have h':(Nat.beq o off&&wZ P T A k e t&&Nat.beq (P.cellsOf t) e.size)=true:=by
      cases e <;> simpa only [mJ] using h
     rw [aH,aH] at h';obtain ⟨⟨ho,hmt⟩,hs⟩:=h';have ho:=iW ho;have hs:=iW hs;subst ho;obtain ⟨y,hy,hyd⟩:=hall 0 t o d rfl rfl;obtain ⟨x,hx,UI,hfd⟩:=ih k e t _ y hmt hy;rw [hs,jU (by simp; omega)] at hx;refine ⟨x,hx,UI,?_⟩;rw [← hyd];simp only [jL,qH];unfold ed;exact hfd
    | cons z l =>
     cases e with
     | pair a b =>
      simp only [mJ,aH] at h;obtain ⟨⟨⟨ho,hmt⟩,hs⟩,hrest⟩:=h;have ho:=iW ho;have hs:=iW hs;subst ho
      obtain ⟨d,d2,ds,rfl⟩:∃ d d2 ds',ds=d::d2::ds':=by
       match ds,hds with
       | d::d2::ds',_=>exact ⟨d,d2,ds',rfl⟩
      obtain ⟨y,hy,hyd⟩:=hall 0 t o d rfl rfl;obtain ⟨x1,hx1,hd1,hf1⟩:=ih k a t _ y hmt hy;obtain ⟨x2,hx2,hd2,hf2⟩:=ihl b (d2::ds) (o+a.size) hrest (by simp [Ty.size] at hl ⊢; omega) (by simpa using hds) fun i t' o' d' hi hdi=>hall (i+1) t' o' d' (by simpa using hi) (by simpa using hdi);refine ⟨(x1,x2),⟨(cs.drop o).take a.size,cs.drop (o+a.size),?_,by rw [← hs]; exact hx1,hx2⟩,⟨hd1,hd2⟩,by rw [hyd] at hf1; simp only [jL,ed,hf1,Option.bind_some] at hf2 ⊢; rw [hf2]; rfl⟩;rw [← xz,uR]
     | _=>simp [mJ] at h
  have struct:∀ (k:Nat) (e:Ty) (fs:Array Field),P.underlying t=some (.struct fs)→mJ (wZ P T A k) P e (fs.toList.map fun f=>(f.type,f.offset)) 0=true→P.cellsOf t=e.size →
    ∃ x:e.den,bE (eG W) e cs x∧Jp e x∧∃ ds,y.1=.agg ds∧ed (kY P m) e (fs.toList.map (·.type)) ds=some x:=by
   intro k e fs hu hf hs;obtain ⟨xs,n,hn,rfl,hl,hxl,hall⟩:=DataW.trod_struct hu hy;obtain rfl:m=n:=om
   have:=fields k e _ (xs.map (·.1)) 0 hf om (by simp [hxl]) fun i t o d hi hd=>by
    rw [iZ,gP] at hi;obtain ⟨f,hf1,hf2⟩:=hi;simp only [qF] at hf2;obtain ⟨rfl,rfl⟩:=hf2
    have hfa:fs[i]? = some f:=by simpa using hf1
    have:=hall i f hfa;rw [iZ,gP] at hd;obtain ⟨p,hp,rfl⟩:=hd;rw [hp] at this;exact ⟨_,this,rfl⟩
   rw [gm,List.map_map] at this;obtain ⟨x,h1,h2,h3⟩:=this;exact ⟨x,h1,h2,_,rfl,h3⟩
  have Xo:∀ {k:Nat} {e:Ty},(∀ a,e≠.tst a)→wZ P T A k e t=true→∃ j,k=j+1∧(match P.underlying t with
    | some .bool=>(match e with | .bool=>true | _=>false)
    | some (.int kd)=>(match e with | .int kd'=>Dn kd' kd | _=>false)
    | some .string=>(match e with | .str=>true | _=>false)
    | some (.slice E)=>(match e with | .slice e'=>wZ P T A j e' E&&Nat.beq (P.cellsOf E) e'.size&&Nat.ble 1 e'.size | _=>false)
    | some (.struct fs)=>mJ (wZ P T A j) P e (fs.toList.map fun f=>(f.type,f.offset)) 0&&Nat.beq (P.cellsOf t) e.size
    | some (.array n E)=>mJ (wZ P T A j) P e ((List.range n).map fun i=>(E,i * P.cellsOf E)) 0&&Nat.beq (P.cellsOf t) e.size
    | _=>false)=true:=by
   intro k e hne hm
   cases k with
   | zero=>cases hm
   | succ j =>
    refine ⟨j,rfl,?_⟩;unfold wZ at hm
    split at hm
    ·exact absurd rfl (hne _)
    exact hm
  by_cases htr:∃ a,e=.tst a
  ·obtain ⟨a,rfl⟩:=htr
   cases k with
   | zero=>cases hm
   | succ k =>
    have hm:(Nat.beq t T&&a.same A)=true:=by simpa only [wZ] using hm
    rw [aH] at hm;have h1:=iW hm.1;have h2:=Ty.same_eq hm.2;subst h1 h2;unfold LX at hT
    split at hT
    ·rename_i fs hu
     rw [aH] at hT;obtain ⟨x,hx,UI,ds,hds,hf⟩:=struct K _ fs hu hT.1 (iW hT.2);refine ⟨.mk (BR (fs.size - 2) a (.slice (.pair (.slice (.slice (.tst a))) (.slice (.int .u8)))) x).1 (BR (fs.size - 2) a (.slice (.pair (.slice (.slice (.tst a))) (.slice (.int .u8)))) x).2,bE.tst.2 (JS _ _ _ _ _ hx),?_,?_⟩
     ·obtain ⟨q1,q2,q3⟩:=Lc _ _ _ _ UI;show gL.All _ _;rw [gL.all_mk];exact ⟨⟨q1,q2,fun q hq=>⟨⟨(q3 q hq).1.1,fun s hs=>((q3 q hq).1.2 s hs).1⟩,(q3 q hq).2⟩⟩,fun q hq s hs k hk=>((q3 q hq).1.2 s hs).2 k hk⟩
     simp only [kY,hu,hds,hf,mP]
    cases hT
  have hne:∀ a,e≠.tst a:=fun a h=>htr ⟨a,h⟩;obtain ⟨k,-,hm⟩:=Xo hne hm
  split at hm
  ·rename_i hu
   cases e <;> simp at hm
   obtain ⟨b,rfl,rfl⟩:=DataW.trod_bool hu hy;exact ⟨b,rfl,trivial,by simp [kY,hu]⟩
  ·rename_i kd hu
   cases e <;> simp only [zY] at hm
   obtain rfl:=zu hm;obtain ⟨n,rfl,rfl,hw⟩:=DataW.trod_int hu hy;exact ⟨n,rfl,hw,by simp [kY,hu]⟩
  ·rename_i hu
   cases e <;> simp at hm
   obtain ⟨s,rfl,rfl,hs⟩:=DataW.trod_string hu hy;exact ⟨s.data.toList,rfl,hs,by simp [kY,hu]⟩
  ·rename_i E hu
   cases e with
   | slice e' =>
    simp only [aH] at hm;obtain ⟨⟨hmt,hs⟩,h1⟩:=hm;have hs:=iW hs;have h1:=gy h1
    rcases DataW.trod_slice hu hy with ⟨rfl,rfl⟩ | ⟨a,len,cap,elems,rest,n,hn,rfl,rfl,-,hlc,hcm,hel,hall,-⟩
    ·exact ⟨[],⟨none,0,rfl,by simp,fun i x hx=>by simp at hx⟩,⟨by simp,fun x hx=>by simp at hx⟩,by simp [kY,hu]⟩
    obtain rfl:m=n:=om
    have each:∀ i,i<len→∃ x:e'.den,(Jp e' x∧∀ d,elems[i]? = some d→kY P m e' E d.1=some x)∧∃ b off,a=⟨b,off,none⟩∧∃ jC,jC.length=e'.size∧At (eG W) b (off+i * e'.size) jC∧bE (eG W) e' jC x:=by
     intro i hi
     have hspot:∃ b off,a=⟨b,off,none⟩:=by
      have h0:=hall 0 om;rw [gH om] at h0;obtain ⟨cs0,hc0,_⟩:=uP.1 h0;obtain ⟨hl0,hcell⟩:=BF hc0;have:=hcell 0 om;rw [gH om] at this;obtain ⟨b,off,sp⟩:=a
      cases sp with
      | none=>exact ⟨b,off,rfl⟩
      | some s =>
       simp only [xm,Addr.add,if_true] at this;simp only [World.cell?] at this
       split at this <;> simp at this
     obtain ⟨b,off,rfl⟩:=hspot;have h0:=hall i hi;rw [gH om] at h0;obtain ⟨csi,hci,hti⟩:=uP.1 h0;obtain ⟨hli,hcell⟩:=BF hci;obtain ⟨x,hx,UI,hfd⟩:=ih k e' E csi _ hmt hti;refine ⟨x,⟨UI,fun d hdd=>by rw [gH om] at hdd; injection hdd with hdd; rw [← hdd]; exact hfd⟩,b,off,rfl,csi,by rw [hli,hs],fun j v hj=>?_,hx⟩
     have hjl:j<P.cellsOf E:=by rw [← hli]; exact (jh.1 hj).1
     have:=hcell j hjl;rw [Addr.add_plain,Addr.add_plain,hs] at this;rw [qD,this,hj]
    obtain ⟨xs,hxl,hxs⟩:=Ao len _ each;subst hxl;refine ⟨xs,⟨some a,cap,rfl,⟨om,om⟩,fun i x hx=>?_⟩,⟨om,fun x hx=>?_⟩,?_⟩
    ·obtain ⟨-,b,off,ha,hr⟩:=hxs i x hx;exact ⟨b,off,by rw [ha],hr⟩
    ·obtain ⟨i,hi⟩:=sJ.1 hx;exact (hxs i x hi).1.1
    simp only [kY,hu];refine HV (by simp [hel]) fun i d x hdi hxi=>?_;rw [iZ,gP] at hdi;obtain ⟨p,hp,rfl⟩:=hdi;exact (hxs i x hxi).1.2 p hp
   | _=>simp at hm
  ·rename_i fs hu
   rw [aH] at hm;obtain ⟨x,hx,UI,ds,hds,hf⟩:=struct k e fs hu hm.1 (iW hm.2);refine ⟨x,hx,UI,?_⟩
   cases e <;> first | exact absurd rfl (hne _) | simp only [kY,hu,hds,hf]
  ·rename_i n E hu
   rw [aH] at hm;obtain ⟨hf,hs⟩:=hm;have hs:=iW hs;obtain ⟨xs,m',hm',rfl,hl,hxl,hall⟩:=DataW.trod_array hu hy;obtain rfl:m=m':=om
   have:=fields k e _ (xs.map (·.1)) 0 hf om (by simp [hxl]) fun i t o d hi hd=>by
    rw [iZ,gP] at hi;obtain ⟨j,hj1,hj2⟩:=hi
    have hij:i=j∧i<n:=by
     obtain ⟨hlt,he⟩:=jh.1 hj1;simp at hlt he;exact ⟨he,hlt⟩
    obtain ⟨rfl,hin⟩:=hij;simp only [qF] at hj2;obtain ⟨rfl,rfl⟩:=hj2;have:=hall i hin;rw [iZ,gP] at hd;obtain ⟨p,hp,rfl⟩:=hd;rw [hp] at this;exact ⟨_,this,rfl⟩
   rw [gm,List.map_map] at this;obtain ⟨x,h1,h2,h3⟩:=this;refine ⟨x,h1,h2,?_⟩;simp only [kY,hu]
   have e1:(List.range n).map ((fun x:TypeId×Nat=>x.1) ∘ fun i=>(E,i * P.cellsOf E))=List.replicate n E:=by
    apply zX;intro i;rw [iZ,List.getElem?_replicate]
    by_cases hi:i<n
    ·simp [hi]
    simp [hi]
   rw [← e1]; exact h3
  cases hm
def abt (P:Program) (f:Ty→TypeId→Bool) (e:Ty) (t:TypeId):Bool :=
 match P.underlying t with
 | some (.slice E)=>(match e with | .slice e'=>f e' E&&Nat.ble 1 (P.bytesOf E) | _=>false)
 | some (.struct fs)=>yf f e (fs.toList.map (·.type))
 | some (.array n E)=>yf f e (List.replicate n E)
 | _=>true
def Mo (P:Program) (T:TypeId) (A:Ty):Nat→Ty→TypeId→Bool
 | 0,_,_=>false
 | k+1,e,t =>
  match e with
  | .tst a=>Nat.beq t T&&a.same A
  | e=>abt P (Mo P T A k) e t
def Gb (P:Program) (T:TypeId) (A:Ty) (K:Nat):Bool :=
 match P.underlying T with
 | some (.struct fs)=>yf (Mo P T A K) (oQ (fs.size - 2) A (.slice (.pair (.slice (.slice (.tst A))) (.slice (.int .u8))))) (fs.toList.map (·.type))
 | _=>false
theorem kG (T:TypeId) (A:Ty) (K:Nat) (hT:Gb P T A K=true):∀ (m k:Nat) (e:Ty) (t:TypeId) (d:DataW H) (x:e.den),Mo P T A k e t=true→kY P m e t d=some x→(∀ n ∈ d.weights P t,n≤reachBytes)→Small e x
 | 0,_,_,_,_,_,_,h,_=>by cases h
 | m+1,k,e,t,d,x,hp,h,hw=>by
  by_cases htr:∃ a,e=.tst a
  ·obtain ⟨a,rfl⟩:=htr
   cases k with
   | zero=>cases hp
   | succ k =>
    have hm:(Nat.beq t T&&a.same A)=true:=by simpa only [Mo] using hp
    rw [aH] at hm;have h1:=iW hm.1;have h2:=Ty.same_eq hm.2;subst h1 h2;have hT0:=hT;unfold Gb at hT
    split at hT
    ·rename_i fs hu
     unfold kY at h;rw [hu] at h
     cases d <;> simp only [reduceCtorEq] at h
     rename_i ds
     obtain ⟨y,hy,rfl⟩:=gP.1 h;have:=qO (fun e t d x=>kG _ a K hT0 m K e t d x) hT hy fun n hn=>hw n (by simp only [DataW.weights,hu]; exact hn);obtain ⟨q1,q2,q3⟩:=Cm _ _ _ _ this;show gL.All _ _;rw [gL.all_mk];exact ⟨⟨q1,q2,fun q hq=>⟨⟨(q3 q hq).1.1,fun s hs=>((q3 q hq).1.2 s hs).1⟩,(q3 q hq).2.1⟩⟩,fun q hq s hs k hk=>((q3 q hq).1.2 s hs).2 k hk⟩
    cases hT
  have hne:∀ a,e≠.tst a:=fun a h=>htr ⟨a,h⟩
  obtain ⟨k,rfl⟩:∃ j,k=j+1:=by
   cases k with
   | zero=>cases hp
   | succ j=>exact ⟨j,rfl⟩
  have hp:abt P (Mo P T A k) e t=true:=by
   unfold Mo at hp
   split at hp
   ·exact absurd rfl (hne _)
   exact hp
  unfold abt at hp;unfold kY at h
  split at h
  ·rename_i hu; cases e <;> simp at h; trivial
  ·rename_i hu; cases e <;> simp at h; trivial
  ·rename_i s hu
   cases e <;> simp at h
   subst h;exact hw _ (by simp [DataW.weights])
  ·cases e <;> simp at h
   subst h;exact ⟨ik _,fun x hx=>by cases hx⟩
  ·rename_i E elems spare hu
   simp only [hu] at hp
   cases e with
   | slice e' =>
    simp only [aH] at hp h;have h1:=gy hp.2;obtain ⟨hl,hi⟩:=uq h;have h2:=hw ((elems.length+spare.length) * P.bytesOf E) (by simp [DataW.weights,hu]);have h3:elems.length≤reachBytes:=gQ (gQ (Nat.le_add_right _ _) (Nat.le_mul_of_pos_right _ h1)) h2;refine ⟨by rw [hl]; exact h3,fun y hy=>?_⟩;obtain ⟨i,hiy⟩:=sJ.1 hy
    have hlt:i<elems.length:=by rw [← hl]; exact (jh.1 hiy).1
    have:=hi i elems[i] (gH hlt);rw [hiy] at this
    exact kG T A K hT m k e' E _ y hp.1 this fun n hn=>hw n (by
     simp only [DataW.weights,hu,eO,lu]
     exact .inr (.inl (qm (zU hlt) n hn)))
   | _=>simp at h
  ·rename_i fs ds hu
   simp only [hu] at hp
   have h:ed (kY P m) e (fs.toList.map (·.type)) ds=some x:=by
    cases e <;> first | exact absurd rfl (hne _) | exact h
   exact qO (fun e t d x=>kG T A K hT m k e t d x) hp h fun n hn=>hw n (by simp only [DataW.weights,hu]; exact hn)
  ·rename_i q E ds hu
   simp only [hu] at hp;refine qO (fun e t d x=>kG T A K hT m k e t d x) hp h fun n hn=>hw n ?_;rw [nR q ds (by have:=pz h; simpa using this)] at hn;simp only [DataW.weights,hu]; exact hn
  cases h
end
end Go.iT
namespace Go.iT
open Go.RowKit
open Go.ChangeShapes Go.WideShapes Go.ChangeAt
open Go.Proofs.YtdapgmigogpdcaaGreatDoor
section
variable {P:Program} {H:Type} {enc:TypeId×Value→H}
theorem FU:∀ (m:Nat) (a k:Ty) (x:(oQ m a k).den),bulkT (oQ m a k) x=bulkT (.pair a k) (BR m a k x)
 | 0,_,_,_=>rfl
 | m+1,.pair a b,k,x=>by
  have:=FU m b k x.2;show bulkT a x.1+bulkT (oQ m b k) x.2=(bulkT a x.1+bulkT b _)+bulkT k _;rw [this];show _+(_+_)=_;rw [Nat.add_assoc]; rfl
 | _+1,.int _,_,_=>rfl
 | _+1,.bool,_,_=>rfl
 | _+1,.str,_,_=>rfl
 | _+1,.slice _,_,_=>rfl
 | _+1,.unit,_,_=>rfl
 | _+1,.tst _,_,_=>rfl
theorem lN:∀ (k:Nat) (e:Ty) (t:TypeId) (d:DataW H) (x:e.den),kY P k e t d=some x→bulkT e x≤Rows.uptoBulk d
 | 0,_,_,_,_,h=>by cases h
 | k+1,e,t,d,x,h=>by
  unfold kY at h
  split at h
  ·cases e <;> simp at h; simp [bulkT,Rows.uptoBulk]
  ·cases e <;> simp at h; simp [bulkT,Rows.uptoBulk]
  ·cases e <;> simp at h
   subst h; simp [bulkT,Rows.uptoBulk]
  ·cases e <;> simp at h
   subst h; simp [bulkT,Rows.uptoBulk]
  ·cases e with
   | slice e' =>
    simp only at h;have:=zO (fun d x=>lN k e' _ d x) h;simp only [bulkT,Rows.uptoBulk]; omega
   | _=>simp at h
  ·split at h
   ·obtain ⟨y,hy,rfl⟩:=gP.1 h;have:=vP (fun e t d x=>lN k e t d x) hy
    rename_i a
    rw [FU] at this;generalize BR _ a (.slice (.pair (.slice (.slice (.tst a))) (.slice (.int .u8)))) y=z at this
    have e1:bulkT (.tst a) (.mk z.1 z.2)=bulkT (.pair a (.slice (.pair (.slice (.slice (.tst a))) (.slice (.int .u8))))) z:=by
     show gL.sum (bulkT a) _=bulkT a z.1+((z.2.map (bulkT (.pair (.slice (.slice (.tst a))) (.slice (.int .u8))))).sum+1);rw [gL.sum,gL.Gd]; rfl
    rw [e1];simp only [Rows.uptoBulk]; omega
   have:=vP (fun e t d x=>lN k e t d x) h;simp only [Rows.uptoBulk]; omega
  ·have:=vP (fun e t d x=>lN k e t d x) h;simp only [Rows.uptoBulk]; omega
  cases h
theorem Ev {W:World} {t:TypeId} {v:Value} {d:DataW H} {ps:List MemPlace} {ds:List (DataW H)} (T:TypeId) (A:Ty) (k:Nat) (e:Ty) (hT:LX P T A k=true) (hT2:Gb P T A k=true) (hm:wZ P T A k e t=true) (hpos:Mo P T A k e t=true) (h:DataW.Trod enc P W 0 (fun _=>true) true t v d ps) (hw:∀ n ∈ d.weights P t,n≤reachBytes)
  (hu:Rows.uptoSmall H ds=true) (hd:d ∈ ds):∃ x:e.den,bE (eG W) e v.cells.toList x∧VS e x:=by
 obtain ⟨f,hf⟩:=h;obtain ⟨x,h1,h2,h3⟩:=GA W T A k hT true f k e t _ _ hm hf;exact ⟨x,h1,⟨h2,kG T A k hT2 f k e t d x hpos h3 hw⟩,gQ (lN f e t d x h3) (gQ (sZ hd) (df hu))⟩
end
end Go.iT
