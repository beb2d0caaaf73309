/-
 From a contract of a law's Go function to the law's row. No program in sight.
-/
import Derived.Test.YtdapgmigogpdcaaGreatDoorEng
import Derived.OpenShut
import Derived.WideKeyArgs
import Derived.Carry
import Derived.ChangeSame
import Derived.SizedLaws
namespace Go.iT
open Go.RowKit
open Go.ChangeShapes Go.WideShapes Go.ChangeAt
set_option linter.unusedVariables false
section
variable {H:Type} {enc:TypeId×Value→H} {P:Program}

def mJ (mt:Ty→TypeId→Bool) (P:Program):Ty→List (TypeId×Nat)→Nat→Bool
 | e,[(t,o)],off=>Nat.beq o off&&mt e t&&Nat.beq (P.cellsOf t) e.size
 | .pair a b,(t,o)::x::l,off=>Nat.beq o off&&mt a t&&Nat.beq (P.cellsOf t) a.size&&mJ mt P b (x::l) (off+a.size)
 | .unit,[],_=>true
 | _,_,_=>false

def Dn:IntKind→IntKind→Bool
 | .i8,.i8 | .i16,.i16 | .i32,.i32 | .i64,.i64 | .u8,.u8 | .u16,.u16 | .u32,.u32 | .u64,.u64=>true
 | _,_=>false
theorem zu {a b:IntKind} (h:Dn a b=true):a=b:=by cases a <;> cases b <;> first | rfl | cases h

def Hz (P:Program):Nat→Ty→TypeId→Bool
 | 0,_,_=>false
 | k+1,e,t =>
  match P.underlying t with
  | some .bool=>(match e with | .bool=>true | _=>false)
  | some (.int kd)=>(match e with | .int kd'=>Dn kd' kd | _=>false)
  | some .string=>(match e with | .str=>true | _=>false)
  | some (.slice E)=>(match e with | .slice e'=>Hz P k e' E&&Nat.beq (P.cellsOf E) e'.size&&Nat.ble 1 e'.size | _=>false)
  | some (.struct fs)=>mJ (Hz P k) P e (fs.toList.map fun f=>(f.type,f.offset)) 0&&Nat.beq (P.cellsOf t) e.size
  | some (.array n E)=>mJ (Hz P k) P e ((List.range n).map fun i=>(E,i * P.cellsOf E)) 0&&Nat.beq (P.cellsOf t) e.size
  | _=>false

theorem Ao {α:Type} (n:Nat) (p:Nat→α→Prop) (h:∀ i,i<n→∃ x,p i x):∃ l:List α,l.length=n∧∀ (i:Nat) (x:α),l[i]? = some x→p i x:=by
 induction n with
 | zero=>exact ⟨[],rfl,fun i x hx=>by simp at hx⟩
 | succ n ih =>
  obtain ⟨l,hl,hp⟩:=ih fun i hi=>h i om;obtain ⟨x,hx⟩:=h n om;refine ⟨l++[x],by simp [hl],fun i y hy=>?_⟩;rw [List.getElem?_append] at hy
  split at hy
  ·exact hp i y hy
  rename_i hge
  have hi:i=n:=by
   rcases Nat.lt_or_ge i (n+1) with h1 | h1
   ·omega
   rw [sK (by simp; omega)] at hy; cases hy
  subst hi;simp only [hl,Nat.sub_self,List.getElem?_cons_zero,jB] at hy;subst hy;exact hx

theorem uq {α β:Type} {f:α→Option β}:∀ {l:List α} {xs:List β},l.mapM f=some xs→xs.length=l.length∧∀ (i:Nat) (a:α),l[i]? = some a→f a=xs[i]?
 | [],xs,h=>by simp at h; subst h; simp
 | a::l,xs,h=>by
  rw [List.mapM_cons] at h
  cases ha:f a with
  | none=>simp [ha] at h
  | some b =>
   cases hl:l.mapM f with
   | none=>simp [ha,hl] at h
   | some ys =>
    simp [ha,hl] at h;subst h;obtain ⟨h1,h2⟩:=uq hl;refine ⟨by simp [h1],fun i c hc=>?_⟩
    cases i with
    | zero=>simp at hc; subst hc; simpa using ha
    | succ i=>simp at hc; simpa using h2 i c hc

theorem BF {W:World} {base:Nat} {a:Addr} {n:Nat} {cs:List Value} (h:W.cells? base a n=some cs):cs.length=n∧∀ j,j<n→W.cell? (a.add j)=cs[j]?:=by
 unfold World.cells? at h
 split at h
 ·obtain ⟨h1,h2⟩:=uq h;refine ⟨by simpa using h1,fun j hj=>h2 j j (by simp [hj])⟩
 cases h

def Jp:(t:Ty)→t.den→Prop
 | .int k,x=>(Lit.int k x).wf=true
 | .bool,_=>True
 | .str,s=>s.length≤maxLen
 | .slice e,xs=>xs.length≤maxLen∧∀ x ∈ xs,Jp e x
 | .pair a b,x=>Jp a x.1∧Jp b x.2
 | .unit,_=>True
 | .tst a,x=>x.All fun y l=>Jp a y∧l.length≤maxLen∧∀ q ∈ l,(q.1.length≤maxLen∧∀ s ∈ q.1,s.length≤maxLen)∧(q.2.length≤maxLen∧∀ z ∈ q.2,(Lit.int .u8 z).wf=true)

def ed (f:(e:Ty)→TypeId→DataW H→Option e.den):(e:Ty)→List TypeId→List (DataW H)→Option e.den
 | e,[t],[d]=>f e t d
 | .pair a b,t::ts,d::ds=>(f a t d).bind fun x=>(ed f b ts ds).map fun y=>(x,y)
 | .unit,[],[]=>some ()
 | _,_,_=>none
def fromD (P:Program):Nat→(e:Ty)→TypeId→DataW H→Option e.den
 | 0,_,_,_=>none
 | k+1,e,t,d =>
  match P.underlying t,d with
  | some .bool,.lit (.bool b)=>(match e with | .bool=>some b | _=>none)
  | some (.int _),.lit (.int _ n)=>(match e with | .int _=>some n | _=>none)
  | some .string,.lit (.string s)=>(match e with | .str=>some s | _=>none)
  | some (.slice _),.nil=>(match e with | .slice _=>some [] | _=>none)
  | some (.slice E),.slice es _=>(match e with | .slice e'=>es.mapM (fromD P k e' E) | _=>none)
  | some (.struct fs),.agg ds=>ed (fromD P k) e (fs.toList.map (·.type)) ds
  | some (.array n E),.agg ds=>ed (fromD P k) e (List.replicate n E) ds
  | _,_=>none

theorem HV {α β:Type} {f:α→Option β}:∀ {l:List α} {xs:List β},xs.length=l.length→(∀ (i:Nat) (a:α) (x:β),l[i]? = some a→xs[i]? = some x→f a=some x)→l.mapM f=some xs
 | [],[],_,_=>by simp
 | [],_::_,h,_=>by simp at h
 | _::_,[],h,_=>by simp at h
 | a::l,x::xs,h,hf=>by
  rw [List.mapM_cons,hf 0 a x rfl rfl,HV (l:=l) (xs:=xs) (by simpa using h) fun i b y hb hy=>hf (i+1) b y (by simpa using hb) (by simpa using hy)];rfl
theorem Ad (W:World):∀ (k:Nat) (e:Ty) (t:TypeId) (cs:List Value) (fuel:Nat) (hd:Bool) (y:DataW H×List MemPlace),Hz P k e t=true→DataW.trod enc P W 0 (fun _=>true) hd fuel t cs=some y →
  ∃ x:e.den,bE (eG W) e cs x∧Jp e x∧fromD P k e t y.1=some x:=by
 intro k
 induction k with
 | zero=>intro e t cs fuel hd y hm; cases hm
 | succ k ih =>
  intro e t cs fuel hd y hm hy
  -- the fields of a struct,the elements of an array
  have fields:∀ (e:Ty) (l:List (TypeId×Nat)) (ds:List (DataW H)) (off:Nat),mJ (Hz P k) P e l off=true→cs.length=off+e.size→ds.length=l.length →
    (∀ (i:Nat) (t:TypeId) (o:Nat) (d:DataW H),l[i]? = some (t,o)→ds[i]? = some d→∃ f y,DataW.trod enc P W 0 (fun _=>true) hd f t ((cs.drop o).take (P.cellsOf t))=some y∧y.1=d) →
    ∃ x:e.den,bE (eG W) e (cs.drop off) x∧Jp e x∧ed (fromD P k) e (l.map (·.1)) ds=some x:=by
   intro e l
   induction l generalizing e with
   | nil =>
    intro ds off h hl hds _;have hds:ds=[]:=iO (by simpa using hds);subst hds
    cases e <;> simp [mJ] at h
    refine ⟨(),?_,trivial,by simp [ed]⟩;simp only [bE,List.drop_eq_nil_iff];simp [Ty.size] at hl;omega
   | cons to l ihl =>
    intro ds off h hl hds hall;obtain ⟨t,o⟩:=to
    cases l with
    | nil =>
     obtain ⟨d,rfl⟩:∃ d,ds=[d]:=by
      match ds,hds with
      | [d],_=>exact ⟨d,rfl⟩
     have h':(Nat.beq o off&&Hz P k e t&&Nat.beq (P.cellsOf t) e.size)=true:=by
      cases e <;> simpa only [mJ] using h
     rw [aH,aH] at h';obtain ⟨⟨ho,hmt⟩,hs⟩:=h';have ho:=iW ho;have hs:=iW hs;subst ho;obtain ⟨f,y,hy,hyd⟩:=hall 0 t o d rfl rfl;obtain ⟨x,hx,UI,hfd⟩:=ih e t _ f hd y hmt hy;rw [hs,jU (by simp; omega)] at hx;refine ⟨x,hx,UI,?_⟩;rw [← hyd];simp only [jL,qH];unfold ed;exact hfd
    | cons z l =>
     cases e with
     | pair a b =>
      simp only [mJ,aH] at h;obtain ⟨⟨⟨ho,hmt⟩,hs⟩,hrest⟩:=h;have ho:=iW ho;have hs:=iW hs;subst ho
      obtain ⟨d,d2,ds,rfl⟩:∃ d d2 ds',ds=d::d2::ds':=by
       match ds,hds with
       | d::d2::ds',_=>exact ⟨d,d2,ds',rfl⟩
      obtain ⟨f,y,hy,hyd⟩:=hall 0 t o d rfl rfl;obtain ⟨x1,hx1,hd1,hf1⟩:=ih a t _ f hd y hmt hy;obtain ⟨x2,hx2,hd2,hf2⟩:=ihl b (d2::ds) (o+a.size) hrest (by simp [Ty.size] at hl ⊢; omega) (by simpa using hds) fun i t' o' d' hi hdi=>hall (i+1) t' o' d' (by simpa using hi) (by simpa using hdi);refine ⟨(x1,x2),⟨(cs.drop o).take a.size,cs.drop (o+a.size),?_,by rw [← hs]; exact hx1,hx2⟩,⟨hd1,hd2⟩,by rw [hyd] at hf1; simp only [jL,ed,hf1,Option.bind_some] at hf2 ⊢; rw [hf2]; rfl⟩;rw [← xz,uR]
     | _=>simp [mJ] at h
  unfold Hz at hm
  split at hm
  ·rename_i hu
   cases e <;> simp at hm
   obtain ⟨b,rfl,rfl⟩:=DataW.trod_bool hu hy;exact ⟨b,rfl,trivial,by simp [fromD,hu]⟩
  ·rename_i kd hu
   cases e <;> simp only [zY] at hm
   obtain rfl:=zu hm;obtain ⟨n,rfl,rfl,hw⟩:=DataW.trod_int hu hy;exact ⟨n,rfl,hw,by simp [fromD,hu]⟩
  ·rename_i hu
   cases e <;> simp at hm
   obtain ⟨s,rfl,rfl,hs⟩:=DataW.trod_string hu hy;exact ⟨s.data.toList,rfl,hs,by simp [fromD,hu]⟩
  ·rename_i E hu
   cases e with
   | slice e' =>
    simp only [aH] at hm;obtain ⟨⟨hmt,hs⟩,h1⟩:=hm;have hs:=iW hs;have h1:=gy h1
    rcases DataW.trod_slice hu hy with ⟨rfl,rfl⟩ | ⟨a,len,cap,elems,rest,n,_,rfl,rfl,-,hlc,hcm,hel,hall,-⟩
    ·exact ⟨[],⟨none,0,rfl,by simp,fun i x hx=>by simp at hx⟩,⟨by simp,fun x hx=>by simp at hx⟩,by simp [fromD,hu]⟩
    have each:∀ i,i<len→∃ x:e'.den,(Jp e' x∧∀ d,elems[i]? = some d→fromD P k e' E d.1=some x)∧∃ b off,a=⟨b,off,none⟩∧∃ jC,jC.length=e'.size∧At (eG W) b (off+i * e'.size) jC∧bE (eG W) e' jC x:=by
     intro i hi
     have hspot:∃ b off,a=⟨b,off,none⟩:=by
      have h0:=hall 0 om;rw [gH om] at h0;obtain ⟨cs0,hc0,_⟩:=uP.1 h0;obtain ⟨hl0,hcell⟩:=BF hc0;have:=hcell 0 om;rw [gH om] at this;obtain ⟨b,off,sp⟩:=a
      cases sp with
      | none=>exact ⟨b,off,rfl⟩
      | some s =>
       simp only [xm,Addr.add,if_true] at this;simp only [World.cell?] at this
       split at this <;> simp at this
     obtain ⟨b,off,rfl⟩:=hspot;have h0:=hall i hi;rw [gH om] at h0;obtain ⟨csi,hci,hti⟩:=uP.1 h0;obtain ⟨hli,hcell⟩:=BF hci;obtain ⟨x,hx,UI,hfd⟩:=ih e' E csi n hd _ hmt hti;refine ⟨x,⟨UI,fun d hdd=>by rw [gH om] at hdd; injection hdd with hdd; rw [← hdd]; exact hfd⟩,b,off,rfl,csi,by rw [hli,hs],fun j v hj=>?_,hx⟩
     have hjl:j<P.cellsOf E:=by rw [← hli]; exact (jh.1 hj).1
     have:=hcell j hjl;rw [Addr.add_plain,Addr.add_plain,hs] at this;rw [qD,this,hj]
    obtain ⟨xs,hxl,hxs⟩:=Ao len _ each;subst hxl;refine ⟨xs,⟨some a,cap,rfl,⟨om,om⟩,fun i x hx=>?_⟩,⟨om,fun x hx=>?_⟩,?_⟩
    ·obtain ⟨-,b,off,ha,hr⟩:=hxs i x hx;exact ⟨b,off,by rw [ha],hr⟩
    ·obtain ⟨i,hi⟩:=sJ.1 hx;exact (hxs i x hi).1.1
    simp only [fromD,hu];refine HV (by simp [hel]) fun i d x hdi hxi=>?_;rw [iZ,gP] at hdi;obtain ⟨p,hp,rfl⟩:=hdi;exact (hxs i x hxi).1.2 p hp
   | _=>simp at hm
  ·rename_i fs hu
   rw [aH] at hm;obtain ⟨hf,hs⟩:=hm;have hs:=iW hs;obtain ⟨xs,n,-,rfl,hl,hxl,hall⟩:=DataW.trod_struct hu hy
   have:=fields e _ (xs.map (·.1)) 0 hf om (by simp [hxl]) fun i t o d hi hd=>by
    rw [iZ,gP] at hi;obtain ⟨f,hf1,hf2⟩:=hi;simp only [qF] at hf2;obtain ⟨rfl,rfl⟩:=hf2
    have hfa:fs[i]? = some f:=by simpa using hf1
    have:=hall i f hfa;rw [iZ,gP] at hd;obtain ⟨p,hp,rfl⟩:=hd;rw [hp] at this;exact ⟨n,_,this,rfl⟩
   rw [gm,List.map_map] at this;obtain ⟨x,h1,h2,h3⟩:=this;exact ⟨x,h1,h2,by simp only [fromD,hu]; exact h3⟩
  ·rename_i n E hu
   rw [aH] at hm;obtain ⟨hf,hs⟩:=hm;have hs:=iW hs;obtain ⟨xs,m,-,rfl,hl,hxl,hall⟩:=DataW.trod_array hu hy
   have:=fields e _ (xs.map (·.1)) 0 hf om (by simp [hxl]) fun i t o d hi hd=>by
    rw [iZ,gP] at hi;obtain ⟨j,hj1,hj2⟩:=hi
    have hij:i=j∧i<n:=by
     obtain ⟨hlt,he⟩:=jh.1 hj1;simp at hlt he;exact ⟨he,hlt⟩
    obtain ⟨rfl,hin⟩:=hij;simp only [qF] at hj2;obtain ⟨rfl,rfl⟩:=hj2;have:=hall i hin;rw [iZ,gP] at hd;obtain ⟨p,hp,rfl⟩:=hd;rw [hp] at this;exact ⟨m,_,this,rfl⟩
   rw [gm,List.map_map] at this;obtain ⟨x,h1,h2,h3⟩:=this;refine ⟨x,h1,h2,?_⟩;simp only [fromD,hu]
   have e1:(List.range n).map ((fun x:TypeId×Nat=>x.1) ∘ fun i=>(E,i * P.cellsOf E))=List.replicate n E:=by
    apply zX;intro i;rw [iZ,List.getElem?_replicate]
    by_cases hi:i<n
    ·simp [hi]
    simp [hi]
   rw [← e1]; exact h3
  cases hm

def Small:(t:Ty)→t.den→Prop
 | .str,s=>s.length≤reachBytes
 | .slice e,xs=>xs.length≤reachBytes∧∀ x ∈ xs,Small e x
 | .pair a b,x=>Small a x.1∧Small b x.2
 | .int _,_=>True
 | .bool,_=>True
 | .unit,_=>True
 | .tst a,x=>x.All fun y l=>Small a y∧l.length≤reachBytes∧∀ q ∈ l,(q.1.length≤reachBytes∧∀ s ∈ q.1,s.length≤reachBytes)∧q.2.length≤reachBytes
def yf (f:Ty→TypeId→Bool):Ty→List TypeId→Bool
 | e,[t]=>f e t
 | .pair a b,t::ts=>f a t&&yf f b ts
 | _,_=>true
def QD (P:Program):Nat→Ty→TypeId→Bool
 | 0,_,_=>false
 | k+1,e,t =>
  match P.underlying t with
  | some (.slice E)=>(match e with | .slice e'=>QD P k e' E&&Nat.ble 1 (P.bytesOf E) | _=>false)
  | some (.struct fs)=>yf (QD P k) e (fs.toList.map (·.type))
  | some (.array n E)=>yf (QD P k) e (List.replicate n E)
  | _=>true
theorem qm {E:TypeId}:∀ {l:List (DataW H)} {d:DataW H},d ∈ l→∀ n ∈ d.weights P E,n ∈ DataW.weightsAll P E l
 | [],_,h,_,_=>by cases h
 | x::l,d,h,n,hn=>by
  simp only [DataW.weightsAll,lu]
  rcases eO.1 h with rfl | h
  ·exact .inl hn
  exact .inr (qm h n hn)
theorem nR {E:TypeId}:∀ (n:Nat) (l:List (DataW H)),n=l.length→DataW.weightsEach P (List.replicate n E) l=DataW.weightsAll P E l
 | 0,[],_=>rfl
 | 0,_::_,h=>by simp at h
 | n+1,[],h=>by simp at h
 | n+1,d::l,h=>by simp only [zR,DataW.weightsEach,DataW.weightsAll,nR n l (by simpa using h)]
theorem Al {f:(e:Ty)→TypeId→DataW H→Option e.den} {a b:Ty} {t t2:TypeId} {ts:List TypeId} {d d2:DataW H} {ds:List (DataW H)} {x:(Ty.pair a b).den} (h:ed f (.pair a b) (t::t2::ts) (d::d2::ds)=some x) :
  ∃ x1 y,f a t d=some x1∧ed f b (t2::ts) (d2::ds)=some y∧x=(x1,y):=by
 simp only [ed] at h;obtain ⟨x1,h1,h2⟩:=uP.1 h;obtain ⟨y,h3,h4⟩:=gP.1 h2;exact ⟨x1,y,h1,h3,h4.symm⟩
theorem pz {f:(e:Ty)→TypeId→DataW H→Option e.den}:∀ {e:Ty} {ts:List TypeId} {ds:List (DataW H)} {x:e.den},ed f e ts ds=some x→ts.length=ds.length
 | e,[],[],_,_=>rfl
 | e,[],_::_,_,h=>by cases e <;> simp [ed] at h
 | e,[t],[d],_,_=>rfl
 | e,[t],[],_,h=>by cases e <;> simp [ed] at h
 | e,_::_::_,[],_,h=>by cases e <;> simp [ed] at h
 | e,[t],_::_::_,_,h=>by cases e <;> simp [ed] at h
 | e,t::t2::ts,[d],_,h=>by cases e <;> simp [ed] at h
 | .pair a b,t::t2::ts,d::d2::ds,_,h=>by
  obtain ⟨x1,y,_,h2,_⟩:=Al h;have:=pz h2;simpa using this
 | .int _,t::t2::ts,d::d2::ds,_,h=>by simp [ed] at h
 | .bool,t::t2::ts,d::d2::ds,_,h=>by simp [ed] at h
 | .str,t::t2::ts,d::d2::ds,_,h=>by simp [ed] at h
 | .slice _,t::t2::ts,d::d2::ds,_,h=>by simp [ed] at h
 | .unit,t::t2::ts,d::d2::ds,_,h=>by simp [ed] at h
 | .tst _,t::t2::ts,d::d2::ds,_,h=>by simp [ed] at h
theorem qO {f:(e:Ty)→TypeId→DataW H→Option e.den} {p:Ty→TypeId→Bool} (hf:∀ (e:Ty) (t:TypeId) (d:DataW H) (x:e.den),p e t=true→f e t d=some x→(∀ n ∈ d.weights P t,n≤reachBytes)→Small e x) :
  ∀ {e:Ty} {ts:List TypeId} {ds:List (DataW H)} {x:e.den},yf p e ts=true→ed f e ts ds=some x→(∀ n ∈ DataW.weightsEach P ts ds,n≤reachBytes)→Small e x
 | e,[],[],x,_,h,_=>by cases e <;> simp [ed] at h; trivial
 | e,[],_::_,_,_,h,_=>by cases e <;> simp [ed] at h
 | e,[t],[],_,_,h,_=>by cases e <;> simp [ed] at h
 | e,[t],[d],x,hp,h,hw=>by
  have hp:p e t=true:=by cases e <;> simpa [yf] using hp
  have h:f e t d=some x:=by cases e <;> simpa [ed] using h
  exact hf e t d x hp h fun n hn=>hw n (by simp only [DataW.weightsEach,gK]; exact hn)
 | e,[t],d::d2::ds,x,hp,h,hw=>by have:=pz h; simp at this
 | e,t::t2::ts,[],_,_,h,_=>by cases e <;> simp [ed] at h
 | e,t::t2::ts,d::ds,x,hp,h,hw=>by
  cases ds with
  | nil=>have:=pz h; simp at this
  | cons d2 ds =>
   cases e with
   | pair a b =>
    obtain ⟨x1,y,h1,h2,rfl⟩:=Al h;simp only [yf,aH] at hp;exact ⟨hf _ t d x1 hp.1 h1 fun n hn=>hw n (by simp only [DataW.weightsEach,lu]; exact .inl hn),qO hf hp.2 h2 fun n hn=>hw n (by simp only [DataW.weightsEach,lu] at hn ⊢; exact .inr hn)⟩
   | _=>simp [ed] at h
theorem mD:∀ (k:Nat) (e:Ty) (t:TypeId) (d:DataW H) (x:e.den),QD P k e t=true→fromD P k e t d=some x→(∀ n ∈ d.weights P t,n≤reachBytes)→Small e x
 | 0,_,_,_,_,h,_,_=>by cases h
 | k+1,e,t,d,x,hp,h,hw=>by
  unfold QD at hp;unfold fromD at h
  split at h
  ·rename_i hu; cases e <;> simp at h; trivial
  ·rename_i hu; cases e <;> simp at h; trivial
  ·rename_i s hu
   cases e <;> simp at h
   subst h;exact hw _ (by simp [DataW.weights])
  ·cases e <;> simp at h
   subst h;exact ⟨ik _,fun x hx=>by cases hx⟩
  ·rename_i E elems spare hu
   simp only [hu] at hp
   cases e with
   | slice e' =>
    simp only [aH] at hp h;have h1:=gy hp.2;obtain ⟨hl,hi⟩:=uq h;have h2:=hw ((elems.length+spare.length) * P.bytesOf E) (by simp [DataW.weights,hu]);have h3:elems.length≤reachBytes:=gQ (gQ (Nat.le_add_right _ _) (Nat.le_mul_of_pos_right _ h1)) h2;refine ⟨by rw [hl]; exact h3,fun y hy=>?_⟩;obtain ⟨i,hiy⟩:=sJ.1 hy
    have hlt:i<elems.length:=by rw [← hl]; exact (jh.1 hiy).1
    have:=hi i elems[i] (gH hlt);rw [hiy] at this
    exact mD k e' E _ y hp.1 this fun n hn=>hw n (by
     simp only [DataW.weights,hu,eO,lu]
     exact .inr (.inl (qm (zU hlt) n hn)))
   | _=>simp at h
  ·rename_i fs ds hu
   simp only [hu] at hp;exact qO (fun e t d x=>mD k e t d x) hp h fun n hn=>hw n (by simp only [DataW.weights,hu]; exact hn)
  ·rename_i m E ds hu
   simp only [hu] at hp;refine qO (fun e t d x=>mD k e t d x) hp h fun n hn=>hw n ?_;rw [nR m ds (by have:=pz h; simpa using this)] at hn;simp only [DataW.weights,hu]; exact hn
  cases h

def ase (e:Ty) (x:e.den):Prop:=Jp e x∧Small e x
theorem EN {ts:List TypeId} {ds:List (DataW H)} (h:(DataW.weightsEach P ts ds).all (·≤reachBytes)=true) (j:Nat) {t:TypeId} {d:DataW H} (ht:ts[j]? = some t) (hd:ds[j]? = some d):∀ n ∈ d.weights P t,n≤reachBytes:=fun n hn=>by
 have:=l7.1 h n (DataW.weights_mem_each ht hd n hn);simpa using this

theorem Jp.i64 {x:Int} (h:Jp (.int .i64) x) : -9223372036854775808≤x∧x≤9223372036854775807:=by
 have h':(Lit.int .i64 x).wf=true:=h;simp only [Lit.wf,IntKind.min,IntKind.max,IntKind.signed,IntKind.bits,aH,dI,if_true] at h';omega

theorem TrodAll.stays (hl:laidOutB P=true) {W W':World} {sp:Nat→Bool}:∀ {ts:List TypeId} {vs:List Value} {ds:List (DataW H)} {ps:List MemPlace},(∀ t ∈ ts,P.readableRec t=true∧t<P.types.size) →
  DataW.TrodAll enc P W 0 (fun _=>true) true ts vs ds ps→(∀ p ∈ ps,W.sameAt W' p)→(∀ p ∈ ps,sp p.block=true)→DataW.TrodAll enc P W' 0 sp true ts vs ds ps
 | [],[],[],_,_,h,_,_=>h
 | [],[],_::_,_,_,h,_,_=>h.elim
 | [],_::_,_,_,_,h,_,_=>h.elim
 | _::_,[],_,_,_,h,_,_=>h.elim
 | _::_,_::_,[],_,_,h,_,_=>h.elim
 | t::ts,v::vs,d::ds,ps,ht,⟨p,q,h1,h2,e⟩,hs,hsp =>
  ⟨p,q,WideElems.Trod_stays hl (ht t (cz ..)).1 (ht t (cz ..)).2 h1 (fun x hx=>hs x (by rw [e]; exact List.mem_append_left _ hx)) (fun x hx=>hsp x (by rw [e]; exact List.mem_append_left _ hx)),
   TrodAll.stays hl (fun t' h'=>ht t' (dK _ h')) h2 (fun x hx=>hs x (by rw [e]; exact List.mem_append_right _ hx)) (fun x hx=>hsp x (by rw [e]; exact List.mem_append_right _ hx)),e⟩

theorem TrodAll.length {W:World} {sp:Nat→Bool} {hd:Bool} {b:Nat}:∀ {ts:List TypeId} {vs:List Value} {ds:List (DataW H)} {ps:List MemPlace},DataW.TrodAll enc P W b sp hd ts vs ds ps→ds.length=ts.length
 | [],[],[],_,_=>rfl
 | [],[],_::_,_,h=>h.elim
 | [],_::_,_,_,h=>h.elim
 | _::_,[],_,_,h=>h.elim
 | _::_,_::_,[],_,h=>h.elim
 | _::_,_::_,_::_,_,⟨_,_,_,h2,_⟩=>by simp [TrodAll.length h2]

end
end Go.iT
