/- match: what the document says of a node and a path, plain: it is what the program finds from behind. -/
import Derived.Test.YtdapgmigogpdcaaGreatDoorMae
namespace Go.Proofs.YtdapgmigogpdcaaGreatDoor.Ma
open Go Go.Eng Go.RowKit Ti Do Se Sr Css
set_option linter.unusedVariables false
noncomputable section
/-! how one stands to another one -/
def stN (l:List ND):Nat→Int→Int→Bool
 | 0,_,_=>false
 | k+1,p,a=>if decide (p≥0)=true then (if (p==a)=true then true else stN l k (par l p.toNat) a) else false
def sb2 (j b:Int):List Int→Bool→Bool
 | [],_=>false
 | x::l,f=>if (x==b&&(j==126||f))=true then true else sb2 j b l false
def sb1 (j a b:Int):List Int→Bool
 | []=>false
 | x::l=>if (x==a&&sb2 j b l true)=true then true else sb1 j a b l
def staS (d:DC) (a b j:Int):Bool :=
 if (j==62)=true then par d.1 b.toNat==a else if (j==32)=true then stN d.1 42 (par d.1 b.toNat) a else sb1 j a b (kinL d b)
theorem el_pos {d:DC} (hG:DGood d) {a:Int} (ha:inD d a) (he:melS d a=true):0<a:=by
 have h0:=ha.1
 apply Classical.byContradiction
 intro hn
 have:a=0:=by omega
 subst this
 have h1:=hG.kind 0 (by have:=hG.pos; omega)
 have h1:((d.1.getD 0 default).1==1)=true:=h1
 have h2:((d.1.getD 0 default).1==2)=true:=he
 have h1:=eq_of_beq h1
 have h2:=eq_of_beq h2
 omega
theorem anc_iff {l:List ND} (hr:par l 0 = -1) {a:Int} (ha:0<a):∀ (k:Nat) (p:Int),stN l k p a=true↔a ∈ ancN l k p
 | 0,p=>by simp [stN,ancN]
 | k+1,p=>by
  rw [stN,ancN]
  by_cases hp:p>0
  ·rw [if_pos (decide_eq_true (by omega)),if_pos (decide_eq_true hp),List.mem_cons]
   by_cases hpa:p=a
   ·simp [hpa]
   rw [if_neg (by simp [hpa]),anc_iff hr ha k]
   constructor
   ·exact .inr
   rintro (h | h)
   ·exact absurd h.symm hpa
   exact h
  rw [if_neg (show ¬ decide (p>0)=true by simpa using hp)]
  by_cases h0:p=0
  ·subst h0
   rw [if_pos (by decide),if_neg (by simp; omega),show par l (0:Int).toNat = -1 from hr]
   cases k with
   | zero=>simp [stN]
   | succ k=>rw [stN,if_neg (by decide)]; simp
  rw [if_neg (by simp; omega)]; simp
theorem sb2_no {j b:Int}:∀ {l:List Int} {f:Bool},b ∉ l→sb2 j b l f=false
 | [],_,_=>rfl
 | x::l,f,h=>by
  have hx:¬ x=b:=fun e=>h (by rw [e]; exact List.mem_cons_self ..)
  have hf:(x==b)=false:=beq_eq_false_iff_ne.2 hx
  rw [sb2,hf,Bool.false_and,if_neg (by decide)]
  exact sb2_no fun hm=>h (List.mem_cons_of_mem _ hm)
theorem sb1_no {j a b:Int}:∀ {l:List Int},b ∉ l→sb1 j a b l=false
 | [],_=>rfl
 | x::l,h=>by
  have hm:b ∉ l:=fun hm=>h (List.mem_cons_of_mem _ hm)
  rw [sb1,sb2_no hm,Bool.and_false,if_neg (by decide)]
  exact sb1_no hm
theorem sb2_mem {j b:Int} {post:List Int} (hq:b ∉ post):∀ {pre:List Int} {f:Bool},b ∉ pre→sb2 j b (pre++b::post) f=(j==126||(f&&pre.isEmpty))
 | [],f,_=>by
  rw [List.nil_append,sb2,beq_self_eq_true,Bool.true_and,List.isEmpty_nil,Bool.and_true]
  cases h:(j==126||f) with
  | true=>rw [if_pos rfl]
  | false=>rw [if_neg (by decide),sb2_no hq]
 | x::pre,f,h=>by
  have hx:¬ x=b:=fun e=>h (by rw [e]; exact List.mem_cons_self ..)
  have hf:(x==b)=false:=beq_eq_false_iff_ne.2 hx
  rw [List.cons_append,sb2,hf,Bool.false_and,if_neg (by decide),sb2_mem hq fun hm=>h (List.mem_cons_of_mem _ hm)]
  simp
theorem sb1_mem {j a b:Int} {post:List Int} (hq:b ∉ post):∀ {pre:List Int},b ∉ pre→(sb1 j a b (pre++b::post)=true↔if (j==126)=true then a ∈ pre else pre.getLast? = some a)
 | [],_=>by
  rw [List.nil_append,sb1,sb2_no hq,Bool.and_false,if_neg (by decide),sb1_no hq]
  simp
 | x::pre,h=>by
  have hm:b ∉ pre:=fun hm=>h (List.mem_cons_of_mem _ hm)
  rw [List.cons_append,sb1,sb2_mem hq hm,Bool.true_and]
  have ih:=sb1_mem (j:=j) (a:=a) hq hm
  by_cases hj:(j==126)=true
  ·rw [if_pos hj] at ih ⊢
   rw [hj,Bool.true_or,Bool.and_true,List.mem_cons]
   by_cases hx:x=a
   ·simp [hx]
   rw [if_neg (by simp [hx]),ih]
   constructor
   ·exact .inr
   rintro (h | h)
   ·exact absurd h.symm hx
   exact h
  rw [if_neg hj] at ih ⊢
  rw [Bool.eq_false_iff.2 hj,Bool.false_or]
  cases pre with
  | nil =>
   rw [List.nil_append] at ih ⊢
   have hn:sb1 j a b (b::post)=false:=by
    rw [sb1,sb2_no hq,Bool.and_false,if_neg (by decide),sb1_no hq]
   rw [hn]
   simp
  | cons y pre =>
   rw [List.isEmpty_cons,Bool.and_false,if_neg (by decide),ih,List.getLast?_cons_cons]
theorem idxN_pre {b:Int} {post:List Int}:∀ {pre:List Int} (i:Nat),b ∉ pre→idxN (fun x=>b==x) (pre++b::post) i=((i+pre.length:Nat):Int)
 | [],i,_=>by rw [List.nil_append,idxN,if_pos (beq_self_eq_true b)]; rfl
 | x::pre,i,h=>by
  have hx:¬ b=x:=fun e=>h (by rw [e]; exact List.mem_cons_self ..)
  rw [List.cons_append,idxN,if_neg (by simp [hx]),idxN_pre (i+1) fun hm=>h (List.mem_cons_of_mem _ hm),List.length_cons]
  congr 1; omega
theorem kin_nodup {d:DC} (hG:DGood d) {n:Int} (hn:inD d n):(kinL d n).Nodup:=by
 unfold kinL
 split
 ·simp
 rename_i hc
 have hc:¬ par d.1 n.toNat<0:=by simpa using hc
 have hp:=par_in hG hn hc
 exact (hG.kids.nodup _ (by have:=hp.1; have:=hp.2; omega)).filter _
theorem kin_split {d:DC} (hG:DGood d) {n:Int} (hn:inD d n) (he:melS d n=true):∃ pre post,kinL d n=pre++n::post∧n ∉ pre∧n ∉ post∧(kinS d n).2=(pre.length:Int):=by
 have hm:=kin_mem hG hn he
 have hd:=kin_nodup hG hn
 obtain ⟨pre,post,e⟩:=List.append_of_mem hm
 rw [e] at hd
 have h1:=List.nodup_append.1 hd
 have h2:n ∉ pre:=fun h=>h1.2.2 n h n (List.mem_cons_self ..) rfl
 have h3:n ∉ post:=(List.nodup_cons.1 h1.2.1).1
 refine ⟨pre,post,e,h2,h3,?_⟩
 show (if decide (par d.1 n.toNat<0)=true then (0:Int) else idxN (fun x=>n==x) (kinL d n) 0)=_
 split
 ·rename_i hc
  unfold kinL at e
  rw [if_pos hc] at e
  cases pre with
  | nil=>rfl
  | cons x pre =>
   have:=congrArg List.length e
   simp at this
 rw [e,idxN_pre 0 h2,Nat.zero_add]
theorem joins4 {j:Int} (h:jnB j=true):j=32∨j=62∨j=43∨j=126:=by
 unfold jnB hbyS at h
 simp only [List.any_cons,List.any_nil,Bool.or_false,Bool.or_eq_true,beq_iff_eq] at h
 rcases h with h | h | h | h
 ·exact .inl (by rw [← h]; rfl)
 ·exact .inr (.inl (by rw [← h]; rfl))
 ·exact .inr (.inr (.inl (by rw [← h]; rfl)))
 exact .inr (.inr (.inr (by rw [← h]; rfl)))
theorem mem_take1 {l:List Int} {a:Int}:a ∈ l.take 1↔l.head? = some a:=by
 cases l with
 | nil=>simp
 | cons x l=>simp [eq_comm]
theorem stands_next {d:DC} (hG:DGood d) {a b j:Int} (hb:inD d b) (heb:melS d b=true) (ha:inD d a) (hea:melS d a=true) (hj:jnB j=true):staS d a b j=true↔a ∈ mnxS d b j:=by
 have h0:=el_pos hG ha hea
 have hsib:∀ j:Int,(j==62)=false→(j==32)=false→(staS d a b j=true↔if (j==126)=true then a ∈ (kinS d b).1.take (kinS d b).2.toNat else ((kinS d b).1.take (kinS d b).2.toNat).getLast? = some a):=by
  intro j h1 h2
  unfold staS
  rw [if_neg (by rw [h1]; decide),if_neg (by rw [h2]; decide)]
  obtain ⟨pre,post,e,p1,p2,e2⟩:=kin_split hG hb heb
  have e1:(kinS d b).1=pre++b::post:=e
  rw [e1,e2,e,tnc,List.take_left',sb1_mem p2 p1]
  rfl
 rcases joins4 hj with rfl | rfl | rfl | rfl
 ·unfold staS mnxS
  rw [if_neg (by decide),if_pos (by decide),if_pos (by decide),if_neg (by decide)]
  exact anc_iff hG.kids.root h0 42 _
 ·unfold staS mnxS
  rw [if_pos (by decide),if_pos (by decide),if_pos (by decide),mem_take1,beq_iff_eq]
  show _↔(ancN d.1 42 (par d.1 b.toNat)).head? = some a
  rw [ancN]
  split
  ·rw [List.head?_cons,Option.some.injEq]
  rename_i hc
  have hc:¬ par d.1 b.toNat>0:=by simpa using hc
  constructor
  ·intro h; omega
  intro h; cases h
 ·rw [hsib 43 (by decide) (by decide),if_neg (by decide)]
  unfold mnxS
  rw [if_neg (by decide),if_pos (by decide),mem_take1,List.head?_reverse]
 rw [hsib 126 (by decide) (by decide),if_pos (by decide)]
 unfold mnxS
 rw [if_neg (by decide),if_neg (by decide),List.mem_reverse]
/-! paths from the left -/
def rng (d:DC):List Int:=(List.range d.1.length).map fun (i:Nat)=>(i:Int)
theorem rng_mem {d:DC} {n:Int}:n ∈ rng d↔inD d n:=by
 unfold rng inD
 rw [List.mem_map]
 constructor
 ·rintro ⟨i,hi,rfl⟩
  have:=List.mem_range.1 hi
  omega
 rintro ⟨h1,h2⟩
 exact ⟨n.toNat,List.mem_range.2 (by omega),by omega⟩
def nowS (d:DC):List (Int→Bool)→List Int→List Int→List Int
 | [],_,now=>now
 | f::fs,js,now=>nowS d fs js.tail ((rng d).filter fun i=>(now.any fun m=>staS d m i (js.headD 0))&&f i)
theorem rch_head {nx:Int→Int→List Int} {d:DC} {fs:List (Int→Bool)} {js:List Int} {n:Int} (hf:∀ f ∈ fs,∀ n,f n=true→melS d n=true) (h:rch nx fs js n=true):melS d n=true:=by
 cases fs with
 | nil=>exact Bool.noConfusion h
 | cons f fs =>
  rw [rch,Bool.and_eq_true] at h
  exact hf f (List.mem_cons_self ..) n h.1
theorem now_rch {d:DC} (hG:DGood d):∀ (fs:List (Int→Bool)) (js:List Int) (now:List Int) (gs:List (Int→Bool)) (ks:List Int),fs.length=js.length→(∀ z ∈ js,jnB z=true)→(∀ f ∈ fs,∀ n,f n=true→melS d n=true)→(∀ f ∈ gs,∀ n,f n=true→melS d n=true)→gs≠[] →
  (∀ x,x ∈ now↔inD d x∧rch (mnxS d) gs ks x=true)→∀ x,x ∈ nowS d fs js now↔inD d x∧rch (mnxS d) (fs.reverse++gs) (js.reverse++ks) x=true
 | [],[],now,gs,ks,_,_,_,_,_,h,x=>by simpa [nowS] using h x
 | [],_::_,_,_,_,hl,_,_,_,_,_,_=>by cases hl
 | _::_,[],_,_,_,hl,_,_,_,_,_,_=>by cases hl
 | f::fs,j::js,now,gs,ks,hl,hj,hf,hg,hne,h,x=>by
  have hgf:∀ f' ∈ f::gs,∀ n,f' n=true→melS d n=true:=by
   intro f' hf' n hn
   rcases List.mem_cons.1 hf' with rfl | hf'
   ·exact hf _ (List.mem_cons_self ..) n hn
   exact hg _ hf' n hn
  have:=now_rch hG fs js ((rng d).filter fun i=>(now.any fun m=>staS d m i j)&&f i) (f::gs) (j::ks) (by simpa using hl) (fun z hz=>hj z (List.mem_cons_of_mem _ hz)) (fun g hg=>hf g (List.mem_cons_of_mem _ hg)) hgf (by simp) (fun x=>by
   rw [List.mem_filter,rng_mem,rch_cons hne,Bool.and_eq_true,Bool.and_eq_true,List.any_eq_true,List.any_eq_true]
   constructor
   ·rintro ⟨hx,⟨m,hm,hs⟩,hfx⟩
    have hm2:=(h m).1 hm
    exact ⟨hx,hfx,m,(stands_next hG hx (hf _ (List.mem_cons_self ..) x hfx) hm2.1 (rch_head hg hm2.2) (hj j (List.mem_cons_self ..))).1 hs,hm2.2⟩
   rintro ⟨hx,hfx,m,hm,hr⟩
   have hmd:=mnx_in hG hx hm
   exact ⟨hx,⟨m,(h m).2 ⟨hmd,hr⟩,(stands_next hG hx (hf _ (List.mem_cons_self ..) x hfx) hmd (rch_head hg hr) (hj j (List.mem_cons_self ..))).2 hm⟩,hfx⟩) x
  rw [show nowS d (f::fs) (j::js) now=nowS d fs js ((rng d).filter fun i=>(now.any fun m=>staS d m i j)&&f i) from rfl,this]
  simp
def rpB (d:DC) (fs:List (Int→Bool)) (js:List Int) (n:Int):Bool :=
 fs.getLastD (fun _=>false) n&&(nowS d fs.tail js ((rng d).filter (fs.headD fun _=>false))).any fun m=>m==n
theorem any_eq {l:List Int} {n:Int}:(l.any fun m=>m==n)=true↔n ∈ l:=by
 rw [List.any_eq_true]
 constructor
 ·rintro ⟨m,hm,h⟩
  rw [← eq_of_beq h]; exact hm
 intro h
 exact ⟨n,h,beq_self_eq_true n⟩
theorem path_alike {d:DC} (hG:DGood d) {fs:List (Int→Bool)} {js:List Int} (hne:fs≠[]) (hl:js.length+1=fs.length) (hj:∀ z ∈ js,jnB z=true) (hf:∀ f ∈ fs,∀ n,f n=true→melS d n=true) {n:Int} (hn:inD d n):rpB d fs js n=rch (mnxS d) fs.reverse js.reverse n:=by
 cases fs with
 | nil=>exact absurd rfl hne
 | cons f fs =>
  have hl:fs.length=js.length:=by simp at hl; omega
  have key:=now_rch hG fs js ((rng d).filter f) [f] [] hl hj (fun g hg=>hf g (List.mem_cons_of_mem _ hg)) (fun g hg=>hf g (by rw [List.mem_singleton] at hg; subst hg; exact List.mem_cons_self ..)) (by simp) (fun x=>by
   rw [List.mem_filter,rng_mem,rch,List.isEmpty_nil,Bool.true_or,Bool.and_true]) n
  rw [List.append_nil] at key
  have key:n ∈ nowS d fs js ((rng d).filter f)↔rch (mnxS d) (f::fs).reverse js.reverse n=true:=by
   rw [key,List.reverse_cons]
   exact ⟨fun h=>h.2,fun h=>⟨hn,h⟩⟩
  unfold rpB
  rw [Bool.eq_iff_iff,Bool.and_eq_true,any_eq]
  show _∧n ∈ nowS d fs js ((rng d).filter f)↔_
  rw [key]
  constructor
  ·exact fun h=>h.2
  intro h
  refine ⟨?_,h⟩
  have:(f::fs).getLastD (fun _=>false)=(f::fs).reverse.headD (fun _=>false):=by
   rw [List.getLastD_eq_getLast?,List.headD_eq_head?_getD,List.head?_reverse]
  rw [this]
  cases hr:(f::fs).reverse with
  | nil=>simp at hr
  | cons g gs =>
   rw [hr,rch,Bool.and_eq_true] at h
   exact h.1
/-! the document's tests -/
mutual
def rtT (d:DC):Ts→Int→Bool
 | .mk x l,n=>labB d x n (rn3 d l n)
def rn3 (d:DC):List Ph→Int→Bool
 | [],_=>false
 | (p,js)::l,n=>rpB d (rf2 d p) js n||rn3 d l n
def rf2 (d:DC):List (List Ts)→List (Int→Bool)
 | []=>[]
 | s::p=>(fun n=>rl1 d s n&&melS d n)::rf2 d p
def rl1 (d:DC):List Ts→Int→Bool
 | [],_=>true
 | t::s,n=>rtT d t n&&rl1 d s n
end
def okK (t:Ts):Prop:=t.All fun _ l=>∀ q ∈ l,okQ q
def okK3 (l:List Ph):Prop:=∀ q ∈ l,okQ q∧∀ s ∈ q.1,∀ t ∈ s,okK t
theorem rf2_eq (d:DC):∀ p:List (List Ts),rf2 d p=p.map fun s n=>rl1 d s n&&melS d n
 | []=>rfl
 | s::p=>by rw [rf2,rf2_eq d p]; rfl
theorem rch_congr {d:DC} (hG:DGood d):∀ {fs gs:List (Int→Bool)} {js:List Int} {n:Int},fs.length=gs.length→(∀ i (h:i<fs.length) (h':i<gs.length) n,inD d n→fs[i] n=gs[i] n)→inD d n→rch (mnxS d) fs js n=rch (mnxS d) gs js n
 | [],[],_,_,_,_,_=>rfl
 | [],_::_,_,_,h,_,_=>by cases h
 | _::_,[],_,_,h,_,_=>by cases h
 | f::fs,g::gs,js,n,hl,h,hn=>by
  have h0:=h 0 (by simp) (by simp) n hn
  have h0:f n=g n:=h0
  rw [rch,rch,h0]
  have hl:fs.length=gs.length:=by simpa using hl
  have he:fs.isEmpty=gs.isEmpty:=by cases fs <;> cases gs <;> first | rfl | cases hl
  rw [he]
  congr 2
  have:∀ m ∈ mnxS d n (js.headD 0),rch (mnxS d) fs js.tail m=rch (mnxS d) gs js.tail m:=fun m hm=>rch_congr hG hl (fun i h1 h2 n hn=>h (i+1) (by simp; omega) (by simp; omega) n hn) (mnx_in hG hn hm)
  generalize mnxS d n (js.headD 0)=l at this
  induction l with
  | nil=>rfl
  | cons x l ih=>rw [List.any_cons,List.any_cons,this x (List.mem_cons_self ..),ih fun m hm=>this m (List.mem_cons_of_mem _ hm)]
def FaT (d:DC) (t:Ts):Prop:=okK t→∀ n,inD d n→rtT d t n=fitT d t n
theorem rl1_alike {d:DC}:∀ {s:List Ts},(∀ t ∈ s,FaT d t)→(∀ t ∈ s,okK t)→∀ n,inD d n→rl1 d s n=all1 d s n
 | [],_,_,_,_=>by rw [rl1,all1]
 | t::s,h,hk,n,hn=>by
  rw [rl1,all1,h t (List.mem_cons_self ..) (hk t (List.mem_cons_self ..)) n hn,rl1_alike (fun t ht=>h t (List.mem_cons_of_mem _ ht)) (fun t ht=>hk t (List.mem_cons_of_mem _ ht)) n hn]
theorem rp_alike {d:DC} (hG:DGood d) {q:Ph} (h:∀ s ∈ q.1,∀ t ∈ s,FaT d t) (hk:okQ q∧∀ s ∈ q.1,∀ t ∈ s,okK t) {n:Int} (hn:inD d n):rpB d (rf2 d q.1) q.2 n=rch (mnxS d) (fns2 d q.1).reverse q.2.reverse n:=by
 obtain ⟨⟨h1,h2,h3⟩,h4⟩:=hk
 rw [path_alike hG (by rw [rf2_eq]; simpa using h1) (by rw [rf2_eq,List.length_map]; exact h2) h3 (fun f hf n hn=>by
  rw [rf2_eq,List.mem_map] at hf
  obtain ⟨s,-,rfl⟩:=hf
  exact (Bool.and_eq_true _ _ ▸ hn:_∧_).2) hn]
 rw [rf2_eq,fns2_eq,← List.map_reverse,← List.map_reverse]
 refine rch_congr hG (by rw [List.length_map,List.length_map]) (fun i hi hi' n hn=>?_) hn
 rw [List.getElem_map,List.getElem_map]
 have hm:q.1.reverse[i]'(by simpa using hi) ∈ q.1:=List.mem_reverse.1 (List.getElem_mem _)
 show (rl1 d _ n&&melS d n)=(melS d n&&all1 d _ n)
 rw [rl1_alike (h _ hm) (h4 _ hm) n hn,Bool.and_comm]
theorem rn3_alike {d:DC} (hG:DGood d):∀ {l:List Ph},(∀ q ∈ l,∀ s ∈ q.1,∀ t ∈ s,FaT d t)→okK3 l→∀ {n:Int},inD d n→rn3 d l n=any3 d l n
 | [],_,_,_,_=>by rw [rn3,any3]
 | (p,js)::l,h,hk,n,hn=>by
  rw [rn3,any3,rn3_alike hG (fun q hq=>h q (List.mem_cons_of_mem _ hq)) (fun q hq=>hk q (List.mem_cons_of_mem _ hq)) hn]
  rw [rp_alike hG (q:=(p,js)) (h _ (List.mem_cons_self ..)) (hk _ (List.mem_cons_self ..)) hn]
theorem fit_alike {d:DC} (hG:DGood d):∀ t:Ts,FaT d t:=Tst.ind fun x l ih hk n hn=>by
 have hk:=Tst.all_mk.1 hk
 rw [rtT,fitT,rn3_alike hG ih (fun q hq=>⟨hk.1 q hq,fun s hs t ht=>hk.2 q hq s hs t ht⟩) hn]
theorem path_same {d:DC} (hG:DGood d) {q:Ph} (hk:okQ q∧∀ s ∈ q.1,∀ t ∈ s,okK t) {n:Int} (hn:inD d n):rpB d (rf2 d q.1) q.2 n=mpaS d n q:=rp_alike hG (fun _ _ t _=>fit_alike hG t) hk hn
/-! what is right is told so -/
def OkT (t:Ts):Prop:=∀ i,okT t i=true→okK t
theorem okK3_of {l:List Ph} (h:∀ q ∈ l,∀ s ∈ q.1,∀ t ∈ s,OkT t) (ho:ok3 l=true):okK3 l:=fun q hq=>by
 have hh:=ok3_in ho hq
 refine ⟨hh.1,fun s hs t ht=>?_⟩
 obtain ⟨i,hi⟩:=ok2_in hh.2 hs
 obtain ⟨k,hk⟩:=ok1_in hi ht
 exact h q hq s hs t ht k hk
theorem okT_K:∀ t:Ts,OkT t:=Tst.ind fun x l ih i h=>by
 rw [okT_eq,Bool.and_eq_true] at h
 have h:(if ((x.1==10)||(x.1==11))=true then ptsS l else ((l.length:Int)==0))=true:=h.2
 have h3:ok3 l=true:=by
  split at h
  ·unfold ptsS at h; rw [Bool.and_eq_true] at h; exact h.1
  have:l=[]:=List.eq_nil_of_length_eq_zero (by have:=eq_of_beq h; omega)
  rw [this]; rw [ok3]
 have:=okK3_of ih h3
 exact Tst.all_mk.2 ⟨fun q hq=>(this q hq).1,fun q hq s hs t ht=>(this q hq).2 s hs t ht⟩
theorem ok3_K {l:List Ph} (h:ok3 l=true):okK3 l:=okK3_of (fun _ _ _ _ t _=>okT_K t) h
end
end Go.Proofs.YtdapgmigogpdcaaGreatDoor.Ma
