/-
 A slice of the call's own is cut at its end and kept. No program in sight.
-/
import Derived.Test.YtalnampdiegmoaaDoorSto
import Derived.Test.YtalnampdiegmoaaDoorEng
namespace Go.Eng
open Go.RowKit (Below)
set_option linter.unusedVariables false
section
variable {P:Program} {n:Fsz} {w0:Base} {m:Env} {H:List Ent} {g:Ghost} {R:Act→World→Prop} {Q:Exit→Act→World→Prop} {ops:Array Oper}
theorem RepL.take {e:Ty}:∀ {l:List e.den} {xs:List Value} (k:Nat),RepL g e xs l→RepL g e (xs.take (k * e.size)) (l.take k)
 | l,xs,0,_=>by rw [Nat.zero_mul,List.take_zero,List.take_zero]; rfl
 | [],xs,k+1,h=>by rw [show xs=[] from h]; simp; rfl
 | x::l,xs,k+1,⟨c,r,h1,h2,h3⟩=>by
  refine ⟨c,r.take (k * e.size),?_,h2,RepL.take k h3⟩
  rw [h1,Nat.succ_mul,Nat.add_comm,← h2.size,List.take_length_add_append]
end
end Go.Eng
namespace Go.Eng
open Go.RowKit (Below)
set_option linter.unusedVariables false
section
variable {P:Program} {ops:Array Oper} {Q:Exit→Act→World→Prop}
section
variable {B:Type} {C:B→World→Prop} {S:Nat→B→Prop} {T:Nat→B→Prop} {md:Region.Mode} {Qn:Act→World→Prop}
/-- what stands behind i -/
def legB (md:Region.Mode) (ops:Array Oper) (pre soft:List Nat) (i:Nat) (os:List (Nat×Bool)) (listed:Array Bool):Bool :=
 mixB md ops pre soft os (listed.setIfInBounds i true)&&(soft.contains i||(awaits md ops pre i&&os.all fun x=>!pre.contains x.1))

theorem wpMop_of_leg {pre soft:List Nat} (hT:∀ c i j,S j c→(soft.contains j=true∨pre.contains i=false)→T i c) (hs:Region.noSelect ops=true) {i:Nat} {os:List (Nat×Bool)} {listed:Array Bool} {a:Act} {c:B} {W:World}
  (hcl:ClosedL md ops listed) (hi:i ∈ Region.ready md ops listed) (hB:legB md ops pre soft i os listed=true) (hS:∀ i,T i c) (hW:C c W) (h:wpMix P ops C T S Qn ((i,false)::os) a c) :
  mOp P ops i (fun a' W'=>∃ c',C c' W'∧(∀ i',NotAfter md ops i i'→T i' c→T i' c')∧wpAnyM P md ops C T Qn os.length (listed.setIfInBounds i true) a' c') a W:=by
 simp only [legB,Bool.and_eq_true] at hB
 have hB2:=hB.2
 rw [Bool.or_eq_true] at hB2
 refine mOp_mono (fun a' W' ⟨c',h1,h2,h3⟩=>⟨c',h1,fun i' hn _=>?_,wpAnyM_of_mix hT hs os _ _ _ (hcl.ready hi) hB.1 (fun x hx=>?_) h3⟩) (h W hW)
 ·rcases hB2 with hB2 | hB2
  ·exact hT c' i' _ h2 (.inl hB2)
  rw [Bool.and_eq_true] at hB2
  exact hT c' i' _ h2 (.inr (awaits_spec hB2.1 hn))
 rcases hB2 with hB2 | hB2
 ·exact hT c' x.1 _ h2 (.inl hB2)
 rw [Bool.and_eq_true] at hB2
 exact hT c' x.1 _ h2 (.inr (by have:=List.all_eq_true.1 hB2.2 x hx; simpa using this))

def forkB (md:Region.Mode) (ops:Array Oper) (pre soft:List Nat) (i:Nat) (os1:List (Nat×Bool)) (j:Nat) (os2:List (Nat×Bool)):List (Nat×Bool)→Array Bool→Bool
 | [],listed=>(Region.ready md ops listed==[i,j])&&legB md ops pre soft i os1 listed&&legB md ops pre soft j os2 listed
 | (k,true)::os,listed=>(Region.ready md ops listed).contains k&&Region.free md ops listed k&&forkB md ops pre soft i os1 j os2 os (listed.setIfInBounds k true)
 | (_,false)::_,_=>false

theorem wpAnyM_of_fork {pre soft:List Nat} (hT:∀ c i j,S j c→(soft.contains j=true∨pre.contains i=false)→T i c) (hs:Region.noSelect ops=true) {i j:Nat} {os1 os2:List (Nat×Bool)} (hl:os1.length=os2.length) :
  ∀ (os:List (Nat×Bool)) (listed:Array Bool) (a:Act) (c:B),ClosedL md ops listed→forkB md ops pre soft i os1 j os2 os listed=true→(∀ i,T i c) →
  wpMix P ops C T S (fun a _=>wpMix P ops C T S Qn ((i,false)::os1) a c∧wpMix P ops C T S Qn ((j,false)::os2) a c) os a c→wpAnyM P md ops C T Qn (os.length+1+os1.length) listed a c
 | [],listed,a,c,hcl,hB,hS,h=>by
  simp only [forkB,Bool.and_eq_true,beq_iff_eq] at hB
  obtain ⟨⟨hr,h1⟩,h2⟩:=hB
  rw [show ([]:List (Nat×Bool)).length+1+os1.length=os1.length+1 by simp; omega]
  refine ⟨fun h0=>(by rw [hr] at h0; cases h0),fun x hx W hW=>?_⟩
  have hx':=hx
  rw [hr] at hx
  rcases List.mem_cons.1 hx with rfl | hx
  ·exact wpMop_of_leg hT hs hcl hx' h1 hS hW (h W hW).1
  obtain rfl:=List.mem_singleton.1 hx
  rw [hl]
  exact wpMop_of_leg hT hs hcl hx' h2 hS hW (h W hW).2
 | (k,true)::os,listed,a,c,hcl,hB,hS,h=>by
  obtain ⟨o,v,hi,hy,h⟩:=h
  simp only [forkB,Bool.and_eq_true] at hB
  rw [show ((k,true)::os).length+1+os1.length=(os.length+1+os1.length)+1 by simp; omega]
  exact wpAnyM_first hi (Region.noSelect_spec hs) _ listed a c (Region.free_spec hi hB.1.2) hcl (by simpa using hB.1.1) hy (hS _) (wpAnyM_of_fork hT hs hl os _ _ _ (hcl.ready (by simpa using hB.1.1)) hB.2 hS h)
 | (_,false)::_,_,_,_,_,hB,_,_=>by simp [forkB] at hB

def forkOk (ops:Array Oper) (pre soft:List Nat) (os:List (Nat×Bool)) (i:Nat) (os1:List (Nat×Bool)) (j:Nat) (os2:List (Nat×Bool)):Bool :=
 Region.noSelect ops&&forkB .any ops pre soft i os1 j os2 os (Array.replicate ops.size false)&&Nat.beq (os.length+1+os1.length) ops.size&&Nat.beq os1.length os2.length

theorem wp_region_fork {id:Nat} {a:Act} {w:World} {c:B} {pre soft:List Nat} (os:List (Nat×Bool)) {i j:Nat} {os1 os2:List (Nat×Bool)} (hm:P.follows .mixedOrders=true) (hB:forkOk ops pre soft os i os1 j os2=true) (hT:∀ c i j,S j c→(soft.contains j=true∨pre.contains i=false)→T i c) (hS:∀ i,T i c) (hC:C c { w with drawn:=w.drawn+1 })
  (h:wpMix P ops C T S (fun a _=>wpMix P ops C T S (Q .normal) ((i,false)::os1) a c∧wpMix P ops C T S (Q .normal) ((j,false)::os2) a c) os a c):(Code.region id ops true).wp P Q a w:=by
 simp only [forkOk,Bool.and_eq_true] at hB
 have:=wpAnyM_of_fork (md:=.any) hT hB.1.1.1 (Nat.eq_of_beq_eq_true hB.2) os _ a c (fun k ok _ hk=>by simp [Array.getD_eq_getD_getElem?,Array.getElem?_replicate] at hk; split at hk <;> simp at hk) hB.1.1.2 hS h
 rw [Nat.eq_of_beq_eq_true hB.1.2] at this
 exact wp_region_any hm (wpAny_of_M _ _ _ _ _ this hC)
end
variable {n:Fsz} {w0:Base} {m:Env} {H:List Ent} {g:Ghost} {g0:Ghost} {R:Act→World→Prop}

/-- both orders, from the memory H -/
def Both (P:Program) (ops:Array Oper) (w0:Base) (g:Ghost) (pre soft:List Nat) (Hf H0 H:List Ent) (R:Act→World→Prop) (i:Nat) (os1:List (Nat×Bool)) (j:Nat) (os2:List (Nat×Bool)) (a:Act):Prop :=
 wpMix P ops (fun c W=>StW w0 c.2 c.1 W) (Asks g pre Hf H0) (fun i c=>Gle g c.1∧List.Sublist (bif soft.contains i then Hf else H0) c.2) R ((i,false)::os1) a (g,H) ∧
 wpMix P ops (fun c W=>StW w0 c.2 c.1 W) (Asks g pre Hf H0) (fun i c=>Gle g c.1∧List.Sublist (bif soft.contains i then Hf else H0) c.2) R ((j,false)::os2) a (g,H)

theorem Ok.fork {id:Nat} {l:List Oper} (pre soft:List Nat) (H0:List Ent) (os:List (Nat×Bool)) (i:Nat) (os1:List (Nat×Bool)) (j:Nat) (os2:List (Nat×Bool)) (hm:P.follows .mixedOrders=true) (hB:forkOk l.toArray pre soft os i os1 j os2=true) (hs:List.Sublist H0 H)
  (h:OkM P l.toArray n w0 g pre soft H H0 m H g (fun a _=>Both P l.toArray w0 g pre soft H H0 H (Q .normal) i os1 j os2 a) os):Ok n w0 m H g ((Code.region id l.toArray true).wp P Q) :=
 fun a _ hA hW=>wp_region_fork (C:=fun c W=>StW w0 c.2 c.1 W) (S:=fun i c=>Gle g c.1∧List.Sublist (bif soft.contains i then H else H0) c.2) (T:=Asks g pre H H0) (c:=(g,H)) os hm hB (fun c i j h hp=>⟨h.1,by
  have h2:=h.2
  rcases hp with hp | hp
  ·rw [hp] at h2
   cases pre.contains i
   ·exact hs.trans h2
   exact h2
  ·rw [hp]
   cases hj:soft.contains j
   ·rw [hj] at h2; exact h2
   rw [hj] at h2; exact hs.trans h2⟩) (fun i=>⟨Gle.refl g,by
  cases pre.contains i
  ·exact hs
  exact List.Sublist.refl _⟩) (hW.of_below ((Below.refl _ _).drew)) (h a hA)

/-- Hf: what is left alone by the operations of soft, some of which may write -/
theorem Ok.mixs {id:Nat} {l:List Oper} (pre soft:List Nat) (Hf H0:List Ent) (os:List (Nat×Bool)) (hm:P.follows .mixedOrders=true) (hB:mixOk l.toArray pre soft os=true) (hs:List.Sublist H0 Hf) (hf:List.Sublist Hf H)
  (h:OkM P l.toArray n w0 g pre soft Hf H0 m H g (Q .normal) os):Ok n w0 m H g ((Code.region id l.toArray true).wp P Q) :=
 fun a _ hA hW=>wp_region_mix (C:=fun c W=>StW w0 c.2 c.1 W) (S:=fun i c=>Gle g c.1∧List.Sublist (bif soft.contains i then Hf else H0) c.2) (T:=Asks g pre Hf H0) (c:=(g,H)) os hm hB (fun c i j h hp=>⟨h.1,by
  have h2:=h.2
  rcases hp with hp | hp
  ·rw [hp] at h2
   cases pre.contains i
   ·exact hs.trans h2
   exact h2
  ·rw [hp]
   cases hj:soft.contains j
   ·rw [hj] at h2; exact h2
   rw [hj] at h2; exact hs.trans h2⟩) (fun i=>⟨Gle.refl g,by
  cases pre.contains i
  ·exact hs.trans hf
  exact hf⟩) (hW.of_below ((Below.refl _ _).drew)) (h a hA)

end
end Go.Eng
