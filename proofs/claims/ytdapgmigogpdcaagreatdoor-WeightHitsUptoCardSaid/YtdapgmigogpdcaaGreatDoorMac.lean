/- match: is a word one of a text's. -/
import Derived.Test.YtdapgmigogpdcaaGreatDoorMaa
import Derived.Test.YtdapgmigogpdcaaGreatDoorMad
import Derived.Shelf.Strings.FieldsFuncGrows
set_option linter.unusedSimpArgs false
set_option linter.unusedVariables false
namespace Go.Proofs.YtdapgmigogpdcaaGreatDoor.Ma
open _root_.Go.Proofs.Tryz Go Go.iT Go.RowKit Go.Shelf Go.Proofs Ti Do Se
set_option maxHeartbeats 4000000
set_option maxRecDepth 100000
noncomputable section
section
variable {P:Program} {ρ:Ren}
theorem yL (L:Lays.n151 P ρ) (r:Int) (w:World) (h0:128≤r) :
  Calls P (ρ.f 151) #[.string ic,.int .i32 r] w fun e w'=>e=.returned (.bool false)∧Below w.heap.size w w':=by
 have t3:=L.t3; have a3:=L.a3; have z3:=L.z3; have v3:=L.v3;have t4:=L.t4; have a4:=L.a4; have z4:=L.z4; have v4:=L.v4;have t9:=L.t9; have a9:=L.a9; have z9:=L.z9; have v9:=L.v9;have t21:=L.t21; have a21:=L.a21; have z21:=L.z21; have v21:=L.v21;have e152:∀ args w,(callFunc (ρ.f 152) args).run P w=.ok (.enter (ρ.f 152) args) w:=enters_of L.f152 kr rfl
 have hI:Calls P (ρ.f 152) #[.string ic,.int .i32 r] w fun e w'=>e=.returned (iv (-1))∧Below w.heap.size w w':=by
  cases hv:Lib.validRune r with
  | true=>exact Dt { L with } r w h0 hv
  | false=>exact Ez { L with } r w h0 hv
 go_enter L.f151,Body.n151_ntmps ρ
 go_wp2_with (go_at_fn (ρ.f 152); refine hI.mono ?_; rintro e w' ⟨rfl,hw⟩)
 go_ret
 exact ⟨rfl,hw⟩
end
theorem containsRune (x:Nat) (W:World):Calls prog 153 #[.string ic,.int .i32 (x:Int)] W fun e w'=>e=.returned (.bool (lq x))∧Below W.heap.size W w':=by
 by_cases h:x<128
 ·refine (Tryz.strings_ContainsRune_ascii ic (x:Int) W om om).mono fun e w' ⟨he,hw⟩=>?_;subst hw;refine ⟨?_,Below.refl _ _⟩
  have:∀ k:Fin 128,decide (0≤Lib.indexByte [32,9,10,12,13] ((k.val:Int).toNat.toUInt8))=lq k.val:=by decide +kernel
  have:=this ⟨x,h⟩;rw [he];exact aA (fun b=>Ending.returned (.bool b)) this
 have hb:lq x=false:=by
  unfold lq;simp only [dB,dX];omega
 rw [hb];exact yL Tryz.Pp (x:Int) W om
theorem NN (W0:World):PredGrows prog 152 #[] lq W0:=fun W x hx hb=>by
 have hc:=containsRune x W
 go_enter func152,ntmps152
 go_wp2_with (go_at_call 153; refine hc.mono ?_; rintro e W2 ⟨rfl,hw⟩)
 go_ret
 exact ⟨rfl,hw⟩
theorem SK {W:World} {base n:Nat} {E:TypeId} {A:Nat} (l:List ByteArray) (hl:l.length=n) (h:W.ownsRow base E 1 (.slice (some ⟨A,0,none⟩) n n) n (l.map Value.string)):bE (eG W) (.slice .str) [.slice (some ⟨A,0,none⟩) n n] (l.map fun b=>b.data.toList):=by
 subst hl
 rcases h.2 with ⟨hv,hn⟩ | ⟨q,cap,cur,hv,hb,hh,h1,h2,h3,h4⟩
 ·cases hv
 obtain ⟨rfl,rfl⟩:A=q∧l.length=cap:=by cases hv; exact ⟨rfl,rfl⟩
 refine ⟨_,_,by rw [iY],⟨by rw [iY]; omega,h2⟩,fun i x hx=>⟨A,0,rfl,[sv x],rfl,?_,rfl⟩⟩;rw [iZ,gP] at hx;obtain ⟨b,hb1,rfl⟩:=hx;intro j v hv
 have hv:j=0∧v=sv b.data.toList:=by
  cases j with
  | zero=>exact ⟨rfl,(uN hv).symm⟩
  | succ j=>simp at hv
 obtain ⟨rfl,rfl⟩:=hv;show lM (eG W) ⟨A,0+i * 1+0,none⟩=_;rw [show 0+i * 1+0=i by omega]
 have hc:cur[i]? = some (.string b):=by
  have h5:(cur.toList.take (l.length * 1))[i]? = some (.string b):=by rw [h4,iZ,hb1]; rfl
  rw [List.getElem?_take] at h5
  split at h5
  ·rw [← Array.getElem?_toList]; exact h5
  cases h5
 have e:lM (eG W) ⟨A,i,none⟩=cur[i]?:=by unfold lM eG; simp only [hh]; rfl
 rw [e,hc]
abbrev Wd:=Bs
theorem KP {α:Type} (f:α→Bool):∀ (l:List α) (i:Nat),decide (jZ f l i≥0)=l.any f
 | [],_=>rfl
 | x::l,i=>by
  rw [jZ,jM,← KP f l (i+1)];cases f x
  ·rfl
  rw [aU rfl,gu om]; rfl

def aaL (xs:List Bs) (xv:Bs) (K:Int→Prop) (z0:Int) (C7:Int→Prop):Prop :=
 ((decide (z0<(xs.length:Int)))=true→0≤z0∧z0.toNat<xs.length∧((xv==xs.getD z0.toNat default)=true→K z0)∧((xv==xs.getD z0.toNat default)=false→C7 (w6 (z0+1))))∧((decide (z0<(xs.length:Int)))=false→K (-1))
def OI (xs:List Bs) (xv:Bs) (K:Int→Prop):Nat→Int→Prop
 | 0,_=>False
 | k+1,z0=>aaL xs xv K z0 (OI xs xv K k)
def ahb (xs:List Bs) (xv:Bs) (K:Int→Prop):Prop :=
 ∃ k,OI xs xv K k 0
theorem aaM {g:ak} {axs_0:Option Addr} {cxs_0:Nat} (xs:List Bs) (xv:Bs) (v0:bE g (.slice (.str)) [.slice axs_0 xs.length cxs_0] xs) (K:Int→Prop)
  (hF:ahb xs xv K):az prog 195 #[.slice axs_0 xs.length cxs_0,sv xv] g [] (fun g' H' v=>∃ (r0:Int),v=iv r0∧H'=[]∧K r0):=by
 refine aP 19 func195 rfl fun w0=>?_;let A:=(xs.length:Int);refine ae (av 1 [(0,.slice axs_0 xs.length cxs_0),(1,sv xv)] kr (aa (aF (ae (ag 3 [0,1] [(7,iv A),(8,iv 0)] ?_)))));refine aa (Ok.block ?_);obtain ⟨k,hF⟩:=hF;refine fQ (fun k a W=>∃ (z0:Int),fC 19 [(0,.slice axs_0 xs.length cxs_0),(1,sv xv),(7,iv A),(8,iv z0)] a∧dm w0 [] g W∧OI xs xv K k z0) k ?_ ?_
 ·
  exact fun _ _ u v=>⟨0,fA u v hF⟩
 clear hF;rintro (_ | k7) _ _ ⟨z0,q⟩;exact (q.2.2:False).elim;refine jn (fun hF=>?_) _ _ q;refine ae (ag 1 [0,1,7,8] [(9,.bool (decide (z0<A)))] ?_);refine aa (aF (aJ hF (fun hc1 hF=>?_) (fun hc1 hF=>?_)))
 ·refine Ok.k (Ok.t (aF (Ok.block (ae (ag 2 [0,1,7,8] [(5,iv z0)] ?_)))));refine aa (ae (ag 3 [0,1,5,7,8] [(11,sv xv),(12,.slice axs_0 xs.length cxs_0),(13,iv z0)] ?_));obtain ⟨DL,DJ,hF⟩:=hF;have wu:=aT (l:=xs) default DJ;generalize hg3:(xs.getD z0.toNat default)=e3 at wu hF ⊢;refine ai (af.aX (e:=.str) rfl rfl underlying84 kr v0 DL wu rfl fun q2 o2 cs2 _ q0 hr2=>?_);obtain rfl:=hr2;replace q0:At g q2 o2 [sv e3]:=q0;refine ai (af.s (v:=sv e3) (fe 0 q0 kr underlying9 rfl kr) rfl rfl (ai (af.s (v:=.bool (xv==e3)) (iG (f:=.eql) (a:=xv) (b:=e3) kr kr rfl) rfl rfl (aa (dW hF rfl (fun hc4=>?_) (fun hc4=>?_))))))
  ·replace hF:=hF.1 hc4;refine ae (av 2 [(4,iv z0)] kr (aa (Ok.ret (aV (aC (aC (aV (aC ?_))))))));exact pO (iv z0) ⟨_,rfl,rfl,hF⟩
  replace hF:=hF.2 hc4;refine Ok.k (bG (Ok.t (aR (ag 2 [0,1,7] [(8,iv (w6 (z0+1)))] ?_))));refine bV (Ok.t ?_);subst hg3;exact fun _ _ u v=>⟨k7,nl,w6 (z0+1),fA u v hF⟩
 refine fw (ay (ay (aM (Ok.t (ae (av 1 [(4,iv (-1))] kr (aa (Ok.ret ?_))))))));exact pO (iv (-1)) ⟨_,rfl,rfl,hF⟩
def L8 (l:List Wd) (v:Wd):Int:=jZ (fun x=>v==x) l 0
def WI (l:List Wd) (_:Wd):Prop:=l.length≤1000000
theorem aha (l:List Wd) (v:Wd) (hp:WI l v):ahb l v (fun r=>r=L8 l v):=by
 unfold WI at hp
 have loop:∀ (k i:Nat),i+k=l.length→L8 l v=jZ (fun x=>v==x) (l.drop i) i→OI l v (fun r=>r=L8 l v) (k+1) (i:Int):=by
  intro k
  induction k with
  | zero =>
   intro i h h2;rw [eD om] at h2;exact ⟨fun h=>od h,fun _=>h2.symm⟩
  | succ k ih =>
   intro i h h2;rw [bX (l:=l) default om,jZ] at h2;refine ⟨fun _=>⟨om,by rw [dR]; omega,fun hc=>?_,fun hc=>?_⟩,fun h=>oe h⟩
   ·rw [dR] at hc;rw [h2,aU hc]
   rw [dR] at hc;rw [aG hc] at h2;rw [fU om];exact ih (i+1) om h2
 exact ⟨_,loop l.length 0 om rfl⟩
theorem ag9 {g:ak} {axs_0:Option Addr} {cxs_0:Nat} (xs:List Bs) (xv:Bs) (v0:bE g (.slice (.str)) [.slice axs_0 xs.length cxs_0] xs)  (hp:WI xs xv):bC prog 195 #[.slice axs_0 xs.length cxs_0,sv xv] g (iv (L8 xs xv)) :=
 (aaM xs xv v0 _ (aha xs xv hp)).gv

def ahh (xs:List Bs) (xv:Bs) (K:Bool→Prop):Prop :=
 WI xs xv∧K (decide (L8 xs xv≥0))
theorem aaP {g:ak} {axs_0:Option Addr} {cxs_0:Nat} (xs:List Bs) (xv:Bs) (v0:bE g (.slice (.str)) [.slice axs_0 xs.length cxs_0] xs) (K:Bool→Prop)
  (hF:ahh xs xv K):az prog 150 #[.slice axs_0 xs.length cxs_0,sv xv] g [] (fun g' H' v=>∃ (r0:Bool),v=.bool r0∧H'=[]∧K r0):=by
 refine aP 9 func150 rfl fun w0=>?_;refine ae (av 1 [(0,.slice axs_0 xs.length cxs_0),(1,sv xv)] kr (aa (aF (aR ?_))));obtain ⟨hp1,hF⟩:=hF;let A:=decide (L8 xs xv≥0);refine aj 5 [.k (ag9 xs xv v0 hp1)] [] [(4,.bool A)] ?_;refine aa (Ok.ret ?_);exact dE A hF
def aaQ (l:List Wd) (v:Wd):Bool:=l.any fun x=>v==x
def ahg (l:List Wd) (_:Wd):Prop:=l.length≤1000000
theorem ahf (l:List Wd) (v:Wd) (hp:ahg l v):ahh l v (fun r=>r=aaQ l v):=⟨hp,KP _ l 0⟩
theorem ahe {g:ak} {axs_0:Option Addr} {cxs_0:Nat} (xs:List Bs) (xv:Bs) (v0:bE g (.slice (.str)) [.slice axs_0 xs.length cxs_0] xs)  (hp:ahg xs xv):bC prog 150 #[.slice axs_0 xs.length cxs_0,sv xv] g (.bool (aaQ xs xv)) :=
 (aaP xs xv v0 _ (ahf xs xv hp)).gv
def Dx (s w:Bs):Bool:=aaQ (IU s) w
def XR (s w:Bs):Prop:=s.length≤1000
theorem ajq {g:ak} (s w:Bs) (hp:XR s w):bC prog 113 #[sv s,sv w] g (.bool (Dx s w)):=fun W hW=>by
 have hl:s.length≤1000:=hp;have hF:Calls prog 151 #[sv s,.func (.func 152) #[] #[]] W fun e w'=>∃ A,e=.returned (.slice (some ⟨A,0,none⟩) (Lib.goFieldsP lq ⟨⟨s⟩⟩).length (Lib.goFieldsP lq ⟨⟨s⟩⟩).length)∧W.heap.size≤A∧w'.ownsRow W.heap.size 9 1 (.slice (some ⟨A,0,none⟩) (Lib.goFieldsP lq ⟨⟨s⟩⟩).length (Lib.goFieldsP lq ⟨⟨s⟩⟩).length) (Lib.goFieldsP lq ⟨⟨s⟩⟩).length ((Lib.goFieldsP lq ⟨⟨s⟩⟩).map Value.string)∧Below W.heap.size W w':=Any.strings_FieldsFunc_grows Tryz.Pm 152 #[] (enters_of func152 kr rfl) lq ⟨⟨s⟩⟩ W (by show s.length≤4294967296; omega) (NN W) kr kr
 have hS:∀ (W2:World) (A n:Nat) (base:Nat) (E:TypeId),(Lib.goFieldsP lq ⟨⟨s⟩⟩).length=n→W2.ownsRow base E 1 (.slice (some ⟨A,0,none⟩) n n) n ((Lib.goFieldsP lq ⟨⟨s⟩⟩).map Value.string)→Calls prog 150 #[.slice (some ⟨A,0,none⟩) n n,sv w] W2 fun e w'=>e=.returned (.bool (Dx s w))∧Below W2.heap.size W2 w':=by
  intro W2 A n base E hn ho;have hR:=SK _ hn ho
  have:=ahe (g:=eG W2) (IU s) w (axs_0:=some ⟨A,0,none⟩) (cxs_0:=n) (by
   have e:(IU s).length=n:=by unfold IU; rw [iY]; exact hn
   rw [e]; exact hR) (by show (IU s).length≤1000000; rw [Nw]; have:=AV s []; omega) W2 (pq W2)
  have e:(IU s).length=n:=by unfold IU; rw [iY]; exact hn
  rw [e] at this;exact this
 go_enter func113,ntmps113
 go_wp2_with (first | (go_at_call 151; refine hF.mono ?_; rintro e W2 ⟨A2,rfl,hA,ho,hB⟩) | (go_at_call 150; refine (hS W2 A2 _ _ _ rfl ho).mono ?_; rintro e W3 ⟨rfl,hB3⟩))
 go_ret
 exact ⟨rfl,hB.trans (hB3.mono hB.size)⟩
end
end Go.Proofs.YtdapgmigogpdcaaGreatDoor.Ma
