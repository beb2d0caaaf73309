/- match: is a word one of a text's. -/
import Derived.Test.YtdapgmigogpdcaaGreatDoorMaa
import Derived.Test.YtdapgmigogpdcaaGreatDoorMad
import Derived.Shelf.Strings.FieldsFuncGrows
namespace Go.Proofs.YtdapgmigogpdcaaGreatDoor.Ma
open _root_.Go.Proofs.Tryz Go Go.Eng Go.RowKit Go.Shelf Go.Proofs Ti Do Se
set_option linter.unusedVariables false
set_option linter.unusedSimpArgs false
set_option maxHeartbeats 4000000
set_option maxRecDepth 100000
noncomputable section
section
variable {P:Program} {ρ:Ren}
theorem containsRune_high (L:Lays.n151 P ρ) (r:Int) (w:World) (h0:128≤r) :
  Calls P (ρ.f 151) #[.string marks5,.int .i32 r] w fun e w'=>e=.returned (.bool false)∧Below w.heap.size w w':=by
 have t3:=L.t3; have a3:=L.a3; have z3:=L.z3; have v3:=L.v3
 have t4:=L.t4; have a4:=L.a4; have z4:=L.z4; have v4:=L.v4
 have t9:=L.t9; have a9:=L.a9; have z9:=L.z9; have v9:=L.v9
 have t21:=L.t21; have a21:=L.a21; have z21:=L.z21; have v21:=L.v21
 have e152:∀ args w,(callFunc (ρ.f 152) args).run P w=.ok (.enter (ρ.f 152) args) w:=enters_of L.f152 kr rfl
 have hI:Calls P (ρ.f 152) #[.string marks5,.int .i32 r] w fun e w'=>e=.returned (iv (-1))∧Below w.heap.size w w':=by
  cases hv:Lib.validRune r with
  | true=>exact indexRune_high { L with } r w h0 hv
  | false=>exact indexRune_bad { L with } r w h0 hv
 go_enter L.f151,Body.n151_ntmps ρ
 go_wp2_with (go_at_fn (ρ.f 152); refine hI.mono ?_; rintro e w' ⟨rfl,hw⟩)
 go_ret
 exact ⟨rfl,hw⟩
end
theorem containsRune (x:Nat) (W:World):Calls prog 153 #[.string marks5,.int .i32 (x:Int)] W fun e w'=>e=.returned (.bool (blkR x))∧Below W.heap.size W w':=by
 by_cases h:x<128
 ·refine (Tryz.strings_ContainsRune_ascii marks5 (x:Int) W om om).mono fun e w' ⟨he,hw⟩=>?_
  subst hw
  refine ⟨?_,Below.refl _ _⟩
  have:∀ k:Fin 128,decide (0≤Lib.indexByte [32,9,10,12,13] ((k.val:Int).toNat.toUInt8))=blkR k.val:=by decide +kernel
  have:=this ⟨x,h⟩
  rw [he]
  exact congrArg (fun b=>Ending.returned (.bool b)) this
 have hb:blkR x=false:=by
  unfold blkR
  simp only [Bool.or_eq_false_iff,beq_eq_false_iff_ne]
  omega
 rw [hb]
 exact containsRune_high Tryz.lays151 (x:Int) W om
theorem blank_pred (W0:World):PredGrows prog 152 #[] blkR W0:=fun W x hx hb=>by
 have hc:=containsRune x W
 go_enter func152,ntmps152
 go_wp2_with (go_at_call 153; refine hc.mono ?_; rintro e W2 ⟨rfl,hw⟩)
 go_ret
 exact ⟨rfl,hw⟩
theorem rep_strs {W:World} {base n:Nat} {E:TypeId} {A:Nat} (l:List ByteArray) (hl:l.length=n) (h:W.ownsRow base E 1 (.slice (some ⟨A,0,none⟩) n n) n (l.map Value.string)):Rep (ghostOf W) (.slice .str) [.slice (some ⟨A,0,none⟩) n n] (l.map fun b=>b.data.toList):=by
 subst hl
 rcases h.2 with ⟨hv,hn⟩ | ⟨q,cap,cur,hv,hb,hh,h1,h2,h3,h4⟩
 ·cases hv
 obtain ⟨rfl,rfl⟩:A=q∧l.length=cap:=by cases hv; exact ⟨rfl,rfl⟩
 refine ⟨_,_,by rw [List.length_map],⟨by rw [List.length_map]; omega,h2⟩,fun i x hx=>⟨A,0,rfl,[sv x],rfl,?_,rfl⟩⟩
 rw [List.getElem?_map,Option.map_eq_some_iff] at hx
 obtain ⟨b,hb1,rfl⟩:=hx
 intro j v hv
 have hv:j=0∧v=sv b.data.toList:=by
  cases j with
  | zero=>exact ⟨rfl,(Option.some.inj hv).symm⟩
  | succ j=>simp at hv
 obtain ⟨rfl,rfl⟩:=hv
 show gcell (ghostOf W) ⟨A,0+i * 1+0,none⟩=_
 rw [show 0+i * 1+0=i by omega]
 have hc:cur[i]? = some (.string b):=by
  have h5:(cur.toList.take (l.length * 1))[i]? = some (.string b):=by rw [h4,List.getElem?_map,hb1]; rfl
  rw [List.getElem?_take] at h5
  split at h5
  ·rw [← Array.getElem?_toList]; exact h5
  cases h5
 have e:gcell (ghostOf W) ⟨A,i,none⟩=cur[i]?:=by unfold gcell ghostOf; simp only [hh]; rfl
 rw [e,hc]
abbrev Wd:=Bs
theorem idxN_any {α:Type} (f:α→Bool):∀ (l:List α) (i:Nat),decide (idxN f l i≥0)=l.any f
 | [],_=>rfl
 | x::l,i=>by
  rw [idxN,List.any_cons,← idxN_any f l (i+1)]
  cases f x
  ·rfl
  rw [if_t rfl,decide_eq_true om]; rfl

def sixl7b (xs:List Bs) (xv:Bs) (K:Int→Prop) (z0:Int) (C7:Int→Prop):Prop :=
 ((decide (z0<(xs.length:Int)))=true→0≤z0∧z0.toNat<xs.length∧((xv==xs.getD z0.toNat default)=true→K z0)∧((xv==xs.getD z0.toNat default)=false→C7 (w6 (z0+1))))∧((decide (z0<(xs.length:Int)))=false→K (-1))
def sixl7 (xs:List Bs) (xv:Bs) (K:Int→Prop):Nat→Int→Prop
 | 0,_=>False
 | k+1,z0=>sixl7b xs xv K z0 (sixl7 xs xv K k)
def sixF (xs:List Bs) (xv:Bs) (K:Int→Prop):Prop :=
 ∃ k,sixl7 xs xv K k 0
theorem six_ok {g:Ghost} {axs_0:Option Addr} {cxs_0:Nat} (xs:List Bs) (xv:Bs) (v0:Rep g (.slice (.str)) [.slice axs_0 xs.length cxs_0] xs) (K:Int→Prop)
  (hF:sixF xs xv K):CallsH prog 195 #[.slice axs_0 xs.length cxs_0,sv xv] g [] (fun g' H' v=>∃ (r0:Int),v=iv r0∧H'=[]∧K r0):=by
 refine CallsH.en 19 func195 rfl fun w0=>?_
 refine Ok.sr (Ok.B 1 [(0,.slice axs_0 xs.length cxs_0),(1,sv xv)] kr (Ok.nt (Ok.q (Ok.sr (Ok.b 3 [0,1] [(7,iv (xs.length:Int)),(8,iv 0)] ?_)))))
 refine Ok.nt (Ok.block ?_)
 obtain ⟨k,hF⟩:=hF
 refine Ok.L (fun k a W=>∃ (z0:Int),StA 19 [(0,.slice axs_0 xs.length cxs_0),(1,sv xv),(7,iv (xs.length:Int)),(8,iv z0)] a∧StW w0 [] g W∧sixl7 xs xv K k z0) k ?_ ?_
 ·
  exact fun _ _ u v=>⟨0,fA u v hF⟩
 clear hF
 rintro (_ | k7) _ _ ⟨z0,q⟩
 exact (q.2.2:False).elim
 refine jn (fun hF=>?_) _ _ q
 refine Ok.sr (Ok.b 1 [0,1,7,8] [(9,.bool (decide (z0<(xs.length:Int))))] ?_)
 refine Ok.nt (Ok.q (Ok.cw hF (fun hc1 hF=>?_) (fun hc1 hF=>?_)))
 ·refine Ok.k (Ok.t (Ok.q (Ok.block (Ok.sr (Ok.b 2 [0,1,7,8] [(5,iv z0)] ?_)))))
  refine Ok.nt (Ok.sr (Ok.b 3 [0,1,5,7,8] [(11,sv xv),(12,.slice axs_0 xs.length cxs_0),(13,iv z0)] ?_))
  obtain ⟨h03,h13,hF⟩:=hF
  have he3:=get_of (l:=xs) default h13
  generalize hg3:(xs.getD z0.toNat default)=e3 at he3 hF ⊢
  refine Ok.o (OpOk.indexRo (e:=.str) rfl rfl underlying84 kr v0 h03 he3 rfl fun q2 o2 cs2 _ q0 hr2=>?_)
  obtain rfl:=hr2
  replace q0:At g q2 o2 [sv e3]:=q0
  refine Ok.o (OpOk.s (v:=sv e3) (Yields.lr 0 q0 kr underlying9 rfl kr) rfl rfl (Ok.o (OpOk.s (v:=.bool (xv==e3)) (Yields.sc (f:=.eql) (a:=xv) (b:=e3) kr kr rfl) rfl rfl (Ok.nt (Ok.cn hF rfl (fun hc4=>?_) (fun hc4=>?_))))))
  ·replace hF:=hF.1 hc4
   refine Ok.sr (Ok.B 2 [(4,iv z0)] kr (Ok.nt (Ok.ret (Ok.kr (Ok.tr (Ok.tr (Ok.kr (Ok.tr ?_))))))))
   exact Ok.h0 (iv z0) ⟨_,rfl,rfl,hF⟩
  replace hF:=hF.2 hc4
  refine Ok.k (Ok.kn (Ok.t (Ok.r (Ok.b 2 [0,1,7] [(8,iv (w6 (z0+1)))] ?_))))
  refine Ok.j (Ok.t ?_)
  subst hg3
  exact fun _ _ u v=>⟨k7,nl,w6 (z0+1),fA u v hF⟩
 refine Ok.x (Ok.thenE (Ok.thenE (Ok.blockHit (Ok.t (Ok.sr (Ok.B 1 [(4,iv (-1))] kr (Ok.nt (Ok.ret ?_))))))))
 exact Ok.h0 (iv (-1)) ⟨_,rfl,rfl,hF⟩
def sixS (l:List Wd) (v:Wd):Int:=idxN (fun x=>v==x) l 0
def sixP (l:List Wd) (_:Wd):Prop:=l.length≤1000000
theorem six_F (l:List Wd) (v:Wd) (hp:sixP l v):sixF l v (fun r=>r=sixS l v):=by
 unfold sixP at hp
 have loop:∀ (k i:Nat),i+k=l.length→sixS l v=idxN (fun x=>v==x) (l.drop i) i→sixl7 l v (fun r=>r=sixS l v) (k+1) (i:Int):=by
  intro k
  induction k with
  | zero =>
   intro i h h2
   rw [List.drop_of_length_le om] at h2
   exact ⟨fun h=>od h,fun _=>h2.symm⟩
  | succ k ih =>
   intro i h h2
   rw [drop_get (l:=l) default om,idxN] at h2
   refine ⟨fun _=>⟨by omega,by rw [tnc]; omega,fun hc=>?_,fun hc=>?_⟩,fun h=>oe h⟩
   ·rw [tnc] at hc
    rw [h2,if_t hc]
   rw [tnc] at hc
   rw [if_f hc] at h2
   rw [w64 om]
   exact ih (i+1) om h2
 exact ⟨_,loop l.length 0 om rfl⟩
theorem six_c {g:Ghost} {axs_0:Option Addr} {cxs_0:Nat} (xs:List Bs) (xv:Bs) (v0:Rep g (.slice (.str)) [.slice axs_0 xs.length cxs_0] xs)  (hp:sixP xs xv):CallsG prog 195 #[.slice axs_0 xs.length cxs_0,sv xv] g (iv (sixS xs xv)) :=
 (six_ok xs xv v0 _ (six_F xs xv hp)).gv

def scoF (xs:List Bs) (xv:Bs) (K:Bool→Prop):Prop :=
 sixP xs xv∧K (decide (sixS xs xv≥0))
theorem sco_ok {g:Ghost} {axs_0:Option Addr} {cxs_0:Nat} (xs:List Bs) (xv:Bs) (v0:Rep g (.slice (.str)) [.slice axs_0 xs.length cxs_0] xs) (K:Bool→Prop)
  (hF:scoF xs xv K):CallsH prog 150 #[.slice axs_0 xs.length cxs_0,sv xv] g [] (fun g' H' v=>∃ (r0:Bool),v=.bool r0∧H'=[]∧K r0):=by
 refine CallsH.en 9 func150 rfl fun w0=>?_
 refine Ok.sr (Ok.B 1 [(0,.slice axs_0 xs.length cxs_0),(1,sv xv)] kr (Ok.nt (Ok.q (Ok.r ?_))))
 obtain ⟨hp1,hF⟩:=hF
 refine Ok.rn 5 [.k (six_c xs xv v0 hp1)] [] [(4,.bool (decide (sixS xs xv≥0)))] ?_
 refine Ok.nt (Ok.ret ?_)
 exact Ok.pb (decide (sixS xs xv≥0)) hF
def scoS (l:List Wd) (v:Wd):Bool:=l.any fun x=>v==x
def scoP (l:List Wd) (_:Wd):Prop:=l.length≤1000000
theorem sco_F (l:List Wd) (v:Wd) (hp:scoP l v):scoF l v (fun r=>r=scoS l v):=⟨hp,idxN_any _ l 0⟩
theorem sco_c {g:Ghost} {axs_0:Option Addr} {cxs_0:Nat} (xs:List Bs) (xv:Bs) (v0:Rep g (.slice (.str)) [.slice axs_0 xs.length cxs_0] xs)  (hp:scoP xs xv):CallsG prog 150 #[.slice axs_0 xs.length cxs_0,sv xv] g (.bool (scoS xs xv)) :=
 (sco_ok xs xv v0 _ (sco_F xs xv hp)).gv
def hwS (s w:Bs):Bool:=scoS (fldS s) w
def hwP (s w:Bs):Prop:=s.length≤1000
theorem hw_c {g:Ghost} (s w:Bs) (hp:hwP s w):CallsG prog 113 #[sv s,sv w] g (.bool (hwS s w)):=fun W hW=>by
 have hl:s.length≤1000:=hp
 have hF:Calls prog 151 #[sv s,.func (.func 152) #[] #[]] W fun e w'=>∃ A,e=.returned (.slice (some ⟨A,0,none⟩) (Lib.goFieldsP blkR ⟨⟨s⟩⟩).length (Lib.goFieldsP blkR ⟨⟨s⟩⟩).length)∧W.heap.size≤A∧w'.ownsRow W.heap.size 9 1 (.slice (some ⟨A,0,none⟩) (Lib.goFieldsP blkR ⟨⟨s⟩⟩).length (Lib.goFieldsP blkR ⟨⟨s⟩⟩).length) (Lib.goFieldsP blkR ⟨⟨s⟩⟩).length ((Lib.goFieldsP blkR ⟨⟨s⟩⟩).map Value.string)∧Below W.heap.size W w':=Any.strings_FieldsFunc_grows Tryz.lays229 152 #[] (enters_of func152 kr rfl) blkR ⟨⟨s⟩⟩ W (by show s.length≤4294967296; omega) (blank_pred W) kr kr
 have hS:∀ (W2:World) (A n:Nat) (base:Nat) (E:TypeId),(Lib.goFieldsP blkR ⟨⟨s⟩⟩).length=n→W2.ownsRow base E 1 (.slice (some ⟨A,0,none⟩) n n) n ((Lib.goFieldsP blkR ⟨⟨s⟩⟩).map Value.string)→Calls prog 150 #[.slice (some ⟨A,0,none⟩) n n,sv w] W2 fun e w'=>e=.returned (.bool (hwS s w))∧Below W2.heap.size W2 w':=by
  intro W2 A n base E hn ho
  have hR:=rep_strs _ hn ho
  have:=sco_c (g:=ghostOf W2) (fldS s) w (axs_0:=some ⟨A,0,none⟩) (cxs_0:=n) (by
   have e:(fldS s).length=n:=by unfold fldS; rw [List.length_map]; exact hn
   rw [e]; exact hR) (by show (fldS s).length≤1000000; rw [fld_eq]; have:=wrd_len s []; omega) W2 (gh_ghostOf W2)
  have e:(fldS s).length=n:=by unfold fldS; rw [List.length_map]; exact hn
  rw [e] at this
  exact this
 go_enter func113,ntmps113
 go_wp2_with (first | (go_at_call 151; refine hF.mono ?_; rintro e W2 ⟨A2,rfl,hA,ho,hB⟩) | (go_at_call 150; refine (hS W2 A2 _ _ _ rfl ho).mono ?_; rintro e W3 ⟨rfl,hB3⟩))
 go_ret
 exact ⟨rfl,hB.trans (hB3.mono hB.size)⟩
end
end Go.Proofs.YtdapgmigogpdcaaGreatDoor.Ma
