/- selector: its reader, where what it reads is right. -/
import Derived.Test.YtdapgmigogpdcaaGreatDoorSeh
import Derived.Test.YtdapgmigogpdcaaGreatDoorDfr
namespace Go.Proofs.YtdapgmigogpdcaaGreatDoor.Se
open _root_.Go.Proofs.Tryz Go Go.Eng Go.RowKit Go.Shelf Go.Proofs Bld Trm Css Tk
set_option linter.unusedVariables false
set_option linter.unusedSimpArgs false
set_option maxHeartbeats 4000000
set_option maxRecDepth 100000
def pekF (xr:List KT) (K:KT→List KT→Prop):Prop :=
 (((xr.length:Int)==0)=true→K (0,([]:Bs),([]:Bs),0) xr)∧(((xr.length:Int)==0)=false→(0:Int)≤0∧Int.toNat 0<xr.length∧K (xr.getD (Int.toNat 0) default) xr)
theorem pek_ok {g:Ghost} {bxr:Nat} {Q0:Option Addr} {K0:Nat} (xr:List KT) (X0:Rep g (.slice yK) [.slice Q0 xr.length K0] xr) (K:KT→List KT→Prop)
  (hF:pekF xr K):CallsH prog 98 #[pv bxr 0] g [.blk bxr (.cells #[.slice Q0 xr.length K0] 70)] (fun g' H' v=>∃ (r0:Int×Bs×Bs×Int),∃ (fxr:List KT),∃ (m0:Option Addr) (n0:Nat),v=.agg (aK r0)∧Rep g' (.slice yK) [.slice m0 fxr.length n0] fxr∧H'=[.blk bxr (.cells #[.slice m0 fxr.length n0] 70)]∧K r0 fxr):=by
 refine CallsH.en 16 func98 rfl fun w0=>?_
 refine Ok.sr (Ok.o (OpOk.aw zK fun bs2=>?_))
 refine Ok.nt (Ok.q (Ok.sr (Ok.rn 6 [.e 1] [] [(0,pv bxr 0),(2,pv bs2 0),(8,.bool ((xr.length:Int)==0))] ?_)))
 refine Ok.nt (Ok.cw hF (fun hc2 hF=>?_) (fun hc2 hF=>?_))
 ·refine Ok.sr (Ok.b 1 [2] [(9,.agg zK)] ?_)
  refine Ok.o (OpOk.sw 0 zK rfl rfl rfl ?_)
  refine Ok.nt (Ok.ret (Ok.tr ?_))
  exact Ok.p (vs:=[.agg zK]) [1] [.blk bxr (.cells #[.slice Q0 xr.length K0] 70)] dc rfl (.inl rfl) rfl (.cons (.cellAgg 0 4 zK rfl rfl underlying98 rfl kr kr kr) .nil) (Gext.r w0 g) ⟨(0,([]:Bs),([]:Bs),0),xr,Q0,K0,rfl,X0,rfl,hF⟩
 refine Ok.k (Ok.t (Ok.sr (Ok.b 3 [2] [(12,pv bxr 0)] ?_)))
 refine Ok.o (OpOk.s (v:=.slice Q0 xr.length K0) (Yields.l 1 rfl rfl underlying67 rfl kr) rfl rfl ?_)
 obtain ⟨h04,h14,hF⟩:=hF
 have he4:=get_of (l:=xr) default h14
 generalize hg4:(xr.getD (Int.toNat 0) default)=e4 at he4 hF ⊢
 refine Ok.o (OpOk.indexRo (e:=yK) rfl rfl underlying67 kr X0 h04 he4 rfl fun q3 o3 cs3 _ C2 hr3=>?_)
 obtain ⟨_,_,rfl,rfl,⟨_,_,rfl,rfl,⟨_,_,rfl,rfl,rfl⟩⟩⟩:=hr3
 replace C2:At g q3 o3 (vK e4):=C2
 refine Ok.o (OpOk.s (v:=.agg (aK e4)) (Yields.loadAggRo 0 4 (aK e4) C2 kr underlying98 rfl kr kr kr) rfl rfl (Ok.o (OpOk.sw 0 (aK e4) rfl rfl rfl ?_)))
 refine Ok.nt (Ok.ret ?_)
 exact Ok.p (vs:=[.agg (aK e4)]) [1] [.blk bxr (.cells #[.slice Q0 xr.length K0] 70)] dc rfl (.inl rfl) rfl (.cons (.cellAgg 0 4 (aK e4) rfl rfl underlying98 rfl kr kr kr) .nil) (Gext.r w0 g) ⟨e4,xr,Q0,K0,rfl,X0,rfl,hF⟩
abbrev Rd:=List Tok
def pekS (r:Rd):Tok×Rd:=(match r with | []=>(0,[],[],0) | t::_=>t,r)
abbrev pp (r:Rd):Tok×Rd:=pekS (pekS r).2
abbrev pd (r:Rd):Rd:=((pp r).2).drop (Int.toNat 1)
abbrev cQ:Bs:=[97,32,62,32,46,98]
abbrev zP:Array Value:=#[.slice none ([]:List (List TS)).length 0,.slice none ([]:List Int).length 0]
theorem pek_F (r:Rd):pekF r (fun a b=>(a,b)=pekS r):=by
 cases r with
 | nil=>exact ⟨fun _=>rfl,fun h=>(by cases h)⟩
 | cons t r=>exact ⟨fun h=>absurd (eq_of_beq h) (by rw [List.length_cons]; omega),fun _=>⟨by decide,by rw [List.length_cons]; show 0<_; omega,rfl⟩⟩
theorem pek_c {g:Ghost} {bxr:Nat} {Q0:Option Addr} {K0:Nat} (xr:List KT) (X0:Rep g (.slice yK) [.slice Q0 xr.length K0] xr)  : CallsH prog 98 #[pv bxr 0] g [.blk bxr (.cells #[.slice Q0 xr.length K0] 70)] (fun g' H' v=>∃ (m0:Option Addr) (n0:Nat),v=.agg (aK (pekS xr).1)∧Rep g' (.slice yK) [.slice m0 ((pekS xr).2).length n0] (pekS xr).2∧H'=[.blk bxr (.cells #[.slice m0 ((pekS xr).2).length n0] 70)]) :=
 (pek_ok xr X0 _ (pek_F xr)).mono (by rintro g' H' v _ ⟨r0,fxr,m0,n0,rfl,F0,rfl,hK⟩; obtain ⟨rfl,rfl⟩:r0=(pekS xr).1∧fxr=(pekS xr).2:=⟨congrArg (fun z=>z.1) hK,congrArg (fun z=>z.2) hK⟩; exact ⟨m0,n0,rfl,F0,rfl⟩)
def gapj11 (xr:List KT) (K:Bool→List KT→Prop) (y0:Int) (k0:List KT) (C9:Int→Bs→Bs→Int→List KT→Prop):Prop :=
 (((y0==8)||(y0==9))=true→(0:Int)≤1∧(1:Int)≤(k0.length:Int)∧(k0.length:Int)≤(k0.length:Int)∧C9 (pekS (k0.drop (Int.toNat 1))).1.1 (pekS (k0.drop (Int.toNat 1))).1.2.1 (pekS (k0.drop (Int.toNat 1))).1.2.2.1 (pekS (k0.drop (Int.toNat 1))).1.2.2.2 (pekS (k0.drop (Int.toNat 1))).2)∧(((y0==8)||(y0==9))=false→K (decide ((k0.length:Int)<(xr.length:Int))) k0)
def gapl9b (xr:List KT) (K:Bool→List KT→Prop) (y0:Int) (b0:Bs) (s0:Bs) (x0:Int) (k0:List KT) (C9:Int→Bs→Bs→Int→List KT→Prop):Prop :=
 ((y0==8)=true→gapj11 xr K y0 k0 C9)∧((y0==8)=false→gapj11 xr K y0 k0 C9)
def gapl9 (xr:List KT) (K:Bool→List KT→Prop):Nat→Int→Bs→Bs→Int→List KT→Prop
 | 0,_,_,_,_,_=>False
 | k+1,y0,b0,s0,x0,k0=>gapl9b xr K y0 b0 s0 x0 k0 (gapl9 xr K k)
def gapF (xr:List KT) (K:Bool→List KT→Prop):Prop :=
 ∃ k,gapl9 xr K k (pekS xr).1.1 (pekS xr).1.2.1 (pekS xr).1.2.2.1 (pekS xr).1.2.2.2 (pekS xr).2
theorem gap_ok {g:Ghost} {bxr:Nat} {Q0:Option Addr} {K0:Nat} (xr:List KT) (X0:Rep g (.slice yK) [.slice Q0 xr.length K0] xr) (K:Bool→List KT→Prop)
  (hF:gapF xr K):CallsH prog 54 #[pv bxr 0] g [.blk bxr (.cells #[.slice Q0 xr.length K0] 70)] (fun g' H' v=>∃ (r0:Bool),∃ (fxr:List KT),∃ (m0:Option Addr) (n0:Nat),v=.bool r0∧Rep g' (.slice yK) [.slice m0 fxr.length n0] fxr∧H'=[.blk bxr (.cells #[.slice m0 fxr.length n0] 70)]∧K r0 fxr):=by
 refine CallsH.en 38 func54 rfl fun w0=>?_
 refine Ok.sr (Ok.B 1 [(0,pv bxr 0)] kr (Ok.nt (Ok.sr (Ok.rn 6 [.e 0] [0] [(3,iv (xr.length:Int))] ?_))))
 refine Ok.nt (Ok.q (Ok.sr (Ok.b 1 [0,3] [(10,pv bxr 0)] ?_)))
 refine Ok.o (OpOk.callH [_] _ enr rfl (pek_c xr X0) rfl fun g1 _ _ hx1 hV1=>?_)
 obtain ⟨a2,i2,rfl,G1,rfl⟩:=hV1
 refine Ok.o (OpOk.aw zK fun bs4=>?_)
 refine Ok.o (OpOk.sw 0 (aK (pekS xr).1) rfl rfl rfl ?_)
 refine Ok.nt (Ok.block ?_)
 obtain ⟨k,hF⟩:=hF
 refine Ok.L (fun k a W=>∃ gl9:Ghost,Gext w0 g1 gl9∧∃ (A0:Nat) (y0:Int) (b0:Bs) (s0:Bs) (x0:Int) (C0:Option Addr) (D0:Nat) (k0:List KT),Rep gl9 (.slice yK) [.slice C0 k0.length D0] k0∧StA 38 [(0,pv bxr 0),(3,iv (xr.length:Int)),(4,pv A0 0)] a∧StW w0 [.blk A0 (.cells #[iv y0,sv b0,sv s0,iv x0] 98),.blk bxr (.cells #[.slice C0 k0.length D0] 70)] gl9 W∧gapl9 xr K k y0 b0 s0 x0 k0) k ?_ ?_
 ·
  exact fun _ _ u v=>⟨g1,Gext.r w0 g1,bs4,(pekS xr).1.1,(pekS xr).1.2.1,(pekS xr).1.2.2.1,(pekS xr).1.2.2.2,a2,i2,(pekS xr).2,G1,fA u v hF⟩
 clear hF
 rintro (_ | k9) _ _ ⟨gl9,O1,A0,y0,b0,s0,x0,C0,D0,k0,E0,q⟩
 exact (q.2.2:False).elim
 refine jn (fun hF=>?_) _ _ q
 refine Ok.q (Ok.cg gl9 [(0,pv bxr 0),(3,iv (xr.length:Int)),(4,pv A0 0),(19,.bool ((y0==8)||(y0==9)))] [.blk A0 (.cells #[iv y0,sv b0,sv s0,iv x0] 98),.blk bxr (.cells #[.slice C0 k0.length D0] 70)] (gapj11 xr K y0 k0 (gapl9 xr K k9)) ?_ (fun gj11 v2 hF=>?_))
 ·
  refine Ok.r (Ok.rn 4 [.e 0] [0,3,4] [(15,.bool (y0==8))] ?_)
  refine Ok.bw 15 hF (fun hc7 hF=>?_) (fun hc7 hF=>?_)
  ·refine Ok.b 4 [0,3,4] [(19,.bool true)] ?_
   refine Ok.nt (Ok.rb 19 ((y0==8)||(y0==9)) (mor_t hc7) ?_)
   exact fg hF
  refine Ok.rn 4 [.e 0] [0,3,4] [(19,.bool (y0==9))] ?_
  refine Ok.nt (Ok.rb 19 ((y0==8)||(y0==9)) (mor_f hc7) ?_)
  exact fg hF
 replace E0:=E0.mono v2.1
 refine Ok.cw hF (fun hc3 hF=>?_) (fun hc3 hF=>?_)
 ·refine Ok.k (Ok.t (Ok.q (Ok.block (Ok.r (Ok.b 4 [0,3,4] [(22,pv bxr 0),(25,pv bxr 0)] ?_)))))
  refine Ok.o (OpOk.s (v:=.slice C0 k0.length D0) (Yields.l 1 rfl rfl underlying67 rfl kr) rfl rfl ?_)
  obtain ⟨h04,h14,h24,hF⟩:=hF
  refine Ok.o (OpOk.sliceRo (e:=yK) (l:=1) (h:=(k0.length:Int)) rfl underlying67 kr (.inl ⟨_,_,rfl,rfl⟩) (.inr ⟨rfl,rfl⟩) E0 h04 h14 h24 rfl (k0.drop (Int.toNat 1)) (by rw [show (k0.length:Int).toNat=k0.length from tnc _,List.take_length]) fun a4 c4 hR4=>?_)
  refine Ok.b 2 [0,3,4] [(27,.slice a4 (k0.drop (Int.toNat 1)).length c4),(29,pv bxr 0)] ?_
  refine Ok.o (OpOk.s1 1 (.slice a4 (k0.drop (Int.toNat 1)).length c4) rfl rfl rfl ?_)
  refine Ok.j (Ok.kn (Ok.t (Ok.q (Ok.sr (Ok.o (OpOk.s (v:=.agg #[iv y0,sv b0,sv s0,iv x0]) (Yields.loadAgg 0 4 #[iv y0,sv b0,sv s0,iv x0] rfl rfl underlying98 rfl kr kr kr) rfl rfl (Ok.nt (Ok.r (Ok.o (OpOk.aw zK fun bs4=>?_))))))))))
  refine Ok.o (OpOk.sw 0 #[iv y0,sv b0,sv s0,iv x0] rfl rfl rfl ?_)
  refine Ok.nt (Ok.r (Ok.b 1 [0,3] [(4,pv bs4 0),(20,pv bxr 0)] ?_))
  refine Ok.e [2,0,1] [.blk bxr (.cells #[.slice a4 (k0.drop (Int.toNat 1)).length c4] 70),.blk bs4 (.cells #[iv y0,sv b0,sv s0,iv x0] 98),.blk A0 (.cells #[iv y0,sv b0,sv s0,iv x0] 98)] dc rfl (Ok.o (OpOk.callH [_] _ enr rfl (pek_c (k0.drop (Int.toNat 1)) hR4) rfl fun g6 _ _ hx6 hV6=>?_))
  obtain ⟨q2,k2,rfl,S2,rfl⟩:=hV6
  refine Ok.o (OpOk.sw 1 #[iv (pekS (k0.drop (Int.toNat 1))).1.1,sv ((pekS (k0.drop (Int.toNat 1))).1.2.1),sv ((pekS (k0.drop (Int.toNat 1))).1.2.2.1),iv (pekS (k0.drop (Int.toNat 1))).1.2.2.2] rfl rfl rfl ?_)
  refine Ok.j (Ok.t ?_)
  exact fun a W hA hW=>⟨k9,nl,g6,((O1.trans v2).trans hx6),bs4,(pekS (k0.drop (Int.toNat 1))).1.1,(pekS (k0.drop (Int.toNat 1))).1.2.1,(pekS (k0.drop (Int.toNat 1))).1.2.2.1,(pekS (k0.drop (Int.toNat 1))).1.2.2.2,q2,k2,(pekS (k0.drop (Int.toNat 1))).2,S2,hA.sub kr,hW.pick [1,0] _ dc rfl,hF⟩
 refine Ok.x (Ok.thenE (Ok.thenE (Ok.blockHit (Ok.t (Ok.sr (Ok.rn 8 [.e 1] [] [(2,.bool (decide ((k0.length:Int)<(xr.length:Int))))] ?_))))))
 refine Ok.nt (Ok.ret ?_)
 exact Ok.p (vs:=[.bool (decide ((k0.length:Int)<(xr.length:Int)))]) [1] [.blk bxr (.cells #[.slice C0 k0.length D0] 70)] dc rfl (.inl rfl) rfl (.cons (.tmp rfl) .nil) ((hx1.trans O1).trans v2) ⟨(decide ((k0.length:Int)<(xr.length:Int))),k0,C0,D0,rfl,E0,rfl,hF⟩
def silT (t:Tok):Bool:=t.1==8||t.1==9
def gapS (r:Rd):Bool×Rd:=(decide (((r.dropWhile silT).length:Int)<(r.length:Int)),r.dropWhile silT)
theorem gap_loop (r:Rd):∀ (l:List Tok),r.dropWhile silT=l.dropWhile silT→gapl9 r (fun a b=>(a,b)=gapS r) (l.length+1) (pekS l).1.1 (pekS l).1.2.1 (pekS l).1.2.2.1 (pekS l).1.2.2.2 l:=by
 intro l
 induction l with
 | nil =>
  intro h
  have key:gapj11 r (fun a b=>(a,b)=gapS r) 0 [] (gapl9 r (fun a b=>(a,b)=gapS r) 0):=by
   refine ⟨fun h=>(by cases h),fun _=>?_⟩
   unfold gapS; rw [h]; rfl
  exact ⟨fun h=>(by cases h),fun _=>key⟩
 | cons x l ih =>
  intro h
  have key:gapj11 r (fun a b=>(a,b)=gapS r) x.1 (x::l) (gapl9 r (fun a b=>(a,b)=gapS r) (l.length+1)):=by
   refine ⟨fun hs=>⟨by omega,by rw [List.length_cons]; omega,by omega,?_⟩,fun hs=>?_⟩
   ·rw [List.dropWhile_cons_of_pos (p:=silT) (show silT x=true from hs)] at h
    exact ih h
   rw [List.dropWhile_cons_of_neg (by show ¬ (x.1==8||x.1==9)=true; rw [hs]; simp)] at h
   unfold gapS; rw [h]
  exact ⟨fun _=>key,fun _=>key⟩
theorem gap_F (r:Rd):gapF r (fun a b=>(a,b)=gapS r):=⟨_,gap_loop r r rfl⟩
theorem gap_c {g:Ghost} {bxr:Nat} {Q0:Option Addr} {K0:Nat} (xr:List KT) (X0:Rep g (.slice yK) [.slice Q0 xr.length K0] xr)  : CallsH prog 54 #[pv bxr 0] g [.blk bxr (.cells #[.slice Q0 xr.length K0] 70)] (fun g' H' v=>∃ (m0:Option Addr) (n0:Nat),v=.bool (gapS xr).1∧Rep g' (.slice yK) [.slice m0 ((gapS xr).2).length n0] (gapS xr).2∧H'=[.blk bxr (.cells #[.slice m0 ((gapS xr).2).length n0] 70)]) :=
 (gap_ok xr X0 _ (gap_F xr)).mono (by rintro g' H' v _ ⟨r0,fxr,m0,n0,rfl,F0,rfl,hK⟩; obtain ⟨rfl,rfl⟩:r0=(gapS xr).1∧fxr=(gapS xr).2:=⟨congrArg (fun z=>z.1) hK,congrArg (fun z=>z.2) hK⟩; exact ⟨m0,n0,rfl,F0,rfl⟩)
def rawF (xr:List KT) (xs:Bs) (K:Bool→List KT→Prop):Prop :=
 ((!((pekS xr).1.2.1==xs))=true→K false (pekS xr).2)∧((!((pekS xr).1.2.1==xs))=false→(0:Int)≤1∧(1:Int)≤(((pekS xr).2).length:Int)∧(((pekS xr).2).length:Int)≤(((pekS xr).2).length:Int)∧K true (((pekS xr).2).drop (Int.toNat 1)))
theorem raw_ok {g:Ghost} {bxr:Nat} {Q0:Option Addr} {K0:Nat} (xr:List KT) (xs:Bs) (X0:Rep g (.slice yK) [.slice Q0 xr.length K0] xr) (K:Bool→List KT→Prop)
  (hF:rawF xr xs K):CallsH prog 56 #[pv bxr 0,sv xs] g [.blk bxr (.cells #[.slice Q0 xr.length K0] 70)] (fun g' H' v=>∃ (r0:Bool),∃ (fxr:List KT),∃ (m0:Option Addr) (n0:Nat),v=.bool r0∧Rep g' (.slice yK) [.slice m0 fxr.length n0] fxr∧H'=[.blk bxr (.cells #[.slice m0 fxr.length n0] 70)]∧K r0 fxr):=by
 refine CallsH.en 18 func56 rfl fun w0=>?_
 refine Ok.sr (Ok.B 1 [(0,pv bxr 0),(1,sv xs)] kr (Ok.nt (Ok.q (Ok.sr (Ok.b 1 [0,1] [(5,pv bxr 0)] ?_)))))
 refine Ok.o (OpOk.callH [_] _ enr rfl (pek_c xr X0) rfl fun g1 _ _ hx1 hV1=>?_)
 obtain ⟨a2,i2,rfl,G1,rfl⟩:=hV1
 refine Ok.b 2 [0] [(7,sv ((pekS xr).1.2.1)),(8,sv xs)] ?_
 refine Ok.o (OpOk.s (v:=.bool (!((pekS xr).1.2.1==xs))) (Yields.sc (f:=.neq) (a:=(pekS xr).1.2.1) (b:=xs) kr kr rfl) rfl rfl (Ok.nt (Ok.cw hF (fun hc2 hF=>?_) (fun hc2 hF=>?_))))
 ·refine Ok.sr (Ok.B 1 [(4,.bool false)] kr (Ok.nt (Ok.ret (Ok.tr ?_))))
  exact Ok.h1 (.bool false) hx1 ⟨false,(pekS xr).2,a2,i2,rfl,G1,rfl,hF⟩
 refine Ok.k (Ok.t (Ok.sr (Ok.B 4 [(10,pv bxr 0),(13,pv bxr 0)] kr (Ok.o (OpOk.s (v:=.slice a2 ((pekS xr).2).length i2) (Yields.l 0 rfl rfl underlying67 rfl kr) rfl rfl ?_)))))
 obtain ⟨h03,h13,h23,hF⟩:=hF
 refine Ok.o (OpOk.sliceRo (e:=yK) (l:=1) (h:=(((pekS xr).2).length:Int)) rfl underlying67 kr (.inl ⟨_,_,rfl,rfl⟩) (.inr ⟨rfl,rfl⟩) G1 h03 h13 h23 rfl (((pekS xr).2).drop (Int.toNat 1)) (by rw [show (((pekS xr).2).length:Int).toNat=((pekS xr).2).length from tnc _,List.take_length]) fun a3 c3 hR3=>?_)
 refine Ok.B 2 [(15,.slice a3 (((pekS xr).2).drop (Int.toNat 1)).length c3),(17,pv bxr 0)] kr (Ok.o (OpOk.s1 0 (.slice a3 (((pekS xr).2).drop (Int.toNat 1)).length c3) rfl rfl rfl ?_))
 refine Ok.nt (Ok.sr (Ok.B 1 [(4,.bool true)] kr (Ok.nt (Ok.ret ?_))))
 exact Ok.h1 (.bool true) hx1 ⟨true,(((pekS xr).2).drop (Int.toNat 1)),a3,c3,rfl,hR3,rfl,hF⟩
def rawP (r:Rd) (s:Bs):Prop:=s≠[]
def rwS (r:Rd) (s:Bs):Bool×Rd:=if (!((pekS r).1.2.1==s))=true then (false,r) else (true,r.drop 1)
theorem raw_F (r:Rd) (s:Bs) (hp:rawP r s):rawF r s (fun a b=>(a,b)=rwS r s):=by
 refine ⟨fun h=>?_,fun h=>⟨by omega,?_,by omega,?_⟩⟩
 ·unfold rwS; rw [if_t h]; rfl
 ·cases r with
  | nil=>exact absurd (by simpa [pekS] using h:[]=s).symm hp
  | cons x l=>show (1:Int)≤((x::l).length:Int); rw [List.length_cons]; omega
 unfold rwS; rw [if_f h]; rfl
theorem raw_c {g:Ghost} {bxr:Nat} {Q0:Option Addr} {K0:Nat} (xr:List KT) (xs:Bs) (X0:Rep g (.slice yK) [.slice Q0 xr.length K0] xr)  (hp:rawP xr xs):CallsH prog 56 #[pv bxr 0,sv xs] g [.blk bxr (.cells #[.slice Q0 xr.length K0] 70)] (fun g' H' v=>∃ (m0:Option Addr) (n0:Nat),v=.bool (rwS xr xs).1∧Rep g' (.slice yK) [.slice m0 ((rwS xr xs).2).length n0] (rwS xr xs).2∧H'=[.blk bxr (.cells #[.slice m0 ((rwS xr xs).2).length n0] 70)]) :=
 (raw_ok xr xs X0 _ (raw_F xr xs hp)).mono (by rintro g' H' v _ ⟨r0,fxr,m0,n0,rfl,F0,rfl,hK⟩; obtain ⟨rfl,rfl⟩:r0=(rwS xr xs).1∧fxr=(rwS xr xs).2:=⟨congrArg (fun z=>z.1) hK,congrArg (fun z=>z.2) hK⟩; exact ⟨m0,n0,rfl,F0,rfl⟩)
def oneF (xr:List KT) (K:(TS)→Bool→List KT→Prop):Prop :=
 (((pekS xr).1.2.1==([42]:Bs))=true→False)∧(((pekS xr).1.2.1==([42]:Bs))=false→(((pekS xr).1.1==1)=true→(((pekS (pekS xr).2).1.1==0)=true→False)∧(((pekS (pekS xr).2).1.1==0)=false→(0:Int)≤1∧(1:Int)≤(((pekS (pekS xr).2).2).length:Int)∧(((pekS (pekS xr).2).2).length:Int)≤(((pekS (pekS xr).2).2).length:Int)∧(((pekS (pekS xr).2).1.1==1)=true→([]:Bs).length+((pekS (pekS xr).2).1.2.2.1).length≤maxLen∧(((pekS (pekS xr).2).1.2.1==(([]:Bs)++(pekS (pekS xr).2).1.2.2.1))=true→cutP (pekS (pekS xr).2).1.2.2.1∧((!(plainS (pekS (pekS xr).2).1.2.2.1))=true→False)∧((!(plainS (pekS (pekS xr).2).1.2.2.1))=false→lowerP (pekS (pekS xr).2).1.2.2.1∧K (Tst.mk (2,(lowerS (pekS (pekS xr).2).1.2.2.1),0,([]:Bs),0,0) ([])) true (((pekS (pekS xr).2).2).drop (Int.toNat 1))))∧(((pekS (pekS xr).2).1.2.1==(([]:Bs)++(pekS (pekS xr).2).1.2.2.1))=false→False))∧(((pekS (pekS xr).2).1.1==1)=false→False)))∧(((pekS xr).1.1==1)=false→(((pekS xr).1.1==4)=true→False)∧(((pekS xr).1.1==4)=false→(((pekS xr).1.2.1==([46]:Bs))=true→(((pekS (pekS xr).2).1.1==0)=true→False)∧(((pekS (pekS xr).2).1.1==0)=false→(0:Int)≤1∧(1:Int)≤(((pekS (pekS xr).2).2).length:Int)∧(((pekS (pekS xr).2).2).length:Int)≤(((pekS (pekS xr).2).2).length:Int)∧(((pekS (((pekS (pekS xr).2).2).drop (Int.toNat 1))).1.1==0)=true→False)∧(((pekS (((pekS (pekS xr).2).2).drop (Int.toNat 1))).1.1==0)=false→(0:Int)≤1∧(1:Int)≤(((pekS (((pekS (pekS xr).2).2).drop (Int.toNat 1))).2).length:Int)∧(((pekS (((pekS (pekS xr).2).2).drop (Int.toNat 1))).2).length:Int)≤(((pekS (((pekS (pekS xr).2).2).drop (Int.toNat 1))).2).length:Int)∧(((pekS (((pekS (pekS xr).2).2).drop (Int.toNat 1))).1.1==1)=true→([]:Bs).length+((pekS (((pekS (pekS xr).2).2).drop (Int.toNat 1))).1.2.2.1).length≤maxLen∧(((pekS (((pekS (pekS xr).2).2).drop (Int.toNat 1))).1.2.1==(([]:Bs)++(pekS (((pekS (pekS xr).2).2).drop (Int.toNat 1))).1.2.2.1))=true→cutP (pekS (((pekS (pekS xr).2).2).drop (Int.toNat 1))).1.2.2.1∧((!(plainS (pekS (((pekS (pekS xr).2).2).drop (Int.toNat 1))).1.2.2.1))=true→False)∧((!(plainS (pekS (((pekS (pekS xr).2).2).drop (Int.toNat 1))).1.2.2.1))=false→K (Tst.mk (4,(pekS (((pekS (pekS xr).2).2).drop (Int.toNat 1))).1.2.2.1,0,([]:Bs),0,0) ([])) true (((pekS (((pekS (pekS xr).2).2).drop (Int.toNat 1))).2).drop (Int.toNat 1))))∧(((pekS (((pekS (pekS xr).2).2).drop (Int.toNat 1))).1.2.1==(([]:Bs)++(pekS (((pekS (pekS xr).2).2).drop (Int.toNat 1))).1.2.2.1))=false→False))∧(((pekS (((pekS (pekS xr).2).2).drop (Int.toNat 1))).1.1==1)=false→False))))∧(((pekS xr).1.2.1==([46]:Bs))=false→(((pekS xr).1.2.1==([91]:Bs))=true→False)∧(((pekS xr).1.2.1==([91]:Bs))=false→(((pekS xr).1.2.1==([58]:Bs))=true→False)∧(((pekS xr).1.2.1==([58]:Bs))=false→K (Tst.mk (0,([]:Bs),0,([]:Bs),0,0) ([])) false (pekS xr).2))))))
theorem one_ok {g:Ghost} {bxr:Nat} {Q0:Option Addr} {K0:Nat} (xr:List KT) (X0:Rep g (.slice yK) [.slice Q0 xr.length K0] xr) (hG0:SomeInt g 0) (K:(TS)→Bool→List KT→Prop)
  (hF:oneF xr K):CallsH prog 143 #[pv bxr 0] g [.blk bxr (.cells #[.slice Q0 xr.length K0] 70)] (fun g' H' v=>∃ (r0:TS),∃ (r1:Bool),∃ (fxr:List KT),∃ (S0:Option Addr) (B0:Nat),∃ (m0:Option Addr) (n0:Nat),v=.tuple #[.agg (aL r0.lab S0 r0.kids.length B0),.bool r1]∧Rep g' (.slice yP) [.slice S0 r0.kids.length B0] r0.kids∧Rep g' (.slice yK) [.slice m0 fxr.length n0] fxr∧H'=[.blk bxr (.cells #[.slice m0 fxr.length n0] 70)]∧K r0 r1 fxr):=by
 refine CallsH.en 61 func143 rfl fun w0=>?_
 refine Ok.sr (Ok.o (OpOk.aw #[iv 0,sv ([]:Bs),.int .u8 0,sv ([]:Bs),iv 0,iv 0,.slice none 0 0] fun bs2=>?_))
 refine Ok.B 1 [(0,pv bxr 0),(2,pv bs2 0)] kr (Ok.nt (Ok.q (Ok.sr (Ok.b 1 [0,2] [(5,pv bxr 0)] ?_))))
 refine Ok.e [1,0] [.blk bxr (.cells #[.slice Q0 xr.length K0] 70),.blk bs2 (.cells #[iv 0,sv ([]:Bs),.int .u8 0,sv ([]:Bs),iv 0,iv 0,.slice none 0 0] 60)] dc rfl (Ok.o (OpOk.callH [_] _ enr rfl (pek_c xr X0) rfl fun g2 _ _ hx2 hV2=>?_))
 obtain ⟨t1,a1,rfl,d1,rfl⟩:=hV2
 replace hG0:=hG0.mono hx2.1
 refine Ok.o (OpOk.aw zK fun bs4=>?_)
 refine Ok.o (OpOk.sw 0 (aK (pekS xr).1) rfl rfl rfl ?_)
 refine Ok.nt (Ok.block (Ok.sr (Ok.rn 4 [.e 0] [] [(0,pv bxr 0),(2,pv bs2 0),(4,pv bs4 0),(7,.bool ((pekS xr).1.2.1==([42]:Bs)))] ?_)))
 refine Ok.nt (Ok.cw hF (fun hc4 hF=>?_) (fun hc4 hF=>?_))
 ·exact False.elim hF
 refine Ok.sr (Ok.rn 4 [.e 0] [0,2,4] [(14,.bool ((pekS xr).1.1==1))] ?_)
 refine Ok.nt (Ok.cw hF (fun hc5 hF=>?_) (fun hc5 hF=>?_))
 ·refine Ok.sr (Ok.b 2 [2] [(18,pv bxr 0),(19,pv bxr 0)] ?_)
  refine Ok.o (OpOk.i (args:=#[pv bxr 0]) 20 [(0,pv bxr 0)] enr func100 rfl rfl rfl rfl (Ok.sr (Ok.o (OpOk.aw zK fun X1=>?_))))
  refine Ok.nt (Ok.sr (Ok.B 1 [(0,pv bxr 0),(2,pv X1 0),(4,pv bxr 0)] kr (Ok.e [2,0,1,3] [.blk bxr (.cells #[.slice t1 ((pekS xr).2).length a1] 70),.blk X1 (.cells zK 98),.blk bs4 (.cells (aK (pekS xr).1) 98),.blk bs2 (.cells #[iv 0,sv ([]:Bs),.int .u8 0,sv ([]:Bs),iv 0,iv 0,.slice none 0 0] 60)] dc rfl (Ok.o (OpOk.callH [_] _ enr rfl (pek_c (pekS xr).2 d1) rfl fun g7 _ _ hx7 hV7=>?_)))))
  obtain ⟨v3,k3,rfl,y2,rfl⟩:=hV7
  replace hG0:=hG0.mono hx7.1
  refine Ok.o (OpOk.aw zK fun bs3i20=>?_)
  refine Ok.o (OpOk.sw 0 (aK (pp xr).1) rfl rfl rfl ?_)
  refine Ok.nt (Ok.q (Ok.sr (Ok.rn 3 [.e 0] [] [(0,pv bxr 0),(2,pv X1 0),(3,pv bs3i20 0),(8,.bool ((pp xr).1.1==0))] ?_)))
  refine Ok.nt (Ok.cw hF (fun hc9 hF=>?_) (fun hc9 hF=>?_))
  ·exact False.elim hF
  refine Ok.k (Ok.t (Ok.sr (Ok.b 4 [2,3] [(11,pv bxr 0),(14,pv bxr 0)] ?_)))
  refine Ok.o (OpOk.s (v:=.slice v3 ((pp xr).2).length k3) (Yields.l 1 rfl rfl underlying67 rfl kr) rfl rfl ?_)
  obtain ⟨h010,h110,h210,hF⟩:=hF
  refine Ok.o (OpOk.sliceRo (e:=yK) (l:=1) (h:=(((pp xr).2).length:Int)) rfl underlying67 kr (.inl ⟨_,_,rfl,rfl⟩) (.inr ⟨rfl,rfl⟩) y2 h010 h110 h210 rfl (pd xr) (by rw [show (((pp xr).2).length:Int).toNat=((pp xr).2).length from tnc _,List.take_length]) fun a10 c10 hR10=>?_)
  refine Ok.b 2 [2,3] [(16,.slice a10 (pd xr).length c10),(18,pv bxr 0)] ?_
  refine Ok.o (OpOk.s1 1 (.slice a10 (pd xr).length c10) rfl rfl rfl ?_)
  refine Ok.nt (Ok.sr (Ok.o (OpOk.s (v:=.agg (aK (pp xr).1)) (Yields.loadAgg 0 4 (aK (pp xr).1) rfl rfl underlying98 rfl kr kr kr) rfl rfl (Ok.o (OpOk.sw 2 (aK (pp xr).1) rfl rfl rfl ?_)))))
  refine Ok.nt (Ok.ret (Ok.back (vs:=[.agg (aK (pp xr).1)]) (.inl rfl) rfl (.cons (.cellAgg 2 4 (aK (pp xr).1) rfl rfl underlying98 rfl kr kr kr) .nil) rfl (Ok.o (OpOk.i (args:=#[pv bxr 0,.agg (aK (pp xr).1),iv 1,sv ([]:Bs)]) 31 [(0,pv bxr 0),(1,.agg (aK (pp xr).1)),(2,iv 1),(3,sv ([]:Bs))] enr func182 rfl rfl rfl rfl (Ok.sr (Ok.o (OpOk.bx (aK (pp xr).1) fun u2=>?_)))))))
  refine Ok.B 1 [(0,pv bxr 0),(2,iv 1),(3,sv ([]:Bs)),(5,pv u2 0)] kr (Ok.nt (Ok.sr (Ok.rn 6 [.e 0] [3,5] [(9,pv bxr 0),(14,.bool ((pp xr).1.1==1))] ?_)))
  refine Ok.bw 14 hF (fun D2 hF=>?_) (fun D2 hF=>?_)
  ·refine Ok.rn 4 [.e 0] [5,9] [(14,.bool true),(16,sv ((pp xr).1.2.1)),(17,sv ([]:Bs)),(18,pv u2 2)] ?_
   refine Ok.oy (OpOk.s (v:=sv ((pp xr).1.2.2.1)) (Yields.l 0 rfl rfl underlying9 rfl kr) rfl rfl ?_)
   obtain ⟨hv,hF⟩:=hF
   refine Ok.oy (OpOk.s (v:=sv (([]:Bs)++(pp xr).1.2.2.1)) (Yields.sa rfl rfl hv) rfl rfl (Ok.rn 3 [] [5,9] [(23,.bool ((pp xr).1.2.1==(([]:Bs)++(pp xr).1.2.2.1)))] ?_))
   refine Ok.bw 23 hF (fun hc13 hF=>?_) (fun hc13 hF=>?_)
   ·obtain ⟨E2,hF⟩:=hF
    refine Ok.rn 4 [.e 0,.k (snm_c (pp xr).1.2.2.1 hG0 E2)] [5,9] [(27,.bool (plainS (pp xr).1.2.2.1))] ?_
    refine Ok.o (OpOk.i (args:=#[pv bxr 0,.bool (plainS (pp xr).1.2.2.1)]) 8 [(0,pv bxr 0),(1,.bool (plainS (pp xr).1.2.2.1))] enr func57 rfl rfl rfl rfl (Ok.sr (Ok.B 2 [(5,.bool (!(plainS (pp xr).1.2.2.1)))] kr (Ok.nt (Ok.cw hF (fun hc15 hF=>?_) (fun hc15 hF=>?_))))))
    ·exact False.elim hF
    refine Ok.k (Ok.back (vs:=[]) (.inr rfl) rfl .nil rfl (Ok.nt (Ok.sr (Ok.rn 3 [.e 0] [] [(8,sv ((pp xr).1.2.2.1))] ?_))))
    refine Ok.nt (Ok.ret (Ok.back (vs:=[sv ((pp xr).1.2.2.1)]) (.inl rfl) rfl (.cons (.tmp rfl) .nil) rfl ?_))
    obtain ⟨hp16,hF⟩:=hF
    refine Ok.rn 2 [.k (slw_c (pp xr).1.2.2.1 hp16)] [] [(2,pv bs2 0),(23,.agg #[iv 2,sv (lowerS (pp xr).1.2.2.1),.int .u8 0,sv ([]:Bs),iv 0,iv 0,.slice none 0 0])] ?_
    refine Ok.o (OpOk.sw 5 #[iv 2,sv (lowerS (pp xr).1.2.2.1),.int .u8 0,sv ([]:Bs),iv 0,iv 0,.slice none 0 0] rfl rfl rfl ?_)
    refine Ok.b 1 [2] [(3,.bool true)] ?_
    refine Ok.nt (Ok.ret (Ok.kr (Ok.tr ?_)))
    exact Ok.p (vs:=[.agg #[iv 2,sv (lowerS (pp xr).1.2.2.1),.int .u8 0,sv ([]:Bs),iv 0,iv 0,.slice none 0 0],.bool true]) [2] [.blk bxr (.cells #[.slice a10 (pd xr).length c10] 70)] dc rfl (.inl rfl) rfl (.cons (.cellAgg 5 7 #[iv 2,sv (lowerS (pp xr).1.2.2.1),.int .u8 0,sv ([]:Bs),iv 0,iv 0,.slice none 0 0] rfl rfl underlying60 rfl kr kr kr) (.cons (.tmp rfl) .nil)) (hx2.trans hx7) ⟨(Tst.mk (2,lowerS (pp xr).1.2.2.1,0,([]:Bs),0,0) ([])),true,pd xr,none,0,a10,c10,rfl,Rep.nil,hR10,rfl,hF⟩
   refine Ok.b 4 [5,9] [(27,.bool false)] ?_
   refine Ok.o (OpOk.i (args:=#[pv bxr 0,.bool false]) 8 [(0,pv bxr 0),(1,.bool false)] enr func57 rfl rfl rfl rfl (Ok.sr (Ok.B 2 [(5,.bool true)] kr (Ok.nt (Ok.c (b:=true) rfl (fun _=>?_) (fun h=>by cases h))))))
   exact False.elim hF
  refine Ok.b 13 [5,9] [(27,.bool false)] ?_
  refine Ok.o (OpOk.i (args:=#[pv bxr 0,.bool false]) 8 [(0,pv bxr 0),(1,.bool false)] enr func57 rfl rfl rfl rfl (Ok.sr (Ok.B 2 [(5,.bool true)] kr (Ok.nt (Ok.c (b:=true) rfl (fun _=>?_) (fun h=>by cases h))))))
  exact False.elim hF
 refine Ok.sr (Ok.rn 4 [.e 0] [0,2,4] [(24,.bool ((pekS xr).1.1==4))] ?_)
 refine Ok.nt (Ok.cw hF (fun hc17 hF=>?_) (fun hc17 hF=>?_))
 ·exact False.elim hF
 refine Ok.sr (Ok.rn 4 [.e 0] [0,2,4] [(33,.bool ((pekS xr).1.2.1==([46]:Bs)))] ?_)
 refine Ok.nt (Ok.cw hF (fun c1 hF=>?_) (fun c1 hF=>?_))
 ·refine Ok.sr (Ok.b 1 [0,2] [(37,pv bxr 0)] ?_)
  refine Ok.o (OpOk.i (args:=#[pv bxr 0]) 20 [(0,pv bxr 0)] enr func100 rfl rfl rfl rfl (Ok.sr (Ok.o (OpOk.aw zK fun V1=>?_))))
  refine Ok.nt (Ok.sr (Ok.b 1 [0] [(2,pv V1 0),(4,pv bxr 0)] ?_))
  refine Ok.e [2,0,1,3] [.blk bxr (.cells #[.slice t1 ((pekS xr).2).length a1] 70),.blk V1 (.cells zK 98),.blk bs4 (.cells (aK (pekS xr).1) 98),.blk bs2 (.cells #[iv 0,sv ([]:Bs),.int .u8 0,sv ([]:Bs),iv 0,iv 0,.slice none 0 0] 60)] dc rfl (Ok.o (OpOk.callH [_] _ enr rfl (pek_c (pekS xr).2 d1) rfl fun g20 _ _ Q1 F2=>?_))
  obtain ⟨j2,x2,rfl,S1,rfl⟩:=F2
  replace hG0:=hG0.mono Q1.1
  refine Ok.o (OpOk.aw zK fun s2=>?_)
  refine Ok.o (OpOk.sw 0 (aK (pp xr).1) rfl rfl rfl ?_)
  refine Ok.nt (Ok.q (Ok.sr (Ok.rn 3 [.e 0] [] [(0,pv bxr 0),(2,pv V1 0),(3,pv s2 0),(8,.bool ((pp xr).1.1==0))] ?_)))
  refine Ok.nt (Ok.cw hF (fun G2 hF=>?_) (fun G2 hF=>?_))
  ·exact False.elim hF
  refine Ok.k (Ok.t (Ok.sr (Ok.b 4 [2,3] [(11,pv bxr 0),(14,pv bxr 0)] ?_)))
  refine Ok.o (OpOk.s (v:=.slice j2 ((pp xr).2).length x2) (Yields.l 1 rfl rfl underlying67 rfl kr) rfl rfl ?_)
  obtain ⟨H2,M2,N2,hF⟩:=hF
  refine Ok.o (OpOk.sliceRo (e:=yK) (l:=1) (h:=(((pp xr).2).length:Int)) rfl underlying67 kr (.inl ⟨_,_,rfl,rfl⟩) (.inr ⟨rfl,rfl⟩) S1 H2 M2 N2 rfl (pd xr) (by rw [show (((pp xr).2).length:Int).toNat=((pp xr).2).length from tnc _,List.take_length]) fun a23 c23 O2=>?_)
  refine Ok.b 2 [2,3] [(16,.slice a23 (pd xr).length c23),(18,pv bxr 0)] ?_
  refine Ok.o (OpOk.s1 1 (.slice a23 (pd xr).length c23) rfl rfl rfl ?_)
  refine Ok.nt (Ok.sr (Ok.o (OpOk.s (v:=.agg (aK (pp xr).1)) (Yields.loadAgg 0 4 (aK (pp xr).1) rfl rfl underlying98 rfl kr kr kr) rfl rfl (Ok.o (OpOk.sw 2 (aK (pp xr).1) rfl rfl rfl ?_)))))
  refine Ok.nt (Ok.ret (Ok.back (vs:=[.agg (aK (pp xr).1)]) (.inl rfl) rfl (.cons (.cellAgg 2 4 (aK (pp xr).1) rfl rfl underlying98 rfl kr kr kr) .nil) rfl (Ok.nt (Ok.sr (Ok.B 2 [(2,pv bs2 0),(39,pv bxr 0),(40,pv bxr 0)] kr (Ok.o (OpOk.i (args:=#[pv bxr 0]) 20 [(0,pv bxr 0)] enr func100 rfl rfl rfl rfl (Ok.sr (Ok.o (OpOk.aw zK fun B1=>?_))))))))))
  refine Ok.nt (Ok.sr (Ok.B 1 [(0,pv bxr 0),(2,pv B1 0),(4,pv bxr 0)] kr (Ok.e [2,0,1,3,4,5] [.blk bxr (.cells #[.slice a23 (pd xr).length c23] 70),.blk B1 (.cells zK 98),.blk s2 (.cells (aK (pp xr).1) 98),.blk V1 (.cells (aK (pp xr).1) 98),.blk bs4 (.cells (aK (pekS xr).1) 98),.blk bs2 (.cells #[iv 0,sv ([]:Bs),.int .u8 0,sv ([]:Bs),iv 0,iv 0,.slice none 0 0] 60)] dc rfl (Ok.o (OpOk.callH [_] _ enr rfl (pek_c (pd xr) O2) rfl fun g25 _ _ y3 hV25=>?_)))))
  obtain ⟨a25_0,c25_0,rfl,hR25_0,rfl⟩:=hV25
  replace hG0:=hG0.mono y3.1
  refine Ok.o (OpOk.aw zK fun bs3i41=>?_)
  refine Ok.o (OpOk.sw 0 (aK (pekS (pd xr)).1) rfl rfl rfl ?_)
  refine Ok.nt (Ok.q (Ok.sr (Ok.rn 3 [.e 0] [] [(0,pv bxr 0),(2,pv B1 0),(3,pv bs3i41 0),(8,.bool ((pekS (pd xr)).1.1==0))] ?_)))
  refine Ok.nt (Ok.cw hF (fun hc27 hF=>?_) (fun hc27 hF=>?_))
  ·exact False.elim hF
  refine Ok.k (Ok.t (Ok.sr (Ok.b 4 [2,3] [(11,pv bxr 0),(14,pv bxr 0)] ?_)))
  refine Ok.o (OpOk.s (v:=.slice a25_0 ((pekS (pd xr)).2).length c25_0) (Yields.l 1 rfl rfl underlying67 rfl kr) rfl rfl ?_)
  obtain ⟨h028,h128,h228,hF⟩:=hF
  refine Ok.o (OpOk.sliceRo (e:=yK) (l:=1) (h:=(((pekS (pd xr)).2).length:Int)) rfl underlying67 kr (.inl ⟨_,_,rfl,rfl⟩) (.inr ⟨rfl,rfl⟩) hR25_0 h028 h128 h228 rfl (((pekS (pd xr)).2).drop (Int.toNat 1)) (by rw [show (((pekS (pd xr)).2).length:Int).toNat=((pekS (pd xr)).2).length from tnc _,List.take_length]) fun a28 c28 hR28=>?_)
  refine Ok.b 2 [2,3] [(16,.slice a28 (((pekS (pd xr)).2).drop (Int.toNat 1)).length c28),(18,pv bxr 0)] ?_
  refine Ok.o (OpOk.s1 1 (.slice a28 (((pekS (pd xr)).2).drop (Int.toNat 1)).length c28) rfl rfl rfl ?_)
  refine Ok.nt (Ok.sr (Ok.o (OpOk.s (v:=.agg (aK (pekS (pd xr)).1)) (Yields.loadAgg 0 4 (aK (pekS (pd xr)).1) rfl rfl underlying98 rfl kr kr kr) rfl rfl (Ok.o (OpOk.sw 2 (aK (pekS (pd xr)).1) rfl rfl rfl ?_)))))
  refine Ok.nt (Ok.ret (Ok.back (vs:=[.agg (aK (pekS (pd xr)).1)]) (.inl rfl) rfl (.cons (.cellAgg 2 4 (aK (pekS (pd xr)).1) rfl rfl underlying98 rfl kr kr kr) .nil) rfl (Ok.o (OpOk.i (args:=#[pv bxr 0,.agg (aK (pekS (pd xr)).1),iv 1,sv ([]:Bs)]) 31 [(0,pv bxr 0),(1,.agg (aK (pekS (pd xr)).1)),(2,iv 1),(3,sv ([]:Bs))] enr func182 rfl rfl rfl rfl (Ok.sr (Ok.o (OpOk.bx (aK (pekS (pd xr)).1) fun b2=>?_)))))))
  refine Ok.B 1 [(0,pv bxr 0),(2,iv 1),(3,sv ([]:Bs)),(5,pv b2 0)] kr (Ok.nt (Ok.sr (Ok.rn 6 [.e 0] [3,5] [(9,pv bxr 0),(14,.bool ((pekS (pd xr)).1.1==1))] ?_)))
  refine Ok.bw 14 hF (fun hc30 hF=>?_) (fun hc30 hF=>?_)
  ·refine Ok.rn 4 [.e 0] [5,9] [(14,.bool true),(16,sv ((pekS (pd xr)).1.2.1)),(17,sv ([]:Bs)),(18,pv b2 2)] ?_
   refine Ok.oy (OpOk.s (v:=sv ((pekS (pd xr)).1.2.2.1)) (Yields.l 0 rfl rfl underlying9 rfl kr) rfl rfl ?_)
   obtain ⟨hv,hF⟩:=hF
   refine Ok.oy (OpOk.s (v:=sv (([]:Bs)++(pekS (pd xr)).1.2.2.1)) (Yields.sa rfl rfl hv) rfl rfl (Ok.rn 3 [] [5,9] [(23,.bool ((pekS (pd xr)).1.2.1==(([]:Bs)++(pekS (pd xr)).1.2.2.1)))] ?_))
   refine Ok.bw 23 hF (fun hc31 hF=>?_) (fun hc31 hF=>?_)
   ·obtain ⟨hp32,hF⟩:=hF
    refine Ok.rn 4 [.e 0,.k (snm_c (pekS (pd xr)).1.2.2.1 hG0 hp32)] [5,9] [(27,.bool (plainS (pekS (pd xr)).1.2.2.1))] ?_
    refine Ok.o (OpOk.i (args:=#[pv bxr 0,.bool (plainS (pekS (pd xr)).1.2.2.1)]) 8 [(0,pv bxr 0),(1,.bool (plainS (pekS (pd xr)).1.2.2.1))] enr func57 rfl rfl rfl rfl (Ok.sr (Ok.B 2 [(5,.bool (!(plainS (pekS (pd xr)).1.2.2.1)))] kr (Ok.nt (Ok.cw hF (fun C1 hF=>?_) (fun C1 hF=>?_))))))
    ·exact False.elim hF
    refine Ok.k (Ok.back (vs:=[]) (.inr rfl) rfl .nil rfl (Ok.nt (Ok.sr (Ok.rn 3 [.e 0] [] [(8,sv ((pekS (pd xr)).1.2.2.1))] ?_))))
    refine Ok.nt (Ok.ret (Ok.back (vs:=[sv ((pekS (pd xr)).1.2.2.1)]) (.inl rfl) rfl (.cons (.tmp rfl) .nil) rfl (Ok.B 1 [(2,pv bs2 0),(43,.agg #[iv 4,sv ((pekS (pd xr)).1.2.2.1),.int .u8 0,sv ([]:Bs),iv 0,iv 0,.slice none 0 0])] kr (Ok.o (OpOk.sw 7 #[iv 4,sv ((pekS (pd xr)).1.2.2.1),.int .u8 0,sv ([]:Bs),iv 0,iv 0,.slice none 0 0] rfl rfl rfl ?_)))))
    refine Ok.b 1 [2] [(3,.bool true)] ?_
    refine Ok.nt (Ok.ret (Ok.kr (Ok.tr ?_)))
    exact Ok.p (vs:=[.agg #[iv 4,sv ((pekS (pd xr)).1.2.2.1),.int .u8 0,sv ([]:Bs),iv 0,iv 0,.slice none 0 0],.bool true]) [2] [.blk bxr (.cells #[.slice a28 (((pekS (pd xr)).2).drop (Int.toNat 1)).length c28] 70)] dc rfl (.inl rfl) rfl (.cons (.cellAgg 7 7 #[iv 4,sv ((pekS (pd xr)).1.2.2.1),.int .u8 0,sv ([]:Bs),iv 0,iv 0,.slice none 0 0] rfl rfl underlying60 rfl kr kr kr) (.cons (.tmp rfl) .nil)) ((hx2.trans Q1).trans y3) ⟨(Tst.mk (4,(pekS (pd xr)).1.2.2.1,0,([]:Bs),0,0) ([])),true,(((pekS (pd xr)).2).drop (Int.toNat 1)),none,0,a28,c28,rfl,Rep.nil,hR28,rfl,hF⟩
   refine Ok.b 4 [5,9] [(27,.bool false)] ?_
   refine Ok.o (OpOk.i (args:=#[pv bxr 0,.bool false]) 8 [(0,pv bxr 0),(1,.bool false)] enr func57 rfl rfl rfl rfl (Ok.sr (Ok.B 2 [(5,.bool true)] kr (Ok.nt (Ok.c (b:=true) rfl (fun _=>?_) (fun h=>by cases h))))))
   exact False.elim hF
  refine Ok.b 13 [5,9] [(27,.bool false)] ?_
  refine Ok.o (OpOk.i (args:=#[pv bxr 0,.bool false]) 8 [(0,pv bxr 0),(1,.bool false)] enr func57 rfl rfl rfl rfl (Ok.sr (Ok.B 2 [(5,.bool true)] kr (Ok.nt (Ok.c (b:=true) rfl (fun _=>?_) (fun h=>by cases h))))))
  exact False.elim hF
 refine Ok.sr (Ok.rn 4 [.e 0] [0,2,4] [(44,.bool ((pekS xr).1.2.1==([91]:Bs)))] ?_)
 refine Ok.nt (Ok.cw hF (fun P1 hF=>?_) (fun P1 hF=>?_))
 ·exact False.elim hF
 refine Ok.sr (Ok.rn 4 [.e 0] [0,2] [(52,.bool ((pekS xr).1.2.1==([58]:Bs)))] ?_)
 refine Ok.nt (Ok.cw hF (fun c2 hF=>?_) (fun c2 hF=>?_))
 ·exact False.elim hF
 refine Ok.k (Ok.kn (Ok.t (Ok.sr (Ok.b 1 [2] [(60,.agg #[iv 0,sv ([]:Bs),.int .u8 0,sv ([]:Bs),iv 0,iv 0,.slice none 0 0])] ?_))))
 refine Ok.o (OpOk.sw 2 #[iv 0,sv ([]:Bs),.int .u8 0,sv ([]:Bs),iv 0,iv 0,.slice none 0 0] rfl rfl rfl ?_)
 refine Ok.b 1 [2] [(3,.bool false)] ?_
 refine Ok.nt (Ok.ret ?_)
 exact Ok.p (vs:=[.agg #[iv 0,sv ([]:Bs),.int .u8 0,sv ([]:Bs),iv 0,iv 0,.slice none 0 0],.bool false]) [1] [.blk bxr (.cells #[.slice t1 ((pekS xr).2).length a1] 70)] dc rfl (.inl rfl) rfl (.cons (.cellAgg 2 7 #[iv 0,sv ([]:Bs),.int .u8 0,sv ([]:Bs),iv 0,iv 0,.slice none 0 0] rfl rfl underlying60 rfl kr kr kr) (.cons (.tmp rfl) .nil)) hx2 ⟨(Tst.mk (0,([]:Bs),0,([]:Bs),0,0) ([])),false,(pekS xr).2,none,0,t1,a1,rfl,Rep.nil,d1,rfl,hF⟩
def kA:Tok:=(1,[97],[97],0)
def kS:Tok:=(8,[32],[],0)
def kG:Tok:=(12,[62],[],0)
def kD:Tok:=(12,[46],[],0)
def kB:Tok:=(1,[98],[98],0)
def R0:Rd:=[kA,kS,kG,kS,kD,kB]
def R1:Rd:=[kS,kG,kS,kD,kB]
def R3:Rd:=[kD,kB]
def tA:Ts:=.mk (2,[97],0,[],0,0) []
def tB:Ts:=.mk (4,[98],0,[],0,0) []
def tN:Ts:=.mk (0,[],0,[],0,0) []
def oneP (r:Rd):Prop:=r=R0∨r=R1∨r=R3∨r=[]
def oneR (r:Rd):Ts×Bool×Rd:=if r=R0 then (tA,true,R1) else if r=R3 then (tB,true,[]) else (tN,false,r)
theorem pa:plainS [97]=true:=by decide +kernel
theorem pb:plainS [98]=true:=by decide +kernel
theorem one_F (r:Rd) (hp:oneP r):oneF r (fun a b c=>(a,b,c)=oneR r):=by
 rcases hp with rfl | rfl | rfl | rfl
 ·exact ⟨fun h=>absurd h dk,fun _=>⟨fun _=>⟨fun h=>absurd h dk,fun _=>⟨by decide,by decide +kernel,by decide +kernel,fun _=>⟨by decide +kernel,fun _=>⟨by unfold cutP; decide +kernel,fun h=>absurd h (by rw [show plainS (pekS (pekS R0).2).1.2.2.1=true from pa]; decide),fun _=>⟨by unfold lowerP; decide +kernel,by show _=_; kernel_rfl⟩⟩,fun h=>absurd h dk⟩,fun h=>absurd h dk⟩⟩,fun h=>absurd h dk⟩⟩
 ·exact ⟨fun h=>absurd h dk,fun _=>⟨fun h=>absurd h dk,fun _=>⟨fun h=>absurd h dk,fun _=>⟨fun h=>absurd h dk,fun _=>⟨fun h=>absurd h dk,fun _=>⟨fun h=>absurd h dk,fun _=>by show _=_; kernel_rfl⟩⟩⟩⟩⟩⟩
 ·exact ⟨fun h=>absurd h dk,fun _=>⟨fun h=>absurd h dk,fun _=>⟨fun h=>absurd h dk,fun _=>⟨fun _=>⟨fun h=>absurd h dk,fun _=>⟨by decide,by decide +kernel,by decide +kernel,fun h=>absurd h dk,fun _=>⟨by decide,by decide +kernel,by decide +kernel,fun _=>⟨by decide +kernel,fun _=>⟨by unfold cutP; decide +kernel,fun h=>absurd h (by rw [show plainS (pekS (((pekS (pekS R3).2).2).drop (Int.toNat 1))).1.2.2.1=true from pb]; decide),fun _=>by show _=_; kernel_rfl⟩,fun h=>absurd h dk⟩,fun h=>absurd h dk⟩⟩⟩,fun h=>absurd h dk⟩⟩⟩⟩
 exact ⟨fun h=>absurd h dk,fun _=>⟨fun h=>absurd h dk,fun _=>⟨fun h=>absurd h dk,fun _=>⟨fun h=>absurd h dk,fun _=>⟨fun h=>absurd h dk,fun _=>⟨fun h=>absurd h dk,fun _=>by show _=_; kernel_rfl⟩⟩⟩⟩⟩⟩
theorem one_c {g:Ghost} {bxr:Nat} {Q0:Option Addr} {K0:Nat} (xr:List KT) (X0:Rep g (.slice yK) [.slice Q0 xr.length K0] xr) (hG0:SomeInt g 0)  (hp:oneP xr):CallsH prog 143 #[pv bxr 0] g [.blk bxr (.cells #[.slice Q0 xr.length K0] 70)] (fun g' H' v=>∃ (S0:Option Addr) (B0:Nat),∃ (m0:Option Addr) (n0:Nat),v=.tuple #[.agg #[iv ((oneR xr).1).lab.1,sv (((oneR xr).1).lab.2.1),.int .u8 ((oneR xr).1).lab.2.2.1,sv (((oneR xr).1).lab.2.2.2.1),iv ((oneR xr).1).lab.2.2.2.2.1,iv ((oneR xr).1).lab.2.2.2.2.2,.slice S0 ((oneR xr).1).kids.length B0],.bool (oneR xr).2.1]∧Rep g' (.slice yP) [.slice S0 ((oneR xr).1).kids.length B0] ((oneR xr).1).kids∧Rep g' (.slice yK) [.slice m0 ((oneR xr).2.2).length n0] (oneR xr).2.2∧H'=[.blk bxr (.cells #[.slice m0 ((oneR xr).2.2).length n0] 70)]) :=
 (one_ok xr X0 hG0 _ (one_F xr hp)).mono (by rintro g' H' v _ ⟨r0,r1,fxr,S0,B0,m0,n0,rfl,L0,F0,rfl,hK⟩; obtain ⟨rfl,rfl,rfl⟩:r0=(oneR xr).1∧r1=(oneR xr).2.1∧fxr=(oneR xr).2.2:=⟨congrArg (fun z=>z.1) hK,congrArg (fun z=>z.2.1) hK,congrArg (fun z=>z.2.2) hK⟩; exact ⟨S0,B0,m0,n0,rfl,L0,F0,rfl⟩)
def stpl9b (K:(List TS)→List KT→Prop) (K1:Bool) (y0:Int) (b0:Bs) (s0:Int) (x0:Bs) (c0:Int) (d0:Int) (g0:List PH) (k0:List KT) (t0:List TS) (C9:Bool→Int→Bs→Int→Bs→Int→Int→List PH→List KT→List TS→Prop):Prop :=
 (K1=true→(t0++([Tst.mk (y0,b0,s0,x0,c0,d0) g0]:List TS)).length≤1599289640401∧oneP k0∧C9 (oneR k0).2.1 (((oneR k0).1).lab.1) (((oneR k0).1).lab.2.1) (((oneR k0).1).lab.2.2.1) (((oneR k0).1).lab.2.2.2.1) (((oneR k0).1).lab.2.2.2.2.1) (((oneR k0).1).lab.2.2.2.2.2) (((oneR k0).1).kids) (oneR k0).2.2 (t0++([Tst.mk (y0,b0,s0,x0,c0,d0) g0]:List TS)))∧(K1=false→((!(decide ((t0.length:Int)>0)))=true→False)∧((!(decide ((t0.length:Int)>0)))=false→K t0 k0))
def stpl9 (K:(List TS)→List KT→Prop):Nat→Bool→Int→Bs→Int→Bs→Int→Int→List PH→List KT→List TS→Prop
 | 0,_,_,_,_,_,_,_,_,_,_=>False
 | k+1,K1,y0,b0,s0,x0,c0,d0,g0,k0,t0=>stpl9b K K1 y0 b0 s0 x0 c0 d0 g0 k0 t0 (stpl9 K k)
def stpF (xr:List KT) (K:(List TS)→List KT→Prop):Prop :=
 oneP xr∧∃ k,stpl9 K k (oneR xr).2.1 (((oneR xr).1).lab.1) (((oneR xr).1).lab.2.1) (((oneR xr).1).lab.2.2.1) (((oneR xr).1).lab.2.2.2.1) (((oneR xr).1).lab.2.2.2.2.1) (((oneR xr).1).lab.2.2.2.2.2) (((oneR xr).1).kids) (oneR xr).2.2 ([]:List TS)
theorem stp_ok {g:Ghost} {bxr:Nat} {Q0:Option Addr} {K0:Nat} (xr:List KT) (X0:Rep g (.slice yK) [.slice Q0 xr.length K0] xr) (hG0:SomeInt g 0) (K:(List TS)→List KT→Prop)
  (hF:stpF xr K):CallsH prog 99 #[pv bxr 0] g [.blk bxr (.cells #[.slice Q0 xr.length K0] 70)] (fun g' H' v=>∃ (r0:List TS),∃ (fxr:List KT),∃ (S0:Option Addr) (B0:Nat),∃ (m0:Option Addr) (n0:Nat),v=.slice S0 r0.length B0∧Rep g' (.slice yS) [.slice S0 r0.length B0] r0∧Rep g' (.slice yK) [.slice m0 fxr.length n0] fxr∧H'=[.blk bxr (.cells #[.slice m0 fxr.length n0] 70)]∧K r0 fxr):=by
 refine CallsH.en 28 func99 rfl fun w0=>?_
 refine Ok.sr (Ok.B 1 [(0,pv bxr 0)] kr (Ok.nt (Ok.sr (Ok.b 1 [0] [(3,.slice none 0 0)] ?_))))
 have hL1:RepL g yS [] []:=rfl
 refine Ok.ownNil 60 7 (Ok.nt (Ok.q (Ok.sr (Ok.b 1 [0] [(3,.slice none ([]:List TS).length 0),(7,pv bxr 0)] ?_))))
 obtain ⟨hp2,hF⟩:=hF
 refine Ok.e [1,0] [.blk bxr (.cells #[.slice Q0 xr.length K0] 70),.own (.slice none ([]:List TS).length 0) 60 7 ([]:List TS).length ([])] dc rfl (Ok.o (OpOk.callH [_] _ enr rfl (one_c xr X0 hG0 hp2) rfl fun g3 _ _ hx3 hV3=>?_))
 obtain ⟨Z2,V2,a3_2,c3_2,rfl,hR3_0,hR3_2,rfl⟩:=hV3
 replace hL1:=hL1.mono hx3.1
 replace hG0:=hG0.mono hx3.1
 refine Ok.B 3 [(0,pv bxr 0),(3,.slice none ([]:List TS).length 0),(9,.agg #[iv (((oneR xr).1).lab.1),sv (((oneR xr).1).lab.2.1),.int .u8 (((oneR xr).1).lab.2.2.1),sv (((oneR xr).1).lab.2.2.2.1),iv (((oneR xr).1).lab.2.2.2.2.1),iv (((oneR xr).1).lab.2.2.2.2.2),.slice Z2 (((oneR xr).1).kids).length V2]),(10,.bool (oneR xr).2.1)] kr (Ok.o (OpOk.aw #[iv 0,sv ([]:Bs),.int .u8 0,sv ([]:Bs),iv 0,iv 0,.slice none 0 0] fun bs4=>?_))
 refine Ok.o (OpOk.sw 0 #[iv (((oneR xr).1).lab.1),sv (((oneR xr).1).lab.2.1),.int .u8 (((oneR xr).1).lab.2.2.1),sv (((oneR xr).1).lab.2.2.2.1),iv (((oneR xr).1).lab.2.2.2.2.1),iv (((oneR xr).1).lab.2.2.2.2.2),.slice Z2 (((oneR xr).1).kids).length V2] rfl rfl rfl ?_)
 refine Ok.b 1 [0,3] [(4,pv bs4 0),(5,.bool (oneR xr).2.1)] ?_
 refine Ok.nt (Ok.block ?_)
 obtain ⟨k,hF⟩:=hF
 refine Ok.L (fun k a W=>∃ gl9:Ghost,Gext w0 g3 gl9∧∃ (A0:Nat) (K1:Bool) (y0:Int) (b0:Bs) (s0:Int) (x0:Bs) (c0:Int) (d0:Int) (Y0:Option Addr) (U0:Nat) (g0:List PH) (C0:Option Addr) (D0:Nat) (k0:List KT) (G0:Option Addr) (H0:Nat) (t0:List TS) (I0:List Value),Rep gl9 (.slice yP) [.slice Y0 g0.length U0] g0∧Rep gl9 (.slice yK) [.slice C0 k0.length D0] k0∧RepL gl9 yS I0 t0∧StA 28 [(0,pv bxr 0),(3,.slice G0 t0.length H0),(4,pv A0 0),(5,.bool K1)] a∧StW w0 [.blk A0 (.cells #[iv y0,sv b0,.int .u8 s0,sv x0,iv c0,iv d0,.slice Y0 g0.length U0] 60),.blk bxr (.cells #[.slice C0 k0.length D0] 70),.own (.slice G0 t0.length H0) 60 7 t0.length I0] gl9 W∧stpl9 K k K1 y0 b0 s0 x0 c0 d0 g0 k0 t0) k ?_ ?_
 ·
  exact fun _ _ u v=>⟨g3,Gext.r w0 g3,bs4,(oneR xr).2.1,((oneR xr).1).lab.1,((oneR xr).1).lab.2.1,((oneR xr).1).lab.2.2.1,((oneR xr).1).lab.2.2.2.1,((oneR xr).1).lab.2.2.2.2.1,((oneR xr).1).lab.2.2.2.2.2,Z2,V2,((oneR xr).1).kids,a3_2,c3_2,(oneR xr).2.2,none,0,([]:List TS),[],hR3_0,hR3_2,hL1,fA u v hF⟩
 clear hF
 rintro (_ | k9) _ _ ⟨gl9,O1,A0,K1,y0,b0,s0,x0,c0,d0,Y0,U0,g0,C0,D0,k0,G0,H0,t0,I0,M0,E0,e1,q⟩
 exact (q.2.2:False).elim
 refine jn (fun hF=>?_) _ _ q
 replace hG0:=hG0.mono O1.1
 refine Ok.q (Ok.sr (Ok.b 1 [0,3,4] [(11,.bool K1)] ?_))
 refine Ok.nt (Ok.cw hF (fun hc5 hF=>?_) (fun hc5 hF=>?_))
 ·refine Ok.k (Ok.t (Ok.q (Ok.block (Ok.r (Ok.b 1 [0,4] [(17,.slice G0 t0.length H0)] ?_)))))
  refine Ok.o (OpOk.s (v:=.agg #[iv y0,sv b0,.int .u8 s0,sv x0,iv c0,iv d0,.slice Y0 g0.length U0]) (Yields.loadAgg 0 7 #[iv y0,sv b0,.int .u8 s0,sv x0,iv c0,iv d0,.slice Y0 g0.length U0] rfl rfl underlying60 rfl kr kr kr) rfl rfl ?_)
  have hL6:RepL gl9 yS ([iv y0,sv b0,.int .u8 s0,sv x0,iv c0,iv d0,.slice Y0 g0.length U0]:List Value) ([Tst.mk (y0,b0,s0,x0,c0,d0) g0]:List TS):=(RepL.consN (c:=[iv y0,sv b0,.int .u8 s0,sv x0,iv c0,iv d0,.slice Y0 g0.length U0]) (Rep.tst.2 ⟨[iv y0,sv b0,.int .u8 s0,sv x0,iv c0,iv d0],[.slice Y0 g0.length U0],rfl,⟨[iv y0],[sv b0,.int .u8 s0,sv x0,iv c0,iv d0],rfl,rfl,⟨[sv b0],[.int .u8 s0,sv x0,iv c0,iv d0],rfl,rfl,⟨[.int .u8 s0],[sv x0,iv c0,iv d0],rfl,rfl,⟨[sv x0],[iv c0,iv d0],rfl,rfl,⟨[iv c0],[iv d0],rfl,rfl,rfl⟩⟩⟩⟩⟩,M0⟩) rfl)
  refine Ok.o (OpOk.lit (E:=60) yS ([Tst.mk (y0,b0,s0,x0,c0,d0) g0]:List TS) ([iv y0,sv b0,.int .u8 s0,sv x0,iv c0,iv d0,.slice Y0 g0.length U0]:List Value) kr kr rfl kr hL6 rfl fun b6=>?_)
  obtain ⟨hb7,hF⟩:=hF
  refine Ok.o (OpOk.append' (e:=yS) 88 1599289640401 3 0 rfl rfl rfl rfl e1 hL6 underlying54 kr kr kr hb7 rfl fun a7 c7 xs7 hL7=>?_)
  refine Ok.b 1 [0,4] [(3,.slice a7 (t0++([Tst.mk (y0,b0,s0,x0,c0,d0) g0]:List TS)).length c7)] ?_
  refine Ok.j (Ok.kn (Ok.t (Ok.q (Ok.sr (Ok.o (OpOk.s (v:=.agg #[iv y0,sv b0,.int .u8 s0,sv x0,iv c0,iv d0,.slice Y0 g0.length U0]) (Yields.loadAgg 1 7 #[iv y0,sv b0,.int .u8 s0,sv x0,iv c0,iv d0,.slice Y0 g0.length U0] rfl rfl underlying60 rfl kr kr kr) rfl rfl (Ok.nt (Ok.r (Ok.o (OpOk.aw #[iv 0,sv ([]:Bs),.int .u8 0,sv ([]:Bs),iv 0,iv 0,.slice none 0 0] fun bs4=>?_))))))))))
  refine Ok.o (OpOk.sw 0 #[iv y0,sv b0,.int .u8 s0,sv x0,iv c0,iv d0,.slice Y0 g0.length U0] rfl rfl rfl ?_)
  refine Ok.nt (Ok.r (Ok.b 1 [0,3] [(4,pv bs4 0),(13,pv bxr 0)] ?_))
  obtain ⟨hp9,hF⟩:=hF
  refine Ok.e [3,0,1,2,4] [.blk bxr (.cells #[.slice C0 k0.length D0] 70),.blk bs4 (.cells #[iv y0,sv b0,.int .u8 s0,sv x0,iv c0,iv d0,.slice Y0 g0.length U0] 60),.own (.slice (some ⟨b6,0,none⟩) ([Tst.mk (y0,b0,s0,x0,c0,d0) g0]:List TS).length 1) 60 7 ([Tst.mk (y0,b0,s0,x0,c0,d0) g0]:List TS).length ([iv y0,sv b0,.int .u8 s0,sv x0,iv c0,iv d0,.slice Y0 g0.length U0]:List Value),.blk A0 (.cells #[iv y0,sv b0,.int .u8 s0,sv x0,iv c0,iv d0,.slice Y0 g0.length U0] 60),.own (.slice a7 (t0++([Tst.mk (y0,b0,s0,x0,c0,d0) g0]:List TS)).length c7) 60 7 (t0++([Tst.mk (y0,b0,s0,x0,c0,d0) g0]:List TS)).length xs7] dc rfl (Ok.o (OpOk.callH [_] _ enr rfl (one_c k0 E0 hG0 hp9) rfl fun g10 _ _ d2 hV10=>?_))
  obtain ⟨H1,M1,a10_2,c10_2,rfl,hR10_0,hR10_2,rfl⟩:=hV10
  replace hL7:=hL7.mono d2.1
  refine Ok.B 3 [(0,pv bxr 0),(3,.slice a7 (t0++([Tst.mk (y0,b0,s0,x0,c0,d0) g0]:List TS)).length c7),(4,pv bs4 0),(15,.agg #[iv (((oneR k0).1).lab.1),sv (((oneR k0).1).lab.2.1),.int .u8 (((oneR k0).1).lab.2.2.1),sv (((oneR k0).1).lab.2.2.2.1),iv (((oneR k0).1).lab.2.2.2.2.1),iv (((oneR k0).1).lab.2.2.2.2.2),.slice H1 (((oneR k0).1).kids).length M1]),(16,.bool (oneR k0).2.1)] kr (Ok.o (OpOk.sw 1 #[iv (((oneR k0).1).lab.1),sv (((oneR k0).1).lab.2.1),.int .u8 (((oneR k0).1).lab.2.2.1),sv (((oneR k0).1).lab.2.2.2.1),iv (((oneR k0).1).lab.2.2.2.2.1),iv (((oneR k0).1).lab.2.2.2.2.2),.slice H1 (((oneR k0).1).kids).length M1] rfl rfl rfl ?_))
  refine Ok.b 1 [0,3,4] [(5,.bool (oneR k0).2.1)] ?_
  refine Ok.j (Ok.t ?_)
  exact fun a W hA hW=>⟨k9,nl,g10,O1.trans d2,bs4,(oneR k0).2.1,((oneR k0).1).lab.1,((oneR k0).1).lab.2.1,((oneR k0).1).lab.2.2.1,((oneR k0).1).lab.2.2.2.1,((oneR k0).1).lab.2.2.2.2.1,((oneR k0).1).lab.2.2.2.2.2,H1,M1,((oneR k0).1).kids,a10_2,c10_2,(oneR k0).2.2,a7,c7,(t0++([Tst.mk (y0,b0,s0,x0,c0,d0) g0]:List TS)),xs7,hR10_0,hR10_2,hL7,hA.sub kr,hW.pick [1,0,4] _ dc rfl,hF⟩
 refine Ok.x (Ok.thenE (Ok.thenE (Ok.blockHit (Ok.t (Ok.sr (Ok.b 4 [3] [(22,pv bxr 0),(25,.bool (decide ((t0.length:Int)>0)))] ?_))))))
 refine Ok.o (OpOk.i (args:=#[pv bxr 0,.bool (decide ((t0.length:Int)>0))]) 8 [(0,pv bxr 0),(1,.bool (decide ((t0.length:Int)>0)))] enr func57 rfl rfl rfl rfl (Ok.sr (Ok.B 2 [(5,.bool (!(decide ((t0.length:Int)>0))))] kr (Ok.nt (Ok.cw hF (fun P2 hF=>?_) (fun P2 hF=>?_))))))
 ·exact False.elim hF
 refine Ok.k (Ok.back (vs:=[]) (.inr rfl) rfl .nil rfl (Ok.nt (Ok.sr (Ok.B 2 [(2,.slice G0 t0.length H0)] kr (Ok.nt (Ok.ret (Ok.frz 2 rfl e1 fun g12 m1 hRf12=>?_)))))))
 replace E0:=E0.mono m1.1
 exact Ok.p (vs:=[.slice G0 t0.length H0]) [1] [.blk bxr (.cells #[.slice C0 k0.length D0] 70)] dc rfl (.inl rfl) rfl (.cons (.tmp rfl) .nil) ((hx3.trans O1).trans m1) ⟨t0,k0,G0,H0,C0,D0,rfl,hRf12,E0,rfl,hF⟩
def stpP (r:Rd):Prop:=r=R0∨r=R3
def stpR (r:Rd):List Ts×Rd:=if r=R0 then ([tA],R1) else ([tB],[])
theorem stp_F (r:Rd) (hp:stpP r):stpF r (fun a b=>(a,b)=stpR r):=by
 rcases hp with rfl | rfl
 ·refine ⟨.inl rfl,2,fun _=>⟨by decide +kernel,.inr (.inl kr),?_⟩,fun h=>absurd h dk⟩
  exact ⟨fun h=>absurd h dk,fun _=>⟨fun h=>absurd h dk,fun _=>by show _=_; kernel_rfl⟩⟩
 refine ⟨.inr (.inr (.inl rfl)),2,fun _=>⟨by decide +kernel,.inr (.inr (.inr kr)),?_⟩,fun h=>absurd h dk⟩
 exact ⟨fun h=>absurd h dk,fun _=>⟨fun h=>absurd h dk,fun _=>by show _=_; kernel_rfl⟩⟩
theorem stp_c {g:Ghost} {bxr:Nat} {Q0:Option Addr} {K0:Nat} (xr:List KT) (X0:Rep g (.slice yK) [.slice Q0 xr.length K0] xr) (hG0:SomeInt g 0)  (hp:stpP xr):CallsH prog 99 #[pv bxr 0] g [.blk bxr (.cells #[.slice Q0 xr.length K0] 70)] (fun g' H' v=>∃ (S0:Option Addr) (B0:Nat),∃ (m0:Option Addr) (n0:Nat),v=.slice S0 ((stpR xr).1).length B0∧Rep g' (.slice yS) [.slice S0 ((stpR xr).1).length B0] (stpR xr).1∧Rep g' (.slice yK) [.slice m0 ((stpR xr).2).length n0] (stpR xr).2∧H'=[.blk bxr (.cells #[.slice m0 ((stpR xr).2).length n0] 70)]) :=
 (stp_ok xr X0 hG0 _ (stp_F xr hp)).mono (by rintro g' H' v _ ⟨r0,fxr,S0,B0,m0,n0,rfl,L0,F0,rfl,hK⟩; obtain ⟨rfl,rfl⟩:r0=(stpR xr).1∧fxr=(stpR xr).2:=⟨congrArg (fun z=>z.1) hK,congrArg (fun z=>z.2) hK⟩; exact ⟨S0,B0,m0,n0,rfl,L0,F0,rfl⟩)
def pthV4 (z0:List KT):Bool :=
 (((pekS (gapS z0).2).1.2.1==([62]:Bs))||(((pekS (gapS z0).2).1.2.1==([43]:Bs))||((pekS (gapS z0).2).1.2.1==([126]:Bs))))
def pthV5 (z0:List KT):Bool :=
 ((gapS z0).1&&(((pekS (gapS z0).2).1.1 != 0)&&((!((pekS (gapS z0).2).1.2.1==([44]:Bs)))&&(!((pekS (gapS z0).2).1.2.1==([41]:Bs))))))
def pthV6 (z0:List KT):List KT :=
 (if (pthV4 z0)=true then (gapS (((pekS (pekS (gapS z0).2).2).2).drop (Int.toNat 1))).2 else (pekS (gapS z0).2).2)
def pthV7 (v0:List Int) (z0:List KT):List Int :=
 (if (pthV4 z0)=true then (v0++([((((pekS (gapS z0).2).1.2.1).getD (Int.toNat 0) 0).toNat:Int)]:List Int)) else (v0++([32]:List Int)))
def pthj12 (v0:List Int) (q0:List (List TS)) (z0:List KT) (C6:(List Int)→List (List TS)→List KT→Prop):Prop :=
 stpP (pthV6 z0)∧(q0++([(stpR (pthV6 z0)).1]:List (List TS))).length≤5864062014805∧C6 (pthV7 v0 z0) (q0++([(stpR (pthV6 z0)).1]:List (List TS))) (stpR (pthV6 z0)).2
def pthj22 (K:(PH)→List KT→Prop) (v0:List Int) (q0:List (List TS)) (z0:List KT) (C6:(List Int)→List (List TS)→List KT→Prop):Prop :=
 (pthV5 z0=true→(v0++([32]:List Int)).length≤140737488355328∧pthj12 v0 q0 z0 C6)∧(pthV5 z0=false→K (q0,v0) (pekS (gapS z0).2).2)
def pthj14 (K:(PH)→List KT→Prop) (v0:List Int) (q0:List (List TS)) (z0:List KT) (C6:(List Int)→List (List TS)→List KT→Prop):Prop :=
 (pthV4 z0=true→(((pekS (pekS (gapS z0).2).2).1.1==0)=true→False)∧(((pekS (pekS (gapS z0).2).2).1.1==0)=false→(0:Int)≤1∧(1:Int)≤(((pekS (pekS (gapS z0).2).2).2).length:Int)∧(((pekS (pekS (gapS z0).2).2).2).length:Int)≤(((pekS (pekS (gapS z0).2).2).2).length:Int)∧(0:Int)≤0∧Int.toNat 0<((pekS (gapS z0).2).1.2.1).length∧(v0++([((((pekS (gapS z0).2).1.2.1).getD (Int.toNat 0) 0).toNat:Int)]:List Int)).length≤140737488355328∧pthj12 v0 q0 z0 C6))∧(pthV4 z0=false→((gapS z0).1=true→(((pekS (gapS z0).2).1.1 != 0)=true→((!((pekS (gapS z0).2).1.2.1==([44]:Bs)))=true→pthj22 K v0 q0 z0 C6)∧((!((pekS (gapS z0).2).1.2.1==([44]:Bs)))=false→pthj22 K v0 q0 z0 C6))∧(((pekS (gapS z0).2).1.1 != 0)=false→pthj22 K v0 q0 z0 C6))∧((gapS z0).1=false→pthj22 K v0 q0 z0 C6))
def pthl6b (K:(PH)→List KT→Prop) (v0:List Int) (q0:List (List TS)) (z0:List KT) (C6:(List Int)→List (List TS)→List KT→Prop):Prop :=
 (((pekS (gapS z0).2).1.2.1==([62]:Bs))=true→pthj14 K v0 q0 z0 C6)∧(((pekS (gapS z0).2).1.2.1==([62]:Bs))=false→(((pekS (gapS z0).2).1.2.1==([43]:Bs))=true→pthj14 K v0 q0 z0 C6)∧(((pekS (gapS z0).2).1.2.1==([43]:Bs))=false→pthj14 K v0 q0 z0 C6))
def pthl6 (K:(PH)→List KT→Prop):Nat→List Int→List (List TS)→List KT→Prop
 | 0,_,_,_=>False
 | k+1,v0,q0,z0=>pthl6b K v0 q0 z0 (pthl6 K k)
def pthF (xr:List KT) (K:(PH)→List KT→Prop):Prop :=
 stpP xr∧∃ k,pthl6 K k ([]:List Int) ([(stpR xr).1]:List (List TS)) (stpR xr).2
theorem pth_ok {g:Ghost} {bxr:Nat} {Q0:Option Addr} {K0:Nat} (xr:List KT) (X0:Rep g (.slice yK) [.slice Q0 xr.length K0] xr) (hG0:SomeInt g 0) (K:(PH)→List KT→Prop)
  (hF:pthF xr K):CallsH prog 55 #[pv bxr 0] g [.blk bxr (.cells #[.slice Q0 xr.length K0] 70)] (fun g' H' v=>∃ (r0:PH),∃ (fxr:List KT),∃ (S0:Option Addr) (B0:Nat),∃ (n1:Option Addr) (o1:Nat),∃ (m0:Option Addr) (n0:Nat),v=.agg #[.slice S0 r0.1.length B0,.slice n1 r0.2.length o1]∧Rep g' (.slice (.slice yS)) [.slice S0 r0.1.length B0] r0.1∧Rep g' (.slice yb) [.slice n1 r0.2.length o1] r0.2∧Rep g' (.slice yK) [.slice m0 fxr.length n0] fxr∧H'=[.blk bxr (.cells #[.slice m0 fxr.length n0] 70)]∧K r0 fxr):=by
 refine CallsH.en 70 func55 rfl fun w0=>?_
 refine Ok.q (Ok.r ?_)
 have hL1:RepL g (.slice yS) [] []:=rfl
 refine Ok.ownNil 54 1 ?_
 have hL2:RepL g yb [] []:=rfl
 refine Ok.ownNil 5 1 (Ok.o (OpOk.aw zP fun bs2=>?_))
 refine Ok.nt (Ok.sr (Ok.B 1 [(0,pv bxr 0),(2,pv bs2 0),(6,pv bxr 0)] kr ?_))
 obtain ⟨hp4,hF⟩:=hF
 refine Ok.e [3,0,1,2] [.blk bxr (.cells #[.slice Q0 xr.length K0] 70),.blk bs2 (.cells zP 28),.own (.slice none ([]:List Int).length 0) 5 1 ([]:List Int).length ([]),.own (.slice none ([]:List (List TS)).length 0) 54 1 ([]:List (List TS)).length ([])] dc rfl (Ok.o (OpOk.callH [_] _ enr rfl (stp_c xr X0 hG0 hp4) rfl fun g5 _ _ hx5 hV5=>?_))
 obtain ⟨U1,J1,a5_2,c5_2,rfl,e2,hR5_2,rfl⟩:=hV5
 replace hG0:=hG0.mono hx5.1
 have hL6:RepL g5 (.slice yS) ([.slice U1 ((stpR xr).1).length J1]:List Value) ([(stpR xr).1]:List (List TS)):=(RepL.consN (c:=[.slice U1 ((stpR xr).1).length J1]) e2 rfl)
 refine Ok.o (OpOk.lit (E:=54) (.slice yS) ([(stpR xr).1]:List (List TS)) ([.slice U1 ((stpR xr).1).length J1]:List Value) kr kr rfl kr hL6 rfl fun b6=>?_)
 refine Ok.B 1 [(0,pv bxr 0),(2,pv bs2 0),(9,.agg #[.slice (some ⟨b6,0,none⟩) ([(stpR xr).1]:List (List TS)).length 1,.slice none 0 0])] kr ?_
 have hL7:RepL g5 (.slice yS) [] []:=rfl
 refine Ok.ownNil 54 1 ?_
 have hL8:RepL g5 yb [] []:=rfl
 refine Ok.ownNil 5 1 (Ok.o (OpOk.aw zP fun bs3=>?_))
 have hL10:RepL g5 yb [] []:=rfl
 refine Ok.ownNil 5 1 (Ok.o (OpOk.sw 1 #[.slice (some ⟨b6,0,none⟩) ([(stpR xr).1]:List (List TS)).length 1,.slice none ([]:List Int).length 0] rfl rfl rfl ?_))
 refine Ok.nt (Ok.block ?_)
 obtain ⟨k,hF⟩:=hF
 refine Ok.L (fun k a W=>∃ gl6:Ghost,Gext w0 g5 gl6∧∃ (e0:Option Addr) (f0:Nat) (v0:List Int) (W0:List Value) (u0:Option Addr) (j0:Nat) (q0:List (List TS)) (o0:List Value) (q1:Option Addr) (k1:Nat) (z0:List KT),RepL gl6 yb W0 v0∧RepL gl6 (.slice yS) o0 q0∧Rep gl6 (.slice yK) [.slice q1 z0.length k1] z0∧StA 70 [(0,pv bxr 0),(2,pv bs2 0),(3,pv bs3 0)] a∧StW w0 [.own (.slice e0 v0.length f0) 5 1 v0.length W0,.blk bs3 (.cells #[.slice u0 q0.length j0,.slice e0 v0.length f0] 28),.own (.slice u0 q0.length j0) 54 1 q0.length o0,.blk bxr (.cells #[.slice q1 z0.length k1] 70),.blk bs2 (.cells zP 28),.own (.slice none ([]:List Int).length 0) 5 1 ([]:List Int).length ([]),.own (.slice none ([]:List (List TS)).length 0) 54 1 ([]:List (List TS)).length ([])] gl6 W∧pthl6 K k v0 q0 z0) k ?_ ?_
 ·
  exact fun _ _ u v=>⟨g5,Gext.r w0 g5,none,0,([]:List Int),[],(some ⟨b6,0,none⟩),1,([(stpR xr).1]:List (List TS)),([.slice U1 ((stpR xr).1).length J1]:List Value),a5_2,c5_2,(stpR xr).2,hL10,hL6,hR5_2,fA u v hF⟩
 clear hF
 rintro (_ | k6) _ _ ⟨gl6,i1,e0,f0,v0,W0,u0,j0,q0,o0,q1,k1,z0,a0,i0,hRybxr_0l6,q⟩
 exact (q.2.2:False).elim
 refine jn (fun hF=>?_) _ _ q
 replace hG0:=hG0.mono i1.1
 refine Ok.block (Ok.sr (Ok.b 1 [0,2,3] [(10,pv bxr 0)] ?_))
 refine Ok.e [3,0,1,2,4,5,6] [.blk bxr (.cells #[.slice q1 z0.length k1] 70),.own (.slice e0 v0.length f0) 5 1 v0.length W0,.blk bs3 (.cells #[.slice u0 q0.length j0,.slice e0 v0.length f0] 28),.own (.slice u0 q0.length j0) 54 1 q0.length o0,.blk bs2 (.cells zP 28),.own (.slice none ([]:List Int).length 0) 5 1 ([]:List Int).length ([]),.own (.slice none ([]:List (List TS)).length 0) 54 1 ([]:List (List TS)).length ([])] dc rfl (Ok.o (OpOk.callH [_] _ enr rfl (gap_c z0 hRybxr_0l6) rfl fun g11 _ _ D1 hV11=>?_))
 obtain ⟨a11_0,c11_0,rfl,hR11_0,rfl⟩:=hV11
 replace a0:=a0.mono D1.1
 replace i0:=i0.mono D1.1
 replace hG0:=hG0.mono D1.1
 refine Ok.B 1 [(0,pv bxr 0),(2,pv bs2 0),(3,pv bs3 0),(4,.bool (gapS z0).1)] kr (Ok.nt (Ok.sr (Ok.b 1 [0,2,3,4] [(12,pv bxr 0)] ?_)))
 refine Ok.o (OpOk.callH [_] _ enr rfl (pek_c (gapS z0).2 hR11_0) rfl fun g12 _ _ m1 hV12=>?_)
 obtain ⟨j1,x1,rfl,O0,rfl⟩:=hV12
 replace a0:=a0.mono m1.1
 replace i0:=i0.mono m1.1
 replace hG0:=hG0.mono m1.1
 refine Ok.o (OpOk.aw zK fun bs5=>?_)
 refine Ok.o (OpOk.sw 0 (aK (pekS (gapS z0).2).1) rfl rfl rfl ?_)
 refine Ok.nt (Ok.cut (fun a W=>∃ f2:Ghost,Gext w0 g12 f2∧∃ (y1:Option Addr) (u1:Nat) (Z0:Option Addr) (V0:Nat) (J0:List Value),Rep f2 (.slice yK) [.slice y1 (pthV6 z0).length u1] (pthV6 z0)∧RepL f2 yb J0 (pthV7 v0 z0)∧StA 70 [(0,pv bxr 0),(2,pv bs2 0),(3,pv bs3 0)] a∧StW w0 [.blk bxr (.cells #[.slice y1 (pthV6 z0).length u1] 70),.own (.slice Z0 (pthV7 v0 z0).length V0) 5 1 (pthV7 v0 z0).length J0,.blk bs3 (.cells #[.slice u0 q0.length j0,.slice Z0 (pthV7 v0 z0).length V0] 28),.own (.slice u0 q0.length j0) 54 1 q0.length o0,.blk bs2 (.cells zP 28),.own (.slice none ([]:List Int).length 0) 5 1 ([]:List Int).length ([]),.own (.slice none ([]:List (List TS)).length 0) 54 1 ([]:List (List TS)).length ([])] f2 W∧pthj12 v0 q0 z0 (pthl6 K k6)) ?_ ?_)
 ·
  refine Ok.block (Ok.cg g12 [(0,pv bxr 0),(2,pv bs2 0),(3,pv bs3 0),(4,.bool (gapS z0).1),(5,pv bs5 0),(15,.bool (pthV4 z0))] [.blk bs5 (.cells (aK (pekS (gapS z0).2).1) 98),.blk bxr (.cells #[.slice j1 ((pekS (gapS z0).2).2).length x1] 70),.own (.slice e0 v0.length f0) 5 1 v0.length W0,.blk bs3 (.cells #[.slice u0 q0.length j0,.slice e0 v0.length f0] 28),.own (.slice u0 q0.length j0) 54 1 q0.length o0,.blk bs2 (.cells zP 28),.own (.slice none ([]:List Int).length 0) 5 1 ([]:List Int).length ([]),.own (.slice none ([]:List (List TS)).length 0) 54 1 ([]:List (List TS)).length ([])] (pthj14 K v0 q0 z0 (pthl6 K k6)) ?_ (fun Y1 b1 hF=>?_))
  ·
   refine Ok.r (Ok.rn 4 [.e 0] [0,2,3,4] [(5,pv bs5 0),(19,.bool ((pekS (gapS z0).2).1.2.1==([62]:Bs)))] ?_)
   refine Ok.bw 19 hF (fun Q2 hF=>?_) (fun Q2 hF=>?_)
   ·refine Ok.b 10 [0,2,3,4,5] [(15,.bool true)] ?_
    refine Ok.nt (Ok.rb 15 (pthV4 z0) (mor_t Q2) ?_)
    exact fg hF
   refine Ok.rn 5 [.e 0] [0,2,3,4,5] [(24,.bool ((pekS (gapS z0).2).1.2.1==([43]:Bs)))] ?_
   refine Ok.bw 24 hF (fun R2 hF=>?_) (fun R2 hF=>?_)
   ·refine Ok.b 5 [0,2,3,4,5] [(15,.bool true)] ?_
    refine Ok.nt (Ok.rb 15 (pthV4 z0) (Eq.trans (mor_t R2) (mor_f Q2)) ?_)
    exact fg hF
   refine Ok.rn 5 [.e 0] [0,2,3,4,5] [(15,.bool ((pekS (gapS z0).2).1.2.1==([126]:Bs)))] ?_
   refine Ok.nt (Ok.rb 15 (pthV4 z0) (Eq.trans (mor_f R2) (mor_f Q2)) ?_)
   exact fg hF
  replace O0:=O0.mono b1.1
  replace a0:=a0.mono b1.1
  replace i0:=i0.mono b1.1
  replace hG0:=hG0.mono b1.1
  refine Ok.cw hF (fun c1 hF=>?_) (fun c1 hF=>?_)
  ·refine Ok.sr (Ok.b 1 [0,2,3,5] [(29,pv bxr 0)] ?_)
   refine Ok.o (OpOk.i (args:=#[pv bxr 0]) 20 [(0,pv bxr 0)] enr func100 rfl rfl rfl rfl (Ok.sr (Ok.o (OpOk.aw zK fun N0=>?_))))
   refine Ok.nt (Ok.sr (Ok.b 1 [0] [(2,pv N0 0),(4,pv bxr 0)] ?_))
   refine Ok.e [2,0,1,3,4,5,6,7,8] [.blk bxr (.cells #[.slice j1 ((pekS (gapS z0).2).2).length x1] 70),.blk N0 (.cells zK 98),.blk bs5 (.cells (aK (pekS (gapS z0).2).1) 98),.own (.slice e0 v0.length f0) 5 1 v0.length W0,.blk bs3 (.cells #[.slice u0 q0.length j0,.slice e0 v0.length f0] 28),.own (.slice u0 q0.length j0) 54 1 q0.length o0,.blk bs2 (.cells zP 28),.own (.slice none ([]:List Int).length 0) 5 1 ([]:List Int).length ([]),.own (.slice none ([]:List (List TS)).length 0) 54 1 ([]:List (List TS)).length ([])] dc rfl (Ok.o (OpOk.callH [_] _ enr rfl (pek_c (pekS (gapS z0).2).2 O0) rfl fun g20 _ _ Q1 F2=>?_))
   obtain ⟨j2,x2,rfl,S1,rfl⟩:=F2
   replace a0:=a0.mono Q1.1
   replace i0:=i0.mono Q1.1
   replace hG0:=hG0.mono Q1.1
   refine Ok.o (OpOk.aw zK fun P0=>?_)
   refine Ok.o (OpOk.sw 0 (aK (pp (gapS z0).2).1) rfl rfl rfl ?_)
   refine Ok.nt (Ok.q (Ok.sr (Ok.rn 3 [.e 0] [] [(0,pv bxr 0),(2,pv N0 0),(3,pv P0 0),(8,.bool ((pp (gapS z0).2).1.1==0))] ?_)))
   refine Ok.nt (Ok.cw hF (fun G2 hF=>?_) (fun G2 hF=>?_))
   ·exact False.elim hF
   refine Ok.k (Ok.t (Ok.sr (Ok.b 4 [2,3] [(11,pv bxr 0),(14,pv bxr 0)] ?_)))
   refine Ok.o (OpOk.s (v:=.slice j2 ((pp (gapS z0).2).2).length x2) (Yields.l 1 rfl rfl underlying67 rfl kr) rfl rfl ?_)
   obtain ⟨H2,M2,N2,hF⟩:=hF
   refine Ok.o (OpOk.sliceRo (e:=yK) (l:=1) (h:=(((pp (gapS z0).2).2).length:Int)) rfl underlying67 kr (.inl ⟨_,_,rfl,rfl⟩) (.inr ⟨rfl,rfl⟩) S1 H2 M2 N2 rfl (pd (gapS z0).2) (by rw [show (((pp (gapS z0).2).2).length:Int).toNat=((pp (gapS z0).2).2).length from tnc _,List.take_length]) fun a23 c23 O2=>?_)
   refine Ok.b 2 [2,3] [(16,.slice a23 (pd (gapS z0).2).length c23),(18,pv bxr 0)] ?_
   refine Ok.o (OpOk.s1 1 (.slice a23 (pd (gapS z0).2).length c23) rfl rfl rfl ?_)
   refine Ok.nt (Ok.sr (Ok.o (OpOk.s (v:=.agg (aK (pp (gapS z0).2).1)) (Yields.loadAgg 0 4 (aK (pp (gapS z0).2).1) rfl rfl underlying98 rfl kr kr kr) rfl rfl (Ok.o (OpOk.sw 2 (aK (pp (gapS z0).2).1) rfl rfl rfl ?_)))))
   refine Ok.nt (Ok.ret (Ok.back (vs:=[.agg (aK (pp (gapS z0).2).1)]) (.inl rfl) rfl (.cons (.cellAgg 2 4 (aK (pp (gapS z0).2).1) rfl rfl underlying98 rfl kr kr kr) .nil) rfl (Ok.nt (Ok.sr (Ok.B 1 [(0,pv bxr 0),(2,pv bs2 0),(3,pv bs3 0),(5,pv bs5 0),(31,pv bxr 0)] kr (Ok.e [1,0,2,3,4,5,6,7,8,9] [.blk bxr (.cells #[.slice a23 (pd (gapS z0).2).length c23] 70),.blk P0 (.cells (aK (pp (gapS z0).2).1) 98),.blk N0 (.cells (aK (pp (gapS z0).2).1) 98),.blk bs5 (.cells (aK (pekS (gapS z0).2).1) 98),.own (.slice e0 v0.length f0) 5 1 v0.length W0,.blk bs3 (.cells #[.slice u0 q0.length j0,.slice e0 v0.length f0] 28),.own (.slice u0 q0.length j0) 54 1 q0.length o0,.blk bs2 (.cells zP 28),.own (.slice none ([]:List Int).length 0) 5 1 ([]:List Int).length ([]),.own (.slice none ([]:List (List TS)).length 0) 54 1 ([]:List (List TS)).length ([])] dc rfl (Ok.o (OpOk.callH [_] _ enr rfl (gap_c (pd (gapS z0).2) O2) rfl fun g24 _ _ T1 hV24=>?_))))))))
   obtain ⟨z1,v1,rfl,hR24_0,rfl⟩:=hV24
   replace a0:=a0.mono T1.1
   replace i0:=i0.mono T1.1
   replace hG0:=hG0.mono T1.1
   refine Ok.nt (Ok.mix [0,1,3,4] [5] [.blk bxr (.cells #[.slice z1 ((gapS (pd (gapS z0).2)).2).length v1] 70),.blk P0 (.cells (aK (pp (gapS z0).2).1) 98),.blk N0 (.cells (aK (pp (gapS z0).2).1) 98),.blk bs5 (.cells (aK (pekS (gapS z0).2).1) 98),.own (.slice u0 q0.length j0) 54 1 q0.length o0,.blk bs2 (.cells zP 28),.own (.slice none ([]:List Int).length 0) 5 1 ([]:List Int).length ([]),.own (.slice none ([]:List (List TS)).length 0) 54 1 ([]:List (List TS)).length ([])] [(0,true),(1,true),(2,true),(3,true),(4,true),(5,false),(6,false),(7,true),(8,false)] kr kr (.cons_cons _ (.cons_cons _ (.cons_cons _ (.cons_cons _ (.cons _ (.cons _ (.cons_cons _ (.cons_cons _ (.cons_cons _ (.cons_cons _ .slnil)))))))))) (OkM.B 1 [(0,pv bxr 0),(2,pv bs2 0),(3,pv bs3 0),(5,pv bs5 0),(33,pv bs3 1)] kr (OkM.h rfl rfl rfl (OpQ.s (v:=.slice e0 v0.length f0) (Yields.l 5 rfl rfl underlying26 rfl kr) rfl rfl (OkM.b 1 [0,2,3] [(34,.slice e0 v0.length f0),(35,pv bs5 1)] ?_)))))
   refine OkM.h rfl rfl rfl (OpQ.s (v:=sv ((pekS (gapS z0).2).1.2.1)) (Yields.l 3 rfl rfl underlying9 rfl kr) rfl rfl ?_)
   obtain ⟨h025,h125,hF⟩:=hF
   have u3:=get_of (l:=(pekS (gapS z0).2).1.2.1) (0:UInt8) h125
   generalize hg25:(((pekS (gapS z0).2).1.2.1).getD (Int.toNat 0) 0)=e25 at u3 hF ⊢
   refine OkM.h rfl rfl rfl (OpQ.s (v:=.int .u8 (e25.toNat:Int)) (Yields.ix (k:=.i64) (i:=0) (s:=(pekS (gapS z0).2).1.2.1) (b:=e25) kr kr underlying9 h025 u3) rfl rfl ?_)
   have j3:RepL g24 yb ([.int .u8 (e25.toNat:Int)]:List Value) ([(e25.toNat:Int)]:List Int):=(RepL.consN (c:=[.int .u8 (e25.toNat:Int)]) rfl rfl)
   refine OkM.t rfl rfl (OpOk.lit (E:=5) yb ([(e25.toNat:Int)]:List Int) ([.int .u8 (e25.toNat:Int)]:List Value) kr kr rfl kr j3 rfl fun b26=>?_)
   refine OkM.l (i:=5) rfl (Gle.refl _) (.cons _ (.cons_cons _ (.cons_cons _ (.cons_cons _ (.cons_cons _ (.cons_cons _ (.cons_cons _ (.cons_cons _ (.cons_cons _ (.cons_cons _ (.cons_cons _ .slnil))))))))))) ?_
   obtain ⟨hb27,hF⟩:=hF
   refine OkM.t rfl rfl (OpOk.append' (e:=.int .u8) 1 140737488355328 5 0 rfl rfl rfl rfl a0 j3 underlying26 kr kr kr hb27 rfl fun a27 c27 K2 hL27=>?_)
   refine OkM.l (i:=6) rfl (Gle.refl _) (.cons _ (.cons_cons _ (.cons_cons _ (.cons_cons _ (.cons_cons _ (.cons _ (.cons _ (.cons_cons _ (.cons_cons _ (.cons_cons _ (.cons_cons _ .slnil))))))))))) (OkM.b 1 [0,2,3] [(39,.slice a27 (v0++([(e25.toNat:Int)]:List Int)).length c27),(40,pv bs3 1)] ?_)
   refine OkM.t rfl rfl (OpOk.sto (k:=1) (v:=.slice a27 (v0++([(e25.toNat:Int)]:List Int)).length c27) 6 #[.slice u0 q0.length j0,.slice a27 (v0++([(e25.toNat:Int)]:List Int)).length c27] rfl rfl rfl ?_)
   refine OkM.l (i:=8) rfl (Gle.refl _) (.cons _ (.cons_cons _ (.cons_cons _ (.cons_cons _ (.cons_cons _ (.cons _ (.cons _ (.cons_cons _ (.cons_cons _ (.cons_cons _ (.cons_cons _ .slnil))))))))))) (OkM.nil (Ok.kn (Ok.t ?_)))
   subst hg25
   refine Ok.heapEq (H':=[.own (.slice (some ⟨b26,0,none⟩) ([((((pekS (gapS z0).2).1.2.1).getD (Int.toNat 0) 0).toNat:Int)]:List Int).length 1) 5 1 ([((((pekS (gapS z0).2).1.2.1).getD (Int.toNat 0) 0).toNat:Int)]:List Int).length ([.int .u8 ((((pekS (gapS z0).2).1.2.1).getD (Int.toNat 0) 0).toNat:Int)]:List Value),.blk bxr (.cells #[.slice z1 (pthV6 z0).length v1] 70),.blk P0 (.cells (aK (pp (gapS z0).2).1) 98),.blk N0 (.cells (aK (pp (gapS z0).2).1) 98),.blk bs5 (.cells (aK (pekS (gapS z0).2).1) 98),.own (.slice a27 (pthV7 v0 z0).length c27) 5 1 (pthV7 v0 z0).length K2,.blk bs3 (.cells #[.slice u0 q0.length j0,.slice a27 (pthV7 v0 z0).length c27] 28),.own (.slice u0 q0.length j0) 54 1 q0.length o0,.blk bs2 (.cells zP 28),.own (.slice none ([]:List Int).length 0) 5 1 ([]:List Int).length ([]),.own (.slice none ([]:List (List TS)).length 0) 54 1 ([]:List (List TS)).length ([])]) (econs (rfl) (econs (congrArg (fun l:List Value=>Ent.blk bxr (.cells ⟨l⟩ 70)) (lcons (congrArg (fun l:List KT=>Value.slice z1 l.length v1) ((if_t c1).symm)) rfl)) (econs (rfl) (econs (rfl) (econs (rfl) (econs (congrArg (fun l:List Int=>Ent.own (.slice a27 l.length c27) 5 1 l.length K2) ((if_t c1).symm)) (econs (congrArg (fun l:List Value=>Ent.blk bs3 (.cells ⟨l⟩ 28)) (lcons (rfl) (lcons (congrArg (fun l:List Int=>Value.slice a27 l.length c27) ((if_t c1).symm)) rfl))) (econs (rfl) (econs (rfl) (econs (rfl) (econs (rfl) rfl))))))))))) ?_
   exact fun _ _ u v=>⟨g24,((b1.trans Q1).trans T1),z1,v1,a27,c27,K2,(Eq.mp (congrArg (fun l:List KT=>Rep g24 (.slice yK) [.slice z1 l.length v1] l) ((if_t c1).symm)) hR24_0),(Eq.mp (congrArg (fun l:List Int=>RepL g24 yb K2 l) ((if_t c1).symm)) hL27),fA u v hF⟩
  refine Ok.cg Y1 [(0,pv bxr 0),(2,pv bs2 0),(3,pv bs3 0),(41,.bool (pthV5 z0))] [.blk bxr (.cells #[.slice j1 ((pekS (gapS z0).2).2).length x1] 70),.own (.slice e0 v0.length f0) 5 1 v0.length W0,.blk bs3 (.cells #[.slice u0 q0.length j0,.slice e0 v0.length f0] 28),.own (.slice u0 q0.length j0) 54 1 q0.length o0,.blk bs2 (.cells zP 28),.own (.slice none ([]:List Int).length 0) 5 1 ([]:List Int).length ([]),.own (.slice none ([]:List (List TS)).length 0) 54 1 ([]:List (List TS)).length ([])] (pthj22 K v0 q0 z0 (pthl6 K k6)) ?_ (fun Y2 f1 hF=>?_)
  ·
   refine Ok.r (Ok.b 2 [0,2,3,5] [(43,.bool (gapS z0).1)] ?_)
   refine Ok.bw 43 hF (fun C1 hF=>?_) (fun C1 hF=>?_)
   ·refine Ok.rn 5 [.e 0] [0,2,3,5] [(48,.bool ((pekS (gapS z0).2).1.1 != 0))] ?_
    refine Ok.bw 48 hF (fun P1 hF=>?_) (fun P1 hF=>?_)
    ·refine Ok.rn 5 [.e 0] [0,2,3,5] [(53,.bool (!((pekS (gapS z0).2).1.2.1==([44]:Bs))))] ?_
     refine Ok.bw 53 hF (fun c2 hF=>?_) (fun c2 hF=>?_)
     ·refine Ok.rn 5 [.e 0] [0,2,3] [(41,.bool (!((pekS (gapS z0).2).1.2.1==([41]:Bs))))] ?_
      refine Ok.nt (Ok.rb 41 (pthV5 z0) (Eq.trans (Eq.trans (mand_t c2) (mand_t P1)) (mand_t C1)) ?_)
      exact fg hF
     refine Ok.b 5 [0,2,3] [(41,.bool false)] ?_
     refine Ok.nt (Ok.rb 41 (pthV5 z0) (Eq.trans (Eq.trans (mand_f c2) (mand_t P1)) (mand_t C1)) ?_)
     exact fg hF
    refine Ok.b 10 [0,2,3] [(41,.bool false)] ?_
    refine Ok.nt (Ok.rb 41 (pthV5 z0) (Eq.trans (mand_f P1) (mand_t C1)) ?_)
    exact fg hF
   refine Ok.b 15 [0,2,3] [(41,.bool false)] ?_
   refine Ok.nt (Ok.rb 41 (pthV5 z0) (mand_f C1) ?_)
   exact fg hF
  replace O0:=O0.mono f1.1
  replace a0:=a0.mono f1.1
  replace i0:=i0.mono f1.1
  replace hG0:=hG0.mono f1.1
  refine Ok.cw hF (fun hc28 hF=>?_) (fun hc28 hF=>?_)
  ·refine Ok.r (Ok.b 1 [0,2,3] [(58,pv bs3 1)] ?_)
   refine Ok.o (OpOk.s (v:=.slice e0 v0.length f0) (Yields.l 2 rfl rfl underlying26 rfl kr) rfl rfl ?_)
   have x3:RepL Y2 yb ([.int .u8 32]:List Value) ([32]:List Int):=(RepL.consN (c:=[.int .u8 32]) rfl rfl)
   refine Ok.o (OpOk.lit (E:=5) yb ([32]:List Int) ([.int .u8 32]:List Value) kr kr rfl kr x3 rfl fun b29=>?_)
   obtain ⟨hb30,hF⟩:=hF
   refine Ok.o (OpOk.append' (e:=.int .u8) 1 140737488355328 2 0 rfl rfl rfl rfl a0 x3 underlying26 kr kr kr hb30 rfl fun a30 c30 U2 hL30=>?_)
   refine Ok.b 1 [0,2,3] [(61,.slice a30 (v0++([32]:List Int)).length c30),(62,pv bs3 1)] ?_
   refine Ok.o (OpOk.sto (k:=1) (v:=.slice a30 (v0++([32]:List Int)).length c30) 3 #[.slice u0 q0.length j0,.slice a30 (v0++([32]:List Int)).length c30] rfl rfl rfl ?_)
   refine Ok.j (Ok.kn (Ok.t (Ok.heapEq (H':=[.own (.slice (some ⟨b29,0,none⟩) ([32]:List Int).length 1) 5 1 ([32]:List Int).length ([.int .u8 32]:List Value),.blk bxr (.cells #[.slice j1 (pthV6 z0).length x1] 70),.own (.slice a30 (pthV7 v0 z0).length c30) 5 1 (pthV7 v0 z0).length U2,.blk bs3 (.cells #[.slice u0 q0.length j0,.slice a30 (pthV7 v0 z0).length c30] 28),.own (.slice u0 q0.length j0) 54 1 q0.length o0,.blk bs2 (.cells zP 28),.own (.slice none ([]:List Int).length 0) 5 1 ([]:List Int).length ([]),.own (.slice none ([]:List (List TS)).length 0) 54 1 ([]:List (List TS)).length ([])]) (econs (rfl) (econs (congrArg (fun l:List Value=>Ent.blk bxr (.cells ⟨l⟩ 70)) (lcons (congrArg (fun l:List KT=>Value.slice j1 l.length x1) ((if_f c1).symm)) rfl)) (econs (congrArg (fun l:List Int=>Ent.own (.slice a30 l.length c30) 5 1 l.length U2) ((if_f c1).symm)) (econs (congrArg (fun l:List Value=>Ent.blk bs3 (.cells ⟨l⟩ 28)) (lcons (rfl) (lcons (congrArg (fun l:List Int=>Value.slice a30 l.length c30) ((if_f c1).symm)) rfl))) (econs (rfl) (econs (rfl) (econs (rfl) (econs (rfl) rfl)))))))) ?_)))
   exact fun _ _ u v=>⟨Y2,b1.trans f1,j1,x1,a30,c30,U2,(Eq.mp (congrArg (fun l:List KT=>Rep Y2 (.slice yK) [.slice j1 l.length x1] l) ((if_f c1).symm)) O0),(Eq.mp (congrArg (fun l:List Int=>RepL Y2 yb U2 l) ((if_f c1).symm)) hL30),fA u v hF⟩
  refine Ok.sr (Ok.o (OpOk.s (v:=.agg #[.slice u0 q0.length j0,.slice e0 v0.length f0]) (Yields.loadAgg 2 2 #[.slice u0 q0.length j0,.slice e0 v0.length f0] rfl rfl underlying28 rfl kr kr kr) rfl rfl (Ok.o (OpOk.sw 4 #[.slice u0 q0.length j0,.slice e0 v0.length f0] rfl rfl rfl ?_))))
  refine Ok.nt (Ok.ret (Ok.kr (Ok.tr (Ok.kr (Ok.tr (Ok.kr (Ok.frz 3 rfl i0 fun g31 L1 h2=>?_)))))))
  replace a0:=a0.mono L1.1
  replace O0:=O0.mono L1.1
  replace hG0:=hG0.mono L1.1
  refine Ok.frz 1 rfl a0 fun g32 A1 hRf32=>?_
  replace h2:=h2.mono A1.1
  replace O0:=O0.mono A1.1
  replace hG0:=hG0.mono A1.1
  exact Ok.p (vs:=[.agg #[.slice u0 q0.length j0,.slice e0 v0.length f0]]) [0] [.blk bxr (.cells #[.slice j1 ((pekS (gapS z0).2).2).length x1] 70)] dc rfl (.inl rfl) rfl (.cons (.cellAgg 2 2 #[.slice u0 q0.length j0,.slice e0 v0.length f0] rfl rfl underlying28 rfl kr kr kr) .nil) (((((((hx5.trans i1).trans D1).trans m1).trans b1).trans f1).trans L1).trans A1) ⟨(q0,v0),(pekS (gapS z0).2).2,u0,j0,e0,f0,j1,x1,rfl,h2,hRf32,O0,rfl,hF⟩
 clear hF
 rintro _ _ ⟨f2,W1,y1,u1,Z0,V0,J0,hRybxr_0j12,T0,q⟩
 refine jn (fun hF=>?_) _ _ q
 replace i0:=i0.mono W1.1
 replace hG0:=hG0.mono W1.1
 refine Ok.mixs [0,1,2] [3,4] [.own (.slice Z0 (pthV7 v0 z0).length V0) 5 1 (pthV7 v0 z0).length J0,.blk bs3 (.cells #[.slice u0 q0.length j0,.slice Z0 (pthV7 v0 z0).length V0] 28),.own (.slice u0 q0.length j0) 54 1 q0.length o0,.blk bs2 (.cells zP 28),.own (.slice none ([]:List Int).length 0) 5 1 ([]:List Int).length ([]),.own (.slice none ([]:List (List TS)).length 0) 54 1 ([]:List (List TS)).length ([])] [.own (.slice Z0 (pthV7 v0 z0).length V0) 5 1 (pthV7 v0 z0).length J0,.blk bs2 (.cells zP 28),.own (.slice none ([]:List Int).length 0) 5 1 ([]:List Int).length ([]),.own (.slice none ([]:List (List TS)).length 0) 54 1 ([]:List (List TS)).length ([])] [(0,true),(1,true),(2,true),(3,false),(4,false),(5,false),(6,true),(7,false)] kr kr (.cons_cons _ (.cons _ (.cons _ (.cons_cons _ (.cons_cons _ (.cons_cons _ .slnil)))))) (.cons _ (.cons_cons _ (.cons_cons _ (.cons_cons _ (.cons_cons _ (.cons_cons _ (.cons_cons _ .slnil))))))) (OkM.B 1 [(0,pv bxr 0),(2,pv bs2 0),(3,pv bs3 0),(63,pv bs3 0)] kr (OkM.h rfl rfl rfl (OpQ.s (v:=.slice u0 q0.length j0) (Yields.l 1 rfl rfl underlying25 rfl kr) rfl rfl (OkM.b 1 [0,2,3] [(64,.slice u0 q0.length j0),(65,pv bxr 0)] ?_))))
 obtain ⟨E2,hF⟩:=hF
 refine OkM.t rfl rfl (OpOk.callH [_] _ enr rfl (stp_c (pthV6 z0) hRybxr_0j12 hG0 E2) rfl fun g15 _ _ Z1 hV15=>?_)
 obtain ⟨m2,n2,a15_2,c15_2,rfl,hR15_0,hR15_2,rfl⟩:=hV15
 replace i0:=i0.mono Z1.1
 replace T0:=T0.mono Z1.1
 refine OkM.l (i:=3) rfl Z1.1 (.cons _ (.cons_cons _ (.cons_cons _ (.cons_cons _ (.cons_cons _ (.cons_cons _ (.cons_cons _ .slnil))))))) ?_
 have s3:RepL g15 (.slice yS) ([.slice m2 ((stpR (pthV6 z0)).1).length n2]:List Value) ([(stpR (pthV6 z0)).1]:List (List TS)):=(RepL.consN (c:=[.slice m2 ((stpR (pthV6 z0)).1).length n2]) hR15_0 rfl)
 refine OkM.t rfl rfl (OpOk.lit (E:=54) (.slice yS) ([(stpR (pthV6 z0)).1]:List (List TS)) ([.slice m2 ((stpR (pthV6 z0)).1).length n2]:List Value) kr kr rfl kr s3 rfl fun b16=>?_)
 refine OkM.l (i:=4) rfl Z1.1 (.cons _ (.cons _ (.cons_cons _ (.cons_cons _ (.cons_cons _ (.cons_cons _ (.cons_cons _ (.cons_cons _ .slnil)))))))) ?_
 obtain ⟨hb17,hF⟩:=hF
 refine OkM.t rfl rfl (OpOk.append' (e:=.slice yS) 24 5864062014805 4 0 rfl rfl rfl rfl i0 s3 underlying25 kr kr kr hb17 rfl fun a17 c17 xs17 hL17=>?_)
 refine OkM.l (i:=5) rfl Z1.1 (.cons _ (.cons _ (.cons_cons _ (.cons _ (.cons _ (.cons_cons _ (.cons_cons _ (.cons_cons _ .slnil)))))))) (OkM.b 1 [0,2,3] [(68,.slice a17 (q0++([(stpR (pthV6 z0)).1]:List (List TS))).length c17),(69,pv bs3 0)] ?_)
 refine OkM.t rfl rfl (OpOk.sto (k:=1) (v:=.slice a17 (q0++([(stpR (pthV6 z0)).1]:List (List TS))).length c17) 3 #[.slice a17 (q0++([(stpR (pthV6 z0)).1]:List (List TS))).length c17,.slice Z0 (pthV7 v0 z0).length V0] rfl rfl rfl ?_)
 refine OkM.l (i:=7) rfl Z1.1 (.cons _ (.cons _ (.cons_cons _ (.cons _ (.cons _ (.cons_cons _ (.cons_cons _ (.cons_cons _ .slnil)))))))) (OkM.nil (Ok.kn (Ok.t ?_)))
 exact fun a W hA hW=>⟨k6,nl,g15,((((i1.trans D1).trans m1).trans W1).trans Z1),Z0,V0,pthV7 v0 z0,J0,a17,c17,(q0++([(stpR (pthV6 z0)).1]:List (List TS))),xs17,a15_2,c15_2,(stpR (pthV6 z0)).2,T0,hL17,hR15_2,hA.sub kr,hW.pick [2,3,4,1,5,6,7] _ dc rfl,hF⟩
def pA:Ph:=([[tA],[tB]],[62])
def pthP (r:Rd):Prop:=r=R0
def pthR (r:Rd):Ph×Rd:=(pA,[])
theorem pth_F (r:Rd) (hp:pthP r):pthF r (fun a b=>(a,b)=pthR r):=by
 obtain rfl:r=R0:=hp
 have fin:pthl6 (fun a b=>(a,b)=pthR R0) 1 [62] [[tA],[tB]] []:=by
  have j22:pthj22 (fun a b=>(a,b)=pthR R0) [62] [[tA],[tB]] [] (pthl6 (fun a b=>(a,b)=pthR R0) 0):=⟨fun h=>absurd h dk,fun _=>by show _=_; kernel_rfl⟩
  have j14:pthj14 (fun a b=>(a,b)=pthR R0) [62] [[tA],[tB]] [] (pthl6 (fun a b=>(a,b)=pthR R0) 0):=⟨fun h=>absurd h dk,fun _=>⟨fun h=>absurd h dk,fun _=>j22⟩⟩
  exact ⟨fun h=>absurd h dk,fun _=>⟨fun h=>absurd h dk,fun _=>j14⟩⟩
 have j12:pthj12 [] [(stpR R0).1] (stpR R0).2 (pthl6 (fun a b=>(a,b)=pthR R0) 1):=⟨.inr kr,by decide +kernel,fin⟩
 have j14:pthj14 (fun a b=>(a,b)=pthR R0) [] [(stpR R0).1] (stpR R0).2 (pthl6 (fun a b=>(a,b)=pthR R0) 1):=⟨fun _=>⟨fun h=>absurd h dk,fun _=>⟨by decide,by decide +kernel,by decide +kernel,by decide,by decide +kernel,by decide +kernel,j12⟩⟩,fun h=>absurd h dk⟩
 exact ⟨.inl rfl,2,fun _=>j14,fun h=>absurd h dk⟩
theorem pth_c {g:Ghost} {bxr:Nat} {Q0:Option Addr} {K0:Nat} (xr:List KT) (X0:Rep g (.slice yK) [.slice Q0 xr.length K0] xr) (hG0:SomeInt g 0)  (hp:pthP xr):CallsH prog 55 #[pv bxr 0] g [.blk bxr (.cells #[.slice Q0 xr.length K0] 70)] (fun g' H' v=>∃ (S0:Option Addr) (B0:Nat),∃ (n1:Option Addr) (o1:Nat),∃ (m0:Option Addr) (n0:Nat),v=.agg #[.slice S0 (pthR xr).1.1.length B0,.slice n1 (pthR xr).1.2.length o1]∧Rep g' (.slice (.slice yS)) [.slice S0 (pthR xr).1.1.length B0] (pthR xr).1.1∧Rep g' (.slice yb) [.slice n1 (pthR xr).1.2.length o1] (pthR xr).1.2∧Rep g' (.slice yK) [.slice m0 ((pthR xr).2).length n0] (pthR xr).2∧H'=[.blk bxr (.cells #[.slice m0 ((pthR xr).2).length n0] 70)]) :=
 (pth_ok xr X0 hG0 _ (pth_F xr hp)).mono (by rintro g' H' v _ ⟨r0,fxr,S0,B0,n1,o1,m0,n0,rfl,L0,hRr0_1,F0,rfl,hK⟩; obtain ⟨rfl,rfl⟩:r0=(pthR xr).1∧fxr=(pthR xr).2:=⟨congrArg (fun z=>z.1) hK,congrArg (fun z=>z.2) hK⟩; exact ⟨S0,B0,n1,o1,m0,n0,rfl,L0,hRr0_1,F0,rfl⟩)
def lstl6b (xr:List KT) (xend:Bs) (K:(List PH)→List KT→Prop) (C6:Prop):Prop :=
 pthP (gapS xr).2∧(([]:List PH)++([(pthR (gapS xr).2).1]:List PH)).length≤2932031007402∧rawP (gapS (pthR (gapS xr).2).2).2 ([44]:Bs)∧((rwS (gapS (pthR ((gapS xr).2)).2).2 ([44]:Bs)).1=true→False)∧((rwS (gapS (pthR ((gapS xr).2)).2).2 ([44]:Bs)).1=false→((xend==([]:Bs))=true→((!((((rwS (gapS (pthR (gapS xr).2).2).2 ([44]:Bs)).2).length:Int)==0))=true→False)∧((!((((rwS (gapS (pthR (gapS xr).2).2).2 ([44]:Bs)).2).length:Int)==0))=false→K (([]:List PH)++([(pthR (gapS xr).2).1]:List PH)) (rwS (gapS (pthR ((gapS xr).2)).2).2 ([44]:Bs)).2))∧((xend==([]:Bs))=false→False))
def lstl6 (xr:List KT) (xend:Bs) (K:(List PH)→List KT→Prop):Nat→Prop
 | 0=>False
 | k+1=>lstl6b xr xend K (lstl6 xr xend K k)
def lstF (xr:List KT) (xend:Bs) (K:(List PH)→List KT→Prop):Prop :=
 ∃ k,lstl6 xr xend K k
theorem lst_ok {g:Ghost} {bxr:Nat} {Q0:Option Addr} {K0:Nat} (xr:List KT) (xend:Bs) (X0:Rep g (.slice yK) [.slice Q0 xr.length K0] xr) (hG0:SomeInt g 0) (K:(List PH)→List KT→Prop)
  (hF:lstF xr xend K):CallsH prog 32 #[pv bxr 0,sv xend] g [.blk bxr (.cells #[.slice Q0 xr.length K0] 70)] (fun g' H' v=>∃ (r0:List PH),∃ (fxr:List KT),∃ (S0:Option Addr) (B0:Nat),∃ (m0:Option Addr) (n0:Nat),v=.slice S0 r0.length B0∧Rep g' (.slice yP) [.slice S0 r0.length B0] r0∧Rep g' (.slice yK) [.slice m0 fxr.length n0] fxr∧H'=[.blk bxr (.cells #[.slice m0 fxr.length n0] 70)]∧K r0 fxr):=by
 refine CallsH.en 33 func32 rfl fun w0=>?_
 refine Ok.sr (Ok.B 1 [(0,pv bxr 0),(1,sv xend)] kr (Ok.nt (Ok.sr (Ok.b 1 [0,1] [(5,.slice none 0 0)] ?_))))
 have hL1:RepL g yP [] []:=rfl
 refine Ok.ownNil 28 2 (Ok.nt (Ok.block ?_))
 obtain ⟨k,hF⟩:=hF
 refine Ok.L (fun k a W=>∃ gl6:Ghost,Gext w0 g gl6∧StA 33 [(0,pv bxr 0),(1,sv xend),(5,.slice none ([]:List PH).length 0)] a∧StW w0 [.own (.slice none ([]:List PH).length 0) 28 2 ([]:List PH).length ([]),.blk bxr (.cells #[.slice Q0 xr.length K0] 70)] gl6 W∧lstl6 xr xend K k) k ?_ ?_
 ·
  exact fg hF
 clear hF
 rintro (_ | k6) _ _ ⟨gl6,i1,q⟩
 exact (q.2.2:False).elim
 refine jn (fun hF=>?_) _ _ q
 replace hL1:=hL1.mono i1.1
 replace X0:=X0.mono i1.1
 replace hG0:=hG0.mono i1.1
 refine Ok.block (Ok.sr (Ok.b 1 [0,1,5] [(6,pv bxr 0)] ?_))
 refine Ok.e [1,0] [.blk bxr (.cells #[.slice Q0 xr.length K0] 70),.own (.slice none ([]:List PH).length 0) 28 2 ([]:List PH).length ([])] dc rfl (Ok.o (OpOk.callH [_] _ enr rfl (gap_c xr X0) rfl fun g2 _ _ hx2 hV2=>?_))
 obtain ⟨t1,a1,rfl,d1,rfl⟩:=hV2
 replace hL1:=hL1.mono hx2.1
 replace hG0:=hG0.mono hx2.1
 refine Ok.nt (Ok.sr (Ok.B 2 [(0,pv bxr 0),(1,sv xend),(8,.slice none ([]:List PH).length 0),(9,pv bxr 0)] kr ?_))
 obtain ⟨hp3,hF⟩:=hF
 refine Ok.o (OpOk.callH [_] _ enr rfl (pth_c (gapS xr).2 d1 hG0 hp3) rfl fun g4 _ _ hx4 hV4=>?_)
 obtain ⟨o2,p2,r2,t2,a4_4,c4_4,rfl,hR4_0,hR4_2,hR4_4,rfl⟩:=hV4
 replace hL1:=hL1.mono hx4.1
 have hL5:RepL g4 yP ([.slice o2 ((pthR (gapS xr).2).1.1).length p2,.slice r2 ((pthR (gapS xr).2).1.2).length t2]:List Value) ([(pthR (gapS xr).2).1]:List PH):=(RepL.consN (c:=[.slice o2 ((pthR (gapS xr).2).1.1).length p2,.slice r2 ((pthR (gapS xr).2).1.2).length t2]) ⟨[.slice o2 ((pthR (gapS xr).2).1.1).length p2],[.slice r2 ((pthR (gapS xr).2).1.2).length t2],rfl,hR4_0,hR4_2⟩ rfl)
 refine Ok.o (OpOk.lit (E:=28) yP ([(pthR (gapS xr).2).1]:List PH) ([.slice o2 ((pthR (gapS xr).2).1.1).length p2,.slice r2 ((pthR (gapS xr).2).1.2).length t2]:List Value) kr kr rfl kr hL5 rfl fun b5=>?_)
 obtain ⟨hb6,hF⟩:=hF
 refine Ok.o (OpOk.append' (e:=yP) 48 2932031007402 2 0 rfl rfl rfl rfl hL1 hL5 underlying33 kr kr kr hb6 rfl fun a6 c6 xs6 hL6=>?_)
 refine Ok.b 1 [0,1] [(5,.slice a6 (([]:List PH)++([(pthR (gapS xr).2).1]:List PH)).length c6)] ?_
 refine Ok.nt (Ok.sr (Ok.b 1 [0,1,5] [(13,pv bxr 0)] ?_))
 refine Ok.e [1,0,2] [.blk bxr (.cells #[.slice a4_4 ((pthR (gapS xr).2).2).length c4_4] 70),.own (.slice (some ⟨b5,0,none⟩) ([(pthR (gapS xr).2).1]:List PH).length 1) 28 2 ([(pthR (gapS xr).2).1]:List PH).length ([.slice o2 ((pthR (gapS xr).2).1.1).length p2,.slice r2 ((pthR (gapS xr).2).1.2).length t2]:List Value),.own (.slice a6 (([]:List PH)++([(pthR (gapS xr).2).1]:List PH)).length c6) 28 2 (([]:List PH)++([(pthR (gapS xr).2).1]:List PH)).length xs6] dc rfl (Ok.o (OpOk.callH [_] _ enr rfl (gap_c (pthR (gapS xr).2).2 hR4_4) rfl fun g7 _ _ hx7 hV7=>?_))
 obtain ⟨v3,k3,rfl,y2,rfl⟩:=hV7
 replace hL6:=hL6.mono hx7.1
 refine Ok.nt (Ok.q (Ok.sr (Ok.B 1 [(0,pv bxr 0),(1,sv xend),(5,.slice a6 (([]:List PH)++([(pthR (gapS xr).2).1]:List PH)).length c6),(15,pv bxr 0)] kr ?_)))
 obtain ⟨hp8,hF⟩:=hF
 refine Ok.o (OpOk.callH [_] _ enr rfl (raw_c (gapS (pthR (gapS xr).2).2).2 ([44]:Bs) y2 hp8) rfl fun g9 _ _ hx9 hV9=>?_)
 obtain ⟨I1,z2,rfl,N1,rfl⟩:=hV9
 replace hL6:=hL6.mono hx9.1
 refine Ok.nt (Ok.cw hF (fun T2 hF=>?_) (fun T2 hF=>?_))
 ·exact False.elim hF
 refine Ok.k (Ok.t (Ok.q (Ok.sr (Ok.b 1 [0,1,5] [(17,sv xend)] ?_))))
 refine Ok.o (OpOk.s (v:=.bool (xend==([]:Bs))) (Yields.sc (f:=.eql) (a:=xend) (b:=([]:Bs)) kr kr rfl) rfl rfl (Ok.nt (Ok.cw hF (fun P2 hF=>?_) (fun P2 hF=>?_))))
 ·refine Ok.r (Ok.rn 7 [.e 0] [5] [(19,pv bxr 0),(25,.bool ((((rwS (gapS (pthR (gapS xr).2).2).2 ([44]:Bs)).2).length:Int)==0))] ?_)
  refine Ok.o (OpOk.i (args:=#[pv bxr 0,.bool ((((rwS (gapS (pthR (gapS xr).2).2).2 ([44]:Bs)).2).length:Int)==0)]) 8 [(0,pv bxr 0),(1,.bool ((((rwS (gapS (pthR (gapS xr).2).2).2 ([44]:Bs)).2).length:Int)==0))] enr func57 rfl rfl rfl rfl (Ok.sr (Ok.B 2 [(5,.bool (!((((rwS (gapS (pthR (gapS xr).2).2).2 ([44]:Bs)).2).length:Int)==0)))] kr (Ok.nt (Ok.cw hF (fun D2 hF=>?_) (fun D2 hF=>?_))))))
  ·exact False.elim hF
  refine Ok.k (Ok.back (vs:=[]) (.inr rfl) rfl .nil rfl (Ok.nt (Ok.sr (Ok.B 2 [(4,.slice a6 (([]:List PH)++([(pthR (gapS xr).2).1]:List PH)).length c6)] kr (Ok.nt (Ok.ret (Ok.kr (Ok.tr (Ok.kr (Ok.frz 2 rfl hL6 fun g13 J2 hRf13=>?_))))))))))
  replace N1:=N1.mono J2.1
  exact Ok.p (vs:=[.slice a6 (([]:List PH)++([(pthR (gapS xr).2).1]:List PH)).length c6]) [0] [.blk bxr (.cells #[.slice I1 ((rwS (gapS (pthR (gapS xr).2).2).2 ([44]:Bs)).2).length z2] 70)] dc rfl (.inl rfl) rfl (.cons (.tmp rfl) .nil) (((((i1.trans hx2).trans hx4).trans hx7).trans hx9).trans J2) ⟨(([]:List PH)++([(pthR (gapS xr).2).1]:List PH)),(rwS (gapS (pthR ((gapS xr).2)).2).2 ([44]:Bs)).2,a6,c6,I1,z2,rfl,hRf13,N1,rfl,hF⟩
 exact False.elim hF
def lstP (r:Rd) (s:Bs):Prop:=r=R0∧s=[]
def lstR (r:Rd) (s:Bs):List Ph×Rd:=([pA],[])
theorem lst_F (r:Rd) (s:Bs) (hp:lstP r s):lstF r s (fun a b=>(a,b)=lstR r s):=by
 obtain ⟨rfl,rfl⟩:=hp
 exact ⟨1,(show _=R0 by kernel_rfl),by decide +kernel,(by intro h; cases h),fun h=>absurd h dk,fun _=>⟨fun _=>⟨fun h=>absurd h dk,fun _=>by show _=_; kernel_rfl⟩,fun h=>absurd h dk⟩⟩
theorem lst_c {g:Ghost} {bxr:Nat} {Q0:Option Addr} {K0:Nat} (xr:List KT) (xend:Bs) (X0:Rep g (.slice yK) [.slice Q0 xr.length K0] xr) (hG0:SomeInt g 0)  (hp:lstP xr xend):CallsH prog 32 #[pv bxr 0,sv xend] g [.blk bxr (.cells #[.slice Q0 xr.length K0] 70)] (fun g' H' v=>∃ (S0:Option Addr) (B0:Nat),∃ (m0:Option Addr) (n0:Nat),v=.slice S0 ((lstR xr xend).1).length B0∧Rep g' (.slice yP) [.slice S0 ((lstR xr xend).1).length B0] (lstR xr xend).1∧Rep g' (.slice yK) [.slice m0 ((lstR xr xend).2).length n0] (lstR xr xend).2∧H'=[.blk bxr (.cells #[.slice m0 ((lstR xr xend).2).length n0] 70)]) :=
 (lst_ok xr xend X0 hG0 _ (lst_F xr xend hp)).mono (by rintro g' H' v _ ⟨r0,fxr,S0,B0,m0,n0,rfl,L0,F0,rfl,hK⟩; obtain ⟨rfl,rfl⟩:r0=(lstR xr xend).1∧fxr=(lstR xr xend).2:=⟨congrArg (fun z=>z.1) hK,congrArg (fun z=>z.2) hK⟩; exact ⟨S0,B0,m0,n0,rfl,L0,F0,rfl⟩)
theorem idle30 (p q:Value):Idle prog 30 #[p,q]:=by
 intro W
 refine callsD_of_wpS func30 rfl fun c₀ cs hu=>?_
 apply wpS_seq
 apply wpS_region
 simp [wpOpsS,go_sem,recoverD,hu,Exit.thenS]
 apply wpS_seq
 apply wpS_region
 simp [wpOpsS,go_sem,Exit.thenS]
 refine wpS_cond (t:=false) (by simp [Act.eval,Array.replicate]) ?_
 simp only [Bool.false_eq_true,if_false]
 refine wpS_of_wp (wp_skip ?_)
 exact ⟨rfl,.returning,by cases c₀; simp_all,.tuple #[],by simp [results,Tryz.results30],⟨_,rfl⟩,rfl,Below.refl _ _⟩
def rdF (xs:Bs) (K:(List PH)→Int→Prop):Prop :=
 ((decide ((xs.length:Int)>400))=true→K ([]) 2)∧((decide ((xs.length:Int)>400))=false→cutP xs∧lstP (cutS xs) ([]:Bs)∧chkP (lstR (cutS xs) ([]:Bs)).1∧(((chkS (lstR (cutS xs) ([]:Bs)).1) != 0)=true→K ([]) 4)∧(((chkS (lstR (cutS xs) ([]:Bs)).1) != 0)=false→K (lstR (cutS xs) ([]:Bs)).1 0))
theorem rd_ok {g:Ghost} (xs:Bs) (hG0:SomeInt g 0) (K:(List PH)→Int→Prop)
  (hF:rdF xs K):CallsH prog 16 #[sv xs] g [] (fun g' H' v=>∃ (r0:List PH),∃ (r1:Int),∃ (S0:Option Addr) (B0:Nat),v=.tuple #[.slice S0 r0.length B0,iv r1]∧Rep g' (.slice yP) [.slice S0 r0.length B0] r0∧H'=[]∧K r0 r1):=by
 refine CallsH.enterD 19 [(0,sv xs)] func16 rfl kr kr kr fun w0=>?_
 refine Ok.sr (Ok.o (OpOk.a (z:=.slice none 0 0) (cs:=#[.slice none 0 0]) kr kr rfl fun bs2=>?_))
 refine Ok.o (OpOk.a (z:=iv 0) (cs:=#[iv 0]) kr kr rfl fun bs3=>?_)
 refine Ok.nt (Ok.q (Ok.sr (Ok.B 3 [(0,sv xs),(2,pv bs2 0),(3,pv bs3 0),(7,.bool (decide ((xs.length:Int)>400)))] kr (Ok.nt (Ok.cw hF (fun hc3 hF=>?_) (fun hc3 hF=>?_))))))
 ·refine Ok.sr (Ok.o (OpOk.s1 1 (.slice none 0 0) rfl rfl rfl ?_))
  refine Ok.o (OpOk.s1 0 (iv 2) rfl rfl rfl ?_)
  refine Ok.nt (Ok.ret (Ok.tr ?_))
  exact Ok.resD0 (vs:=[.slice none 0 0,iv 2]) rfl [] [] dc rfl (.inl rfl) rfl (.cons (.cellOne 1 rfl rfl underlying33 rfl kr) (.cons (.cellOne 0 rfl rfl underlying30 rfl kr) .nil)) (Gext.r w0 g) ⟨([]),2,none,0,rfl,Rep.nil,rfl,hF⟩
 refine Ok.k (Ok.t (Ok.sr (Ok.b 1 [0,2,3] [(8,.func (.func 30) #[] #[pv bs2 0,pv bs3 0])] ?_)))
 refine Ok.o (OpOk.defer ⟨.fn (.func 30) #[pv bs2 0,pv bs3 0],#[]⟩ kr (fun _=>by kernel_rfl) rfl ?_)
 refine Ok.nt (Ok.sr (Ok.b 1 [2,3] [(9,sv xs)] ?_))
 obtain ⟨hp4,hF⟩:=hF
 refine Ok.o (OpOk.callH [] _ enr rfl (cut_c xs hG0 hp4) rfl fun g5 _ _ hx5 hV5=>?_)
 obtain ⟨U1,J1,rfl,e2,rfl⟩:=hV5
 replace hG0:=hG0.mono hx5.1
 refine Ok.b 1 [2,3] [(11,.agg #[.slice U1 (cutS xs).length J1])] ?_
 refine Ok.o (OpOk.bx #[.slice U1 (cutS xs).length J1] fun d3=>?_)
 refine Ok.b 1 [2,3] [(4,pv d3 0)] ?_
 refine Ok.nt (Ok.sr (Ok.b 1 [2,3] [(13,pv d3 0)] ?_))
 obtain ⟨hp7,hF⟩:=hF
 refine Ok.o (OpOk.callH [_] _ enr rfl (lst_c (cutS xs) ([]:Bs) e2 hG0 hp7) rfl fun g8 _ _ hx8 hV8=>?_)
 obtain ⟨E1,F1,a8_2,c8_2,rfl,B2,hR8_2,rfl⟩:=hV8
 replace hG0:=hG0.mono hx8.1
 refine Ok.o (OpOk.s1 2 (.slice E1 ((lstR (cutS xs) ([]:Bs)).1).length F1) rfl rfl rfl ?_)
 refine Ok.nt (Ok.q (Ok.q (Ok.r ?_)))
 obtain ⟨hp9,hF⟩:=hF
 refine Ok.rn 3 [.e 2,.k (chk_c (lstR (cutS xs) ([]:Bs)).1 B2 hG0 hp9)] [2,3] [(17,.bool ((chkS (lstR (cutS xs) ([]:Bs)).1) != 0))] ?_
 refine Ok.nt (Ok.cw hF (fun T2 hF=>?_) (fun T2 hF=>?_))
 ·refine Ok.sr (Ok.o (OpOk.s1 2 (.slice none 0 0) rfl rfl rfl ?_))
  refine Ok.o (OpOk.s1 1 (iv 4) rfl rfl rfl ?_)
  refine Ok.nt (Ok.ret (Ok.tr ?_))
  exact Ok.resD (vs:=[.slice none 0 0,iv 4]) (args:=#[pv bs2 0,pv bs3 0]) (idle30 _ _) rfl (fun _=>by kernel_rfl) [] [] dc rfl (.inl rfl) rfl (.cons (.cellOne 2 rfl rfl underlying33 rfl kr) (.cons (.cellOne 1 rfl rfl underlying30 rfl kr) .nil)) (hx5.trans hx8) ⟨([]),4,none,0,rfl,Rep.nil,rfl,hF⟩
 refine Ok.k (Ok.t (Ok.sr (Ok.o (OpOk.s (v:=.slice E1 ((lstR (cutS xs) ([]:Bs)).1).length F1) (Yields.l 2 rfl rfl underlying33 rfl kr) rfl rfl (Ok.o (OpOk.s1 2 (.slice E1 ((lstR (cutS xs) ([]:Bs)).1).length F1) rfl rfl rfl ?_))))))
 refine Ok.o (OpOk.s1 1 (iv 0) rfl rfl rfl ?_)
 refine Ok.nt (Ok.ret ?_)
 exact Ok.resD (vs:=[.slice E1 ((lstR (cutS xs) ([]:Bs)).1).length F1,iv 0]) (args:=#[pv bs2 0,pv bs3 0]) (idle30 _ _) rfl (fun _=>by kernel_rfl) [] [] dc rfl (.inl rfl) rfl (.cons (.cellOne 2 rfl rfl underlying33 rfl kr) (.cons (.cellOne 1 rfl rfl underlying30 rfl kr) .nil)) (hx5.trans hx8) ⟨(lstR (cutS xs) ([]:Bs)).1,0,E1,F1,rfl,B2,rfl,hF⟩
def rdP (s:Bs):Prop:=s=[97,32,62,32,46,98]
def rdR (s:Bs):List Ph×Int:=([pA],0)
theorem cut_known:cutS [97,32,62,32,46,98]=R0:=by decide +kernel
theorem chk_known:chkS [pA]=0:=by decide +kernel
theorem okB_tA:okB tA:=by
 refine Tst.all_mk.2 ⟨⟨⟨by decide,by decide⟩,fun q hq=>(by cases hq)⟩,fun q hq=>(by cases hq)⟩
theorem okB_tB:okB tB:=by
 refine Tst.all_mk.2 ⟨⟨⟨by decide,by decide⟩,fun q hq=>(by cases hq)⟩,fun q hq=>(by cases hq)⟩
theorem chkP_known:chkP [pA]:=by
 refine ⟨by decide +kernel,fun q hq=>?_⟩
 obtain rfl:=List.mem_singleton.1 hq
 refine ⟨fun z hz=>?_,fun s hs t ht=>?_⟩
 ·obtain rfl:=List.mem_singleton.1 hz
  exact ⟨by decide,by decide⟩
 rcases List.mem_cons.1 hs with rfl | hs
 ·obtain rfl:=List.mem_singleton.1 ht
  exact okB_tA
 obtain rfl:=List.mem_singleton.1 hs
 obtain rfl:=List.mem_singleton.1 ht
 exact okB_tB
theorem rd_F (s:Bs) (hp:rdP s):rdF s (fun a c=>(a,c)=rdR s):=by
 obtain rfl:s=[97,32,62,32,46,98]:=hp
 unfold rdF
 rw [cut_known]
 refine ⟨fun h=>absurd h dc,fun _=>⟨by unfold cutP; decide +kernel,⟨rfl,rfl⟩,chkP_known,?_⟩⟩
 show ((chkS [pA] != 0)=true→_)∧((chkS [pA] != 0)=false→_)
 rw [chk_known]
 exact ⟨fun h=>absurd h dc,fun _=>rfl⟩
theorem rd_c {g:Ghost} (xs:Bs) (hG0:SomeInt g 0)  (hp:rdP xs):CallsH prog 16 #[sv xs] g [] (fun g' H' v=>∃ (S0:Option Addr) (B0:Nat),v=.tuple #[.slice S0 ((rdR xs).1).length B0,iv (rdR xs).2]∧Rep g' (.slice yP) [.slice S0 ((rdR xs).1).length B0] (rdR xs).1∧H'=[]) :=
 (rd_ok xs hG0 _ (rd_F xs hp)).mono (by rintro g' H' v _ ⟨r0,r1,S0,B0,rfl,L0,rfl,hK⟩; obtain ⟨rfl,rfl⟩:r0=(rdR xs).1∧r1=(rdR xs).2:=⟨congrArg (fun z=>z.1) hK,congrArg (fun z=>z.2) hK⟩; exact ⟨S0,B0,rfl,L0,rfl⟩)
def lsdV0:Bool :=
 ((((rdR ([97,32,62,32,46,98]:Bs)).2==0)&&((((rdR ([97,32,62,32,46,98]:Bs)).1).length:Int)==1))&&((((((rdR ([97,32,62,32,46,98]:Bs)).1).getD (Int.toNat 0) default).1.length:Int)==2)&&((bytesOf (((rdR ([97,32,62,32,46,98]:Bs)).1).getD (Int.toNat 0) default).2)==([62]:Bs))))
def lsdj5 (K:Bool→Prop):Prop :=
 K lsdV0
def lsdF (K:Bool→Prop):Prop :=
 rdP ([97,32,62,32,46,98]:Bs)∧((((rdR ([97,32,62,32,46,98]:Bs)).2==0)&&((((rdR ([97,32,62,32,46,98]:Bs)).1).length:Int)==1))=true→(0:Int)≤0∧Int.toNat 0<((rdR ([97,32,62,32,46,98]:Bs)).1).length∧((((((rdR ([97,32,62,32,46,98]:Bs)).1).getD (Int.toNat 0) default).1.length:Int)==2)=true→lsdj5 K)∧((((((rdR ([97,32,62,32,46,98]:Bs)).1).getD (Int.toNat 0) default).1.length:Int)==2)=false→lsdj5 K))∧((((rdR ([97,32,62,32,46,98]:Bs)).2==0)&&((((rdR ([97,32,62,32,46,98]:Bs)).1).length:Int)==1))=false→lsdj5 K)
theorem lsd_ok {g:Ghost}  (hG0:SomeInt g 0) (K:Bool→Prop)
  (hF:lsdF K):CallsH prog 6 #[] g [] (fun g' H' v=>∃ (r0:Bool),v=.bool r0∧H'=[]∧K r0):=by
 refine CallsH.en 30 func6 rfl fun w0=>?_
 refine Ok.sr (Ok.B 1 [] kr (Ok.nt (Ok.q (Ok.r ?_))))
 obtain ⟨hp1,hF⟩:=hF
 refine Ok.o (OpOk.callH [] _ enr rfl (rd_c cQ hG0 hp1) rfl fun g2 _ _ hx2 hV2=>?_)
 obtain ⟨t1,a1,rfl,d1,rfl⟩:=hV2
 refine Ok.B 5 [(1,.slice t1 ((rdR cQ).1).length a1),(2,iv (rdR cQ).2)] kr (Ok.nt (Ok.cg g2 [(0,.bool lsdV0)] [] (lsdj5 K) ?_ (fun gj5 e3 hF=>?_)))
 ·
  refine Ok.r (Ok.b 3 [1] [(9,.bool ((rdR cQ).2==0))] ?_)
  refine Ok.w 4 [(1,.slice t1 ((rdR cQ).1).length a1),(13,.bool (((rdR cQ).2==0)&&((((rdR cQ).1).length:Int)==1)))] (fun hR3=>?_) ?_
  ·refine Ok.a 9 ((rdR cQ).2==0) rfl (fun hc4=>?_) (fun hc4=>?_)
   ·skip
    refine Ok.b 4 [1] [(13,.bool ((((rdR cQ).1).length:Int)==1))] ?_
    refine Ok.rb 13 (((rdR cQ).2==0)&&((((rdR cQ).1).length:Int)==1)) (mand_t hc4) (Ok.b 0 [1] [(13,.bool (((rdR cQ).2==0)&&((((rdR cQ).1).length:Int)==1)))] ?_)
    exact hR3
   skip
   refine Ok.b 4 [1] [(13,.bool false)] ?_
   refine Ok.rb 13 (((rdR cQ).2==0)&&((((rdR cQ).1).length:Int)==1)) (mand_f hc4) (Ok.b 0 [1] [(13,.bool (((rdR cQ).2==0)&&((((rdR cQ).1).length:Int)==1)))] ?_)
   exact hR3
  refine Ok.b 1 [1] [(14,.bool (((rdR cQ).2==0)&&((((rdR cQ).1).length:Int)==1)))] ?_
  refine Ok.bw 14 hF (fun hc5 hF=>?_) (fun hc5 hF=>?_)
  ·refine Ok.b 1 [1] [(14,.bool true),(15,.slice t1 ((rdR cQ).1).length a1)] ?_
   obtain ⟨h07,h17,hF⟩:=hF
   have he7:=get_of (l:=(rdR cQ).1) default h17
   generalize hg7:(((rdR ([97,32,62,32,46,98]:Bs)).1).getD (Int.toNat 0) default)=e7 at he7 hF ⊢
   refine Ok.oy (OpOk.indexRo (e:=yP) rfl rfl underlying33 kr d1 h07 he7 rfl fun q6 o6 cs6 _ L2 hr6=>?_)
   obtain ⟨_,_,rfl,⟨q2,k2,rfl,hm6_0,hr6_0⟩,⟨A2,I2,rfl,hm6_1,hr6_1⟩⟩:=hr6
   have S2:Rep g2 (.slice (.slice yS)) [.slice q2 e7.1.length k2] e7.1:=⟨q2,k2,rfl,hm6_0,hr6_0⟩
   have hR6_1:Rep g2 (.slice yb) [.slice A2 e7.2.length I2] e7.2:=⟨A2,I2,rfl,hm6_1,hr6_1⟩
   replace L2:At g2 q6 o6 [.slice q2 e7.1.length k2,.slice A2 e7.2.length I2]:=L2
   refine Ok.rn 6 [.a 0 L2] [1] [(22,.bool ((e7.1.length:Int)==2))] ?_
   refine Ok.a 22 ((e7.1.length:Int)==2) rfl (fun hc8=>?_) (fun hc8=>?_)
   ·replace hF:=hF.1 hc8
    refine Ok.B 1 [(22,.bool true),(23,.slice t1 ((rdR cQ).1).length a1)] kr (Ok.oy (OpOk.indexRo (e:=yP) rfl rfl underlying33 kr d1 h07 he7 rfl fun q9 o9 cs9 _ z3 hr9=>?_))
    obtain ⟨_,_,rfl,⟨I1,z2,rfl,hm9_0,hr9_0⟩,⟨W2,X2,rfl,hm9_1,hr9_1⟩⟩:=hr9
    have N1:Rep g2 (.slice (.slice yS)) [.slice I1 e7.1.length z2] e7.1:=⟨I1,z2,rfl,hm9_0,hr9_0⟩
    have hR9_1:Rep g2 (.slice yb) [.slice W2 e7.2.length X2] e7.2:=⟨W2,X2,rfl,hm9_1,hr9_1⟩
    replace z3:At g2 q9 o9 [.slice I1 e7.1.length z2,.slice W2 e7.2.length X2]:=z3
    refine Ok.b 1 [22] [(25,.pointer (some ⟨q9,o9+1,none⟩))] ?_
    refine Ok.oy (OpOk.s (v:=.slice W2 e7.2.length X2) (Yields.lr 1 z3 kr underlying26 rfl kr) rfl rfl (Ok.oy (OpOk.s (v:=sv (bytesOf e7.2)) (Yields.strOfRo kr rfl hR9_1 underlying26 underlying9 underlying5) rfl rfl (Ok.rn 3 [] [] [(0,.bool (bytesOf e7.2==([62]:Bs)))] ?_))))
    refine Ok.j (Ok.t ?_)
    subst hg7
    refine Ok.rb 0 lsdV0 (Eq.trans (mand_t hc8) (mand_t hc5)) ?_
    exact fg hF
   replace hF:=hF.2 hc8
   refine Ok.B 8 [(0,.bool false)] kr (Ok.j (Ok.t ?_))
   subst hg7
   refine Ok.rb 0 lsdV0 (Eq.trans (mand_f hc8) (mand_t hc5)) ?_
   exact fg hF
  refine Ok.B 16 [(0,.bool false)] kr (Ok.nt (Ok.rb 0 lsdV0 (mand_f hc5) ?_))
  exact fg hF
 refine Ok.ret ?_
 exact Ok.h1 (.bool lsdV0) (hx2.trans e3) ⟨_,rfl,rfl,hF⟩
theorem lsd_F:lsdF (fun r=>r=true):=by
 have j:lsdj5 (fun r=>r=true):=by show lsdV0=true; decide +kernel
 exact ⟨rfl,fun _=>⟨by decide,by decide +kernel,fun _=>j,fun _=>j⟩,fun _=>j⟩
theorem lsd_c {g:Ghost}  (hG0:SomeInt g 0)  : CallsG prog 6 #[] g (.bool true) :=
 (lsd_ok  hG0 _ (lsd_F )).gv
end Go.Proofs.YtdapgmigogpdcaaGreatDoor.Se
