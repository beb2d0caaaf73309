/- The script reader's small steps. -/
import Derived.Test.YtalnampdiegmoaaDoorFle
import Derived.Test.YtalnampdiegmoaaDoorMor
namespace Go.Proofs.YtalnampdiegmoaaDoor.Bld
set_option linter.unusedVariables false
set_option linter.unusedSimpArgs false
end Go.Proofs.YtalnampdiegmoaaDoor.Bld
namespace Go.Proofs.YtalnampdiegmoaaDoor.Jl
open _root_.Go.Proofs.Tryd Go Go.Eng Go.RowKit Bld Fl
set_option maxHeartbeats 4000000
set_option maxRecDepth 100000
abbrev RD:=Bs×Int×List TK
def ibS (s:Bs) (c:Int):Int:=Lib.indexByte s c.toNat.toUInt8
theorem ib_c {g:Ghost} (s:Bs) (c:Int):CallsG prog 25 #[sv s,.int .u8 c] g (iv (ibS s c)):=fun W hW =>
 (Tryd.strings_IndexByte ⟨⟨s⟩⟩ c W).mono fun e W' ⟨he,hw⟩=>⟨he,by subst hw; exact Below.refl _ _⟩
def DSpace:List Int:=[0,0,0,0,0,0,0,0,0,1,1,1,1,1,0,0,0,0,0,0,0,0,0,0,0,0,0,0,0,0,0,0,1,0,0,0,0,0,0,0,0,0,0,0,0,0,0,0,0,0,0,0,0,0,0,0,0,0,0,0,0,0,0,0,0,0,0,0,0,0,0,0,0,0,0,0,0,0,0,0,0,0,0,0,0,0,0,0,0,0,0,0,0,0,0,0,0,0,0,0,0,0,0,0,0,0,0,0,0,0,0,0,0,0,0,0,0,0,0,0,0,0,0,0,0,0,0,0,0,0,0,0,0,0,0,0,0,0,0,0,0,0,0,0,0,0,0,0,0,0,0,0,0,0,0,0,0,0,0,0,0,0,0,0,0,0,0,0,0,0,0,0,0,0,0,0,0,0,0,0,0,0,0,0,0,0,0,0,0,0,0,0,0,0,0,0,0,0,0,0,0,0,0,0,0,0,0,0,0,0,0,0,0,0,0,0,0,0,0,0,0,0,0,0,0,0,0,0,0,0,0,0,0,0,0,0,0,0,0,0,0,0,0,0,0,0,0,0,0,0,0,0,0,0,0,0]
def inP (l:List Bs) (_:Bs):Prop:=l.length≤1000000
def sidxl7b (xs:List Bs) (xv:Bs) (K:Int→Prop) (g0:Int) (C7:Int→Prop):Prop :=
 ((decide (g0<(xs.length:Int)))=true→0≤g0∧g0.toNat<xs.length∧((xv==xs.getD g0.toNat default)=true→K g0)∧((xv==xs.getD g0.toNat default)=false→C7 (w6 (g0+1))))∧((decide (g0<(xs.length:Int)))=false→K (-1))
def sidxl7 (xs:List Bs) (xv:Bs) (K:Int→Prop):Nat→Int→Prop
 | 0,_=>False
 | k+1,g0=>sidxl7b xs xv K g0 (sidxl7 xs xv K k)
def sidxF (xs:List Bs) (xv:Bs) (K:Int→Prop):Prop :=
 ∃ k,sidxl7 xs xv K k 0
theorem sidx_ok {g:Ghost} {e0:Option Addr} {f0:Nat} (xs:List Bs) (xv:Bs) (m0:Rep g (.slice (.str)) [.slice e0 xs.length f0] xs) (K:Int→Prop)
  (hF:sidxF xs xv K):CallsH prog 74 #[.slice e0 xs.length f0,sv xv] g [] (fun g' H' v=>∃ (r0:Int),v=iv r0∧H'=[]∧K r0):=by
 refine CallsH.en 19 func74 rfl fun w0=>?_
 refine Ok.sr (Ok.B 1 [(0,.slice e0 xs.length f0),(1,sv xv)] kr (Ok.nt (Ok.q (Ok.sr (Ok.b 3 [0,1] [(7,iv (xs.length:Int)),(8,iv 0)] ?_)))))
 refine Ok.nt (Ok.block ?_)
 obtain ⟨k,hF⟩:=hF
 refine Ok.L (fun k a W=>∃ (g0:Int),StA 19 [(0,.slice e0 xs.length f0),(1,sv xv),(7,iv (xs.length:Int)),(8,iv g0)] a∧StW w0 [] g W∧sidxl7 xs xv K k g0) k ?_ ?_
 ·
  exact fun _ _ u v=>⟨0,fA u v hF⟩
 clear hF
 rintro (_ | k7) _ _ ⟨g0,q⟩
 exact (q.2.2:False).elim
 refine jn (fun hF=>?_) _ _ q
 refine Ok.sr (Ok.b 1 [0,1,7,8] [(9,.bool (decide (g0<(xs.length:Int))))] ?_)
 refine Ok.nt (Ok.q (Ok.cw hF (fun hc1 hF=>?_) (fun hc1 hF=>?_)))
 ·refine Ok.k (Ok.t (Ok.q (Ok.block (Ok.sr (Ok.b 2 [0,1,7,8] [(5,iv g0)] ?_)))))
  refine Ok.nt (Ok.sr (Ok.b 3 [0,1,5,7,8] [(11,sv xv),(12,.slice e0 xs.length f0),(13,iv g0)] ?_))
  obtain ⟨h03,h13,hF⟩:=hF
  have he3:=get_of (l:=xs) default h13
  generalize hg3:(xs.getD g0.toNat default)=e3 at he3 hF ⊢
  refine Ok.o (OpOk.indexRo (e:=.str) rfl rfl underlying71 kr m0 h03 he3 rfl fun q2 o2 cs2 _ J0 hr2=>?_)
  obtain rfl:=hr2
  replace J0:At g q2 o2 [sv e3]:=J0
  refine Ok.o (OpOk.s (v:=sv e3) (Yields.lr 0 J0 kr underlying9 rfl kr) rfl rfl (Ok.o (OpOk.s (v:=.bool (xv==e3)) (Yields.sc (f:=.eql) (a:=xv) (b:=e3) kr kr rfl) rfl rfl (Ok.nt (Ok.cn hF rfl (fun hc4=>?_) (fun hc4=>?_))))))
  ·replace hF:=hF.1 hc4
   refine Ok.sr (Ok.B 2 [(4,iv g0)] kr (Ok.nt (Ok.ret (Ok.kr (Ok.tr (Ok.tr (Ok.kr (Ok.tr ?_))))))))
   exact Ok.h0 (iv g0) ⟨_,rfl,rfl,hF⟩
  replace hF:=hF.2 hc4
  refine Ok.k (Ok.kn (Ok.t (Ok.r (Ok.b 2 [0,1,7] [(8,iv (w6 (g0+1)))] ?_))))
  refine Ok.j (Ok.t ?_)
  subst hg3
  exact fun _ _ u v=>⟨k7,nl,w6 (g0+1),fA u v hF⟩
 refine Ok.x (Ok.thenE (Ok.thenE (Ok.blockHit (Ok.t (Ok.sr (Ok.B 1 [(4,iv (-1))] kr (Ok.nt (Ok.ret ?_))))))))
 exact Ok.h0 (iv (-1)) ⟨_,rfl,rfl,hF⟩
def sidxN (v:Bs):List Bs→Nat→Int
 | [],_=>-1
 | x::l,i=>if (v==x)=true then (i:Int) else sidxN v l (i+1)
def sidxS (l:List Bs) (s:Bs):Int:=sidxN s l 0
theorem sidx_F (l:List Bs) (s:Bs) (hp:inP l s):sidxF l s (fun r=>r=sidxS l s):=by
 unfold inP at hp
 have loop:∀ (k i:Nat),i+k=l.length→sidxS l s=sidxN s (l.drop i) i→sidxl7 l s (fun r=>r=sidxS l s) (k+1) (i:Int):=by
  intro k
  induction k with
  | zero =>
   intro i h h2
   rw [List.drop_of_length_le om] at h2
   exact ⟨fun hc=>od hc,fun _=>h2.symm⟩
  | succ k ih =>
   intro i h h2
   rw [drop_get (l:=l) default om,sidxN] at h2
   refine ⟨fun _=>⟨by omega,by omega,fun hc=>?_,fun hc=>?_⟩,fun hc=>oe hc⟩
   ·rw [tnc] at hc
    rw [h2,if_t hc]
   rw [tnc] at hc
   rw [if_f hc] at h2
   rw [w6e om]
   exact ih (i+1) om h2
 exact ⟨_,loop l.length 0 om rfl⟩
theorem sidx_c {g:Ghost} {e0:Option Addr} {f0:Nat} (xs:List Bs) (xv:Bs) (m0:Rep g (.slice (.str)) [.slice e0 xs.length f0] xs)  (hp:inP xs xv):CallsG prog 74 #[.slice e0 xs.length f0,sv xv] g (iv (sidxS xs xv)) :=
 (sidx_ok xs xv m0 _ (sidx_F xs xv hp)).gv
theorem sidx_con (s:Bs):∀ (l:List Bs) (i:Nat),decide (sidxN s l i≥0)=l.contains s
 | [],_=>rfl
 | x::l,i=>by
  rw [sidxN,List.contains_cons]
  cases h:s==x
  ·rw [if_f rfl,Bool.false_or,sidx_con s l (i+1)]
  rw [if_t rfl]; simp
def sconF (xs:List Bs) (xv:Bs) (K:Bool→Prop):Prop :=
 inP xs xv∧K (decide (sidxS xs xv≥0))
theorem scon_ok {g:Ghost} {e0:Option Addr} {f0:Nat} (xs:List Bs) (xv:Bs) (m0:Rep g (.slice (.str)) [.slice e0 xs.length f0] xs) (K:Bool→Prop)
  (hF:sconF xs xv K):CallsH prog 61 #[.slice e0 xs.length f0,sv xv] g [] (fun g' H' v=>∃ (r0:Bool),v=.bool r0∧H'=[]∧K r0):=by
 refine CallsH.en 9 func61 rfl fun w0=>?_
 refine Ok.sr (Ok.B 1 [(0,.slice e0 xs.length f0),(1,sv xv)] kr (Ok.nt (Ok.q (Ok.r ?_))))
 obtain ⟨hp1,hF⟩:=hF
 refine Ok.rn 5 [.k (sidx_c xs xv m0 hp1)] [] [(4,.bool (decide (sidxS xs xv≥0)))] ?_
 refine Ok.nt (Ok.ret ?_)
 exact Ok.pb (decide (sidxS xs xv≥0)) hF
def sconM (xs:List Bs) (xv:Bs):Bool:=(decide (sidxS xs xv≥0))
theorem sconF_A (xs:List Bs) (xv:Bs) (hp:inP xs xv) (P:Bool→Prop) (h:P (sconM xs xv)):sconF xs xv (fun k0=>P k0):=by
 unfold sconM at h
 unfold sconF
 refine ⟨?_,?_⟩
 ·first | exact hp | omega | assumption | exact trivial | (have h0:=List.length_pos_iff.mpr asm; omega) | (simp; omega) | (simp at *; omega)
 exact h
theorem scon_F (xs:List Bs) (xv:Bs) (hp:inP xs xv):sconF xs xv (fun k0=>k0=sconM xs xv) :=
 sconF_A xs xv hp (fun z=>z=sconM xs xv) rfl
theorem scon_c {g:Ghost} {e0:Option Addr} {f0:Nat} (xs:List Bs) (xv:Bs) (m0:Rep g (.slice (.str)) [.slice e0 xs.length f0] xs)  (hp:inP xs xv):CallsG prog 61 #[.slice e0 xs.length f0,sv xv] g (.bool (sconM xs xv)) :=
 (scon_ok xs xv m0 _ (scon_F xs xv hp)).gv
theorem scon_eq (l:List Bs) (s:Bs):sconM l s=l.contains s:=sidx_con s l 0
def jletF (xc:Int) (K:Bool→Prop):Prop :=
 K (((decide (xc≥97)&&decide (xc≤122))||(decide (xc≥65)&&decide (xc≤90)))||(xc==95))
theorem jlet_ok {g:Ghost} (xc:Int) (K:Bool→Prop)
  (hF:jletF xc K):CallsH prog 26 #[.int .u8 xc] g [] (fun g' H' v=>∃ (r0:Bool),v=.bool r0∧H'=[]∧K r0):=by
 refine CallsH.en 21 func26 rfl fun w0=>?_
 refine Ok.sr (Ok.B 1 [(0,.int .u8 xc)] kr (Ok.nt (Ok.sr (Ok.b 3 [0] [(5,.bool (decide (xc≥97)))] ?_))))
 refine Ok.w 3 [(0,.int .u8 xc),(8,.bool (decide (xc≥97)&&decide (xc≤122)))] (fun hR1=>?_) ?_
 ·refine Ok.a 5 (decide (xc≥97)) rfl (fun hc2=>?_) (fun hc2=>?_)
  ·skip
   refine Ok.b 3 [0] [(8,.bool (decide (xc≤122)))] ?_
   refine Ok.rb 8 (decide (xc≥97)&&decide (xc≤122)) (mand_t hc2) (Ok.b 0 [0] [(8,.bool (decide (xc≥97)&&decide (xc≤122)))] ?_)
   exact hR1
  skip
  refine Ok.b 3 [0] [(8,.bool false)] ?_
  refine Ok.rb 8 (decide (xc≥97)&&decide (xc≤122)) (mand_f hc2) (Ok.b 0 [0] [(8,.bool (decide (xc≥97)&&decide (xc≤122)))] ?_)
  exact hR1
 refine Ok.b 1 [0] [(9,.bool (decide (xc≥97)&&decide (xc≤122)))] ?_
 refine Ok.w 7 [(0,.int .u8 xc),(16,.bool ((decide (xc≥97)&&decide (xc≤122))||(decide (xc≥65)&&decide (xc≤90))))] (fun hR3=>?_) ?_
 ·refine Ok.a 9 (decide (xc≥97)&&decide (xc≤122)) rfl (fun hc4=>?_) (fun hc4=>?_)
  ·skip
   refine Ok.b 7 [0] [(16,.bool true)] ?_
   refine Ok.rb 16 ((decide (xc≥97)&&decide (xc≤122))||(decide (xc≥65)&&decide (xc≤90))) (mor_t hc4) (Ok.b 0 [0] [(16,.bool ((decide (xc≥97)&&decide (xc≤122))||(decide (xc≥65)&&decide (xc≤90))))] ?_)
   exact hR3
  skip
  refine Ok.b 3 [0] [(9,.bool false),(12,.bool (decide (xc≥65)))] ?_
  refine Ok.w 3 [(0,.int .u8 xc),(9,.bool false),(15,.bool (decide (xc≥65)&&decide (xc≤90)))] (fun hR5=>?_) ?_
  ·refine Ok.a 12 (decide (xc≥65)) rfl (fun hc6=>?_) (fun hc6=>?_)
   ·skip
    refine Ok.b 3 [0,9] [(15,.bool (decide (xc≤90)))] ?_
    refine Ok.rb 15 (decide (xc≥65)&&decide (xc≤90)) (mand_t hc6) (Ok.b 0 [0,9] [(15,.bool (decide (xc≥65)&&decide (xc≤90)))] ?_)
    exact hR5
   skip
   refine Ok.b 3 [0,9] [(15,.bool false)] ?_
   refine Ok.rb 15 (decide (xc≥65)&&decide (xc≤90)) (mand_f hc6) (Ok.b 0 [0,9] [(15,.bool (decide (xc≥65)&&decide (xc≤90)))] ?_)
   exact hR5
  refine Ok.b 1 [0] [(16,.bool (decide (xc≥65)&&decide (xc≤90)))] ?_
  refine Ok.rb 16 ((decide (xc≥97)&&decide (xc≤122))||(decide (xc≥65)&&decide (xc≤90))) (mor_f hc4) (Ok.b 0 [0] [(16,.bool ((decide (xc≥97)&&decide (xc≤122))||(decide (xc≥65)&&decide (xc≤90))))] ?_)
  exact hR3
 refine Ok.b 1 [0] [(17,.bool ((decide (xc≥97)&&decide (xc≤122))||(decide (xc≥65)&&decide (xc≤90))))] ?_
 refine Ok.w 3 [(20,.bool (((decide (xc≥97)&&decide (xc≤122))||(decide (xc≥65)&&decide (xc≤90)))||(xc==95)))] (fun hR7=>?_) ?_
 ·refine Ok.a 17 ((decide (xc≥97)&&decide (xc≤122))||(decide (xc≥65)&&decide (xc≤90))) rfl (fun hc8=>?_) (fun hc8=>?_)
  ·skip
   refine Ok.B 3 [(20,.bool true)] kr (Ok.rb 20 (((decide (xc≥97)&&decide (xc≤122))||(decide (xc≥65)&&decide (xc≤90)))||(xc==95)) (mor_t hc8) (Ok.B 0 [(20,.bool (((decide (xc≥97)&&decide (xc≤122))||(decide (xc≥65)&&decide (xc≤90)))||(xc==95)))] kr ?_))
   exact hR7
  skip
  refine Ok.B 3 [(20,.bool (xc==95))] kr (Ok.rb 20 (((decide (xc≥97)&&decide (xc≤122))||(decide (xc≥65)&&decide (xc≤90)))||(xc==95)) (mor_f hc8) (Ok.B 0 [(20,.bool (((decide (xc≥97)&&decide (xc≤122))||(decide (xc≥65)&&decide (xc≤90)))||(xc==95)))] kr ?_))
  exact hR7
 refine Ok.B 1 [(2,.bool (((decide (xc≥97)&&decide (xc≤122))||(decide (xc≥65)&&decide (xc≤90)))||(xc==95)))] kr (Ok.nt (Ok.ret ?_))
 exact Ok.pb (((decide (xc≥97)&&decide (xc≤122))||(decide (xc≥65)&&decide (xc≤90)))||(xc==95)) hF
def jletM (xc:Int):Bool:=(((decide (xc≥97)&&decide (xc≤122))||(decide (xc≥65)&&decide (xc≤90)))||(xc==95))
theorem jletF_A (xc:Int) (P:Bool→Prop) (h:P (jletM xc)):jletF xc (fun k0=>P k0):=by
 unfold jletM at h
 unfold jletF
 exact h
theorem jlet_F (xc:Int):jletF xc (fun k0=>k0=jletM xc) :=
 jletF_A xc (fun z=>z=jletM xc) rfl
theorem jlet_c {g:Ghost} (xc:Int)  : CallsG prog 26 #[.int .u8 xc] g (.bool (jletM xc)) :=
 (jlet_ok xc _ (jlet_F xc)).gv
def jdigF (xc:Int) (K:Bool→Prop):Prop :=
 K (decide (xc≥48)&&decide (xc≤57))
theorem jdig_ok {g:Ghost} (xc:Int) (K:Bool→Prop)
  (hF:jdigF xc K):CallsH prog 28 #[.int .u8 xc] g [] (fun g' H' v=>∃ (r0:Bool),v=.bool r0∧H'=[]∧K r0):=by
 refine CallsH.en 9 func28 rfl fun w0=>?_
 refine Ok.sr (Ok.B 1 [(0,.int .u8 xc)] kr (Ok.nt (Ok.sr (Ok.b 3 [0] [(5,.bool (decide (xc≥48)))] ?_))))
 refine Ok.w 3 [(8,.bool (decide (xc≥48)&&decide (xc≤57)))] (fun hR1=>?_) ?_
 ·refine Ok.a 5 (decide (xc≥48)) rfl (fun hc2=>?_) (fun hc2=>?_)
  ·skip
   refine Ok.B 3 [(8,.bool (decide (xc≤57)))] kr (Ok.rb 8 (decide (xc≥48)&&decide (xc≤57)) (mand_t hc2) (Ok.B 0 [(8,.bool (decide (xc≥48)&&decide (xc≤57)))] kr ?_))
   exact hR1
  skip
  refine Ok.B 3 [(8,.bool false)] kr (Ok.rb 8 (decide (xc≥48)&&decide (xc≤57)) (mand_f hc2) (Ok.B 0 [(8,.bool (decide (xc≥48)&&decide (xc≤57)))] kr ?_))
  exact hR1
 refine Ok.B 1 [(2,.bool (decide (xc≥48)&&decide (xc≤57)))] kr (Ok.nt (Ok.ret ?_))
 exact Ok.pb (decide (xc≥48)&&decide (xc≤57)) hF
def jdigM (xc:Int):Bool:=(decide (xc≥48)&&decide (xc≤57))
theorem jdigF_A (xc:Int) (P:Bool→Prop) (h:P (jdigM xc)):jdigF xc (fun k0=>P k0):=by
 unfold jdigM at h
 unfold jdigF
 exact h
theorem jdig_F (xc:Int):jdigF xc (fun k0=>k0=jdigM xc) :=
 jdigF_A xc (fun z=>z=jdigM xc) rfl
theorem jdig_c {g:Ghost} (xc:Int)  : CallsG prog 28 #[.int .u8 xc] g (.bool (jdigM xc)) :=
 (jdig_ok xc _ (jdig_F xc)).gv
def rdP (x:RD):Prop:=x.1.length≤1000000∧0≤x.2.1∧x.2.1≤(x.1.length:Int)
def jpeekF (xr:Bs×Int×List TK) (xn:Int) (K:Int→(Bs×Int×List TK)→Prop):Prop :=
 ((decide (w6 (xr.2.1+xn)<(xr.1.length:Int)))=true→0≤w6 (xr.2.1+xn)∧Int.toNat (w6 (xr.2.1+xn))<xr.1.length∧K ((xr.1.getD (Int.toNat (w6 (xr.2.1+xn))) 0).toNat:Int) xr)∧((decide (w6 (xr.2.1+xn)<(xr.1.length:Int)))=false→K 0 xr)
theorem jpeek_ok {g:Ghost} {bxr:Nat} {b0:Option Addr} {c0:Nat} {j0:List Value} (xr:Bs×Int×List TK) (xn:Int) (d0:RepL g yT j0 xr.2.2) (K:Int→(Bs×Int×List TK)→Prop)
  (hF:jpeekF xr xn K):CallsH prog 24 #[pv bxr 0,iv xn] g [.blk bxr (.cells #[sv xr.1,iv xr.2.1,.slice b0 xr.2.2.length c0] 38),.own (.slice b0 xr.2.2.length c0) 40 5 xr.2.2.length j0] (fun g' H' v=>∃ (r0:Int),∃ (fxr:Bs×Int×List TK),∃ (x0:Option Addr) (s0:Nat) (u0:List Value),v=.int .u8 r0∧RepL g' yT u0 fxr.2.2∧H'=[.blk bxr (.cells #[sv fxr.1,iv fxr.2.1,.slice x0 fxr.2.2.length s0] 38),.own (.slice x0 fxr.2.2.length s0) 40 5 fxr.2.2.length u0]∧K r0 fxr):=by
 refine CallsH.en 28 func24 rfl fun w0=>?_
 refine Ok.sr (Ok.B 1 [(0,pv bxr 0),(1,iv xn)] kr (Ok.nt (Ok.q (Ok.q (Ok.quiet' kr kr (OkQ.b 3 [0,1] [(7,pv bxr 1)] ?_))))))
 refine OkQ.op rfl (OpQ.s (v:=iv xr.2.1) (Yields.l 0 rfl rfl underlying3 rfl kr) rfl rfl (OkQ.b 5 [0,1] [(10,iv (w6 (xr.2.1+xn))),(13,pv bxr 0)] ?_))
 refine OkQ.op rfl (OpQ.s (v:=sv xr.1) (Yields.l 0 rfl rfl underlying9 rfl kr) rfl rfl (OkQ.b 2 [0,1] [(16,.bool (decide (w6 (xr.2.1+xn)<(xr.1.length:Int))))] ?_))
 refine OkQ.j (Ok.t (Ok.cw hF (fun hc1 hF=>?_) (fun hc1 hF=>?_)))
 ·refine Ok.q (Ok.quiet' kr kr (OkQ.b 3 [0,1] [(19,pv bxr 0)] ?_))
  refine OkQ.op rfl (OpQ.s (v:=sv xr.1) (Yields.l 0 rfl rfl underlying9 rfl kr) rfl rfl (OkQ.b 3 [1] [(20,sv xr.1),(23,pv bxr 1)] ?_))
  refine OkQ.op rfl (OpQ.s (v:=iv xr.2.1) (Yields.l 0 rfl rfl underlying3 rfl kr) rfl rfl (OkQ.b 2 [20] [(26,iv (w6 (xr.2.1+xn)))] ?_))
  obtain ⟨h02,h12,hF⟩:=hF
  have he2:=get_of (l:=xr.1) (0:UInt8) h12
  generalize hg2:(xr.1.getD (Int.toNat (w6 (xr.2.1+xn))) 0)=e2 at he2 hF ⊢
  refine OkQ.op rfl (OpQ.s (v:=.int .u8 (e2.toNat:Int)) (Yields.ix (k:=.i64) (i:=w6 (xr.2.1+xn)) (s:=xr.1) (b:=e2) kr kr underlying9 h02 he2) rfl rfl (OkQ.B 1 [(4,.int .u8 (e2.toNat:Int))] kr (OkQ.j (Ok.t (Ok.ret (Ok.tr ?_))))))
  exact Ok.h0 (.int .u8 (e2.toNat:Int)) ⟨(e2.toNat:Int),xr,b0,c0,j0,rfl,d0,rfl,hF⟩
 refine Ok.k (Ok.t (Ok.sr (Ok.B 1 [(4,.int .u8 0)] kr (Ok.nt (Ok.ret ?_)))))
 exact Ok.h0 (.int .u8 0) ⟨0,xr,b0,c0,j0,rfl,d0,rfl,hF⟩
def jpeekS (x:RD) (n:Int):Int×RD:=(if decide (x.2.1+n<(x.1.length:Int))=true then ((x.1.getD (Int.toNat (x.2.1+n)) 0).toNat:Int) else 0,x)
def jpeekP (x:RD) (n:Int):Prop:=rdP x∧0≤n∧n≤10
theorem jpeek_F (x:RD) (n:Int) (hp:jpeekP x n):jpeekF x n (fun r r1=>(r,r1)=jpeekS x n):=by
 obtain ⟨⟨h1,h2,h3⟩,h4,h5⟩:=hp
 unfold jpeekF
 rw [w6e om]
 exact ⟨fun hc=>⟨by omega,od hc,by unfold jpeekS; rw [if_t hc]⟩,fun hc=>by unfold jpeekS; rw [if_f hc]⟩
theorem jpeek_c {g:Ghost} {bxr:Nat} {b0:Option Addr} {c0:Nat} {j0:List Value} (xr:Bs×Int×List TK) (xn:Int) (d0:RepL g yT j0 xr.2.2)  (hp:jpeekP xr xn):CallsH prog 24 #[pv bxr 0,iv xn] g [.blk bxr (.cells #[sv xr.1,iv xr.2.1,.slice b0 xr.2.2.length c0] 38),.own (.slice b0 xr.2.2.length c0) 40 5 xr.2.2.length j0] (fun g' H' v=>∃ (x0:Option Addr) (s0:Nat) (u0:List Value),v=.int .u8 (jpeekS xr xn).1∧RepL g' yT u0 (jpeekS xr xn).2.2.2∧H'=[.blk bxr (.cells #[sv ((jpeekS xr xn).2.1),iv (jpeekS xr xn).2.2.1,.slice x0 (jpeekS xr xn).2.2.2.length s0] 38),.own (.slice x0 (jpeekS xr xn).2.2.2.length s0) 40 5 (jpeekS xr xn).2.2.2.length u0]) :=
 (jpeek_ok xr xn d0 _ (jpeek_F xr xn hp)).mono (by rintro g' H' v _ ⟨r0,fxr,x0,s0,u0,rfl,n0,rfl,hK⟩; obtain ⟨rfl,rfl⟩:r0=(jpeekS xr xn).1∧fxr=(jpeekS xr xn).2:=⟨congrArg (fun z=>z.1) hK,congrArg (fun z=>z.2) hK⟩; exact ⟨x0,s0,u0,rfl,n0,rfl⟩)
def jskipj22 (z0:Bs) (v0:Int) (yown_xr_2_0l2:List TK) (C2:Bs→Int→List TK→Prop):Prop :=
 C2 (if (((z0.getD v0.toNat 0).toNat:Int)==47)=true then (jpeekS (z0,v0,yown_xr_2_0l2) 1).2.1 else z0) (w6 ((if (((z0.getD v0.toNat 0).toNat:Int)==47)=true then (jpeekS (z0,v0,yown_xr_2_0l2) 1).2.2.1 else v0)+(if (decide ((ibS ((if (((z0.getD v0.toNat 0).toNat:Int)==47)=true then (jpeekS (z0,v0,yown_xr_2_0l2) 1).2.1 else z0).drop (Int.toNat (if (((z0.getD v0.toNat 0).toNat:Int)==47)=true then (jpeekS (z0,v0,yown_xr_2_0l2) 1).2.2.1 else v0))) 10)<0))=true then w6 (((if (((z0.getD v0.toNat 0).toNat:Int)==47)=true then (jpeekS (z0,v0,yown_xr_2_0l2) 1).2.1 else z0).length:Int) - (if (((z0.getD v0.toNat 0).toNat:Int)==47)=true then (jpeekS (z0,v0,yown_xr_2_0l2) 1).2.2.1 else v0)) else (ibS ((if (((z0.getD v0.toNat 0).toNat:Int)==47)=true then (jpeekS (z0,v0,yown_xr_2_0l2) 1).2.1 else z0).drop (Int.toNat (if (((z0.getD v0.toNat 0).toNat:Int)==47)=true then (jpeekS (z0,v0,yown_xr_2_0l2) 1).2.2.1 else v0))) 10)))) (if (((z0.getD v0.toNat 0).toNat:Int)==47)=true then (jpeekS (z0,v0,yown_xr_2_0l2) 1).2.2.2 else yown_xr_2_0l2)
def jskipj17 (K:(Bs×Int×List TK)→Prop) (e2:UInt8) (z0:Bs) (v0:Int) (yown_xr_2_0l2:List TK) (C2:Bs→Int→List TK→Prop):Prop :=
 ((((e2.toNat:Int)==47)&&((jpeekS (z0,v0,yown_xr_2_0l2) 1).1==47))=true→0≤(if ((e2.toNat:Int)==47)=true then (jpeekS (z0,v0,yown_xr_2_0l2) 1).2.2.1 else v0)∧((if ((e2.toNat:Int)==47)=true then (jpeekS (z0,v0,yown_xr_2_0l2) 1).2.2.1 else v0):Int)≤((if ((e2.toNat:Int)==47)=true then (jpeekS (z0,v0,yown_xr_2_0l2) 1).2.1 else z0).length:Int)∧((if ((e2.toNat:Int)==47)=true then (jpeekS (z0,v0,yown_xr_2_0l2) 1).2.1 else z0).length:Int)≤((if ((e2.toNat:Int)==47)=true then (jpeekS (z0,v0,yown_xr_2_0l2) 1).2.1 else z0).length:Int)∧((decide ((ibS ((if ((e2.toNat:Int)==47)=true then (jpeekS (z0,v0,yown_xr_2_0l2) 1).2.1 else z0).drop (Int.toNat (if ((e2.toNat:Int)==47)=true then (jpeekS (z0,v0,yown_xr_2_0l2) 1).2.2.1 else v0))) 10)<0))=true→jskipj22 z0 v0 yown_xr_2_0l2 C2)∧((decide ((ibS ((if ((e2.toNat:Int)==47)=true then (jpeekS (z0,v0,yown_xr_2_0l2) 1).2.1 else z0).drop (Int.toNat (if ((e2.toNat:Int)==47)=true then (jpeekS (z0,v0,yown_xr_2_0l2) 1).2.2.1 else v0))) 10)<0))=false→jskipj22 z0 v0 yown_xr_2_0l2 C2))∧((((e2.toNat:Int)==47)&&((jpeekS (z0,v0,yown_xr_2_0l2) 1).1==47))=false→K ((if ((e2.toNat:Int)==47)=true then (jpeekS (z0,v0,yown_xr_2_0l2) 1).2.1 else z0),(if ((e2.toNat:Int)==47)=true then (jpeekS (z0,v0,yown_xr_2_0l2) 1).2.2.1 else v0),(if ((e2.toNat:Int)==47)=true then (jpeekS (z0,v0,yown_xr_2_0l2) 1).2.2.2 else yown_xr_2_0l2)))
def jskipl2b (K:(Bs×Int×List TK)→Prop) (z0:Bs) (v0:Int) (yown_xr_2_0l2:List TK) (C2:Bs→Int→List TK→Prop):Prop :=
 ((decide (v0<(z0.length:Int)))=true→0≤v0∧v0.toNat<z0.length∧(((((((z0.getD v0.toNat 0).toNat:Int)==32)||(((z0.getD v0.toNat 0).toNat:Int)==9))||(((z0.getD v0.toNat 0).toNat:Int)==10))||(((z0.getD v0.toNat 0).toNat:Int)==13))=true→C2 z0 (w6 (v0+1)) yown_xr_2_0l2)∧(((((((z0.getD v0.toNat 0).toNat:Int)==32)||(((z0.getD v0.toNat 0).toNat:Int)==9))||(((z0.getD v0.toNat 0).toNat:Int)==10))||(((z0.getD v0.toNat 0).toNat:Int)==13))=false→((((z0.getD v0.toNat 0).toNat:Int)==47)=true→jpeekP (z0,v0,yown_xr_2_0l2) 1∧jskipj17 K (z0.getD v0.toNat 0) z0 v0 yown_xr_2_0l2 C2)∧((((z0.getD v0.toNat 0).toNat:Int)==47)=false→jskipj17 K (z0.getD v0.toNat 0) z0 v0 yown_xr_2_0l2 C2)))∧((decide (v0<(z0.length:Int)))=false→K (z0,v0,yown_xr_2_0l2))
def jskipl2 (K:(Bs×Int×List TK)→Prop):Nat→Bs→Int→List TK→Prop
 | 0,_,_,_=>False
 | k+1,z0,v0,yown_xr_2_0l2=>jskipl2b K z0 v0 yown_xr_2_0l2 (jskipl2 K k)
def jskipF (xr:Bs×Int×List TK) (K:(Bs×Int×List TK)→Prop):Prop :=
 ∃ k,jskipl2 K k xr.1 xr.2.1 xr.2.2
theorem jskip_ok {g:Ghost} {bxr:Nat} {b0:Option Addr} {c0:Nat} {j0:List Value} (xr:Bs×Int×List TK) (d0:RepL g yT j0 xr.2.2) (K:(Bs×Int×List TK)→Prop)
  (hF:jskipF xr K):CallsH prog 13 #[pv bxr 0] g [.blk bxr (.cells #[sv xr.1,iv xr.2.1,.slice b0 xr.2.2.length c0] 38),.own (.slice b0 xr.2.2.length c0) 40 5 xr.2.2.length j0] (fun g' H' v=>∃ (fxr:Bs×Int×List TK),∃ (x0:Option Addr) (s0:Nat) (u0:List Value),v=.tuple #[]∧RepL g' yT u0 fxr.2.2∧H'=[.blk bxr (.cells #[sv fxr.1,iv fxr.2.1,.slice x0 fxr.2.2.length s0] 38),.own (.slice x0 fxr.2.2.length s0) 40 5 fxr.2.2.length u0]∧K fxr):=by
 refine CallsH.en 83 func13 rfl fun w0=>?_
 refine Ok.block ?_
 obtain ⟨k,hF⟩:=hF
 refine Ok.L (fun k a W=>∃ gl2:Ghost,Gext w0 g gl2∧∃ (z0:Bs) (v0:Int) (ayown_xr_2_0l2:Option Addr) (cyown_xr_2_0l2:Nat) (yown_xr_2_0l2:List TK) (xsyown_xr_2_0l2:List Value),RepL gl2 yT xsyown_xr_2_0l2 yown_xr_2_0l2∧StA 83 [(0,pv bxr 0)] a∧StW w0 [.blk bxr (.cells #[sv z0,iv v0,.slice ayown_xr_2_0l2 yown_xr_2_0l2.length cyown_xr_2_0l2] 38),.own (.slice ayown_xr_2_0l2 yown_xr_2_0l2.length cyown_xr_2_0l2) 40 5 yown_xr_2_0l2.length xsyown_xr_2_0l2] gl2 W∧jskipl2 K k z0 v0 yown_xr_2_0l2) k ?_ ?_
 ·
  exact fun _ _ u v=>⟨g,Gext.r w0 g,xr.1,xr.2.1,b0,c0,xr.2.2,j0,d0,fA u v hF⟩
 clear hF
 rintro (_ | k2) _ _ ⟨gl2,Z0,z0,v0,ayown_xr_2_0l2,cyown_xr_2_0l2,yown_xr_2_0l2,xsyown_xr_2_0l2,hLyown_xr_2_0l2,q⟩
 exact (q.2.2:False).elim
 refine jn (fun hF=>?_) _ _ q
 refine Ok.q (Ok.q (Ok.quiet' kr kr (OkQ.b 3 [0] [(6,pv bxr 1)] ?_)))
 refine OkQ.op rfl (OpQ.s (v:=iv v0) (Yields.l 0 rfl rfl underlying3 rfl kr) rfl rfl (OkQ.b 3 [0] [(7,iv v0),(10,pv bxr 0)] ?_))
 refine OkQ.op rfl (OpQ.s (v:=sv z0) (Yields.l 0 rfl rfl underlying9 rfl kr) rfl rfl (OkQ.b 2 [0] [(13,.bool (decide (v0<(z0.length:Int))))] ?_))
 refine OkQ.j (Ok.t (Ok.cw hF (fun hc1 hF=>?_) (fun hc1 hF=>?_)))
 ·refine Ok.k (Ok.t (Ok.block (Ok.q (Ok.quiet' kr kr (OkQ.b 3 [0] [(16,pv bxr 0)] ?_)))))
  refine OkQ.op rfl (OpQ.s (v:=sv z0) (Yields.l 0 rfl rfl underlying9 rfl kr) rfl rfl (OkQ.b 3 [0] [(17,sv z0),(20,pv bxr 1)] ?_))
  refine OkQ.op rfl (OpQ.s (v:=iv v0) (Yields.l 0 rfl rfl underlying3 rfl kr) rfl rfl ?_)
  obtain ⟨h02,h12,hF⟩:=hF
  have he2:=get_of (l:=z0) (0:UInt8) h12
  generalize hg2:(z0.getD v0.toNat 0)=e2 at he2 hF ⊢
  refine OkQ.op rfl (OpQ.s (v:=.int .u8 (e2.toNat:Int)) (Yields.ix (k:=.i64) (i:=v0) (s:=z0) (b:=e2) kr kr underlying9 h02 he2) rfl rfl (OkQ.b 1 [0] [(2,.int .u8 (e2.toNat:Int))] ?_))
  refine OkQ.j (Ok.t (Ok.block (Ok.sr (Ok.b 3 [0,2] [(26,.bool ((e2.toNat:Int)==32))] ?_))))
  refine Ok.w 3 [(0,pv bxr 0),(2,.int .u8 (e2.toNat:Int)),(29,.bool (((e2.toNat:Int)==32)||((e2.toNat:Int)==9)))] (fun hR3=>?_) ?_
  ·refine Ok.a 26 ((e2.toNat:Int)==32) rfl (fun hc4=>?_) (fun hc4=>?_)
   ·skip
    refine Ok.b 3 [0,2] [(29,.bool true)] ?_
    refine Ok.rb 29 (((e2.toNat:Int)==32)||((e2.toNat:Int)==9)) (mor_t hc4) (Ok.b 0 [0,2] [(29,.bool (((e2.toNat:Int)==32)||((e2.toNat:Int)==9)))] ?_)
    exact hR3
   skip
   refine Ok.b 3 [0,2] [(29,.bool ((e2.toNat:Int)==9))] ?_
   refine Ok.rb 29 (((e2.toNat:Int)==32)||((e2.toNat:Int)==9)) (mor_f hc4) (Ok.b 0 [0,2] [(29,.bool (((e2.toNat:Int)==32)||((e2.toNat:Int)==9)))] ?_)
   exact hR3
  refine Ok.b 1 [0,2] [(30,.bool (((e2.toNat:Int)==32)||((e2.toNat:Int)==9)))] ?_
  refine Ok.w 3 [(0,pv bxr 0),(2,.int .u8 (e2.toNat:Int)),(33,.bool ((((e2.toNat:Int)==32)||((e2.toNat:Int)==9))||((e2.toNat:Int)==10)))] (fun hR5=>?_) ?_
  ·refine Ok.a 30 (((e2.toNat:Int)==32)||((e2.toNat:Int)==9)) rfl (fun hc6=>?_) (fun hc6=>?_)
   ·skip
    refine Ok.b 3 [0,2] [(33,.bool true)] ?_
    refine Ok.rb 33 ((((e2.toNat:Int)==32)||((e2.toNat:Int)==9))||((e2.toNat:Int)==10)) (mor_t hc6) (Ok.b 0 [0,2] [(33,.bool ((((e2.toNat:Int)==32)||((e2.toNat:Int)==9))||((e2.toNat:Int)==10)))] ?_)
    exact hR5
   skip
   refine Ok.b 3 [0,2] [(33,.bool ((e2.toNat:Int)==10))] ?_
   refine Ok.rb 33 ((((e2.toNat:Int)==32)||((e2.toNat:Int)==9))||((e2.toNat:Int)==10)) (mor_f hc6) (Ok.b 0 [0,2] [(33,.bool ((((e2.toNat:Int)==32)||((e2.toNat:Int)==9))||((e2.toNat:Int)==10)))] ?_)
   exact hR5
  refine Ok.b 1 [0,2] [(34,.bool ((((e2.toNat:Int)==32)||((e2.toNat:Int)==9))||((e2.toNat:Int)==10)))] ?_
  refine Ok.w 3 [(0,pv bxr 0),(2,.int .u8 (e2.toNat:Int)),(37,.bool (((((e2.toNat:Int)==32)||((e2.toNat:Int)==9))||((e2.toNat:Int)==10))||((e2.toNat:Int)==13)))] (fun hR7=>?_) ?_
  ·refine Ok.a 34 ((((e2.toNat:Int)==32)||((e2.toNat:Int)==9))||((e2.toNat:Int)==10)) rfl (fun hc8=>?_) (fun hc8=>?_)
   ·skip
    refine Ok.b 3 [0,2] [(37,.bool true)] ?_
    refine Ok.rb 37 (((((e2.toNat:Int)==32)||((e2.toNat:Int)==9))||((e2.toNat:Int)==10))||((e2.toNat:Int)==13)) (mor_t hc8) (Ok.b 0 [0,2] [(37,.bool (((((e2.toNat:Int)==32)||((e2.toNat:Int)==9))||((e2.toNat:Int)==10))||((e2.toNat:Int)==13)))] ?_)
    exact hR7
   skip
   refine Ok.b 3 [0,2] [(37,.bool ((e2.toNat:Int)==13))] ?_
   refine Ok.rb 37 (((((e2.toNat:Int)==32)||((e2.toNat:Int)==9))||((e2.toNat:Int)==10))||((e2.toNat:Int)==13)) (mor_f hc8) (Ok.b 0 [0,2] [(37,.bool (((((e2.toNat:Int)==32)||((e2.toNat:Int)==9))||((e2.toNat:Int)==10))||((e2.toNat:Int)==13)))] ?_)
   exact hR7
  refine Ok.b 1 [0,2] [(23,.bool (((((e2.toNat:Int)==32)||((e2.toNat:Int)==9))||((e2.toNat:Int)==10))||((e2.toNat:Int)==13)))] ?_
  refine Ok.nt (Ok.cn hF rfl (fun hc9=>?_) (fun hc9=>?_))
  ·replace hF:=hF.1 hc9
   refine Ok.r (Ok.rn 7 [.e 0] [0] [(42,iv (w6 (v0+1))),(44,pv bxr 1)] ?_)
   refine Ok.o (OpOk.w1 0 ?_)
   refine Ok.j (Ok.kn (Ok.kn (Ok.t ?_)))
   subst hg2
   exact fun _ _ u v=>⟨k2,nl,gl2,Z0,z0,w6 (v0+1),ayown_xr_2_0l2,cyown_xr_2_0l2,yown_xr_2_0l2,xsyown_xr_2_0l2,hLyown_xr_2_0l2,fA u v hF⟩
  replace hF:=hF.2 hc9
  refine Ok.cut (fun a W=>∃ t0:Ghost,Gext w0 gl2 t0∧∃ (ayown_xr_2_0j17:Option Addr) (cyown_xr_2_0j17:Nat) (xsyown_xr_2_0j17:List Value),RepL t0 yT xsyown_xr_2_0j17 (if ((e2.toNat:Int)==47)=true then (jpeekS (z0,v0,yown_xr_2_0l2) 1).2.2.2 else yown_xr_2_0l2)∧StA 83 [(0,pv bxr 0),(45,.bool (((e2.toNat:Int)==47)&&((jpeekS (z0,v0,yown_xr_2_0l2) 1).1==47)))] a∧StW w0 [.blk bxr (.cells #[sv (if ((e2.toNat:Int)==47)=true then (jpeekS (z0,v0,yown_xr_2_0l2) 1).2.1 else z0),iv (if ((e2.toNat:Int)==47)=true then (jpeekS (z0,v0,yown_xr_2_0l2) 1).2.2.1 else v0),.slice ayown_xr_2_0j17 (if ((e2.toNat:Int)==47)=true then (jpeekS (z0,v0,yown_xr_2_0l2) 1).2.2.2 else yown_xr_2_0l2).length cyown_xr_2_0j17] 38),.own (.slice ayown_xr_2_0j17 (if ((e2.toNat:Int)==47)=true then (jpeekS (z0,v0,yown_xr_2_0l2) 1).2.2.2 else yown_xr_2_0l2).length cyown_xr_2_0j17) 40 5 (if ((e2.toNat:Int)==47)=true then (jpeekS (z0,v0,yown_xr_2_0l2) 1).2.2.2 else yown_xr_2_0l2).length xsyown_xr_2_0j17] t0 W∧jskipj17 K e2 z0 v0 yown_xr_2_0l2 (jskipl2 K k2)) ?_ ?_
  ·
   refine Ok.r (Ok.b 3 [0] [(48,.bool ((e2.toNat:Int)==47))] ?_)
   refine Ok.bw 48 hF (fun o0 hF=>?_) (fun o0 hF=>?_)
   ·refine Ok.b 1 [0] [(48,.bool true),(49,pv bxr 0)] ?_
    obtain ⟨hp14,hF⟩:=hF
    refine Ok.oy (OpOk.ch (jpeek_c (z0,v0,yown_xr_2_0l2) 1 hLyown_xr_2_0l2 hp14) fun g15 _ _ hx15 hV15=>?_)
    obtain ⟨a0,i0,l0,rfl,hL15_0,rfl⟩:=hV15
    refine Ok.b 3 [0] [(45,.bool ((jpeekS (z0,v0,yown_xr_2_0l2) 1).1==47))] ?_
    refine Ok.nt (Ok.rb 45 (((e2.toNat:Int)==47)&&((jpeekS (z0,v0,yown_xr_2_0l2) 1).1==47)) (mand_t o0) (Ok.heapEq (H':=[.blk bxr (.cells #[sv (if ((e2.toNat:Int)==47)=true then (jpeekS (z0,v0,yown_xr_2_0l2) 1).2.1 else z0),iv (if ((e2.toNat:Int)==47)=true then (jpeekS (z0,v0,yown_xr_2_0l2) 1).2.2.1 else v0),.slice a0 (if ((e2.toNat:Int)==47)=true then (jpeekS (z0,v0,yown_xr_2_0l2) 1).2.2.2 else yown_xr_2_0l2).length i0] 38),.own (.slice a0 (if ((e2.toNat:Int)==47)=true then (jpeekS (z0,v0,yown_xr_2_0l2) 1).2.2.2 else yown_xr_2_0l2).length i0) 40 5 (if ((e2.toNat:Int)==47)=true then (jpeekS (z0,v0,yown_xr_2_0l2) 1).2.2.2 else yown_xr_2_0l2).length l0]) (econs (congrArg (fun l:List Value=>Ent.blk bxr (.cells ⟨l⟩ 38)) (lcons (congrArg (fun s:Bs=>Value.string ⟨⟨s⟩⟩) ((if_t o0).symm)) (lcons (congrArg (Value.int .i64) ((if_t o0).symm)) (lcons (congrArg (fun l:List TK=>Value.slice a0 l.length i0) ((if_t o0).symm)) rfl)))) (econs (congrArg (fun l:List TK=>Ent.own (.slice a0 l.length i0) 40 5 l.length l0) ((if_t o0).symm)) rfl)) ?_))
    exact fun _ _ u v=>⟨g15,hx15,a0,i0,l0,(Eq.mp (congrArg (fun l:List TK=>RepL g15 yT l0 l) ((if_t o0).symm)) hL15_0),fA u v hF⟩
   refine Ok.b 5 [0] [(45,.bool false)] ?_
   refine Ok.nt (Ok.rb 45 (((e2.toNat:Int)==47)&&((jpeekS (z0,v0,yown_xr_2_0l2) 1).1==47)) (mand_f o0) (Ok.heapEq (H':=[.blk bxr (.cells #[sv (if ((e2.toNat:Int)==47)=true then (jpeekS (z0,v0,yown_xr_2_0l2) 1).2.1 else z0),iv (if ((e2.toNat:Int)==47)=true then (jpeekS (z0,v0,yown_xr_2_0l2) 1).2.2.1 else v0),.slice ayown_xr_2_0l2 (if ((e2.toNat:Int)==47)=true then (jpeekS (z0,v0,yown_xr_2_0l2) 1).2.2.2 else yown_xr_2_0l2).length cyown_xr_2_0l2] 38),.own (.slice ayown_xr_2_0l2 (if ((e2.toNat:Int)==47)=true then (jpeekS (z0,v0,yown_xr_2_0l2) 1).2.2.2 else yown_xr_2_0l2).length cyown_xr_2_0l2) 40 5 (if ((e2.toNat:Int)==47)=true then (jpeekS (z0,v0,yown_xr_2_0l2) 1).2.2.2 else yown_xr_2_0l2).length xsyown_xr_2_0l2]) (econs (congrArg (fun l:List Value=>Ent.blk bxr (.cells ⟨l⟩ 38)) (lcons (congrArg (fun s:Bs=>Value.string ⟨⟨s⟩⟩) ((if_f o0).symm)) (lcons (congrArg (Value.int .i64) ((if_f o0).symm)) (lcons (congrArg (fun l:List TK=>Value.slice ayown_xr_2_0l2 l.length cyown_xr_2_0l2) ((if_f o0).symm)) rfl)))) (econs (congrArg (fun l:List TK=>Ent.own (.slice ayown_xr_2_0l2 l.length cyown_xr_2_0l2) 40 5 l.length xsyown_xr_2_0l2) ((if_f o0).symm)) rfl)) ?_))
   exact fun _ _ u v=>⟨gl2,Gext.r w0 gl2,ayown_xr_2_0l2,cyown_xr_2_0l2,xsyown_xr_2_0l2,(Eq.mp (congrArg (fun l:List TK=>RepL gl2 yT xsyown_xr_2_0l2 l) ((if_f o0).symm)) hLyown_xr_2_0l2),fA u v hF⟩
  clear hF
  rintro _ _ ⟨t0,Y0,ayown_xr_2_0j17,cyown_xr_2_0j17,xsyown_xr_2_0j17,hLyown_xr_2_0j17,q⟩
  refine jn (fun hF=>?_) _ _ q
  refine Ok.cn hF rfl (fun W0=>?_) (fun W0=>?_)
  ·replace hF:=hF.1 W0
   refine Ok.q (Ok.quiet' kr kr (OkQ.b 3 [0] [(55,pv bxr 0)] ?_))
   refine OkQ.op rfl (OpQ.s (v:=sv (if ((e2.toNat:Int)==47)=true then (jpeekS (z0,v0,yown_xr_2_0l2) 1).2.1 else z0)) (Yields.l 0 rfl rfl underlying9 rfl kr) rfl rfl (OkQ.b 3 [0] [(56,sv (if ((e2.toNat:Int)==47)=true then (jpeekS (z0,v0,yown_xr_2_0l2) 1).2.1 else z0)),(59,pv bxr 1)] ?_))
   refine OkQ.op rfl (OpQ.s (v:=iv (if ((e2.toNat:Int)==47)=true then (jpeekS (z0,v0,yown_xr_2_0l2) 1).2.2.1 else v0)) (Yields.l 0 rfl rfl underlying3 rfl kr) rfl rfl ?_)
   obtain ⟨h011,h111,h211,hF⟩:=hF
   refine OkQ.op rfl (OpQ.s (v:=sv ((if ((e2.toNat:Int)==47)=true then (jpeekS (z0,v0,yown_xr_2_0l2) 1).2.1 else z0).drop (Int.toNat (if ((e2.toNat:Int)==47)=true then (jpeekS (z0,v0,yown_xr_2_0l2) 1).2.2.1 else v0)))) (Yields.ss (s:=(if ((e2.toNat:Int)==47)=true then (jpeekS (z0,v0,yown_xr_2_0l2) 1).2.1 else z0)) (l:=(if ((e2.toNat:Int)==47)=true then (jpeekS (z0,v0,yown_xr_2_0l2) 1).2.2.1 else v0)) (h:=((if ((e2.toNat:Int)==47)=true then (jpeekS (z0,v0,yown_xr_2_0l2) 1).2.1 else z0).length:Int)) kr underlying9 (.inl ⟨_,_,rfl,rfl⟩) (.inr ⟨rfl,rfl⟩) h011 h111 h211 ((if ((e2.toNat:Int)==47)=true then (jpeekS (z0,v0,yown_xr_2_0l2) 1).2.1 else z0).drop (Int.toNat (if ((e2.toNat:Int)==47)=true then (jpeekS (z0,v0,yown_xr_2_0l2) 1).2.2.1 else v0))) (by rw [show ((if ((e2.toNat:Int)==47)=true then (jpeekS (z0,v0,yown_xr_2_0l2) 1).2.1 else z0).length:Int).toNat=(if ((e2.toNat:Int)==47)=true then (jpeekS (z0,v0,yown_xr_2_0l2) 1).2.1 else z0).length from tnc _,List.take_length])) rfl rfl (OkQ.op rfl (OpQ.f enr (fun W hW=>ib_c ((if ((e2.toNat:Int)==47)=true then (jpeekS (z0,v0,yown_xr_2_0l2) 1).2.1 else z0).drop (Int.toNat (if ((e2.toNat:Int)==47)=true then (jpeekS (z0,v0,yown_xr_2_0l2) 1).2.2.1 else v0))) 10) rfl ?_)))
   refine OkQ.b 1 [0] [(3,iv (ibS ((if ((e2.toNat:Int)==47)=true then (jpeekS (z0,v0,yown_xr_2_0l2) 1).2.1 else z0).drop (Int.toNat (if ((e2.toNat:Int)==47)=true then (jpeekS (z0,v0,yown_xr_2_0l2) 1).2.2.1 else v0))) 10))] ?_
   refine OkQ.j (Ok.t (Ok.cut (fun a W=>∃ V0:Ghost,Gext w0 t0 V0∧StA 83 [(0,pv bxr 0),(3,iv (if (decide ((ibS ((if ((e2.toNat:Int)==47)=true then (jpeekS (z0,v0,yown_xr_2_0l2) 1).2.1 else z0).drop (Int.toNat (if ((e2.toNat:Int)==47)=true then (jpeekS (z0,v0,yown_xr_2_0l2) 1).2.2.1 else v0))) 10)<0))=true then w6 (((if ((e2.toNat:Int)==47)=true then (jpeekS (z0,v0,yown_xr_2_0l2) 1).2.1 else z0).length:Int) - (if ((e2.toNat:Int)==47)=true then (jpeekS (z0,v0,yown_xr_2_0l2) 1).2.2.1 else v0)) else (ibS ((if ((e2.toNat:Int)==47)=true then (jpeekS (z0,v0,yown_xr_2_0l2) 1).2.1 else z0).drop (Int.toNat (if ((e2.toNat:Int)==47)=true then (jpeekS (z0,v0,yown_xr_2_0l2) 1).2.2.1 else v0))) 10)))] a∧StW w0 [.blk bxr (.cells #[sv (if ((e2.toNat:Int)==47)=true then (jpeekS (z0,v0,yown_xr_2_0l2) 1).2.1 else z0),iv (if ((e2.toNat:Int)==47)=true then (jpeekS (z0,v0,yown_xr_2_0l2) 1).2.2.1 else v0),.slice ayown_xr_2_0j17 (if ((e2.toNat:Int)==47)=true then (jpeekS (z0,v0,yown_xr_2_0l2) 1).2.2.2 else yown_xr_2_0l2).length cyown_xr_2_0j17] 38),.own (.slice ayown_xr_2_0j17 (if ((e2.toNat:Int)==47)=true then (jpeekS (z0,v0,yown_xr_2_0l2) 1).2.2.2 else yown_xr_2_0l2).length cyown_xr_2_0j17) 40 5 (if ((e2.toNat:Int)==47)=true then (jpeekS (z0,v0,yown_xr_2_0l2) 1).2.2.2 else yown_xr_2_0l2).length xsyown_xr_2_0j17] V0 W∧jskipj22 z0 v0 yown_xr_2_0l2 (jskipl2 K k2)) ?_ ?_))
   ·
    refine Ok.sr (Ok.b 2 [0,3] [(64,.bool (decide ((ibS ((if ((e2.toNat:Int)==47)=true then (jpeekS (z0,v0,yown_xr_2_0l2) 1).2.1 else z0).drop (Int.toNat (if ((e2.toNat:Int)==47)=true then (jpeekS (z0,v0,yown_xr_2_0l2) 1).2.2.1 else v0))) 10)<0)))] ?_)
    refine Ok.nt (Ok.cw hF (fun X0 hF=>?_) (fun X0 hF=>?_))
    ·refine Ok.quiet' kr kr (OkQ.b 3 [0] [(67,pv bxr 0)] ?_)
     refine OkQ.op rfl (OpQ.s (v:=sv (if ((e2.toNat:Int)==47)=true then (jpeekS (z0,v0,yown_xr_2_0l2) 1).2.1 else z0)) (Yields.l 0 rfl rfl underlying9 rfl kr) rfl rfl (OkQ.b 4 [0] [(69,iv ((if ((e2.toNat:Int)==47)=true then (jpeekS (z0,v0,yown_xr_2_0l2) 1).2.1 else z0).length:Int)),(72,pv bxr 1)] ?_))
     refine OkQ.op rfl (OpQ.s (v:=iv (if ((e2.toNat:Int)==47)=true then (jpeekS (z0,v0,yown_xr_2_0l2) 1).2.2.1 else v0)) (Yields.l 0 rfl rfl underlying3 rfl kr) rfl rfl (OkQ.b 2 [0] [(3,iv (w6 (((if ((e2.toNat:Int)==47)=true then (jpeekS (z0,v0,yown_xr_2_0l2) 1).2.1 else z0).length:Int) - (if ((e2.toNat:Int)==47)=true then (jpeekS (z0,v0,yown_xr_2_0l2) 1).2.2.1 else v0))))] ?_))
     refine OkQ.j (Ok.t (Ok.v 3 rfl (show (iv (w6 (((if ((e2.toNat:Int)==47)=true then (jpeekS (z0,v0,yown_xr_2_0l2) 1).2.1 else z0).length:Int) - (if ((e2.toNat:Int)==47)=true then (jpeekS (z0,v0,yown_xr_2_0l2) 1).2.2.1 else v0))):Value)=iv (if (decide ((ibS ((if ((e2.toNat:Int)==47)=true then (jpeekS (z0,v0,yown_xr_2_0l2) 1).2.1 else z0).drop (Int.toNat (if ((e2.toNat:Int)==47)=true then (jpeekS (z0,v0,yown_xr_2_0l2) 1).2.2.1 else v0))) 10)<0))=true then w6 (((if ((e2.toNat:Int)==47)=true then (jpeekS (z0,v0,yown_xr_2_0l2) 1).2.1 else z0).length:Int) - (if ((e2.toNat:Int)==47)=true then (jpeekS (z0,v0,yown_xr_2_0l2) 1).2.2.1 else v0)) else (ibS ((if ((e2.toNat:Int)==47)=true then (jpeekS (z0,v0,yown_xr_2_0l2) 1).2.1 else z0).drop (Int.toNat (if ((e2.toNat:Int)==47)=true then (jpeekS (z0,v0,yown_xr_2_0l2) 1).2.2.1 else v0))) 10)) from congrArg (Value.int .i64) ((if_t X0).symm)) ?_))
     exact fg hF
    refine Ok.k (Ok.t (Ok.v 3 rfl (show (iv (ibS ((if ((e2.toNat:Int)==47)=true then (jpeekS (z0,v0,yown_xr_2_0l2) 1).2.1 else z0).drop (Int.toNat (if ((e2.toNat:Int)==47)=true then (jpeekS (z0,v0,yown_xr_2_0l2) 1).2.2.1 else v0))) 10):Value)=iv (if (decide ((ibS ((if ((e2.toNat:Int)==47)=true then (jpeekS (z0,v0,yown_xr_2_0l2) 1).2.1 else z0).drop (Int.toNat (if ((e2.toNat:Int)==47)=true then (jpeekS (z0,v0,yown_xr_2_0l2) 1).2.2.1 else v0))) 10)<0))=true then w6 (((if ((e2.toNat:Int)==47)=true then (jpeekS (z0,v0,yown_xr_2_0l2) 1).2.1 else z0).length:Int) - (if ((e2.toNat:Int)==47)=true then (jpeekS (z0,v0,yown_xr_2_0l2) 1).2.2.1 else v0)) else (ibS ((if ((e2.toNat:Int)==47)=true then (jpeekS (z0,v0,yown_xr_2_0l2) 1).2.1 else z0).drop (Int.toNat (if ((e2.toNat:Int)==47)=true then (jpeekS (z0,v0,yown_xr_2_0l2) 1).2.2.1 else v0))) 10)) from congrArg (Value.int .i64) ((if_f X0).symm)) ?_))
    exact fg hF
   clear hF
   rintro _ _ ⟨V0,U0,q⟩
   refine jn (fun hF=>?_) _ _ q
   replace hLyown_xr_2_0j17:=hLyown_xr_2_0j17.mono U0.1
   refine Ok.r (Ok.rn 8 [.e 0] [0] [(80,iv (w6 ((if ((e2.toNat:Int)==47)=true then (jpeekS (z0,v0,yown_xr_2_0l2) 1).2.2.1 else v0)+(if (decide ((ibS ((if ((e2.toNat:Int)==47)=true then (jpeekS (z0,v0,yown_xr_2_0l2) 1).2.1 else z0).drop (Int.toNat (if ((e2.toNat:Int)==47)=true then (jpeekS (z0,v0,yown_xr_2_0l2) 1).2.2.1 else v0))) 10)<0))=true then w6 (((if ((e2.toNat:Int)==47)=true then (jpeekS (z0,v0,yown_xr_2_0l2) 1).2.1 else z0).length:Int) - (if ((e2.toNat:Int)==47)=true then (jpeekS (z0,v0,yown_xr_2_0l2) 1).2.2.1 else v0)) else (ibS ((if ((e2.toNat:Int)==47)=true then (jpeekS (z0,v0,yown_xr_2_0l2) 1).2.1 else z0).drop (Int.toNat (if ((e2.toNat:Int)==47)=true then (jpeekS (z0,v0,yown_xr_2_0l2) 1).2.2.1 else v0))) 10))))),(82,pv bxr 1)] ?_)
   refine Ok.o (OpOk.w1 0 ?_)
   refine Ok.j (Ok.kn (Ok.kn (Ok.t ?_)))
   subst hg2
   exact fun _ _ u v=>⟨k2,nl,V0,((Z0.trans Y0).trans U0),(if (((z0.getD v0.toNat 0).toNat:Int)==47)=true then (jpeekS (z0,v0,yown_xr_2_0l2) 1).2.1 else z0),w6 ((if (((z0.getD v0.toNat 0).toNat:Int)==47)=true then (jpeekS (z0,v0,yown_xr_2_0l2) 1).2.2.1 else v0)+(if (decide ((ibS ((if (((z0.getD v0.toNat 0).toNat:Int)==47)=true then (jpeekS (z0,v0,yown_xr_2_0l2) 1).2.1 else z0).drop (Int.toNat (if (((z0.getD v0.toNat 0).toNat:Int)==47)=true then (jpeekS (z0,v0,yown_xr_2_0l2) 1).2.2.1 else v0))) 10)<0))=true then w6 (((if (((z0.getD v0.toNat 0).toNat:Int)==47)=true then (jpeekS (z0,v0,yown_xr_2_0l2) 1).2.1 else z0).length:Int) - (if (((z0.getD v0.toNat 0).toNat:Int)==47)=true then (jpeekS (z0,v0,yown_xr_2_0l2) 1).2.2.1 else v0)) else (ibS ((if (((z0.getD v0.toNat 0).toNat:Int)==47)=true then (jpeekS (z0,v0,yown_xr_2_0l2) 1).2.1 else z0).drop (Int.toNat (if (((z0.getD v0.toNat 0).toNat:Int)==47)=true then (jpeekS (z0,v0,yown_xr_2_0l2) 1).2.2.1 else v0))) 10))),ayown_xr_2_0j17,cyown_xr_2_0j17,(if (((z0.getD v0.toNat 0).toNat:Int)==47)=true then (jpeekS (z0,v0,yown_xr_2_0l2) 1).2.2.2 else yown_xr_2_0l2),xsyown_xr_2_0j17,hLyown_xr_2_0j17,fA u v hF⟩
  replace hF:=hF.2 W0
  refine Ok.ret (Ok.kr (Ok.kr (Ok.tr (Ok.kr ?_))))
  exact Ok.resH (vs:=[]) (.inl rfl) rfl .nil (Z0.trans Y0) ⟨((if ((e2.toNat:Int)==47)=true then (jpeekS (z0,v0,yown_xr_2_0l2) 1).2.1 else z0),(if ((e2.toNat:Int)==47)=true then (jpeekS (z0,v0,yown_xr_2_0l2) 1).2.2.1 else v0),(if ((e2.toNat:Int)==47)=true then (jpeekS (z0,v0,yown_xr_2_0l2) 1).2.2.2 else yown_xr_2_0l2)),ayown_xr_2_0j17,cyown_xr_2_0j17,xsyown_xr_2_0j17,rfl,hLyown_xr_2_0j17,rfl,hF⟩
 refine Ok.x (Ok.thenE (Ok.thenE (Ok.blockHit ?_)))
 exact Ok.resH (vs:=[]) (.inr rfl) rfl .nil Z0 ⟨(z0,v0,yown_xr_2_0l2),ayown_xr_2_0l2,cyown_xr_2_0l2,xsyown_xr_2_0l2,rfl,hLyown_xr_2_0l2,rfl,hF⟩
def wsB (c:UInt8):Bool:=((((c.toNat:Int)==32)||((c.toNat:Int)==9))||((c.toNat:Int)==10))||((c.toNat:Int)==13)
/-- how many bytes part tokens here; the flag: in a remark -/
def skN:Bs→Bool→Nat
 | [],_=>0
 | c::l,true=>1+skN l (!((c.toNat:Int)==10))
 | c::l,false=>if wsB c=true then 1+skN l false else if (((c.toNat:Int)==47)&&(((l.headD 0).toNat:Int)==47))=true then 1+skN l true else 0
theorem skN_le:∀ (l:Bs) (b:Bool),skN l b≤l.length
 | [],_=>Nat.le_refl _
 | c::l,true=>by
  have:=skN_le l (!((c.toNat:Int)==10))
  rw [skN,List.length_cons]; omega
 | c::l,false=>by
  have h1:=skN_le l false
  have h2:=skN_le l true
  rw [skN,List.length_cons]; split
  ·omega
  split <;> omega
/-- how long the rest of the line is -/
def eolN (l:Bs):Int:=if decide (ibS l 10<0)=true then (l.length:Int) else ibS l 10
theorem eolN_cons (c:UInt8) (l:Bs):eolN (c::l)=if ((c.toNat:Int)==10)=true then 0 else 1+eolN l:=by
 have hg : -1≤ibS l 10:=Lib.indexByte_ge _ _
 have e:ibS (c::l) 10=if c==10 then 0 else if ibS l 10==-1 then -1 else ibS l 10+1:=rfl
 have hc:(c==10)=((c.toNat:Int)==10):=by
  rw [Bool.eq_iff_iff,beq_iff_eq,beq_iff_eq]
  exact ⟨fun h=>by rw [h]; rfl,fun h=>UInt8.toNat_inj.1 (by rw [show (10:UInt8).toNat=10 from rfl]; omega)⟩
 unfold eolN
 rw [e,hc]
 cases ((c.toNat:Int)==10)
 ·simp only [Bool.false_eq_true,if_false]
  by_cases h:ibS l 10 = -1
  ·simp [h]; omega
  have h0:(ibS l 10==-1)=false:=by simpa using h
  rw [h0]
  simp only [Bool.false_eq_true,if_false]
  rw [if_f (decide_eq_false om),if_f (decide_eq_false om)]; omega
 simp
theorem eolN_ge:∀ l:Bs,0≤eolN l∧eolN l≤(l.length:Int)
 | []=>⟨Int.le_refl _,Int.le_refl _⟩
 | c::l=>by
  have:=eolN_ge l
  rw [eolN_cons,List.length_cons]; split <;> omega
theorem skN_eol:∀ l:Bs,skN l true=(eolN l).toNat+skN (l.drop (eolN l).toNat) false
 | []=>rfl
 | c::l=>by
  have h1:=skN_eol l
  have h2:=eolN_ge l
  rw [eolN_cons]
  cases h:((c.toNat:Int)==10)
  ·rw [if_f rfl,skN,h,show (1+eolN l).toNat=(eolN l).toNat+1 by omega,List.drop_succ_cons,Bool.not_false,h1]; omega
  have hw:wsB c=true:=by unfold wsB; rw [h]; simp
  rw [if_t rfl,skN,h]
  show _=0+skN (c::l) false
  rw [skN,if_t hw]; simp
def jskipS (x:RD):RD:=(x.1,x.2.1+(skN (x.1.drop (Int.toNat x.2.1)) false:Nat),x.2.2)
theorem jskip_F (x:RD) (hp:rdP x):jskipF x (fun r=>r=jskipS x):=by
 have hl:=hp.1
 have loop:∀ (k:Nat) (i:Int),i.toNat+k=x.1.length→0≤i→i+(skN (x.1.drop i.toNat) false:Nat)=(jskipS x).2.1→∀ m,k≤m→jskipl2 (fun r=>r=jskipS x) (m+1) x.1 i x.2.2:=by
  intro k
  induction k using Nat.strongRecOn with
  | _ k ih =>
   intro i h hi h4 m hm
   have fin:i=(jskipS x).2.1→(x.1,i,x.2.2)=jskipS x:=fun e=>by rw [e]; rfl
   by_cases hk:k=0
   ·subst hk
    rw [List.drop_of_length_le om] at h4
    have hc:decide (i<(x.1.length:Int))=false:=decide_eq_false om
    exact ⟨fun h=>(Bool.false_ne_true (hc.symm.trans h)).elim,fun _=>fin (by rw [← h4]; show i=i+((0:Nat):Int); omega)⟩
   obtain ⟨k,rfl⟩:∃ j,k=j+1:=⟨k - 1,by omega⟩
   obtain ⟨m,rfl⟩:∃ j,m=j+1:=⟨m - 1,by omega⟩
   have hc:decide (i<(x.1.length:Int))=true:=decide_eq_true om
   have hd:=drop_get (l:=x.1) (k:=i.toNat) 0 om
   have hpk:(if decide (i+1<(x.1.length:Int))=true then ((x.1.getD (Int.toNat (i+1)) 0).toNat:Int) else 0)=(((x.1.drop (i.toNat+1)).headD 0).toNat:Int):=by
    by_cases hj:i.toNat+1<x.1.length
    ·rw [if_t (decide_eq_true om),drop_get (l:=x.1) 0 hj,List.headD_cons,show Int.toNat (i+1)=i.toNat+1 by omega]
    rw [if_f (decide_eq_false om),List.drop_of_length_le om]; rfl
   rw [hd,skN] at h4
   refine ⟨fun _=>⟨hi,by omega,fun hw=>?_,fun hw=>?_⟩,fun h=>(Bool.false_ne_true (h.symm.trans hc)).elim⟩
   ·rw [if_t (show wsB _=true from hw)] at h4
    rw [w6e om]
    exact ih k om (i+1) om om (by rw [show (i+1).toNat=i.toNat+1 by omega,← h4]; omega) m om
   rw [if_f (show wsB _=false from hw)] at h4
   have key:jskipj17 (fun r=>r=jskipS x) (x.1.getD i.toNat 0) x.1 i x.2.2 (jskipl2 (fun r=>r=jskipS x) (m+1)):=by
    unfold jskipj17 jskipj22
    simp only [jpeekS,ite_self,hpk]
    refine ⟨fun hs=>?_,fun hs=>fin ?_⟩
    ·rw [if_t hs] at h4
     have h47:((x.1.getD i.toNat 0).toNat:Int)=47:=by
      rw [Bool.and_eq_true,beq_iff_eq] at hs; exact hs.1
     have he:(w6 (i+(if decide (ibS (x.1.drop i.toNat) 10<0)=true then w6 ((x.1.length:Int) - i) else ibS (x.1.drop i.toNat) 10)))=i+eolN (x.1.drop i.toNat):=by
      have hb:=eolN_ge (x.1.drop i.toNat)
      rw [w6e (x:=(x.1.length:Int) - i) om]
      have:(if decide (ibS (x.1.drop i.toNat) 10<0)=true then ((x.1.length:Int) - i) else ibS (x.1.drop i.toNat) 10)=eolN (x.1.drop i.toNat):=by
       unfold eolN
       rw [List.length_drop]
       split
       ·omega
       rfl
      rw [this,w6e (by rw [List.length_drop] at hb; omega)]
     have hgo:jskipl2 (fun r=>r=jskipS x) (m+1) x.1 (i+eolN (x.1.drop i.toNat)) x.2.2:=by
      have hb:=eolN_ge (x.1.drop (i.toNat+1))
      rw [List.length_drop] at hb
      have e1:eolN (x.1.drop i.toNat)=1+eolN (x.1.drop (i.toNat+1)):=by
       rw [hd,eolN_cons,if_f (by rw [h47]; rfl)]
      refine ih (k - (eolN (x.1.drop (i.toNat+1))).toNat) om _ om om ?_ m om
      rw [skN_eol,List.drop_drop] at h4
      rw [e1,show (i+(1+eolN (x.1.drop (i.toNat+1)))).toNat=i.toNat+1+(eolN (x.1.drop (i.toNat+1))).toNat by omega,← h4]
      omega
     rw [he]
     exact ⟨hi,by omega,by omega,fun _=>hgo,fun _=>hgo⟩
    rw [if_f hs] at h4
    rw [← h4]; show i=i+((0:Nat):Int); omega
   exact ⟨fun _=>⟨⟨⟨hl,hi,by show i≤(x.1.length:Int); omega⟩,by omega,by omega⟩,key⟩,fun _=>key⟩
 obtain ⟨h1,h2,h3⟩:=hp
 exact ⟨_,loop (x.1.length - x.2.1.toNat) x.2.1 om h2 rfl _ (Nat.le_refl _)⟩
theorem jskip_c {g:Ghost} {bxr:Nat} {b0:Option Addr} {c0:Nat} {j0:List Value} (xr:Bs×Int×List TK) (d0:RepL g yT j0 xr.2.2)  (hp:rdP xr):CallsH prog 13 #[pv bxr 0] g [.blk bxr (.cells #[sv xr.1,iv xr.2.1,.slice b0 xr.2.2.length c0] 38),.own (.slice b0 xr.2.2.length c0) 40 5 xr.2.2.length j0] (fun g' H' v=>∃ (x0:Option Addr) (s0:Nat) (u0:List Value),v=.tuple #[]∧RepL g' yT u0 (jskipS xr).2.2∧H'=[.blk bxr (.cells #[sv ((jskipS xr).1),iv (jskipS xr).2.1,.slice x0 (jskipS xr).2.2.length s0] 38),.own (.slice x0 (jskipS xr).2.2.length s0) 40 5 (jskipS xr).2.2.length u0]) :=
 (jskip_ok xr d0 _ (jskip_F xr hp)).mono (by rintro g' H' v _ ⟨fxr,x0,s0,u0,rfl,n0,rfl,hK⟩; subst hK; exact ⟨x0,s0,u0,rfl,n0,rfl⟩)
def jnbj3 (xc:Int) (K:Bool→Prop):Prop :=
 K (jletM xc||jdigM xc)
def jnbF (xc:Int) (K:Bool→Prop):Prop :=
 (jletM xc=true→jnbj3 xc K)∧(jletM xc=false→jnbj3 xc K)
theorem jnb_ok {g:Ghost} (xc:Int) (K:Bool→Prop)
  (hF:jnbF xc K):CallsH prog 60 #[.int .u8 xc] g [] (fun g' H' v=>∃ (r0:Bool),v=.bool r0∧H'=[]∧K r0):=by
 refine CallsH.en 9 func60 rfl fun w0=>?_
 refine Ok.sr (Ok.B 1 [(0,.int .u8 xc)] kr (Ok.nt (Ok.ct [(2,.bool (jletM xc||jdigM xc))] [] (jnbj3 xc K) ?_ (fun hF=>?_))))
 ·
  refine Ok.r (Ok.rn 3 [.k (jlet_c xc)] [0] [(5,.bool (jletM xc))] ?_)
  refine Ok.bw 5 hF (fun hc1 hF=>?_) (fun hc1 hF=>?_)
  ·refine Ok.B 4 [(2,.bool true)] kr (Ok.nt (Ok.rb 2 (jletM xc||jdigM xc) (mor_t hc1) ?_))
   exact fz hF
  refine Ok.rn 4 [.k (jdig_c xc)] [] [(2,.bool (jdigM xc))] ?_
  refine Ok.nt (Ok.rb 2 (jletM xc||jdigM xc) (mor_f hc1) ?_)
  exact fz hF
 refine Ok.ret ?_
 exact Ok.pb (jletM xc||jdigM xc) hF
def jnbj3M (xc:Int):Bool:=(jletM xc||jdigM xc)
theorem jnbj3_A (xc:Int) (P:Bool→Prop) (h:P (jnbj3M xc)):jnbj3 xc (fun k0=>P k0):=by
 unfold jnbj3M at h
 unfold jnbj3
 exact h
def jnbM (xc:Int):Bool:=(jnbj3M xc)
theorem jnbF_A (xc:Int) (P:Bool→Prop) (h:P (jnbM xc)):jnbF xc (fun k0=>P k0):=by
 unfold jnbM at h
 unfold jnbF
 refine ⟨fun hc0=>?_,fun hc0=>?_⟩
 ·skip
  exact jnbj3_A xc _ h
 skip
 exact jnbj3_A xc _ h
theorem jnb_F (xc:Int):jnbF xc (fun k0=>k0=jnbM xc) :=
 jnbF_A xc (fun z=>z=jnbM xc) rfl
theorem jnb_c {g:Ghost} (xc:Int)  : CallsG prog 60 #[.int .u8 xc] g (.bool (jnbM xc)) :=
 (jnb_ok xc _ (jnb_F xc)).gv
def jrunj9 (xr:Bs×Int×List TK) (xis:Int→Bool) (K:Bs→(Bs×Int×List TK)→Prop) (q0:Int) (C7:Int→Prop):Prop :=
 (((decide (q0<(xr.1.length:Int)))&&(xis ((xr.1.getD q0.toNat 0).toNat:Int)))=true→C7 (w6 (q0+1)))∧(((decide (q0<(xr.1.length:Int)))&&(xis ((xr.1.getD q0.toNat 0).toNat:Int)))=false→0≤xr.2.1∧(xr.2.1:Int)≤q0∧q0≤(xr.1.length:Int)∧K ((xr.1.take q0.toNat).drop (Int.toNat xr.2.1)) (xr.1,q0,xr.2.2))
def jrunl7b (xr:Bs×Int×List TK) (xis:Int→Bool) (pxis:Int→Prop) (K:Bs→(Bs×Int×List TK)→Prop) (q0:Int) (C7:Int→Prop):Prop :=
 ((decide (q0<(xr.1.length:Int)))=true→0≤q0∧q0.toNat<xr.1.length∧pxis ((xr.1.getD q0.toNat 0).toNat:Int)∧jrunj9 xr xis K q0 C7)∧((decide (q0<(xr.1.length:Int)))=false→jrunj9 xr xis K q0 C7)
def jrunl7 (xr:Bs×Int×List TK) (xis:Int→Bool) (pxis:Int→Prop) (K:Bs→(Bs×Int×List TK)→Prop):Nat→Int→Prop
 | 0,_=>False
 | k+1,q0=>jrunl7b xr xis pxis K q0 (jrunl7 xr xis pxis K k)
def jrunF (xr:Bs×Int×List TK) (xis:Int→Bool) (pxis:Int→Prop) (K:Bs→(Bs×Int×List TK)→Prop):Prop :=
 ∃ k,jrunl7 xr xis pxis K k xr.2.1
theorem jrun_ok {g:Ghost} {bxr:Nat} {b0:Option Addr} {c0:Nat} {j0:List Value} (xr:Bs×Int×List TK) {vxis:Value} (xis:Int→Bool) (pxis:Int→Prop) (d0:RepL g yT j0 xr.2.2) (hfxis:∀ (y0:Int),pxis y0→FnG prog vxis #[.int .u8 y0] g (.bool (xis y0))) (K:Bs→(Bs×Int×List TK)→Prop)
  (hF:jrunF xr xis pxis K):CallsH prog 59 #[pv bxr 0,vxis] g [.blk bxr (.cells #[sv xr.1,iv xr.2.1,.slice b0 xr.2.2.length c0] 38),.own (.slice b0 xr.2.2.length c0) 40 5 xr.2.2.length j0] (fun g' H' v=>∃ (r0:Bs),∃ (fxr:Bs×Int×List TK),∃ (x0:Option Addr) (s0:Nat) (u0:List Value),v=sv r0∧RepL g' yT u0 fxr.2.2∧H'=[.blk bxr (.cells #[sv fxr.1,iv fxr.2.1,.slice x0 fxr.2.2.length s0] 38),.own (.slice x0 fxr.2.2.length s0) 40 5 fxr.2.2.length u0]∧K r0 fxr):=by
 refine CallsH.en 50 func59 rfl fun w0=>?_
 refine Ok.sr (Ok.B 1 [(0,pv bxr 0),(1,vxis)] kr (Ok.nt (Ok.sr (Ok.rn 5 [.e 0] [0,1] [(5,iv xr.2.1)] ?_))))
 refine Ok.nt (Ok.q (Ok.block ?_))
 obtain ⟨k,hF⟩:=hF
 refine Ok.L (fun k a W=>∃ gl7:Ghost,Gext w0 g gl7∧∃ (q0:Int),StA 50 [(0,pv bxr 0),(1,vxis),(5,iv xr.2.1)] a∧StW w0 [.blk bxr (.cells #[sv xr.1,iv q0,.slice b0 xr.2.2.length c0] 38),.own (.slice b0 xr.2.2.length c0) 40 5 xr.2.2.length j0] gl7 W∧jrunl7 xr xis pxis K k q0) k ?_ ?_
 ·
  exact fun _ _ u v=>⟨g,Gext.r w0 g,xr.2.1,fA u v hF⟩
 clear hF
 rintro (_ | k7) _ _ ⟨gl7,Q0,q0,q⟩
 exact (q.2.2:False).elim
 refine jn (fun hF=>?_) _ _ q
 replace hfxis:=(fun y0 hp=>(hfxis y0 hp).mono Q0.1)
 replace d0:=d0.mono Q0.1
 refine Ok.q (Ok.cg gl7 [(0,pv bxr 0),(1,vxis),(5,iv xr.2.1),(32,.bool ((decide (q0<(xr.1.length:Int)))&&(xis ((xr.1.getD q0.toNat 0).toNat:Int))))] [.blk bxr (.cells #[sv xr.1,iv q0,.slice b0 xr.2.2.length c0] 38),.own (.slice b0 xr.2.2.length c0) 40 5 xr.2.2.length j0] (jrunj9 xr xis K q0 (jrunl7 xr xis pxis K k7)) ?_ (fun gj9 K0 hF=>?_))
 ·
  refine Ok.quiet' kr kr (OkQ.b 3 [0,1,5] [(12,pv bxr 1)] ?_)
  refine OkQ.op rfl (OpQ.s (v:=iv q0) (Yields.l 0 rfl rfl underlying3 rfl kr) rfl rfl (OkQ.b 3 [0,1,5] [(13,iv q0),(16,pv bxr 0)] ?_))
  refine OkQ.op rfl (OpQ.s (v:=sv xr.1) (Yields.l 0 rfl rfl underlying9 rfl kr) rfl rfl (OkQ.b 3 [0,1,5] [(20,.bool (decide (q0<(xr.1.length:Int))))] ?_))
  refine OkQ.boolAt 20 (decide (q0<(xr.1.length:Int))) rfl (fun hc3=>?_) (fun hc3=>?_)
  ·replace hF:=hF.1 hc3
   refine OkQ.b 4 [0,1,5] [(20,.bool true),(21,vxis),(24,pv bxr 0)] ?_
   refine OkQ.y (j:=10) (d:=20) (want:=true) (b:=true) rfl kr kr rfl (OpQ.s (v:=sv xr.1) (Yields.l 0 rfl rfl underlying9 rfl kr) rfl rfl (OkQ.b 3 [0,1,5,20,21] [(25,sv xr.1),(28,pv bxr 1)] ?_))
   refine OkQ.y (j:=10) (d:=20) (want:=true) (b:=true) rfl kr kr rfl (OpQ.s (v:=iv q0) (Yields.l 0 rfl rfl underlying3 rfl kr) rfl rfl ?_)
   obtain ⟨h04,h14,hF⟩:=hF
   have he4:=get_of (l:=xr.1) (0:UInt8) h14
   generalize hg4:(xr.1.getD q0.toNat 0)=e4 at he4 hF ⊢
   refine OkQ.y (j:=10) (d:=20) (want:=true) (b:=true) rfl kr kr rfl (OpQ.s (v:=.int .u8 (e4.toNat:Int)) (Yields.ix (k:=.i64) (i:=q0) (s:=xr.1) (b:=e4) kr kr underlying9 h04 he4) rfl rfl ?_)
   obtain ⟨hq5,hF⟩:=hF
   refine OkQ.y (j:=10) (d:=20) (want:=true) (b:=true) rfl kr kr rfl (OpQ.apply (args:=#[.int .u8 (e4.toNat:Int)]) (v:=.bool (xis (e4.toNat:Int))) rfl kr kr (hfxis (e4.toNat:Int) hq5) rfl (OkQ.b 1 [0,1,5] [(32,.bool (xis (e4.toNat:Int)))] ?_))
   refine OkQ.j (Ok.t ?_)
   subst hg4
   refine Ok.rb 32 ((decide (q0<(xr.1.length:Int)))&&(xis ((xr.1.getD q0.toNat 0).toNat:Int))) (mand_t hc3) ?_
   exact fg hF
  replace hF:=hF.2 hc3
  refine OkQ.b 12 [0,1,5] [(32,.bool false)] ?_
  refine OkQ.j (Ok.t (Ok.rb 32 ((decide (q0<(xr.1.length:Int)))&&(xis ((xr.1.getD q0.toNat 0).toNat:Int))) (mand_f hc3) ?_))
  exact fg hF
 replace hfxis:=(fun y0 hp=>(hfxis y0 hp).mono K0.1)
 replace d0:=d0.mono K0.1
 refine Ok.cw hF (fun hc1 hF=>?_) (fun hc1 hF=>?_)
 ·refine Ok.k (Ok.t (Ok.block (Ok.r (Ok.rn 7 [.e 0] [0,1,5] [(37,iv (w6 (q0+1))),(39,pv bxr 1)] ?_))))
  refine Ok.o (OpOk.w1 0 ?_)
  refine Ok.j (Ok.kn (Ok.t ?_))
  exact fun _ _ u v=>⟨k7,nl,gj9,Q0.trans K0,w6 (q0+1),fA u v hF⟩
 refine Ok.x (Ok.thenE (Ok.thenE (Ok.blockHit (Ok.t (Ok.q (Ok.quiet' kr kr (OkQ.b 3 [0,5] [(42,pv bxr 0)] ?_)))))))
 refine OkQ.op rfl (OpQ.s (v:=sv xr.1) (Yields.l 0 rfl rfl underlying9 rfl kr) rfl rfl (OkQ.B 4 [(43,sv xr.1),(44,iv xr.2.1),(47,pv bxr 1)] kr (OkQ.op rfl (OpQ.s (v:=iv q0) (Yields.l 0 rfl rfl underlying3 rfl kr) rfl rfl ?_))))
 obtain ⟨h02,h12,h22,hF⟩:=hF
 refine OkQ.op rfl (OpQ.s (v:=sv ((xr.1.take q0.toNat).drop (Int.toNat xr.2.1))) (Yields.ss (s:=xr.1) (l:=xr.2.1) (h:=q0) kr underlying9 (.inl ⟨_,_,rfl,rfl⟩) (.inl ⟨_,_,rfl,rfl⟩) h02 h12 h22 ((xr.1.take q0.toNat).drop (Int.toNat xr.2.1)) rfl) rfl rfl (OkQ.B 1 [(4,sv ((xr.1.take q0.toNat).drop (Int.toNat xr.2.1)))] kr (OkQ.j (Ok.t (Ok.ret ?_)))))
 exact Ok.h1 (sv ((xr.1.take q0.toNat).drop (Int.toNat xr.2.1))) (Q0.trans K0) ⟨((xr.1.take q0.toNat).drop (Int.toNat xr.2.1)),(xr.1,q0,xr.2.2),b0,c0,j0,rfl,d0,rfl,hF⟩
def runN (is:Int→Bool):Bs→Nat
 | []=>0
 | c::l=>if is (c.toNat:Int)=true then 1+runN is l else 0
theorem runN_le (is:Int→Bool):∀ l:Bs,runN is l≤l.length
 | []=>Nat.le_refl _
 | c::l=>by
  have:=runN_le is l
  rw [runN,List.length_cons]; split <;> omega
def runE (x:RD) (is:Int→Bool):Int:=x.2.1+(runN is (x.1.drop (Int.toNat x.2.1)):Nat)
def jrunS (x:RD) (is:Int→Bool):Bs×RD:=((x.1.take (Int.toNat (runE x is))).drop (Int.toNat x.2.1),x.1,runE x is,x.2.2)
def jrunP (x:RD) (_:Int→Bool) (p:Int→Prop):Prop:=rdP x∧∀ v,p v
theorem jrun_F (x:RD) (is:Int→Bool) (p:Int→Prop) (hp:jrunP x is p):jrunF x is p (fun r r1=>(r,r1)=jrunS x is):=by
 obtain ⟨⟨h1,h2,h3⟩,hq⟩:=hp
 have loop:∀ (k:Nat) (i:Int),i.toNat+k=x.1.length→x.2.1≤i→i+(runN is (x.1.drop i.toNat):Nat)=runE x is→jrunl7 x is p (fun r r1=>(r,r1)=jrunS x is) (k+1) i:=by
  intro k
  induction k with
  | zero =>
   intro i h hi h4
   rw [List.drop_of_length_le om] at h4
   have hc:decide (i<(x.1.length:Int))=false:=decide_eq_false om
   refine ⟨fun h=>(Bool.false_ne_true (hc.symm.trans h)).elim,fun _=>⟨fun h=>?_,fun _=>⟨h2,hi,by omega,?_⟩⟩⟩
   ·rw [hc] at h; exact (Bool.false_ne_true h).elim
   have:i=runE x is:=by rw [← h4]; show i=i+((0:Nat):Int); omega
   rw [this]; rfl
  | succ k ih =>
   intro i h hi h4
   have hc:decide (i<(x.1.length:Int))=true:=decide_eq_true om
   rw [drop_get (l:=x.1) 0 om,runN] at h4
   refine ⟨fun _=>⟨by omega,by omega,hq _,fun h=>?_,fun h=>⟨h2,hi,by omega,?_⟩⟩,fun h=>(Bool.false_ne_true (h.symm.trans hc)).elim⟩
   ·rw [hc,Bool.true_and] at h
    rw [if_t h] at h4
    rw [w6e om]
    exact ih (i+1) om om (by rw [show (i+1).toNat=i.toNat+1 by omega,← h4]; omega)
   rw [hc,Bool.true_and] at h
   rw [if_f h] at h4
   have:i=runE x is:=by rw [← h4]; show i=i+((0:Nat):Int); omega
   rw [this]; rfl
 exact ⟨_,loop (x.1.length - x.2.1.toNat) x.2.1 om (Int.le_refl _) rfl⟩
theorem jrun_c {g:Ghost} {bxr:Nat} {b0:Option Addr} {c0:Nat} {j0:List Value} (xr:Bs×Int×List TK) {vxis:Value} (xis:Int→Bool) (pxis:Int→Prop) (d0:RepL g yT j0 xr.2.2) (hfxis:∀ (y0:Int),pxis y0→FnG prog vxis #[.int .u8 y0] g (.bool (xis y0)))  (hp:jrunP xr xis pxis):CallsH prog 59 #[pv bxr 0,vxis] g [.blk bxr (.cells #[sv xr.1,iv xr.2.1,.slice b0 xr.2.2.length c0] 38),.own (.slice b0 xr.2.2.length c0) 40 5 xr.2.2.length j0] (fun g' H' v=>∃ (x0:Option Addr) (s0:Nat) (u0:List Value),v=sv ((jrunS xr xis).1)∧RepL g' yT u0 (jrunS xr xis).2.2.2∧H'=[.blk bxr (.cells #[sv ((jrunS xr xis).2.1),iv (jrunS xr xis).2.2.1,.slice x0 (jrunS xr xis).2.2.2.length s0] 38),.own (.slice x0 (jrunS xr xis).2.2.2.length s0) 40 5 (jrunS xr xis).2.2.2.length u0]) :=
 (jrun_ok xr xis pxis d0 hfxis _ (jrun_F xr xis pxis hp)).mono (by rintro g' H' v _ ⟨r0,fxr,x0,s0,u0,rfl,n0,rfl,hK⟩; obtain ⟨rfl,rfl⟩:r0=(jrunS xr xis).1∧fxr=(jrunS xr xis).2:=⟨congrArg (fun z=>z.1) hK,congrArg (fun z=>z.2) hK⟩; exact ⟨x0,s0,u0,rfl,n0,rfl⟩)
def jhexF (xc:Int) (K:Int→Prop):Prop :=
 K (ibS ([48,49,50,51,52,53,54,55,56,57,97,98,99,100,101,102]:Bs) xc)
theorem jhex_ok {g:Ghost} (xc:Int) (K:Int→Prop)
  (hF:jhexF xc K):CallsH prog 77 #[.int .u8 xc] g [] (fun g' H' v=>∃ (r0:Int),v=iv r0∧H'=[]∧K r0):=by
 refine CallsH.en 5 func77 rfl fun w0=>?_
 refine Ok.sr (Ok.B 1 [(0,.int .u8 xc)] kr (Ok.nt (Ok.sr (Ok.rn 3 [.k (ib_c BE xc)] [] [(2,iv (ibS BE xc))] ?_))))
 refine Ok.nt (Ok.ret ?_)
 exact Ok.h0 (iv (ibS BE xc)) ⟨_,rfl,rfl,hF⟩
def jhexM (xc:Int):Int:=(ibS ([48,49,50,51,52,53,54,55,56,57,97,98,99,100,101,102]:Bs) xc)
theorem jhexF_A (xc:Int) (P:Int→Prop) (h:P (jhexM xc)):jhexF xc (fun k0=>P k0):=by
 unfold jhexM at h
 unfold jhexF
 exact h
theorem jhex_F (xc:Int):jhexF xc (fun k0=>k0=jhexM xc) :=
 jhexF_A xc (fun z=>z=jhexM xc) rfl
theorem jhex_c {g:Ghost} (xc:Int)  : CallsG prog 77 #[.int .u8 xc] g (iv (jhexM xc)) :=
 (jhex_ok xc _ (jhex_F xc)).gv
end Go.Proofs.YtalnampdiegmoaaDoor.Jl
