/- match: Is; the law MatchIs. -/
import Derived.Test.YtdapgmigogpdcaaGreatDoorMai
import Derived.Test.YtdapgmigogpdcaaGreatDoorSyh
namespace Go.Proofs.YtdapgmigogpdcaaGreatDoor.Ma
open _root_.Go.Proofs.Tryz Go Go.iQ Go.RowKit jL BF Ti Do Se Sr Tk tF Me Rp Qu
set_option linter.unusedVariables false
set_option linter.unusedSimpArgs false
set_option maxHeartbeats 4000000
set_option maxRecDepth 100000
noncomputable section
def GD (xd:Dc) (xn:Int) (xs:Bs) (K:(List PH)→Int→Prop):Prop :=
 ((decide (xn<0)||(decide (xn≥(xd.1.length:Int))))=true→K ([]) 5)∧((decide (xn<0)||(decide (xn≥(xd.1.length:Int))))=false→rdP xs∧K (nK xs).1 (nK xs).2)
def ag3 (xd:Dc) (xn:Int) (xs:Bs) (K:(List PH)→Int→Prop):Prop :=
 vZ xd∧(((fI xd) != 0)=true→K ([]) (fI xd))∧(((fI xd) != 0)=false→(decide (xn<0)=true→GD xd xn xs K)∧(decide (xn<0)=false→GD xd xn xs K))
theorem aaF {g:ak} {z0:Option Addr} {v0:Nat} (xd:Dc) (xn:Int) (xs:Bs) (k0:bG g qh [.slice z0 xd.1.length v0] xd.1) (hG0:bP g 0) (K:(List PH)→Int→Prop)
  (hF:ag3 xd xn xs K):az prog 27 #[.agg (aD xd z0 v0),iv xn,sv xs] g [] (fun g' H' v=>∃ (r0:List PH),∃ (r1:Int),∃ (j0:Option Addr) (x0:Nat),v=.tuple #[.slice j0 r0.length x0,iv r1]∧bG g' (.slice yP) [.slice j0 r0.length x0] r0∧H'=[]∧K r0 r1):=by
 refine aP 27 func27 rfl fun w0=>?_
 refine ae (ai (di fun dK=>?_))
 refine av 2 [(1,iv xn),(2,sv xs),(3,pv dK 0)] kr (aa (aH (aH (aS ?_))))
 obtain ⟨hp2,hF⟩:=hF
 refine aj 3 [.e 0,.k (Uw xd k0 hp2)] [1,2,3] [(8,iv (fI xd))] ?_
 refine aa (ae (ag 2 [1,2,3,8] [(12,.bool ((fI xd) != 0))] ?_))
 refine aa (aM hF (fun hc3 hF=>?_) (fun hc3 hF=>?_))
 ·refine ae (av 3 [(6,.slice none 0 0),(7,iv (fI xd))] kr (aa (Ok.ret (aC ?_))))
  exact Au [] (bq w0 g) ⟨([]),fI xd,none,0,rfl,bG.nil,rfl,hF⟩
 let B:=decide (xn≥(xd.1.length:Int))
 let A:=decide (xn<0)||B
 refine Ok.k (Ok.t (aH (iO g [(2,sv xs),(22,.bool A)] [] (GD xd xn xs K) ?_ (fun atW b0 hF=>?_))))
 ·
  refine aS (ag 3 [1,2,3] [(16,.bool (decide (xn<0)))] ?_)
  refine bN 16 hF (fun iC hF=>?_) (fun iC hF=>?_)
  ·refine ag 6 [2] [(22,.bool true)] ?_
   refine aa (aB 22 A (df iC) ?_)
   exact fg hF
  refine aj 6 [.e 0] [2] [(22,.bool B)] ?_
  refine aa (aB 22 A (bR iC) ?_)
  exact fg hF
 replace hG0:=hG0.mono b0.1
 refine aM hF (fun hc4 hF=>?_) (fun hc4 hF=>?_)
 ·refine ae (av 2 [(6,.slice none 0 0),(7,iv 5)] kr (aa (Ok.ret (aC ?_))))
  exact gH (vs:=[.slice none 0 0,iv 5]) (.inl rfl) rfl (.cons (.tmp rfl) (.cons (.tmp rfl) .nil)) b0 ⟨([]),5,none,0,rfl,bG.nil,rfl,hF⟩
 refine Ok.k (Ok.t (ae (av 1 [(23,sv xs)] kr ?_)))
 obtain ⟨Kj,hF⟩:=hF
 refine ai (bQ (rd_c xs hG0 Kj) fun g6 _ _ hx6 hV6=>?_)
 obtain ⟨d0,f0,rfl,Ag,rfl⟩:=hV6
 refine av 4 [(6,.slice d0 (nK xs).1.length f0),(7,iv (nK xs).2)] kr (aa (Ok.ret ?_))
 exact gH (vs:=[.slice d0 (nK xs).1.length f0,iv (nK xs).2]) (.inl rfl) rfl (.cons (.tmp rfl) (.cons (.tmp rfl) .nil)) (b0.trans hx6) ⟨(nK xs).1,(nK xs).2,d0,f0,rfl,Ag,rfl,hF⟩
def CP (d:DC) (n:Int):Bool:=decide (n<0)||decide (n≥(d.1.length:Int))
def mU (d:DC) (n:Int) (s:Bs):List Ph×Int:=if (fI d != 0)=true then ([],fI d) else if CP d n=true then ([],5) else nK s
def LJ (d:DC) (_:Int) (s:Bs):Prop:=vZ d∧rdP s
theorem ag2 (d:DC) (n:Int) (s:Bs) (h:LJ d n s):ag3 d n s (fun a b=>(a,b)=mU d n s):=by
 unfold mU
 have j14:(fI d != 0)=false→GD d n s (fun a b=>(a,b)=if (fI d != 0)=true then ([],fI d) else if CP d n=true then ([],5) else nK s):=fun h0=>by
  rw [aF h0]
  refine ⟨fun h1=>?_,fun h1=>⟨h.2,?_⟩⟩
  ·have h1:CP d n=true:=h1
   rw [aT h1]
  have h1:CP d n=false:=h1
  rw [aF h1]
 exact ⟨h.1,fun h0=>by rw [aT h0],fun h0=>⟨fun _=>j14 h0,fun _=>j14 h0⟩⟩
theorem ag1 {g:ak} {z0:Option Addr} {v0:Nat} (xd:Dc) (xn:Int) (xs:Bs) (k0:bG g qh [.slice z0 xd.1.length v0] xd.1) (hG0:bP g 0)  (hp:LJ xd xn xs):az prog 27 #[.agg (aD xd z0 v0),iv xn,sv xs] g [] (fun g' H' v=>∃ (j0:Option Addr) (x0:Nat),v=.tuple #[.slice j0 (mU xd xn xs).1.length x0,iv (mU xd xn xs).2]∧bG g' (.slice yP) [.slice j0 (mU xd xn xs).1.length x0] (mU xd xn xs).1∧H'=[]) :=
 (aaF xd xn xs k0 hG0 _ (ag2 xd xn xs hp)).mono (by rintro g' H' v _ ⟨r0,r1,j0,x0,rfl,rX,rfl,hK⟩; obtain ⟨rfl,rfl⟩:r0=(mU xd xn xs).1∧r1=(mU xd xn xs).2:=⟨ay (fun z=>z.1) hK,ay (fun z=>z.2) hK⟩; exact ⟨j0,x0,rfl,rX,rfl⟩)
def ahe (xd:Dc) (xn:Int) (xs:Bs) (K:Bool→Int→Prop):Prop :=
 LJ xd xn xs∧(((mU xd xn xs).2 != 0)=true→K false (mU xd xn xs).2)∧(((mU xd xn xs).2 != 0)=false→R8 xd xn (mU xd xn xs).1∧K (ug xd xn (mU xd xn xs).1) 0)
theorem aaM {g:ak} {z0:Option Addr} {v0:Nat} (xd:Dc) (xn:Int) (xs:Bs) (k0:bG g qh [.slice z0 xd.1.length v0] xd.1) (hG0:bP g 0) (K:Bool→Int→Prop)
  (hF:ahe xd xn xs K):az prog 12 #[.agg (aD xd z0 v0),iv xn,sv xs] g [] (fun g' H' v=>∃ (r0:Bool),∃ (r1:Int),v=.tuple #[.bool r0,iv r1]∧H'=[]∧K r0 r1):=by
 refine aP 24 func12 rfl fun w0=>?_
 refine ae (ai (di fun dK=>?_))
 refine av 2 [(1,iv xn),(2,sv xs),(3,pv dK 0)] kr (aa (ae (aj 3 [.e 0] [1,3] [(11,.agg (aD xd z0 v0)),(12,iv xn),(13,sv xs)] ?_)))
 obtain ⟨hp2,hF⟩:=hF
 refine ai (bQ (ag1 xd xn xs k0 hG0 hp2) fun g3 _ _ hx3 OI=>?_)
 obtain ⟨UU,UD,rfl,TP,rfl⟩:=OI
 replace k0:=k0.mono hx3.1
 replace hG0:=hG0.mono hx3.1
 refine ag 5 [1,3] [(8,.slice UU (mU xd xn xs).1.length UD),(9,iv (mU xd xn xs).2)] ?_
 refine aa (aH (ae (ag 2 [1,3,8,9] [(18,.bool ((mU xd xn xs).2 != 0))] ?_)))
 refine aa (aM hF (fun hc4 hF=>?_) (fun hc4 hF=>?_))
 ·refine ae (av 3 [(6,.bool false),(7,iv (mU xd xn xs).2)] kr (aa (Ok.ret (aC ?_))))
  exact Au [] hx3 ⟨false,(mU xd xn xs).2,rfl,rfl,hF⟩
 refine Ok.k (Ok.t (aH (aS ?_)))
 obtain ⟨Kj,hF⟩:=hF
 refine aj 6 [.e 0,.k (agX xd xn (mU xd xn xs).1 k0 TP hG0 Kj)] [] [(6,.bool (ug xd xn (mU xd xn xs).1)),(7,iv 0)] ?_
 refine aa (Ok.ret ?_)
 exact Au [] hx3 ⟨ug xd xn (mU xd xn xs).1,0,rfl,rfl,hF⟩
def gY (d:DC) (n:Int) (s:Bs):Bool×Int:=if ((mU d n s).2 != 0)=true then (false,(mU d n s).2) else (ug d n (mU d n s).1,0)
theorem Nz {d:DC} {n:Int} {l:List Ph} (hd:vZ d) (hl:Se.Told l) (h0:(fI d != 0)=false) (h1:CP d n=false):gP d∧nC d n∧b3 l≤1048600∧tZ l=true:=by
 unfold CP at h1
 simp only [dC,eQ] at h1
 exact ⟨(OZ d hd).2 (by simpa using h0),⟨om,om⟩,hl.1.1,(O9 hl.2.1).1⟩
theorem QT {d:DC} {n:Int} {l:List Ph} (hd:vZ d) (hl:Se.Told l) (h0:(fI d != 0)=false) (h1:CP d n=false):R8 d n l:=by
 obtain ⟨a,b,c,e⟩:=Nz hd hl h0 h1
 exact ⟨b3 l+1,nl,c,a,b,e⟩
theorem ahd (d:DC) (n:Int) (s:Bs) (h:LJ d n s):ahe d n s (fun a b=>(a,b)=gY d n s):=by
 unfold gY
 refine ⟨h,fun h0=>by rw [aT h0],fun h0=>⟨?_,by rw [aF h0]⟩⟩
 obtain ⟨l,hl,rfl⟩:=h.2
 unfold mU at h0 ⊢
 by_cases q0:(fI d != 0)=true
 ·rw [bn q0] at h0
  rw [h0] at q0; cases q0
 have q0:(fI d != 0)=false:=Bool.eq_false_iff.2 q0
 rw [aF q0] at h0 ⊢
 by_cases q1:CP d n=true
 ·rw [bn q1] at h0; cases h0
 have q1:CP d n=false:=Bool.eq_false_iff.2 q1
 rw [aF q1,Jq hl]
 exact QT h.1 hl q0 q1
theorem ahc {g:ak} {z0:Option Addr} {v0:Nat} (xd:Dc) (xn:Int) (xs:Bs) (k0:bG g qh [.slice z0 xd.1.length v0] xd.1) (hG0:bP g 0)  (hp:LJ xd xn xs):bE prog 12 #[.agg (aD xd z0 v0),iv xn,sv xs] g (.tuple #[.bool (gY xd xn xs).1,iv (gY xd xn xs).2]) :=
 (aaM xd xn xs k0 hG0 _ (ahd xd xn xs hp)).gives (by rintro g' H' v _ ⟨r0,r1,rfl,rfl,hK⟩; obtain ⟨rfl,rfl⟩:r0=(gY xd xn xs).1∧r1=(gY xd xn xs).2:=⟨ay (fun z=>z.1) hK,ay (fun z=>z.2) hK⟩; rfl)
def kG (xd:Dc) (xn:Int):Bool :=
 ((fI xd==0)&&(decide (xn<0)||(decide (xn≥(xd.1.length:Int)))))
def Di (xd:Dc) (xn:Int) (xl:List PH):Bool :=
 ((true&&((gY xd xn (gy xl).1).2==0))&&((gY xd xn (gy xl).1).1==pW xd xn xl))
def G6 (xd:Dc) (xn:Int) (xl:List PH) (K:Bool→Prop):Prop :=
 K (Di xd xn xl)
def Dh (xd:Dc) (xn:Int) (xl:List PH) (K:Bool→Prop):Prop :=
 (((if (kG xd xn)=true then 5 else (fI xd)) != 0)=true→K ((true&&(!(gY xd xn (gy xl).1).1))&&((gY xd xn (gy xl).1).2==(if (kG xd xn)=true then 5 else (fI xd)))))∧(((if (kG xd xn)=true then 5 else (fI xd)) != 0)=false→((true&&((gY xd xn (gy xl).1).2==0))=true→RA xd xn xl∧G6 xd xn xl K)∧((true&&((gY xd xn (gy xl).1).2==0))=false→G6 xd xn xl K))
def Df (xd:Dc) (xn:Int) (xl:List PH) (K:Bool→Prop):Prop :=
 (kG xd xn=true→Dh xd xn xl K)∧(kG xd xn=false→Dh xd xn xl K)
def ahC (xd:Dc) (xn:Int) (xl:List PH) (K:Bool→Prop):Prop :=
 zG xl∧(((gy xl).2 != 0)=true→K true)∧(((gy xl).2 != 0)=false→LJ xd xn (gy xl).1∧vZ xd∧((fI xd==0)=true→(decide (xn<0)=true→Df xd xn xl K)∧(decide (xn<0)=false→Df xd xn xl K))∧((fI xd==0)=false→Df xd xn xl K))
theorem aaV {g:ak} {z0:Option Addr} {v0:Nat} (xd:Dc) (xn:Int) {y0:Option Addr} {u0:Nat} (xl:List PH) (k0:bG g qh [.slice z0 xd.1.length v0] xd.1) (s0:bG g (.slice yP) [.slice y0 xl.length u0] xl) (hG0:bP g 0) (hG3:ma g 3 (.int .u64) yR) (K:Bool→Prop)
  (hF:ahC xd xn xl K):az prog 4 #[.agg (aD xd z0 v0),iv xn,.slice y0 xl.length u0] g [] (fun g' H' v=>∃ (r0:Bool),v=.bool r0∧H'=[]∧K r0):=by
 refine aP 69 func4 rfl fun w0=>?_
 refine ae (ai (di fun dK=>?_))
 refine av 1 [(1,iv xn),(2,.slice y0 xl.length u0),(3,pv dK 0)] kr (aa (ae (aj 2 [.k (ahx  hG0)] [1,2,3] [(7,.bool true)] ?_)))
 refine aa (aH (aS ?_))
 obtain ⟨hp2,hF⟩:=hF
 refine aj 7 [.k (afp xl s0 hG0 hG3 hp2)] [1,2,3,7] [(8,sv ((gy xl).1)),(9,iv (gy xl).2)] ?_
 refine aa (aH (ae (ag 2 [1,2,3,7,8] [(20,.bool ((gy xl).2 != 0))] ?_)))
 refine aa (aM hF (fun hc3 hF=>?_) (fun hc3 hF=>?_))
 ·refine ae (av 2 [(6,.bool true)] kr (aa (Ok.ret (aC ?_))))
  exact dD true hF
 refine Ok.k (Ok.t (aH (aS ?_)))
 obtain ⟨Tp,hF⟩:=hF
 let A:=gY xd xn (gy xl).1
 refine aj 9 [.e 0,.k (ahc xd xn (gy xl).1 k0 hG0 Tp)] [1,2,3,7] [(10,.bool A.1),(11,iv A.2)] ?_
 refine aa (aH (aS ?_))
 obtain ⟨Kj,hF⟩:=hF
 refine aj 3 [.e 0,.k (Uw xd k0 Kj)] [1,2,3,7,10,11] [(12,iv (fI xd))] ?_
 let B:=if (kG xd xn)=true then 5 else (fI xd)
 let E:=(.cells (aD xd z0 v0) 24:Obj)
 refine aa (gD [(1,iv xn),(2,.slice y0 xl.length u0),(3,pv dK 0),(7,.bool true),(10,.bool A.1),(11,iv A.2),(12,iv B)] [.blk dK E] (Dh xd xn xl K) ?_ (fun hF=>?_))
 ·
  refine gD [(1,iv xn),(2,.slice y0 xl.length u0),(3,pv dK 0),(7,.bool true),(10,.bool A.1),(11,iv A.2),(12,iv (fI xd)),(43,.bool (kG xd xn))] [.blk dK E] (Df xd xn xl K) ?_ (fun hF=>?_)
  ·
   refine aS (ag 3 [1,2,3,7,10,11,12] [(33,.bool (fI xd==0))] ?_)
   refine bN 33 hF (fun c0 hF=>?_) (fun c0 hF=>?_)
   ·refine ag 3 [1,2,3,7,10,11,12] [(33,.bool true),(36,.bool (decide (xn<0)))] ?_
    refine bN 36 hF (fun g0 hF=>?_) (fun g0 hF=>?_)
    ·refine ag 7 [1,2,3,7,10,11,12] [(43,.bool true)] ?_
     refine aa (aB 43 (kG xd xn) (au (df g0) (aZ c0)) ?_)
     exact fz hF
    refine aj 7 [.e 0] [1,2,3,7,10,11,12] [(43,.bool (decide (xn≥(xd.1.length:Int))))] ?_
    refine aa (aB 43 (kG xd xn) (au (bR g0) (aZ c0)) ?_)
    exact fz hF
   refine ag 10 [1,2,3,7,10,11,12] [(43,.bool false)] ?_
   refine aa (aB 43 (kG xd xn) (bW c0) ?_)
   exact fz hF
  refine aM hF (fun m0 hF=>?_) (fun m0 hF=>?_)
  ·refine aS (ag 1 [1,2,3,7,10,11] [(12,iv 5)] ?_)
   refine aa (gW 12 rfl (show (iv 5:Value)=iv B from ay (Value.int .i64) ((aT m0).symm)) ?_)
   exact fz hF
  refine Ok.k (Ok.t (gW 12 rfl (show (iv (fI xd):Value)=iv B from ay (Value.int .i64) ((aF m0).symm)) ?_))
  exact fz hF
 refine aH (ae (ag 2 [1,2,3,7,10,11,12] [(45,.bool (B != 0))] ?_))
 refine aa (aM hF (fun hc6 hF=>?_) (fun hc6 hF=>?_))
 ·refine ae (ag 2 [10,11,12] [(47,.bool true)] ?_)
  let C:=true&&(! A.1)
  refine Ok.w 3 [(11,iv A.2),(12,iv B),(50,.bool C)] (fun YS=>?_) ?_
  ·refine Ok.a 47 (true) rfl (fun hc8=>?_) (fun hc8=>?_)
   ·skip
    refine ag 3 [11,12] [(50,.bool (! A.1))] ?_
    refine aB 50 C (aZ hc8) (ag 0 [11,12] [(50,.bool C)] ?_)
    exact YS
   skip
   refine ag 3 [11,12] [(50,.bool false)] ?_
   refine aB 50 C (bW hc8) (ag 0 [11,12] [(50,.bool C)] ?_)
   exact YS
  refine ag 1 [11,12] [(51,.bool C)] ?_
  refine Ok.w 4 [(55,.bool (C&&(A.2==B)))] (fun Xc=>?_) ?_
  ·refine Ok.a 51 C rfl (fun n0=>?_) (fun n0=>?_)
   ·skip
    refine av 4 [(55,.bool (A.2==B))] kr (aB 55 (C&&(A.2==B)) (aZ n0) (av 0 [(55,.bool (C&&(A.2==B)))] kr ?_))
    exact Xc
   skip
   refine av 4 [(55,.bool false)] kr (aB 55 (C&&(A.2==B)) (bW n0) (av 0 [(55,.bool (C&&(A.2==B)))] kr ?_))
   exact Xc
  refine av 1 [(6,.bool (C&&(A.2==B)))] kr (aa (Ok.ret (aC ?_)))
  exact dD (C&&(A.2==B)) hF
 refine Ok.k (Ok.t (gD [(6,.bool (Di xd xn xl))] [] (G6 xd xn xl K) ?_ (fun hF=>?_)))
 ·
  refine aS (ag 2 [1,2,3,10,11] [(57,.bool true)] ?_)
  let D:=true&&(A.2==0)
  refine Ok.w 3 [(1,iv xn),(2,.slice y0 xl.length u0),(3,pv dK 0),(10,.bool A.1),(60,.bool D)] (fun a0=>?_) ?_
  ·refine Ok.a 57 (true) rfl (fun o0=>?_) (fun o0=>?_)
   ·skip
    refine ag 3 [1,2,3,10] [(60,.bool (A.2==0))] ?_
    refine aB 60 D (aZ o0) (ag 0 [1,2,3,10] [(60,.bool D)] ?_)
    exact a0
   skip
   refine ag 3 [1,2,3,10] [(60,.bool false)] ?_
   refine aB 60 D (bW o0) (ag 0 [1,2,3,10] [(60,.bool D)] ?_)
   exact a0
  refine ag 1 [1,2,3,10] [(61,.bool D)] ?_
  refine bN 61 hF (fun t0 hF=>?_) (fun t0 hF=>?_)
  ·obtain ⟨Tx,hF⟩:=hF
   refine aj 8 [.e 0,.k (aae xd xn xl k0 s0 hG0 Tx)] [] [(6,.bool (A.1==pW xd xn xl))] ?_
   refine aa (aB 6 (Di xd xn xl) (aZ t0) ?_)
   exact fz hF
  refine av 8 [(6,.bool false)] kr (aa (aB 6 (Di xd xn xl) (bW t0) ?_))
  exact fz hF
 refine Ok.ret ?_
 exact dD (Di xd xn xl) hF
def ahB (d:DC) (n:Int) (l:List Ph):Prop:=U4 (.pair qh (.bool)) d∧(Lit.int .i64 n).wf=true∧U4 (.slice yP) l
theorem ahA (d:DC) (n:Int) (l:List Ph) (h:ahB d n l):ahC d n l (fun r=>r=true):=by
 have hd:vZ d:=fun x hx=>(h.1.1.1.1.2 x hx).2.2.2.2.2.1
 have hc:=aqe h.2.2
 refine ⟨hc,fun _=>rfl,fun h0=>?_⟩
 obtain ⟨hT,hS⟩:=QY hc (by simpa using h0)
 have hp:LJ d n (gy l).1:=⟨hd,l,hT,by rw [hS]⟩
 have hV:kG d n=(fI d==0&&CP d n):=rfl
 have SI:Dh d n l (fun r=>r=true):=by
  unfold Dh
  rw [hV]
  cases q0:(fI d != 0) with
  | true =>
   have e0:(fI d==0)=false:=by simpa using q0
   have e:gY d n (gy l).1=(false,fI d):=by
    unfold gY mU
    rw [aT q0,aT q0]
   rw [e0,gZ,aQ dc]
   refine ⟨fun _=>?_,fun h=>?_⟩
   ·rw [e]; simp
   rw [h] at q0; cases q0
  | false =>
   have e0:(fI d==0)=true:=by simpa using q0
   rw [e0,fu]
   cases q1:CP d n with
   | true =>
    have e:gY d n (gy l).1=(false,5):=by
     unfold gY mU
     rw [aF q0,aT q1]; rfl
    rw [bn rfl]
    refine ⟨fun _=>?_,fun h=>by cases h⟩
    rw [e]; rfl
   | false =>
    obtain ⟨hG,hn,hb,ho⟩:=Nz hd hT q0 q1
    have e:gY d n (gy l).1=(ug d n l,0):=by
     unfold gY mU
     rw [aF q0,aF q1,hS,Jq hT]; rfl
    have e5:fI d=0:=by simpa using q0
    have j33:G6 d n l (fun r=>r=true):=by
     show Di d n l=true
     unfold Di
     rw [e,show pW d n l=ug d n l from Qp hG (agQ ho) hn]
     simp
    rw [aQ dc,e5]
    exact ⟨(fun h=>by cases h),fun _=>⟨fun _=>⟨⟨b3 l+1,nl,hb,hG,hn,ho⟩,j33⟩,fun _=>j33⟩⟩
 have j20:Df d n l (fun r=>r=true):=⟨fun _=>SI,fun _=>SI⟩
 exact ⟨hp,hd,fun _=>⟨fun _=>j20,fun _=>j20⟩,fun _=>j20⟩
theorem ahz {g:ak} {z0:Option Addr} {v0:Nat} (xd:Dc) (xn:Int) {y0:Option Addr} {u0:Nat} (xl:List PH) (k0:bG g qh [.slice z0 xd.1.length v0] xd.1) (s0:bG g (.slice yP) [.slice y0 xl.length u0] xl) (hG0:bP g 0) (hG3:ma g 3 (.int .u64) yR)  (hp:ahB xd xn xl):bE prog 4 #[.agg (aD xd z0 v0),iv xn,.slice y0 xl.length u0] g (.bool true) :=
 (aaV xd xn xl k0 s0 hG0 hG3 _ (ahA xd xn xl hp)).gv
end
end Go.Proofs.YtdapgmigogpdcaaGreatDoor.Ma
