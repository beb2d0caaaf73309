/- selector: what is wrong with a test, with paths, by the program. -/
import Derived.Test.YtdapgmigogpdcaaGreatDoorSed
namespace Go.Proofs.YtdapgmigogpdcaaGreatDoor.Se
open _root_.Go.Proofs.Tryz Go Go.Eng Go.RowKit Bld Trm Css Tk Ti
set_option linter.unusedVariables false
set_option linter.unusedSimpArgs false
set_option maxHeartbeats 4000000
set_option maxRecDepth 100000
def l0 (x:Lb) (i:Int):Bool:=(decide (x.1<1)||(decide (x.1>11)||((decide (x.1≤2)&&decide (i>0))||((!((decide (x.1≥2)&&decide (x.1≤5))==!(x.2.1==([]:Bs))))||((decide (x.1≥2)&&decide (x.1≤5))&&(!(plainS x.2.1)))))))
def l1 (x:Lb):Bool:=(if (x.1==2)=true then !(x.2.1==lowerS x.2.1) else ((x.1==5)&&(!(x.2.1==lowerS x.2.1))))
def l2 (x:Lb):Bool:=(if (x.2.2.1 != 0)=true then ((x.1 != 5)||((!(hbyS ([61,126,124,94,36,42]:Bs) x.2.2.1))||((x.2.2.1==0)&&(!(x.2.2.2.1==([]:Bs)))))) else ((x.2.2.1==0)&&(!(x.2.2.2.1==([]:Bs)))))
def l3 (x:Lb):Bool:=(if (!((x.1==8)||(x.1==9)))=true then ((x.2.2.2.2.1 != 0)||((x.2.2.2.2.2 != 0)||((decide ((if x.2.2.2.2.2<x.2.2.2.2.1 then x.2.2.2.2.2 else x.2.2.2.2.1)<(-1000)))||(decide ((if x.2.2.2.2.1<x.2.2.2.2.2 then x.2.2.2.2.2 else x.2.2.2.2.1)>1000))))) else ((decide ((if x.2.2.2.2.2<x.2.2.2.2.1 then x.2.2.2.2.2 else x.2.2.2.2.1)<(-1000)))||(decide ((if x.2.2.2.2.1<x.2.2.2.2.2 then x.2.2.2.2.2 else x.2.2.2.2.1)>1000))))
def labS (x:Lb) (i:Int):Bool:=!(l0 x i)&&(!(l1 x)&&(!(l2 x)&&!(l3 x)))
def jnB (z:Int):Bool:=hbyS ([32,62,43,126]:Bs) z
mutual
def okT:Ts→Int→Bool
 | .mk x l,i=>labS x i&&(if ((x.1==10)||(x.1==11))=true then ok3 l&&decide ((l.length:Int)>0) else ((l.length:Int)==0))
def ok3:List Ph→Bool
 | []=>true
 | (p,js)::l=>!(((p.length:Int)==0)||((js.length:Int) != (p.length:Int) - 1))&&(ok2 p&&(js.all jnB&&ok3 l))
def ok2:List (List Ts)→Bool
 | []=>true
 | s::l=>ok1 s 0&&(!((s.length:Int)==0)&&ok2 l)
def ok1:List Ts→Int→Bool
 | [],_=>true
 | t::l,i=>okT t i&&ok1 l (i+1)
end
def tstS (t:Ts) (i:Int):Bool:=okT t i
def ptsS (l:List Ph):Bool:=ok3 l&&decide ((l.length:Int)>0)
theorem okT_eq (t:Ts) (i:Int):okT t i=(labS t.lab i&&(if ((t.lab.1==10)||(t.lab.1==11))=true then ptsS t.kids else ((t.kids.length:Int)==0))):=by obtain ⟨x,l⟩:=t; rw [okT]; rfl
theorem ok3_cons (q:Ph) (l:List Ph):ok3 (q::l)=(!(((q.1.length:Int)==0)||((q.2.length:Int) != (q.1.length:Int) - 1))&&(ok2 q.1&&(q.2.all jnB&&ok3 l))):=by obtain ⟨p,js⟩:=q; rw [ok3]
def tstP (N:Nat) (t:Ts) (i:Int):Prop:=bT t<N∧bT t≤1048600∧okB t
def ptsP (N:Nat) (l:List Ph):Prop:=b3 l<N∧b3 l≤1048600∧okB3 l
theorem ptsP_in {N:Nat} {l:List Ph} (h:ptsP (N+1) l) {q:Ph} (hq:q ∈ l) {s:List Ts} (hs:s ∈ q.1) {t:Ts} (ht:t ∈ s) (i:Int):tstP N t i:=by
 have h1:=w3_in hq
 have h2:=w2_in hs
 have h3:=w1_in ht
 have h5:=b3_eq l
 obtain ⟨a,b,c⟩:=h
 exact ⟨by omega,by omega,(c q hq).2 s hs t ht⟩
theorem tstP_kids {N:Nat} {t:Ts} {i:Int} (h:tstP (N+1) t i):ptsP N t.kids:=by
 have:=bT_kids t
 obtain ⟨a,b,c⟩:=h
 exact ⟨by omega,by omega,(okB_kids c).2⟩
def tst_C (N:Nat):Prop:=∀ (g:Ghost) {k0:Option Addr} {y0:Nat} (xt:TS) (xat:Int) (m0:Rep g (.slice yP) [.slice k0 xt.kids.length y0] xt.kids) (hG0:SomeInt g 0)  (hp:tstP N xt xat),CallsG prog 64 #[.agg (aL xt.lab k0 xt.kids.length y0),iv xat] g (.bool (tstS xt xat))
def pts_C (N:Nat):Prop:=∀ (g:Ghost) {j0:Option Addr} {x0:Nat} (xl:List PH) (s0:Rep g (.slice yP) [.slice j0 xl.length x0] xl) (hG0:SomeInt g 0)  (hp:ptsP N xl),CallsG prog 39 #[.slice j0 xl.length x0] g (.bool (ptsS xl))
def tstV0 (xt:TS) (xat:Int):Bool :=
 (decide (xt.lab.1<1)||(decide (xt.lab.1>11)||((decide (xt.lab.1≤2)&&decide (xat>0))||((!((decide (xt.lab.1≥2)&&decide (xt.lab.1≤5))==!(xt.lab.2.1==([]:Bs))))||((decide (xt.lab.1≥2)&&decide (xt.lab.1≤5))&&(!(plainS xt.lab.2.1)))))))
def tstV1 (xt:TS):Bool :=
 (if (xt.lab.1==2)=true then !(xt.lab.2.1==lowerS xt.lab.2.1) else ((xt.lab.1==5)&&(!(xt.lab.2.1==lowerS xt.lab.2.1))))
def tstV2 (xt:TS):Bool :=
 (if (xt.lab.2.2.1 != 0)=true then ((xt.lab.1 != 5)||((decide (ibS ([61,126,124,94,36,42]:Bs) xt.lab.2.2.1<0))||((xt.lab.2.2.1==0)&&(!(xt.lab.2.2.2.1==([]:Bs)))))) else ((xt.lab.2.2.1==0)&&(!(xt.lab.2.2.2.1==([]:Bs)))))
def tstV3 (xt:TS):Bool :=
 (if (!((xt.lab.1==8)||(xt.lab.1==9)))=true then ((xt.lab.2.2.2.2.1 != 0)||((xt.lab.2.2.2.2.2 != 0)||((decide ((if xt.lab.2.2.2.2.2<xt.lab.2.2.2.2.1 then xt.lab.2.2.2.2.2 else xt.lab.2.2.2.2.1)<(-1000)))||(decide ((if xt.lab.2.2.2.2.1<xt.lab.2.2.2.2.2 then xt.lab.2.2.2.2.2 else xt.lab.2.2.2.2.1)>1000))))) else ((decide ((if xt.lab.2.2.2.2.2<xt.lab.2.2.2.2.1 then xt.lab.2.2.2.2.2 else xt.lab.2.2.2.2.1)<(-1000)))||(decide ((if xt.lab.2.2.2.2.1<xt.lab.2.2.2.2.2 then xt.lab.2.2.2.2.2 else xt.lab.2.2.2.2.1)>1000))))
def tstj3i117 (N:Nat) (xt:TS) (K:Bool→Prop):Prop :=
 (((xt.lab.1==10)||(xt.lab.1==11))=true→ptsP N xt.kids∧K (ptsS xt.kids))∧(((xt.lab.1==10)||(xt.lab.1==11))=false→K ((xt.kids.length:Int)==0))
def tstj30 (N:Nat) (xt:TS) (K:Bool→Prop):Prop :=
 (tstV3 xt=true→K false)∧(tstV3 xt=false→((xt.lab.1==10)=true→tstj3i117 N xt K)∧((xt.lab.1==10)=false→tstj3i117 N xt K))
def tstj3i88 (N:Nat) (xt:TS) (K:Bool→Prop):Prop :=
 ((!((xt.lab.1==8)||(xt.lab.1==9)))=true→((xt.lab.2.2.2.2.1 != 0)=true→tstj30 N xt K)∧((xt.lab.2.2.2.2.1 != 0)=false→((xt.lab.2.2.2.2.2 != 0)=true→tstj30 N xt K)∧((xt.lab.2.2.2.2.2 != 0)=false→((decide ((if xt.lab.2.2.2.2.2<xt.lab.2.2.2.2.1 then xt.lab.2.2.2.2.2 else xt.lab.2.2.2.2.1)<(-1000)))=true→tstj30 N xt K)∧((decide ((if xt.lab.2.2.2.2.2<xt.lab.2.2.2.2.1 then xt.lab.2.2.2.2.2 else xt.lab.2.2.2.2.1)<(-1000)))=false→tstj30 N xt K))))∧((!((xt.lab.1==8)||(xt.lab.1==9)))=false→((decide ((if xt.lab.2.2.2.2.2<xt.lab.2.2.2.2.1 then xt.lab.2.2.2.2.2 else xt.lab.2.2.2.2.1)<(-1000)))=true→tstj30 N xt K)∧((decide ((if xt.lab.2.2.2.2.2<xt.lab.2.2.2.2.1 then xt.lab.2.2.2.2.2 else xt.lab.2.2.2.2.1)<(-1000)))=false→tstj30 N xt K))
def tstj22 (N:Nat) (xt:TS) (K:Bool→Prop):Prop :=
 (tstV2 xt=true→K false)∧(tstV2 xt=false→((xt.lab.1==8)=true→tstj3i88 N xt K)∧((xt.lab.1==8)=false→tstj3i88 N xt K))
def tstj14 (N:Nat) (xt:TS) (K:Bool→Prop):Prop :=
 (tstV1 xt=true→K false)∧(tstV1 xt=false→((xt.lab.2.2.1 != 0)=true→((xt.lab.1 != 5)=true→tstj22 N xt K)∧((xt.lab.1 != 5)=false→((decide (ibS ([61,126,124,94,36,42]:Bs) xt.lab.2.2.1<0))=true→tstj22 N xt K)∧((decide (ibS ([61,126,124,94,36,42]:Bs) xt.lab.2.2.1<0))=false→((xt.lab.2.2.1==0)=true→tstj22 N xt K)∧((xt.lab.2.2.1==0)=false→tstj22 N xt K))))∧((xt.lab.2.2.1 != 0)=false→((xt.lab.2.2.1==0)=true→tstj22 N xt K)∧((xt.lab.2.2.1==0)=false→tstj22 N xt K)))
def tstj6 (N:Nat) (xt:TS) (xat:Int) (K:Bool→Prop):Prop :=
 (tstV0 xt xat=true→K false)∧(tstV0 xt xat=false→((xt.lab.1==2)=true→lowerP xt.lab.2.1∧tstj14 N xt K)∧((xt.lab.1==2)=false→((xt.lab.1==5)=true→lowerP xt.lab.2.1∧tstj14 N xt K)∧((xt.lab.1==5)=false→tstj14 N xt K)))
def tstj3 (N:Nat) (xt:TS) (xat:Int) (K:Bool→Prop):Prop :=
 (decide (xt.lab.1<1)=true→tstj6 N xt xat K)∧(decide (xt.lab.1<1)=false→(decide (xt.lab.1>11)=true→tstj6 N xt xat K)∧(decide (xt.lab.1>11)=false→((decide (xt.lab.1≤2)&&decide (xat>0))=true→tstj6 N xt xat K)∧((decide (xt.lab.1≤2)&&decide (xat>0))=false→((!((decide (xt.lab.1≥2)&&decide (xt.lab.1≤5))==!(xt.lab.2.1==([]:Bs))))=true→tstj6 N xt xat K)∧((!((decide (xt.lab.1≥2)&&decide (xt.lab.1≤5))==!(xt.lab.2.1==([]:Bs))))=false→((decide (xt.lab.1≥2)&&decide (xt.lab.1≤5))=true→cutP xt.lab.2.1∧tstj6 N xt xat K)∧((decide (xt.lab.1≥2)&&decide (xt.lab.1≤5))=false→tstj6 N xt xat K)))))
def tstF (N:Nat) (xt:TS) (xat:Int) (K:Bool→Prop):Prop :=
 (decide (xt.lab.1≥2)=true→tstj3 N xt xat K)∧(decide (xt.lab.1≥2)=false→tstj3 N xt xat K)
theorem tst_ok {g:Ghost} (N:Nat) (ih_tst:tst_C N) (ih_pts:pts_C N) {k0:Option Addr} {y0:Nat} (xt:TS) (xat:Int) (m0:Rep g (.slice yP) [.slice k0 xt.kids.length y0] xt.kids) (hG0:SomeInt g 0) (K:Bool→Prop)
  (hF:tstF N xt xat K):CallsH prog 64 #[.agg (aL xt.lab k0 xt.kids.length y0),iv xat] g [] (fun g' H' v=>∃ (r0:Bool),v=.bool r0∧H'=[]∧K r0):=by
 refine CallsH.en 125 func64 rfl fun w0=>?_
 refine Ok.sr (Ok.o (OpOk.bx (aL xt.lab k0 xt.kids.length y0) fun bs2=>?_))
 refine Ok.B 1 [(1,iv xat),(2,pv bs2 0)] kr (Ok.nt (Ok.ct [(1,iv xat),(2,pv bs2 0),(5,.bool (decide (xt.lab.1≥2)&&decide (xt.lab.1≤5)))] [.blk bs2 (.cells (aL xt.lab k0 xt.kids.length y0) 60)] (tstj3 N xt xat K) ?_ (fun hF=>?_)))
 ·
  refine Ok.r (Ok.rn 4 [.e 0] [1,2] [(9,.bool (decide (xt.lab.1≥2)))] ?_)
  refine Ok.bw 9 hF (fun H0 hF=>?_) (fun H0 hF=>?_)
  ·refine Ok.rn 5 [.e 0] [1,2] [(5,.bool (decide (xt.lab.1≤5)))] ?_
   refine Ok.nt (Ok.rb 5 (decide (xt.lab.1≥2)&&decide (xt.lab.1≤5)) (mand_t H0) ?_)
   exact fz hF
  refine Ok.b 5 [1,2] [(5,.bool false)] ?_
  refine Ok.nt (Ok.rb 5 (decide (xt.lab.1≥2)&&decide (xt.lab.1≤5)) (mand_f H0) ?_)
  exact fz hF
 refine Ok.q (Ok.ct [(2,pv bs2 0),(46,.bool (tstV0 xt xat))] [.blk bs2 (.cells (aL xt.lab k0 xt.kids.length y0) 60)] (tstj6 N xt xat K) ?_ (fun hF=>?_))
 ·
  refine Ok.r (Ok.rn 4 [.e 0] [1,2,5] [(17,.bool (decide (xt.lab.1<1)))] ?_)
  refine Ok.bw 17 hF (fun o0 hF=>?_) (fun o0 hF=>?_)
  ·refine Ok.b 29 [2] [(46,.bool true)] ?_
   refine Ok.nt (Ok.rb 46 (tstV0 xt xat) (mor_t o0) ?_)
   exact fz hF
  refine Ok.rn 5 [.e 0] [1,2,5] [(22,.bool (decide (xt.lab.1>11)))] ?_
  refine Ok.bw 22 hF (fun Y0 hF=>?_) (fun Y0 hF=>?_)
  ·refine Ok.b 24 [2] [(46,.bool true)] ?_
   refine Ok.nt (Ok.rb 46 (tstV0 xt xat) (Eq.trans (mor_t Y0) (mor_f o0)) ?_)
   exact fz hF
  refine Ok.rn 4 [.e 0] [1,2,5] [(22,.bool false),(26,.bool (decide (xt.lab.1≤2)))] ?_
  refine Ok.w 3 [(2,pv bs2 0),(5,.bool (decide (xt.lab.1≥2)&&decide (xt.lab.1≤5))),(22,.bool false),(29,.bool (decide (xt.lab.1≤2)&&decide (xat>0)))] (fun T0=>?_) ?_
  ·refine Ok.a 26 (decide (xt.lab.1≤2)) rfl (fun M0=>?_) (fun M0=>?_)
   ·skip
    refine Ok.b 3 [2,5,22] [(29,.bool (decide (xat>0)))] ?_
    refine Ok.rb 29 (decide (xt.lab.1≤2)&&decide (xat>0)) (mand_t M0) (Ok.b 0 [2,5,22] [(29,.bool (decide (xt.lab.1≤2)&&decide (xat>0)))] ?_)
    exact T0
   skip
   refine Ok.b 3 [2,5,22] [(29,.bool false)] ?_
   refine Ok.rb 29 (decide (xt.lab.1≤2)&&decide (xat>0)) (mand_f M0) (Ok.b 0 [2,5,22] [(29,.bool (decide (xt.lab.1≤2)&&decide (xat>0)))] ?_)
   exact T0
  refine Ok.b 2 [2,5] [(31,.bool (decide (xt.lab.1≤2)&&decide (xat>0)))] ?_
  refine Ok.bw 31 hF (fun J0 hF=>?_) (fun J0 hF=>?_)
  ·refine Ok.b 15 [2] [(46,.bool true)] ?_
   refine Ok.nt (Ok.rb 46 (tstV0 xt xat) (Eq.trans (Eq.trans (mor_t J0) (mor_f Y0)) (mor_f o0)) ?_)
   exact fz hF
  refine Ok.rn 7 [.e 0] [2,5] [(38,.bool (!((decide (xt.lab.1≥2)&&decide (xt.lab.1≤5))==!(xt.lab.2.1==([]:Bs)))))] ?_
  refine Ok.bw 38 hF (fun D0 hF=>?_) (fun D0 hF=>?_)
  ·refine Ok.b 8 [2] [(46,.bool true)] ?_
   refine Ok.nt (Ok.rb 46 (tstV0 xt xat) (Eq.trans (Eq.trans (Eq.trans (mor_t D0) (mor_f J0)) (mor_f Y0)) (mor_f o0)) ?_)
   exact fz hF
  refine Ok.b 2 [2] [(38,.bool false),(40,.bool (decide (xt.lab.1≥2)&&decide (xt.lab.1≤5)))] ?_
  refine Ok.bw 40 hF (fun N0 hF=>?_) (fun N0 hF=>?_)
  ·obtain ⟨hp33,hF⟩:=hF
   refine Ok.rn 6 [.e 0,.k (snm_c xt.lab.2.1 hG0 hp33)] [2] [(46,.bool (!(plainS xt.lab.2.1)))] ?_
   refine Ok.nt (Ok.rb 46 (tstV0 xt xat) (Eq.trans (Eq.trans (Eq.trans (Eq.trans (mand_t N0) (mor_f D0)) (mor_f J0)) (mor_f Y0)) (mor_f o0)) ?_)
   exact fz hF
  refine Ok.b 6 [2] [(46,.bool false)] ?_
  refine Ok.nt (Ok.rb 46 (tstV0 xt xat) (Eq.trans (Eq.trans (Eq.trans (Eq.trans (mand_f N0) (mor_f D0)) (mor_f J0)) (mor_f Y0)) (mor_f o0)) ?_)
  exact fz hF
 refine Ok.cw hF (fun hc2 hF=>?_) (fun hc2 hF=>?_)
 ·refine Ok.sr (Ok.B 1 [(4,.bool false)] kr (Ok.nt (Ok.ret (Ok.tr ?_))))
  exact Ok.pb false hF
 refine Ok.k (Ok.t (Ok.q (Ok.ct [(2,pv bs2 0),(62,.bool (tstV1 xt))] [.blk bs2 (.cells (aL xt.lab k0 xt.kids.length y0) 60)] (tstj14 N xt K) ?_ (fun hF=>?_))))
 ·
  refine Ok.quiet' kr kr (OkQ.b 1 [2] [(47,pv bs2 0)] ?_)
  refine OkQ.op rfl (OpQ.s (v:=iv xt.lab.1) (Yields.l 0 rfl rfl underlying3 rfl kr) rfl rfl (OkQ.b 2 [2] [(50,.bool (xt.lab.1==2))] ?_))
  refine OkQ.boolAt 50 (xt.lab.1==2) rfl (fun U0=>?_) (fun U0=>?_)
  ·replace hF:=hF.1 U0
   refine OkQ.b 6 [2] [(55,.bool true),(56,pv bs2 1)] ?_
   refine OkQ.y (j:=8) (d:=55) (want:=true) (b:=true) rfl kr kr rfl (OpQ.s (v:=sv xt.lab.2.1) (Yields.l 0 rfl rfl underlying9 rfl kr) rfl rfl (OkQ.b 1 [2,55] [(57,sv xt.lab.2.1),(58,pv bs2 1)] ?_))
   refine OkQ.y (j:=8) (d:=55) (want:=true) (b:=true) rfl kr kr rfl (OpQ.s (v:=sv xt.lab.2.1) (Yields.l 0 rfl rfl underlying9 rfl kr) rfl rfl ?_)
   obtain ⟨hp23,hF⟩:=hF
   refine OkQ.y (j:=8) (d:=55) (want:=true) (b:=true) rfl kr kr rfl (OpQ.f enr (fun W hW=>slw_c xt.lab.2.1 hp23) rfl ?_)
   refine OkQ.y (j:=8) (d:=55) (want:=true) (b:=true) rfl kr kr rfl (OpQ.s (v:=.bool (!(xt.lab.2.1==lowerS xt.lab.2.1))) (Yields.sc (f:=.neq) (a:=xt.lab.2.1) (b:=lowerS xt.lab.2.1) kr kr rfl) rfl rfl (OkQ.b 1 [2] [(62,.bool (!(xt.lab.2.1==lowerS xt.lab.2.1)))] ?_))
   refine OkQ.j (Ok.t (Ok.rb 62 (tstV1 xt) ((if_t U0).symm) ?_))
   exact fz hF
  replace hF:=hF.2 U0
  refine OkQ.b 1 [2] [(50,.bool false),(51,pv bs2 0)] ?_
  refine OkQ.y (j:=3) (d:=50) (want:=false) (b:=false) rfl kr kr rfl (OpQ.s (v:=iv xt.lab.1) (Yields.l 0 rfl rfl underlying3 rfl kr) rfl rfl (OkQ.b 3 [2] [(55,.bool (xt.lab.1==5))] ?_))
  refine OkQ.boolAt 55 (xt.lab.1==5) rfl (fun W0=>?_) (fun W0=>?_)
  ·replace hF:=hF.1 W0
   refine OkQ.b 1 [2] [(55,.bool true),(56,pv bs2 1)] ?_
   refine OkQ.y (j:=8) (d:=55) (want:=true) (b:=true) rfl kr kr rfl (OpQ.s (v:=sv xt.lab.2.1) (Yields.l 0 rfl rfl underlying9 rfl kr) rfl rfl (OkQ.b 1 [2,55] [(57,sv xt.lab.2.1),(58,pv bs2 1)] ?_))
   refine OkQ.y (j:=8) (d:=55) (want:=true) (b:=true) rfl kr kr rfl (OpQ.s (v:=sv xt.lab.2.1) (Yields.l 0 rfl rfl underlying9 rfl kr) rfl rfl ?_)
   obtain ⟨hp25,hF⟩:=hF
   refine OkQ.y (j:=8) (d:=55) (want:=true) (b:=true) rfl kr kr rfl (OpQ.f enr (fun W hW=>slw_c xt.lab.2.1 hp25) rfl ?_)
   refine OkQ.y (j:=8) (d:=55) (want:=true) (b:=true) rfl kr kr rfl (OpQ.s (v:=.bool (!(xt.lab.2.1==lowerS xt.lab.2.1))) (Yields.sc (f:=.neq) (a:=xt.lab.2.1) (b:=lowerS xt.lab.2.1) kr kr rfl) rfl rfl (OkQ.b 1 [2] [(62,.bool (!(xt.lab.2.1==lowerS xt.lab.2.1)))] ?_))
   refine OkQ.j (Ok.t (Ok.rb 62 (tstV1 xt) (Eq.trans (mand_t W0) ((if_f U0).symm)) ?_))
   exact fz hF
  replace hF:=hF.2 W0
  refine OkQ.b 7 [2] [(62,.bool false)] ?_
  refine OkQ.j (Ok.t (Ok.rb 62 (tstV1 xt) (Eq.trans (mand_f W0) ((if_f U0).symm)) ?_))
  exact fz hF
 refine Ok.cw hF (fun hc3 hF=>?_) (fun hc3 hF=>?_)
 ·refine Ok.sr (Ok.B 1 [(4,.bool false)] kr (Ok.nt (Ok.ret (Ok.tr ?_))))
  exact Ok.pb false hF
 refine Ok.k (Ok.t (Ok.q (Ok.ct [(2,pv bs2 0),(86,.bool (tstV2 xt))] [.blk bs2 (.cells (aL xt.lab k0 xt.kids.length y0) 60)] (tstj22 N xt K) ?_ (fun hF=>?_))))
 ·
  refine Ok.r (Ok.rn 4 [.e 0] [2] [(66,.bool (xt.lab.2.2.1 != 0))] ?_)
  refine Ok.bw 66 hF (fun t0 hF=>?_) (fun t0 hF=>?_)
  ·refine Ok.rn 4 [.e 0] [2] [(66,.bool true),(70,.bool (xt.lab.1 != 5))] ?_
   refine Ok.bw 70 hF (fun X0 hF=>?_) (fun X0 hF=>?_)
   ·refine Ok.b 16 [2] [(86,.bool true)] ?_
    refine Ok.nt (Ok.rb 86 (tstV2 xt) (Eq.trans (mor_t X0) ((if_t t0).symm)) ?_)
    exact fz hF
   refine Ok.rn 7 [.e 0,.k (ib_c ([61,126,124,94,36,42]:Bs) xt.lab.2.2.1)] [2] [(77,.bool (decide (ibS ([61,126,124,94,36,42]:Bs) xt.lab.2.2.1<0)))] ?_
   refine Ok.bw 77 hF (fun n0 hF=>?_) (fun n0 hF=>?_)
   ·refine Ok.b 9 [2] [(86,.bool true)] ?_
    refine Ok.nt (Ok.rb 86 (tstV2 xt) (Eq.trans (Eq.trans (mor_t n0) (mor_f X0)) ((if_t t0).symm)) ?_)
    exact fz hF
   refine Ok.rn 4 [.e 0] [2] [(77,.bool false),(81,.bool (xt.lab.2.2.1==0))] ?_
   refine Ok.bw 81 hF (fun a0 hF=>?_) (fun a0 hF=>?_)
   ·refine Ok.rn 5 [.e 0] [2] [(86,.bool (!(xt.lab.2.2.2.1==([]:Bs))))] ?_
    refine Ok.nt (Ok.rb 86 (tstV2 xt) (Eq.trans (Eq.trans (Eq.trans (mand_t a0) (mor_f n0)) (mor_f X0)) ((if_t t0).symm)) ?_)
    exact fz hF
   refine Ok.b 5 [2] [(86,.bool false)] ?_
   refine Ok.nt (Ok.rb 86 (tstV2 xt) (Eq.trans (Eq.trans (Eq.trans (mand_f a0) (mor_f n0)) (mor_f X0)) ((if_t t0).symm)) ?_)
   exact fz hF
  refine Ok.rn 15 [.e 0] [2] [(77,.bool false),(81,.bool (xt.lab.2.2.1==0))] ?_
  refine Ok.bw 81 hF (fun O0 hF=>?_) (fun O0 hF=>?_)
  ·refine Ok.rn 5 [.e 0] [2] [(86,.bool (!(xt.lab.2.2.2.1==([]:Bs))))] ?_
   refine Ok.nt (Ok.rb 86 (tstV2 xt) (Eq.trans (mand_t O0) ((if_f t0).symm)) ?_)
   exact fz hF
  refine Ok.b 5 [2] [(86,.bool false)] ?_
  refine Ok.nt (Ok.rb 86 (tstV2 xt) (Eq.trans (mand_f O0) ((if_f t0).symm)) ?_)
  exact fz hF
 refine Ok.cw hF (fun hc4 hF=>?_) (fun hc4 hF=>?_)
 ·refine Ok.sr (Ok.B 1 [(4,.bool false)] kr (Ok.nt (Ok.ret (Ok.tr ?_))))
  exact Ok.pb false hF
 refine Ok.k (Ok.t (Ok.q (Ok.ct [(2,pv bs2 0),(115,.bool (tstV3 xt))] [.blk bs2 (.cells (aL xt.lab k0 xt.kids.length y0) 60)] (tstj30 N xt K) ?_ (fun hF=>?_))))
 ·
  refine Ok.r (Ok.o (OpOk.s (v:=.agg (aL xt.lab k0 xt.kids.length y0)) (Yields.loadAgg 0 7 (aL xt.lab k0 xt.kids.length y0) rfl rfl underlying60 rfl kr kr kr) rfl rfl (Ok.o (OpOk.i (args:=#[.agg (aL xt.lab k0 xt.kids.length y0)]) 11 [(0,.agg (aL xt.lab k0 xt.kids.length y0))] enr func107 rfl rfl rfl rfl (Ok.sr (Ok.o (OpOk.bx (aL xt.lab k0 xt.kids.length y0) fun bs1i88=>?_)))))))
  refine Ok.B 1 [(1,pv bs1i88 0)] kr (Ok.nt (Ok.ct [(2,.bool ((xt.lab.1==8)||(xt.lab.1==9)))] [.blk bs2 (.cells (aL xt.lab k0 xt.kids.length y0) 60)] (tstj3i88 N xt K) ?_ (fun hF=>?_)))
  ·
   refine Ok.r (Ok.rn 4 [.e 0] [1] [(6,.bool (xt.lab.1==8))] ?_)
   refine Ok.bw 6 hF (fun i0 hF=>?_) (fun i0 hF=>?_)
   ·refine Ok.B 5 [(2,.bool true)] kr (Ok.nt (Ok.rb 2 ((xt.lab.1==8)||(xt.lab.1==9)) (mor_t i0) ?_))
    exact fz hF
   refine Ok.rn 5 [.e 0] [] [(2,.bool (xt.lab.1==9))] ?_
   refine Ok.nt (Ok.rb 2 ((xt.lab.1==8)||(xt.lab.1==9)) (mor_f i0) ?_)
   exact fz hF
  refine Ok.ret (Ok.back (vs:=[.bool ((xt.lab.1==8)||(xt.lab.1==9))]) (.inl rfl) rfl (.cons (.tmp rfl) .nil) rfl (Ok.B 2 [(2,pv bs2 0),(90,.bool (!((xt.lab.1==8)||(xt.lab.1==9))))] kr (Ok.bw 90 hF (fun Z0 hF=>?_) (fun Z0 hF=>?_))))
  ·refine Ok.rn 4 [.e 0] [2] [(90,.bool true),(94,.bool (xt.lab.2.2.2.2.1 != 0))] ?_
   refine Ok.bw 94 hF (fun S0 hF=>?_) (fun S0 hF=>?_)
   ·refine Ok.b 21 [2] [(115,.bool true)] ?_
    refine Ok.nt (Ok.rb 115 (tstV3 xt) (Eq.trans (mor_t S0) ((if_t Z0).symm)) ?_)
    exact fz hF
   refine Ok.rn 6 [.e 0] [2] [(100,.bool (xt.lab.2.2.2.2.2 != 0))] ?_
   refine Ok.bw 100 hF (fun E0 hF=>?_) (fun E0 hF=>?_)
   ·refine Ok.b 15 [2] [(115,.bool true)] ?_
    refine Ok.nt (Ok.rb 115 (tstV3 xt) (Eq.trans (Eq.trans (mor_t E0) (mor_f S0)) ((if_t Z0).symm)) ?_)
    exact fz hF
   refine Ok.rn 8 [.e 0,.e 0] [2] [(108,.bool (decide ((if xt.lab.2.2.2.2.2<xt.lab.2.2.2.2.1 then xt.lab.2.2.2.2.2 else xt.lab.2.2.2.2.1)<(-1000))))] ?_
   refine Ok.bw 108 hF (fun V0 hF=>?_) (fun V0 hF=>?_)
   ·refine Ok.b 7 [2] [(115,.bool true)] ?_
    refine Ok.nt (Ok.rb 115 (tstV3 xt) (Eq.trans (Eq.trans (Eq.trans (mor_t V0) (mor_f E0)) (mor_f S0)) ((if_t Z0).symm)) ?_)
    exact fz hF
   refine Ok.rn 7 [.e 0,.e 0] [2] [(115,.bool (decide ((if xt.lab.2.2.2.2.1<xt.lab.2.2.2.2.2 then xt.lab.2.2.2.2.2 else xt.lab.2.2.2.2.1)>1000)))] ?_
   refine Ok.nt (Ok.rb 115 (tstV3 xt) (Eq.trans (Eq.trans (Eq.trans (mor_f V0) (mor_f E0)) (mor_f S0)) ((if_t Z0).symm)) ?_)
   exact fz hF
  refine Ok.rn 18 [.e 0,.e 0] [2] [(108,.bool (decide ((if xt.lab.2.2.2.2.2<xt.lab.2.2.2.2.1 then xt.lab.2.2.2.2.2 else xt.lab.2.2.2.2.1)<(-1000))))] ?_
  refine Ok.bw 108 hF (fun Q0 hF=>?_) (fun Q0 hF=>?_)
  ·refine Ok.b 7 [2] [(115,.bool true)] ?_
   refine Ok.nt (Ok.rb 115 (tstV3 xt) (Eq.trans (mor_t Q0) ((if_f Z0).symm)) ?_)
   exact fz hF
  refine Ok.rn 7 [.e 0,.e 0] [2] [(115,.bool (decide ((if xt.lab.2.2.2.2.1<xt.lab.2.2.2.2.2 then xt.lab.2.2.2.2.2 else xt.lab.2.2.2.2.1)>1000)))] ?_
  refine Ok.nt (Ok.rb 115 (tstV3 xt) (Eq.trans (mor_f Q0) ((if_f Z0).symm)) ?_)
  exact fz hF
 refine Ok.cw hF (fun hc5 hF=>?_) (fun hc5 hF=>?_)
 ·refine Ok.sr (Ok.B 1 [(4,.bool false)] kr (Ok.nt (Ok.ret (Ok.tr ?_))))
  exact Ok.pb false hF
 refine Ok.k (Ok.t (Ok.q (Ok.sr (Ok.o (OpOk.s (v:=.agg (aL xt.lab k0 xt.kids.length y0)) (Yields.loadAgg 0 7 (aL xt.lab k0 xt.kids.length y0) rfl rfl underlying60 rfl kr kr kr) rfl rfl (Ok.o (OpOk.i (args:=#[.agg (aL xt.lab k0 xt.kids.length y0)]) 11 [(0,.agg (aL xt.lab k0 xt.kids.length y0))] enr func108 rfl rfl rfl rfl (Ok.sr (Ok.o (OpOk.bx (aL xt.lab k0 xt.kids.length y0) fun bs1i117=>?_))))))))))
 refine Ok.B 1 [(1,pv bs1i117 0)] kr (Ok.nt (Ok.ct [(2,.bool ((xt.lab.1==10)||(xt.lab.1==11)))] [.blk bs2 (.cells (aL xt.lab k0 xt.kids.length y0) 60)] (tstj3i117 N xt K) ?_ (fun hF=>?_)))
 ·
  refine Ok.r (Ok.rn 4 [.e 0] [1] [(6,.bool (xt.lab.1==10))] ?_)
  refine Ok.bw 6 hF (fun hc9 hF=>?_) (fun hc9 hF=>?_)
  ·refine Ok.B 5 [(2,.bool true)] kr (Ok.nt (Ok.rb 2 ((xt.lab.1==10)||(xt.lab.1==11)) (mor_t hc9) ?_))
   exact fz hF
  refine Ok.rn 5 [.e 0] [] [(2,.bool (xt.lab.1==11))] ?_
  refine Ok.nt (Ok.rb 2 ((xt.lab.1==10)||(xt.lab.1==11)) (mor_f hc9) ?_)
  exact fz hF
 refine Ok.ret (Ok.back (vs:=[.bool ((xt.lab.1==10)||(xt.lab.1==11))]) (.inl rfl) rfl (.cons (.tmp rfl) .nil) rfl (Ok.nt (Ok.cw hF (fun hc7 hF=>?_) (fun hc7 hF=>?_))))
 ·refine Ok.q (Ok.r ?_)
  obtain ⟨hp8,hF⟩:=hF
  refine Ok.rn 4 [.e 0,.k (ih_pts _ xt.kids m0 hG0 hp8)] [] [(4,.bool (ptsS xt.kids))] ?_
  refine Ok.nt (Ok.ret (Ok.tr ?_))
  exact Ok.pb (ptsS xt.kids) hF
 refine Ok.k (Ok.t (Ok.sr (Ok.rn 5 [.e 0] [] [(4,.bool ((xt.kids.length:Int)==0))] ?_)))
 refine Ok.nt (Ok.ret ?_)
 exact Ok.pb ((xt.kids.length:Int)==0) hF
def ptsV0 (e3:PH):Bool :=
 (((e3.1.length:Int)==0)||((e3.2.length:Int) != (w6 ((e3.1.length:Int) - 1))))
def ptsl45b (N:Nat) (K:Bool→Prop) (q0:Int) (e8:List TS) (C30:Int→Prop) (v0:Int) (C45:Int→Prop):Prop :=
 ((decide (v0<(e8.length:Int)))=true→0≤v0∧v0.toNat<e8.length∧tstP N (e8.getD v0.toNat default) v0∧((!(tstS (e8.getD v0.toNat default) v0))=true→K false)∧((!(tstS (e8.getD v0.toNat default) v0))=false→C45 (w6 (v0+1))))∧((decide (v0<(e8.length:Int)))=false→(((e8.length:Int)==0)=true→K false)∧(((e8.length:Int)==0)=false→C30 (w6 (q0+1))))
def ptsl45 (N:Nat) (K:Bool→Prop) (q0:Int) (e8:List TS) (C30:Int→Prop):Nat→Int→Prop
 | 0,_=>False
 | k+1,v0=>ptsl45b N K q0 e8 C30 v0 (ptsl45 N K q0 e8 C30 k)
def ptsl75b (K:Bool→Prop) (e3:PH) (z0:Int) (C7:Int→Prop) (u0:Int) (C75:Int→Prop):Prop :=
 ((decide (u0<(e3.2.length:Int)))=true→0≤u0∧u0.toNat<e3.2.length∧((decide ((ibS ([32,62,43,126]:Bs) (e3.2.getD u0.toNat default))<0))=true→K false)∧((decide ((ibS ([32,62,43,126]:Bs) (e3.2.getD u0.toNat default))<0))=false→C75 (w6 (u0+1))))∧((decide (u0<(e3.2.length:Int)))=false→C7 (w6 (z0+1)))
def ptsl75 (K:Bool→Prop) (e3:PH) (z0:Int) (C7:Int→Prop):Nat→Int→Prop
 | 0,_=>False
 | k+1,u0=>ptsl75b K e3 z0 C7 u0 (ptsl75 K e3 z0 C7 k)
def ptsl30b (N:Nat) (K:Bool→Prop) (e3:PH) (z0:Int) (C7:Int→Prop) (q0:Int) (C30:Int→Prop):Prop :=
 ((decide (q0<(e3.1.length:Int)))=true→0≤q0∧q0.toNat<e3.1.length∧∃ k,ptsl45 N K q0 (e3.1.getD q0.toNat default) C30 k 0)∧((decide (q0<(e3.1.length:Int)))=false→∃ k,ptsl75 K e3 z0 C7 k 0)
def ptsl30 (N:Nat) (K:Bool→Prop) (e3:PH) (z0:Int) (C7:Int→Prop):Nat→Int→Prop
 | 0,_=>False
 | k+1,q0=>ptsl30b N K e3 z0 C7 q0 (ptsl30 N K e3 z0 C7 k)
def ptsj19 (N:Nat) (K:Bool→Prop) (e3:PH) (z0:Int) (C7:Int→Prop):Prop :=
 (ptsV0 e3=true→K false)∧(ptsV0 e3=false→∃ k,ptsl30 N K e3 z0 C7 k 0)
def ptsl7b (N:Nat) (xl:List PH) (K:Bool→Prop) (z0:Int) (C7:Int→Prop):Prop :=
 ((decide (z0<(xl.length:Int)))=true→0≤z0∧z0.toNat<xl.length∧((((xl.getD z0.toNat default).1.length:Int)==0)=true→ptsj19 N K (xl.getD z0.toNat default) z0 C7)∧((((xl.getD z0.toNat default).1.length:Int)==0)=false→ptsj19 N K (xl.getD z0.toNat default) z0 C7))∧((decide (z0<(xl.length:Int)))=false→K (decide ((xl.length:Int)>0)))
def ptsl7 (N:Nat) (xl:List PH) (K:Bool→Prop):Nat→Int→Prop
 | 0,_=>False
 | k+1,z0=>ptsl7b N xl K z0 (ptsl7 N xl K k)
def ptsF (N:Nat) (xl:List PH) (K:Bool→Prop):Prop :=
 ∃ k,ptsl7 N xl K k 0
theorem pts_ok {g:Ghost} (N:Nat) (ih_tst:tst_C N) (ih_pts:pts_C N) {j0:Option Addr} {x0:Nat} (xl:List PH) (s0:Rep g (.slice yP) [.slice j0 xl.length x0] xl) (hG0:SomeInt g 0) (K:Bool→Prop)
  (hF:ptsF N xl K):CallsH prog 39 #[.slice j0 xl.length x0] g [] (fun g' H' v=>∃ (r0:Bool),v=.bool r0∧H'=[]∧K r0):=by
 refine CallsH.en 69 func39 rfl fun w0=>?_
 refine Ok.sr (Ok.B 1 [(0,.slice j0 xl.length x0)] kr (Ok.nt (Ok.q (Ok.sr (Ok.b 3 [0] [(11,.slice j0 xl.length x0),(12,iv (xl.length:Int)),(13,iv 0)] ?_)))))
 refine Ok.nt (Ok.block ?_)
 obtain ⟨k,hF⟩:=hF
 refine Ok.L (fun k a W=>∃ (z0:Int),StA 69 [(0,.slice j0 xl.length x0),(11,.slice j0 xl.length x0),(12,iv (xl.length:Int)),(13,iv z0)] a∧StW w0 [] g W∧ptsl7 N xl K k z0) k ?_ ?_
 ·
  exact fun _ _ u v=>⟨0,fA u v hF⟩
 clear hF
 rintro (_ | k7) _ _ ⟨z0,q⟩
 exact (q.2.2:False).elim
 refine jn (fun hF=>?_) _ _ q
 refine Ok.sr (Ok.b 1 [0,11,12,13] [(14,.bool (decide (z0<(xl.length:Int))))] ?_)
 refine Ok.nt (Ok.q (Ok.cw hF (fun hc1 hF=>?_) (fun hc1 hF=>?_)))
 ·refine Ok.k (Ok.t (Ok.q (Ok.block (Ok.q (Ok.r ?_)))))
  obtain ⟨h03,h13,hF⟩:=hF
  have he3:=get_of (l:=xl) default h13
  generalize hg3:(xl.getD z0.toNat default)=e3 at he3 hF ⊢
  refine Ok.o (OpOk.indexRo (e:=yP) rfl rfl underlying33 kr s0 h03 he3 rfl fun q2 o2 cs2 _ P0 hr2=>?_)
  obtain ⟨_,_,rfl,⟨b0,c0,rfl,hm2_0,hr2_0⟩,⟨f0,g0,rfl,hm2_1,hr2_1⟩⟩:=hr2
  have hR2_0:Rep g (.slice (.slice yS)) [.slice b0 e3.1.length c0] e3.1:=⟨b0,c0,rfl,hm2_0,hr2_0⟩
  have hR2_1:Rep g (.slice yb) [.slice f0 e3.2.length g0] e3.2:=⟨f0,g0,rfl,hm2_1,hr2_1⟩
  replace P0:At g q2 o2 [.slice b0 e3.1.length c0,.slice f0 e3.2.length g0]:=P0
  refine Ok.o (OpOk.s (v:=.agg #[.slice b0 e3.1.length c0,.slice f0 e3.2.length g0]) (Yields.loadAggRo 0 2 #[.slice b0 e3.1.length c0,.slice f0 e3.2.length g0] P0 kr underlying28 rfl kr kr kr) rfl rfl (Ok.o (OpOk.aw #[.slice none 0 0,.slice none 0 0] fun bs4=>?_)))
  refine Ok.o (OpOk.sw 0 #[.slice b0 e3.1.length c0,.slice f0 e3.2.length g0] rfl rfl rfl ?_)
  refine Ok.nt (Ok.q (Ok.cut (fun a W=>StA 69 [(0,.slice j0 xl.length x0),(4,pv bs4 0),(11,.slice j0 xl.length x0),(12,iv (xl.length:Int)),(13,iv z0),(30,.bool (ptsV0 e3))] a∧StW w0 [.blk bs4 (.cells #[.slice b0 e3.1.length c0,.slice f0 e3.2.length g0] 28)] g W∧ptsj19 N K e3 z0 (ptsl7 N xl K k7)) ?_ ?_))
  ·
   refine Ok.r (Ok.rn 5 [.e 0] [0,11,12,13] [(4,pv bs4 0),(21,.bool ((e3.1.length:Int)==0))] ?_)
   refine Ok.bw 21 hF (fun a0 hF=>?_) (fun a0 hF=>?_)
   ·refine Ok.b 9 [0,4,11,12,13] [(30,.bool true)] ?_
    refine Ok.nt (Ok.rb 30 (ptsV0 e3) (mor_t a0) ?_)
    exact fz hF
   refine Ok.rn 9 [.e 0,.e 0] [0,4,11,12,13] [(30,.bool ((e3.2.length:Int) != (w6 ((e3.1.length:Int) - 1))))] ?_
   refine Ok.nt (Ok.rb 30 (ptsV0 e3) (mor_f a0) ?_)
   exact fz hF
  clear hF
  refine jn fun hF=>?_
  refine Ok.cn hF rfl (fun hc5=>?_) (fun hc5=>?_)
  ·replace hF:=hF.1 hc5
   refine Ok.sr (Ok.B 1 [(2,.bool false)] kr (Ok.nt (Ok.ret (Ok.tr (Ok.kr (Ok.tr (Ok.tr (Ok.kr (Ok.tr ?_)))))))))
   exact Ok.pb false hF
  replace hF:=hF.2 hc5
  refine Ok.k (Ok.t (Ok.q (Ok.sr (Ok.rn 4 [.e 0] [0,4,11,12,13] [(32,.slice b0 e3.1.length c0),(33,iv (e3.1.length:Int)),(34,iv 0)] ?_))))
  refine Ok.nt (Ok.block ?_)
  obtain ⟨k,hF⟩:=hF
  refine Ok.L (fun k a W=>∃ (q0:Int),StA 69 [(0,.slice j0 xl.length x0),(4,pv bs4 0),(11,.slice j0 xl.length x0),(12,iv (xl.length:Int)),(13,iv z0),(32,.slice b0 e3.1.length c0),(33,iv (e3.1.length:Int)),(34,iv q0)] a∧StW w0 [.blk bs4 (.cells #[.slice b0 e3.1.length c0,.slice f0 e3.2.length g0] 28)] g W∧ptsl30 N K e3 z0 (ptsl7 N xl K k7) k q0) k ?_ ?_
  ·
   exact fun _ _ u v=>⟨0,fA u v hF⟩
  clear hF
  rintro (_ | k30) _ _ ⟨q0,q⟩
  exact (q.2.2:False).elim
  refine jn (fun hF=>?_) _ _ q
  refine Ok.sr (Ok.b 1 [0,4,11,12,13,32,33,34] [(35,.bool (decide (q0<(e3.1.length:Int))))] ?_)
  refine Ok.nt (Ok.q (Ok.cn hF rfl (fun hc6=>?_) (fun hc6=>?_)))
  ·replace hF:=hF.1 hc6
   refine Ok.k (Ok.t (Ok.q (Ok.block (Ok.q (Ok.r ?_)))))
   obtain ⟨h08,h18,hF⟩:=hF
   have he8:=get_of (l:=e3.1) default h18
   generalize hg8:(e3.1.getD q0.toNat default)=e8 at he8 hF ⊢
   refine Ok.o (OpOk.indexRo (e:=.slice yS) rfl rfl underlying25 kr hR2_0 h08 he8 rfl fun q7 o7 cs7 _ hat7 hr7=>?_)
   obtain ⟨F0,G0,rfl,hR7_0⟩:=oS hr7
   refine Ok.rn 2 [.a 0 hat7] [0,4,11,12,13,32,33,34] [(6,.slice F0 e8.length G0)] ?_
   refine Ok.nt (Ok.q (Ok.sr (Ok.b 3 [0,4,6,11,12,13,32,33,34] [(38,.slice F0 e8.length G0),(39,iv (e8.length:Int)),(40,iv 0)] ?_)))
   refine Ok.nt (Ok.block ?_)
   obtain ⟨k,hF⟩:=hF
   refine Ok.L (fun k a W=>∃ (v0:Int),StA 69 [(0,.slice j0 xl.length x0),(4,pv bs4 0),(6,.slice F0 e8.length G0),(11,.slice j0 xl.length x0),(12,iv (xl.length:Int)),(13,iv z0),(32,.slice b0 e3.1.length c0),(33,iv (e3.1.length:Int)),(34,iv q0),(38,.slice F0 e8.length G0),(39,iv (e8.length:Int)),(40,iv v0)] a∧StW w0 [.blk bs4 (.cells #[.slice b0 e3.1.length c0,.slice f0 e3.2.length g0] 28)] g W∧ptsl45 N K q0 e8 (ptsl30 N K e3 z0 (ptsl7 N xl K k7) k30) k v0) k ?_ ?_
   ·
    exact fun _ _ u v=>⟨0,fA u v hF⟩
   clear hF
   rintro (_ | k45) _ _ ⟨v0,q⟩
   exact (q.2.2:False).elim
   refine jn (fun hF=>?_) _ _ q
   refine Ok.sr (Ok.b 1 [0,4,6,11,12,13,32,33,34,38,39,40] [(41,.bool (decide (v0<(e8.length:Int))))] ?_)
   refine Ok.nt (Ok.q (Ok.cn hF rfl (fun hc9=>?_) (fun hc9=>?_)))
   ·replace hF:=hF.1 hc9
    refine Ok.k (Ok.t (Ok.q (Ok.block (Ok.sr (Ok.b 1 [0,4,6,11,12,13,32,33,34,38,39,40] [(42,iv v0)] ?_)))))
    obtain ⟨h011,h111,hF⟩:=hF
    have L0:=get_of (l:=e8) default h111
    generalize hg11:(e8.getD v0.toNat default)=e11 at L0 hF ⊢
    refine Ok.o (OpOk.indexRo (e:=yS) rfl rfl underlying54 kr hR7_0 h011 L0 rfl fun q10 o10 cs10 _ B0 hr10=>?_)
    have K0:=hr10
    replace K0:=Rep.tst.1 K0
    obtain ⟨_,_,rfl,⟨_,_,rfl,rfl,⟨_,_,rfl,rfl,⟨_,_,rfl,rfl,⟨_,_,rfl,rfl,⟨_,_,rfl,rfl,rfl⟩⟩⟩⟩⟩,⟨d0,e0,rfl,hm10_6,hr10_6⟩⟩:=K0
    have hR10_6:Rep g (.slice yP) [.slice d0 e11.kids.length e0] e11.kids:=⟨d0,e0,rfl,hm10_6,hr10_6⟩
    replace B0:At g q10 o10 (vL e11.lab d0 e11.kids.length e0):=B0
    refine Ok.o (OpOk.s (v:=.agg (aL e11.lab d0 e11.kids.length e0)) (Yields.loadAggRo 0 7 (aL e11.lab d0 e11.kids.length e0) B0 kr underlying60 rfl kr kr kr) rfl rfl (Ok.o (OpOk.aw #[iv 0,sv ([]:Bs),.int .u8 0,sv ([]:Bs),iv 0,iv 0,.slice none 0 0] fun bs8=>?_)))
    refine Ok.b 1 [0,4,6,11,12,13,32,33,34,38,39,40] [(7,iv v0),(8,pv bs8 0),(44,.agg (aL e11.lab d0 e11.kids.length e0))] ?_
    refine Ok.o (OpOk.sw 0 (aL e11.lab d0 e11.kids.length e0) rfl rfl rfl ?_)
    refine Ok.nt (Ok.q (Ok.r ?_))
    obtain ⟨hp13,hF⟩:=hF
    refine Ok.rn 4 [.e 0,.k (ih_tst _ e11 v0 hR10_6 hG0 hp13)] [0,4,6,11,12,13,32,33,34,38,39,40] [(48,.bool (!(tstS e11 v0)))] ?_
    refine Ok.nt (Ok.cn hF rfl (fun V0=>?_) (fun V0=>?_))
    ·replace hF:=hF.1 V0
     refine Ok.sr (Ok.B 1 [(2,.bool false)] kr (Ok.nt (Ok.ret (Ok.kr (Ok.tr (Ok.tr (Ok.kr (Ok.tr (Ok.kr (Ok.tr (Ok.tr (Ok.kr (Ok.tr (Ok.kr (Ok.tr (Ok.tr (Ok.kr (Ok.tr ?_))))))))))))))))))
     exact Ok.pb false hF
    replace hF:=hF.2 V0
    refine Ok.k (Ok.kn (Ok.t (Ok.r (Ok.b 2 [0,4,6,11,12,13,32,33,34,38,39] [(40,iv (w6 (v0+1)))] ?_))))
    refine Ok.j (Ok.t ?_)
    subst hg11
    exact fun _ _ u v=>⟨k45,nl,w6 (v0+1),fA u v hF⟩
   replace hF:=hF.2 hc9
   refine Ok.x (Ok.thenE (Ok.thenE (Ok.blockHit (Ok.t (Ok.sr (Ok.b 3 [0,4,11,12,13,32,33,34] [(52,.bool ((e8.length:Int)==0))] ?_))))))
   refine Ok.nt (Ok.cn hF rfl (fun Q0=>?_) (fun Q0=>?_))
   ·replace hF:=hF.1 Q0
    refine Ok.sr (Ok.B 1 [(2,.bool false)] kr (Ok.nt (Ok.ret (Ok.kr (Ok.tr (Ok.tr (Ok.kr (Ok.tr (Ok.kr (Ok.tr (Ok.tr (Ok.kr (Ok.tr ?_)))))))))))))
    exact Ok.pb false hF
   replace hF:=hF.2 Q0
   refine Ok.k (Ok.kn (Ok.t (Ok.r (Ok.b 2 [0,4,11,12,13,32,33] [(34,iv (w6 (q0+1)))] ?_))))
   refine Ok.j (Ok.t ?_)
   subst hg8
   exact fun _ _ u v=>⟨k30,nl,w6 (q0+1),fA u v hF⟩
  replace hF:=hF.2 hc6
  refine Ok.x (Ok.thenE (Ok.thenE (Ok.blockHit (Ok.t (Ok.sr (Ok.rn 4 [.e 0] [0,11,12,13] [(55,.slice f0 e3.2.length g0),(56,iv (e3.2.length:Int)),(57,iv 0)] ?_))))))
  refine Ok.nt (Ok.block ?_)
  obtain ⟨k,hF⟩:=hF
  refine Ok.L (fun k a W=>∃ (u0:Int),StA 69 [(0,.slice j0 xl.length x0),(11,.slice j0 xl.length x0),(12,iv (xl.length:Int)),(13,iv z0),(55,.slice f0 e3.2.length g0),(56,iv (e3.2.length:Int)),(57,iv u0)] a∧StW w0 [] g W∧ptsl75 K e3 z0 (ptsl7 N xl K k7) k u0) k ?_ ?_
  ·
   exact fun _ _ u v=>⟨0,fA u v hF⟩
  clear hF
  rintro (_ | k75) _ _ ⟨u0,q⟩
  exact (q.2.2:False).elim
  refine jn (fun hF=>?_) _ _ q
  refine Ok.sr (Ok.b 1 [0,11,12,13,55,56,57] [(58,.bool (decide (u0<(e3.2.length:Int))))] ?_)
  refine Ok.nt (Ok.q (Ok.cn hF rfl (fun i0=>?_) (fun i0=>?_)))
  ·replace hF:=hF.1 i0
   refine Ok.k (Ok.t (Ok.q (Ok.block (Ok.q (Ok.r ?_)))))
   obtain ⟨h018,h118,hF⟩:=hF
   have A0:=get_of (l:=e3.2) default h118
   generalize hg18:(e3.2.getD u0.toNat default)=e18 at A0 hF ⊢
   refine Ok.o (OpOk.indexRo (e:=.int .u8) rfl rfl underlying26 kr hR2_1 h018 A0 rfl fun q17 o17 cs17 _ C0 hr17=>?_)
   obtain rfl:=hr17
   replace C0:At g q17 o17 [.int .u8 e18]:=C0
   refine Ok.rn 2 [.a 0 C0] [0,11,12,13,55,56,57] [(10,.int .u8 e18)] ?_
   refine Ok.nt (Ok.sr (Ok.rn 3 [.k (ib_c ([32,62,43,126]:Bs) e18)] [0,11,12,13,55,56,57] [(63,.bool (decide (ibS ([32,62,43,126]:Bs) e18<0)))] ?_))
   refine Ok.nt (Ok.cn hF rfl (fun n0=>?_) (fun n0=>?_))
   ·replace hF:=hF.1 n0
    refine Ok.sr (Ok.B 1 [(2,.bool false)] kr (Ok.nt (Ok.ret (Ok.kr (Ok.tr (Ok.tr (Ok.kr (Ok.kr (Ok.tr (Ok.tr (Ok.kr (Ok.tr ?_))))))))))))
    exact Ok.pb false hF
   replace hF:=hF.2 n0
   refine Ok.k (Ok.kn (Ok.t (Ok.r (Ok.b 2 [0,11,12,13,55,56] [(57,iv (w6 (u0+1)))] ?_))))
   refine Ok.j (Ok.t ?_)
   subst hg18
   exact fun _ _ u v=>⟨k75,nl,w6 (u0+1),fA u v hF⟩
  replace hF:=hF.2 i0
  refine Ok.x (Ok.thenE (Ok.thenE (Ok.blockHit (Ok.kn (Ok.t (Ok.r (Ok.b 2 [0,11,12] [(13,iv (w6 (z0+1)))] ?_)))))))
  refine Ok.j (Ok.t ?_)
  subst hg3
  exact fun _ _ u v=>⟨k7,nl,w6 (z0+1),fA u v hF⟩
 refine Ok.x (Ok.thenE (Ok.thenE (Ok.blockHit (Ok.t (Ok.sr (Ok.B 4 [(2,.bool (decide ((xl.length:Int)>0)))] kr (Ok.nt (Ok.ret ?_))))))))
 exact Ok.pb (decide ((xl.length:Int)>0)) hF
theorem tst_0 (t:Ts) (i:Int):¬ tstP 0 t i:=fun h=>absurd h.1 (Nat.not_lt_zero _)
theorem pts_0 (l:List Ph):¬ ptsP 0 l:=fun h=>absurd h.1 (Nat.not_lt_zero _)
theorem tst_F (N:Nat) (t:Ts) (i:Int) (h:tstP (N+1) t i):tstF N t i (fun r=>r=tstS t i):=by
 have hk:=tstP_kids h
 have hb:=bT_kids t
 have hc:cutP t.lab.2.1:=by have:=h.2.1; show t.lab.2.1.length<4294967281; omega
 have hl:lowerP t.lab.2.1:=by have:=h.2.1; show t.lab.2.1.length≤140737488351232; omega
 have e:=okT_eq t i
 have hop:=(okB_kids h.2.2).1
 have hV2:tstV2 t=l2 t.lab:=by
  unfold tstV2 l2
  rw [ib_ops hop]
 have I0:l0 t.lab i=false→l1 t.lab=false→l2 t.lab=false→l3 t.lab=false→tstj3i117 N t (fun r=>r=tstS t i):=by
  intro h0 h1 h2 h3
  have e2:labS t.lab i=true:=by unfold labS; rw [h0,h1,h2,h3]; rfl
  rw [e2,Bool.true_and] at e
  refine ⟨fun hn=>⟨hk,?_⟩,fun hn=>?_⟩
  ·rw [if_t hn] at e; exact e.symm
  rw [if_f hn] at e; exact e.symm
 have j30:l0 t.lab i=false→l1 t.lab=false→l2 t.lab=false→tstj30 N t (fun r=>r=tstS t i):=by
  intro h0 h1 h2
  refine ⟨fun h3=>?_,fun h3=>⟨fun _=>I0 h0 h1 h2 h3,fun _=>I0 h0 h1 h2 h3⟩⟩
  have h3:l3 t.lab=true:=h3
  show false=okT t i
  rw [e]; unfold labS; rw [h3]; simp
 have j88:l0 t.lab i=false→l1 t.lab=false→l2 t.lab=false→tstj3i88 N t (fun r=>r=tstS t i):=by
  intro h0 h1 h2
  have k:=j30 h0 h1 h2
  exact ⟨fun _=>⟨fun _=>k,fun _=>⟨fun _=>k,fun _=>⟨fun _=>k,fun _=>k⟩⟩⟩,fun _=>⟨fun _=>k,fun _=>k⟩⟩
 have j22:l0 t.lab i=false→l1 t.lab=false→tstj22 N t (fun r=>r=tstS t i):=by
  intro h0 h1
  refine ⟨fun h2=>?_,fun h2=>?_⟩
  ·rw [hV2] at h2
   show false=okT t i
   rw [e]; unfold labS; rw [h2]; simp
  rw [hV2] at h2
  exact ⟨fun _=>j88 h0 h1 h2,fun _=>j88 h0 h1 h2⟩
 have j14:l0 t.lab i=false→tstj14 N t (fun r=>r=tstS t i):=by
  intro h0
  refine ⟨fun h1=>?_,fun h1=>?_⟩
  ·have h1:l1 t.lab=true:=h1
   show false=okT t i
   rw [e]; unfold labS; rw [h1]; simp
  have k:=j22 h0 h1
  exact ⟨fun _=>⟨fun _=>k,fun _=>⟨fun _=>k,fun _=>⟨fun _=>k,fun _=>k⟩⟩⟩,fun _=>⟨fun _=>k,fun _=>k⟩⟩
 have j6:tstj6 N t i (fun r=>r=tstS t i):=by
  refine ⟨fun h0=>?_,fun h0=>?_⟩
  ·have h0:l0 t.lab i=true:=h0
   show false=okT t i
   rw [e]; unfold labS; rw [h0]; simp
  have k:=j14 h0
  exact ⟨fun _=>⟨hl,k⟩,fun _=>⟨fun _=>⟨hl,k⟩,fun _=>k⟩⟩
 have j3:tstj3 N t i (fun r=>r=tstS t i):=⟨fun _=>j6,fun _=>⟨fun _=>j6,fun _=>⟨fun _=>j6,fun _=>⟨fun _=>j6,fun _=>⟨fun _=>⟨hc,j6⟩,fun _=>j6⟩⟩⟩⟩⟩
 exact ⟨fun _=>j3,fun _=>j3⟩
theorem pts45 {N:Nat} {r:Bool} (s:List Ts) (hs:∀ t ∈ s,∀ i,tstP N t i) (hl:s.length≤1048600) (k:Int) (C:Int→Prop) (R:Bool) (hC:r=R→C (w6 (k+1))) :
  ∀ (m i:Nat),i+m=s.length→r=(ok1 (s.drop i) i&&(!((s.length:Int)==0)&&R))→ptsl45 N (fun x=>x=r) k s C (m+1) (i:Int):=by
 intro m
 induction m with
 | zero =>
  intro i hi he
  rw [List.drop_of_length_le om,ok1,Bool.true_and] at he
  refine ⟨fun hc=>absurd (of_decide_eq_true hc) om,fun _=>⟨fun h0=>?_,fun h0=>?_⟩⟩
  ·rw [he,h0]; rfl
  rw [h0,Bool.not_false,Bool.true_and] at he; exact hC he
 | succ m ih =>
  intro i hi he
  have hi':i<s.length:=by omega
  have ht:=hs _ (get_in default hi') i
  rw [drop_get (l:=s) default hi',ok1,Bool.and_assoc] at he
  refine ⟨fun _=>⟨by omega,by rw [tnc]; omega,?_⟩,fun hc=>absurd (of_decide_eq_false hc) om⟩
  rw [tnc]
  refine ⟨ht,fun hb=>?_,fun hb=>?_⟩
  ·have hb:okT (s.getD i default) i=false:=by simpa [tstS] using hb
   rw [he,hb,Bool.false_and]
  have hb:okT (s.getD i default) i=true:=by simpa [tstS] using hb
  rw [hb,Bool.true_and] at he
  rw [show (i:Int)+1=((i+1:Nat):Int) by omega] at he
  rw [w64 om,show (i:Int)+1=((i+1:Nat):Int) by omega]
  exact ih (i+1) om he
theorem pts75 {r:Bool} (q:Ph) (hj:∀ z ∈ q.2,btN z) (hl:q.2.length≤1048600) (j:Int) (C:Int→Prop) (R:Bool) (hC:r=R→C (w6 (j+1))) :
  ∀ (m i:Nat),i+m=q.2.length→r=((q.2.drop i).all jnB&&R)→ptsl75 (fun x=>x=r) q j C (m+1) (i:Int):=by
 intro m
 induction m with
 | zero =>
  intro i hi he
  rw [List.drop_of_length_le om,List.all_nil,Bool.true_and] at he
  exact ⟨fun hc=>absurd (of_decide_eq_true hc) om,fun _=>hC he⟩
 | succ m ih =>
  intro i hi he
  have hi':i<q.2.length:=by omega
  have hz:=hj _ (get_in default hi')
  rw [drop_get (l:=q.2) default hi',List.all_cons,Bool.and_assoc] at he
  refine ⟨fun _=>⟨by omega,by rw [tnc]; omega,?_⟩,fun hc=>absurd (of_decide_eq_false hc) om⟩
  rw [tnc,ib_joins hz]
  refine ⟨fun hb=>?_,fun hb=>?_⟩
  ·have hb:jnB (q.2.getD i default)=false:=by simpa [jnB] using hb
   rw [he,hb,Bool.false_and]
  have hb:jnB (q.2.getD i default)=true:=by simpa [jnB] using hb
  rw [hb,Bool.true_and] at he
  rw [w64 om,show (i:Int)+1=((i+1:Nat):Int) by omega]
  exact ih (i+1) om he
theorem pts30 {N:Nat} {r:Bool} (q:Ph) (hj:∀ z ∈ q.2,btN z) (hs:∀ s ∈ q.1,∀ t ∈ s,∀ i,tstP N t i) (hw:w2 q.1≤1048600) (hl:q.2.length≤1048600) (j:Int) (C:Int→Prop) (R:Bool) (hC:r=R→C (w6 (j+1))) :
  ∀ (m i:Nat),i+m=q.1.length→r=(ok2 (q.1.drop i)&&(q.2.all jnB&&R))→ptsl30 N (fun x=>x=r) q j C (m+1) (i:Int):=by
 intro m
 induction m with
 | zero =>
  intro i hi he
  rw [List.drop_of_length_le om,ok2,Bool.true_and] at he
  exact ⟨fun hc=>absurd (of_decide_eq_true hc) om,fun _=>⟨_,pts75 q hj hl j C R hC q.2.length 0 om (by rw [List.drop_zero]; exact he)⟩⟩
 | succ m ih =>
  intro i hi he
  have hi':i<q.1.length:=by omega
  have hin:=get_in default hi'
  have ht:=hs _ hin
  have h1:=w1_len (q.1.getD i default)
  have h2:=w2_in hin
  have h3:=w2_len q.1
  rw [drop_get (l:=q.1) default hi',ok2,Bool.and_assoc,Bool.and_assoc] at he
  refine ⟨fun _=>⟨by omega,by rw [tnc]; omega,?_⟩,fun hc=>absurd (of_decide_eq_false hc) om⟩
  rw [tnc]
  refine ⟨_,pts45 (q.1.getD i default) ht om (i:Int) _ _ (fun h=>?_) (q.1.getD i default).length 0 om (by rw [List.drop_zero]; exact he)⟩
  rw [w64 om,show (i:Int)+1=((i+1:Nat):Int) by omega]
  exact ih (i+1) om h
theorem pts_F (N:Nat) (l:List Ph) (h:ptsP (N+1) l):ptsF N l (fun r=>r=ptsS l):=by
 have h5:=b3_eq l
 have hlen:=w3_len l
 have hin:=fun q hq s hs t ht i=>ptsP_in h (q:=q) hq (s:=s) hs (t:=t) ht i
 obtain ⟨_,hb,ho⟩:=h
 have loop:∀ (m i:Nat),i+m=l.length→ptsS l=(ok3 (l.drop i)&&decide ((l.length:Int)>0))→ptsl7 N l (fun r=>r=ptsS l) (m+1) (i:Int):=by
  intro m
  induction m with
  | zero =>
   intro i hi he
   rw [List.drop_of_length_le om,ok3,Bool.true_and] at he
   exact ⟨fun hc=>absurd (of_decide_eq_true hc) om,fun _=>he.symm⟩
  | succ m ih =>
   intro i hi he
   have hi':i<l.length:=by omega
   have hq:=get_in default hi'
   have hwq:=w3_in hq
   have hq1:=w2_len (l.getD i default).1
   rw [drop_get (l:=l) default hi',ok3_cons,Bool.and_assoc,Bool.and_assoc,Bool.and_assoc] at he
   refine ⟨fun _=>⟨by omega,by rw [tnc]; omega,?_⟩,fun hc=>absurd (of_decide_eq_false hc) om⟩
   rw [tnc]
   have j19:ptsj19 N (fun r=>r=ptsS l) (l.getD i default) (i:Int) (ptsl7 N l (fun r=>r=ptsS l) (m+1)):=by
    have hV:ptsV0 (l.getD i default)=((((l.getD i default).1.length:Int)==0)||(((l.getD i default).2.length:Int) != ((l.getD i default).1.length:Int) - 1)):=by
     unfold ptsV0
     rw [w64 om]
    refine ⟨fun h0=>?_,fun h0=>?_⟩
    ·rw [hV] at h0
     rw [he,h0]; rfl
    rw [hV] at h0
    rw [h0,Bool.not_false,Bool.true_and] at he
    refine ⟨_,pts30 (l.getD i default) (ho _ hq).1 (hin _ hq) om om (i:Int) _ _ (fun h=>?_) (l.getD i default).1.length 0 om (by rw [List.drop_zero]; exact he)⟩
    rw [w64 om,show (i:Int)+1=((i+1:Nat):Int) by omega]
    exact ih (i+1) om h
   exact ⟨fun _=>j19,fun _=>j19⟩
 exact ⟨_,loop l.length 0 om (by rw [List.drop_zero]; rfl)⟩
theorem tst_rec:∀ N,tst_C N∧pts_C N
 | 0=>⟨(by intro g k0 y0 xt xat m0 hG0 hp; exact (tst_0 xt xat hp).elim),(by intro g j0 x0 xl s0 hG0 hp; exact (pts_0 xl hp).elim)⟩
 | N+1 =>
  have ih:=tst_rec N
  ⟨(by intro g k0 y0 xt xat m0 hG0 hp; exact (tst_ok N ih.1 ih.2 xt xat m0 hG0 _ (tst_F N xt xat hp)).gv),(by intro g j0 x0 xl s0 hG0 hp; exact (pts_ok N ih.1 ih.2 xl s0 hG0 _ (pts_F N xl hp)).gv)⟩
def ptsPE (xl:List PH):Prop:=∃ N,ptsP N xl
theorem pts_c {g:Ghost} {j0:Option Addr} {x0:Nat} (xl:List PH) (s0:Rep g (.slice yP) [.slice j0 xl.length x0] xl) (hG0:SomeInt g 0)  (hp:ptsPE xl):CallsG prog 39 #[.slice j0 xl.length x0] g (.bool (ptsS xl)):=by
 obtain ⟨N,hp⟩:=hp
 exact (tst_rec N).2 _ xl s0 hG0 hp
end Go.Proofs.YtdapgmigogpdcaaGreatDoor.Se
