/- selector: what is wrong with a test, with paths, by the document. -/
import Derived.Test.YtdapgmigogpdcaaGreatDoorSef
namespace Go.Proofs.YtdapgmigogpdcaaGreatDoor.Se
open _root_.Go.Proofs.Tryz Go Go.Eng Go.RowKit Bld Trm Css Tk Ti
set_option linter.unusedVariables false
set_option linter.unusedSimpArgs false
set_option maxHeartbeats 4000000
set_option maxRecDepth 100000
def tmyP (N:Nat) (t:Ts) (i:Int):Prop:=tstP N t i
def pmyP (N:Nat) (l:List Ph):Prop:=ptsP N l
def tmy_C (N:Nat):Prop:=∀ (g:Ghost) {k0:Option Addr} {y0:Nat} (xt:TS) (xat:Int) (f0:Rep g (.slice yP) [.slice k0 xt.kids.length y0] xt.kids) (hG0:SomeInt g 0)  (hp:tmyP N xt xat),CallsG prog 37 #[.agg (aL xt.lab k0 xt.kids.length y0),iv xat] g (.bool (tstS xt xat))
def pmy_C (N:Nat):Prop:=∀ (g:Ghost) {u0:Option Addr} {j0:Nat} (xl:List PH) (x0:Rep g (.slice yP) [.slice u0 xl.length j0] xl) (hG0:SomeInt g 0)  (hp:pmyP N xl),CallsG prog 21 #[.slice u0 xl.length j0] g (.bool (ptsS xl))
def tmyV0 (xt:TS) (xat:Int):Bool :=
 (decide (xat>0)&&((xt.lab.1==1)||(xt.lab.1==2)))
def tmyV1 (xt:TS):Bool :=
 ((xt.lab.1==2)||((xt.lab.1==3)||((xt.lab.1==4)||(xt.lab.1==5))))
def tmyV2 (xt:TS):Bool :=
 (if (!(tmyV1 xt))=true then ((!(xt.lab.2.1==([]:Bs)))||(tmyV1 xt&&(!(plainS xt.lab.2.1)))) else (tmyV1 xt&&(!(plainS xt.lab.2.1))))
def tmyV3 (xt:TS):Bool :=
 (if (xt.lab.1==2)=true then !(lowerS xt.lab.2.1==xt.lab.2.1) else ((xt.lab.1==5)&&(!(lowerS xt.lab.2.1==xt.lab.2.1))))
def tmyV4 (xt:TS):Bool :=
 (if (xt.lab.2.2.1==0)=true then ((!(xt.lab.2.2.2.1==([]:Bs)))||((xt.lab.2.2.1 != 0)&&((xt.lab.1 != 5)||(!(hbyS ([61,126,124,94,36,42]:Bs) xt.lab.2.2.1))))) else ((xt.lab.2.2.1 != 0)&&((xt.lab.1 != 5)||(!(hbyS ([61,126,124,94,36,42]:Bs) xt.lab.2.2.1)))))
def tmyV5 (xt:TS):Bool :=
 (if (!((xt.lab.1==8)||(xt.lab.1==9)))=true then ((xt.lab.2.2.2.2.1 != 0)||((xt.lab.2.2.2.2.2 != 0)||((decide (xt.lab.2.2.2.2.1<(-1000)))||(decide (xt.lab.2.2.2.2.1>1000)||((decide (xt.lab.2.2.2.2.2<(-1000)))||decide (xt.lab.2.2.2.2.2>1000)))))) else ((decide (xt.lab.2.2.2.2.1<(-1000)))||(decide (xt.lab.2.2.2.2.1>1000)||((decide (xt.lab.2.2.2.2.2<(-1000)))||decide (xt.lab.2.2.2.2.2>1000)))))
def tmyj56 (N:Nat) (xt:TS) (K:Bool→Prop):Prop :=
 (((xt.lab.1==10)||(xt.lab.1==11))=true→pmyP N xt.kids∧K (ptsS xt.kids))∧(((xt.lab.1==10)||(xt.lab.1==11))=false→K ((xt.kids.length:Int)==0))
def tmyj48 (N:Nat) (xt:TS) (K:Bool→Prop):Prop :=
 (tmyV5 xt=true→K false)∧(tmyV5 xt=false→((xt.lab.1==10)=true→tmyj56 N xt K)∧((xt.lab.1==10)=false→tmyj56 N xt K))
def tmyj45 (N:Nat) (xt:TS) (K:Bool→Prop):Prop :=
 ((!((xt.lab.1==8)||(xt.lab.1==9)))=true→((xt.lab.2.2.2.2.1 != 0)=true→tmyj48 N xt K)∧((xt.lab.2.2.2.2.1 != 0)=false→((xt.lab.2.2.2.2.2 != 0)=true→tmyj48 N xt K)∧((xt.lab.2.2.2.2.2 != 0)=false→((decide (xt.lab.2.2.2.2.1<(-1000)))=true→tmyj48 N xt K)∧((decide (xt.lab.2.2.2.2.1<(-1000)))=false→(decide (xt.lab.2.2.2.2.1>1000)=true→tmyj48 N xt K)∧(decide (xt.lab.2.2.2.2.1>1000)=false→((decide (xt.lab.2.2.2.2.2<(-1000)))=true→tmyj48 N xt K)∧((decide (xt.lab.2.2.2.2.2<(-1000)))=false→tmyj48 N xt K))))))∧((!((xt.lab.1==8)||(xt.lab.1==9)))=false→((decide (xt.lab.2.2.2.2.1<(-1000)))=true→tmyj48 N xt K)∧((decide (xt.lab.2.2.2.2.1<(-1000)))=false→(decide (xt.lab.2.2.2.2.1>1000)=true→tmyj48 N xt K)∧(decide (xt.lab.2.2.2.2.1>1000)=false→((decide (xt.lab.2.2.2.2.2<(-1000)))=true→tmyj48 N xt K)∧((decide (xt.lab.2.2.2.2.2<(-1000)))=false→tmyj48 N xt K))))
def tmyj38 (N:Nat) (xt:TS) (K:Bool→Prop):Prop :=
 (tmyV4 xt=true→K false)∧(tmyV4 xt=false→((xt.lab.1==8)=true→tmyj45 N xt K)∧((xt.lab.1==8)=false→tmyj45 N xt K))
def tmyj30 (N:Nat) (xt:TS) (K:Bool→Prop):Prop :=
 (tmyV3 xt=true→K false)∧(tmyV3 xt=false→((xt.lab.2.2.1==0)=true→((!(xt.lab.2.2.2.1==([]:Bs)))=true→tmyj38 N xt K)∧((!(xt.lab.2.2.2.1==([]:Bs)))=false→((xt.lab.2.2.1 != 0)=true→((xt.lab.1 != 5)=true→tmyj38 N xt K)∧((xt.lab.1 != 5)=false→hbyP ([61,126,124,94,36,42]:Bs) xt.lab.2.2.1∧tmyj38 N xt K))∧((xt.lab.2.2.1 != 0)=false→tmyj38 N xt K)))∧((xt.lab.2.2.1==0)=false→((xt.lab.2.2.1 != 0)=true→((xt.lab.1 != 5)=true→tmyj38 N xt K)∧((xt.lab.1 != 5)=false→hbyP ([61,126,124,94,36,42]:Bs) xt.lab.2.2.1∧tmyj38 N xt K))∧((xt.lab.2.2.1 != 0)=false→tmyj38 N xt K)))
def tmyj22 (N:Nat) (xt:TS) (K:Bool→Prop):Prop :=
 (tmyV2 xt=true→K false)∧(tmyV2 xt=false→((xt.lab.1==2)=true→lowerP xt.lab.2.1∧tmyj30 N xt K)∧((xt.lab.1==2)=false→((xt.lab.1==5)=true→lowerP xt.lab.2.1∧tmyj30 N xt K)∧((xt.lab.1==5)=false→tmyj30 N xt K)))
def tmyj19 (N:Nat) (xt:TS) (K:Bool→Prop):Prop :=
 ((!(tmyV1 xt))=true→((!(xt.lab.2.1==([]:Bs)))=true→tmyj22 N xt K)∧((!(xt.lab.2.1==([]:Bs)))=false→(tmyV1 xt=true→cutP xt.lab.2.1∧tmyj22 N xt K)∧(tmyV1 xt=false→tmyj22 N xt K)))∧((!(tmyV1 xt))=false→(tmyV1 xt=true→cutP xt.lab.2.1∧tmyj22 N xt K)∧(tmyV1 xt=false→tmyj22 N xt K))
def tmyj12 (N:Nat) (xt:TS) (xat:Int) (K:Bool→Prop):Prop :=
 (tmyV0 xt xat=true→K false)∧(tmyV0 xt xat=false→((xt.lab.1==2)=true→tmyj19 N xt K)∧((xt.lab.1==2)=false→((xt.lab.1==3)=true→tmyj19 N xt K)∧((xt.lab.1==3)=false→((xt.lab.1==4)=true→tmyj19 N xt K)∧((xt.lab.1==4)=false→tmyj19 N xt K))))
def tmyj4 (N:Nat) (xt:TS) (xat:Int) (K:Bool→Prop):Prop :=
 ((decide (xt.lab.1<1)||decide (xt.lab.1>11))=true→K false)∧((decide (xt.lab.1<1)||decide (xt.lab.1>11))=false→(decide (xat>0)=true→((xt.lab.1==1)=true→tmyj12 N xt xat K)∧((xt.lab.1==1)=false→tmyj12 N xt xat K))∧(decide (xat>0)=false→tmyj12 N xt xat K))
def tmyF (N:Nat) (xt:TS) (xat:Int) (K:Bool→Prop):Prop :=
 (decide (xt.lab.1<1)=true→tmyj4 N xt xat K)∧(decide (xt.lab.1<1)=false→tmyj4 N xt xat K)
theorem tmy_ok {g:Ghost} (N:Nat) (ih_tmy:tmy_C N) (ih_pmy:pmy_C N) {k0:Option Addr} {y0:Nat} (xt:TS) (xat:Int) (f0:Rep g (.slice yP) [.slice k0 xt.kids.length y0] xt.kids) (hG0:SomeInt g 0) (K:Bool→Prop)
  (hF:tmyF N xt xat K):CallsH prog 37 #[.agg (aL xt.lab k0 xt.kids.length y0),iv xat] g [] (fun g' H' v=>∃ (r0:Bool),v=.bool r0∧H'=[]∧K r0):=by
 refine CallsH.en 156 func37 rfl fun w0=>?_
 refine Ok.sr (Ok.o (OpOk.bx (aL xt.lab k0 xt.kids.length y0) fun bs2=>?_))
 refine Ok.B 1 [(1,iv xat),(2,pv bs2 0)] kr (Ok.nt (Ok.q (Ok.ct [(1,iv xat),(2,pv bs2 0),(14,.bool (decide (xt.lab.1<1)||decide (xt.lab.1>11)))] [.blk bs2 (.cells (aL xt.lab k0 xt.kids.length y0) 60)] (tmyj4 N xt xat K) ?_ (fun hF=>?_))))
 ·
  refine Ok.r (Ok.rn 4 [.e 0] [1,2] [(10,.bool (decide (xt.lab.1<1)))] ?_)
  refine Ok.bw 10 hF (fun O0 hF=>?_) (fun O0 hF=>?_)
  ·refine Ok.b 4 [1,2] [(14,.bool true)] ?_
   refine Ok.nt (Ok.rb 14 (decide (xt.lab.1<1)||decide (xt.lab.1>11)) (mor_t O0) ?_)
   exact fz hF
  refine Ok.rn 4 [.e 0] [1,2] [(14,.bool (decide (xt.lab.1>11)))] ?_
  refine Ok.nt (Ok.rb 14 (decide (xt.lab.1<1)||decide (xt.lab.1>11)) (mor_f O0) ?_)
  exact fz hF
 refine Ok.cw hF (fun hc2 hF=>?_) (fun hc2 hF=>?_)
 ·refine Ok.sr (Ok.B 1 [(4,.bool false)] kr (Ok.nt (Ok.ret (Ok.tr ?_))))
  exact Ok.pb false hF
 refine Ok.k (Ok.t (Ok.q (Ok.ct [(2,pv bs2 0),(26,.bool (tmyV0 xt xat))] [.blk bs2 (.cells (aL xt.lab k0 xt.kids.length y0) 60)] (tmyj12 N xt xat K) ?_ (fun hF=>?_))))
 ·
  refine Ok.r (Ok.b 3 [2] [(17,.bool (decide (xat>0)))] ?_)
  refine Ok.bw 17 hF (fun G0 hF=>?_) (fun G0 hF=>?_)
  ·refine Ok.rn 4 [.e 0] [2] [(17,.bool true),(21,.bool (xt.lab.1==1))] ?_
   refine Ok.bw 21 hF (fun P0 hF=>?_) (fun P0 hF=>?_)
   ·refine Ok.b 5 [2] [(26,.bool true)] ?_
    refine Ok.nt (Ok.rb 26 (tmyV0 xt xat) (Eq.trans (mor_t P0) (mand_t G0)) ?_)
    exact fz hF
   refine Ok.rn 5 [.e 0] [2] [(26,.bool (xt.lab.1==2))] ?_
   refine Ok.nt (Ok.rb 26 (tmyV0 xt xat) (Eq.trans (mor_f P0) (mand_t G0)) ?_)
   exact fz hF
  refine Ok.b 9 [2] [(26,.bool false)] ?_
  refine Ok.nt (Ok.rb 26 (tmyV0 xt xat) (mand_f G0) ?_)
  exact fz hF
 refine Ok.cw hF (fun hc3 hF=>?_) (fun hc3 hF=>?_)
 ·refine Ok.sr (Ok.B 1 [(4,.bool false)] kr (Ok.nt (Ok.ret (Ok.tr ?_))))
  exact Ok.pb false hF
 refine Ok.k (Ok.t (Ok.ct [(2,pv bs2 0),(5,.bool (tmyV1 xt))] [.blk bs2 (.cells (aL xt.lab k0 xt.kids.length y0) 60)] (tmyj19 N xt K) ?_ (fun hF=>?_)))
 ·
  refine Ok.r (Ok.rn 4 [.e 0] [2] [(30,.bool (xt.lab.1==2))] ?_)
  refine Ok.bw 30 hF (fun U0 hF=>?_) (fun U0 hF=>?_)
  ·refine Ok.b 15 [2] [(5,.bool true)] ?_
   refine Ok.nt (Ok.rb 5 (tmyV1 xt) (mor_t U0) ?_)
   exact fz hF
  refine Ok.rn 5 [.e 0] [2] [(35,.bool (xt.lab.1==3))] ?_
  refine Ok.bw 35 hF (fun H0 hF=>?_) (fun H0 hF=>?_)
  ·refine Ok.b 10 [2] [(5,.bool true)] ?_
   refine Ok.nt (Ok.rb 5 (tmyV1 xt) (Eq.trans (mor_t H0) (mor_f U0)) ?_)
   exact fz hF
  refine Ok.rn 5 [.e 0] [2] [(40,.bool (xt.lab.1==4))] ?_
  refine Ok.bw 40 hF (fun T0 hF=>?_) (fun T0 hF=>?_)
  ·refine Ok.b 5 [2] [(5,.bool true)] ?_
   refine Ok.nt (Ok.rb 5 (tmyV1 xt) (Eq.trans (Eq.trans (mor_t T0) (mor_f H0)) (mor_f U0)) ?_)
   exact fz hF
  refine Ok.rn 5 [.e 0] [2] [(5,.bool (xt.lab.1==5))] ?_
  refine Ok.nt (Ok.rb 5 (tmyV1 xt) (Eq.trans (Eq.trans (mor_f T0) (mor_f H0)) (mor_f U0)) ?_)
  exact fz hF
 refine Ok.q (Ok.ct [(2,pv bs2 0),(60,.bool (tmyV2 xt))] [.blk bs2 (.cells (aL xt.lab k0 xt.kids.length y0) 60)] (tmyj22 N xt K) ?_ (fun hF=>?_))
 ·
  refine Ok.r (Ok.b 3 [2,5] [(47,.bool (!(tmyV1 xt)))] ?_)
  refine Ok.bw 47 hF (fun Q0 hF=>?_) (fun Q0 hF=>?_)
  ·refine Ok.rn 5 [.e 0] [2,5] [(52,.bool (!(xt.lab.2.1==([]:Bs))))] ?_
   refine Ok.bw 52 hF (fun M0 hF=>?_) (fun M0 hF=>?_)
   ·refine Ok.b 8 [2] [(60,.bool true)] ?_
    refine Ok.nt (Ok.rb 60 (tmyV2 xt) (Eq.trans (mor_t M0) ((if_t Q0).symm)) ?_)
    exact fz hF
   refine Ok.b 2 [2] [(52,.bool false),(54,.bool (tmyV1 xt))] ?_
   refine Ok.bw 54 hF (fun L0 hF=>?_) (fun L0 hF=>?_)
   ·obtain ⟨hp36,hF⟩:=hF
    refine Ok.rn 6 [.e 0,.k (rpn_c xt.lab.2.1 hp36)] [2] [(60,.bool (!(plainS xt.lab.2.1)))] ?_
    refine Ok.nt (Ok.rb 60 (tmyV2 xt) (Eq.trans (Eq.trans (mand_t L0) (mor_f M0)) ((if_t Q0).symm)) ?_)
    exact fz hF
   refine Ok.b 6 [2] [(60,.bool false)] ?_
   refine Ok.nt (Ok.rb 60 (tmyV2 xt) (Eq.trans (Eq.trans (mand_f L0) (mor_f M0)) ((if_t Q0).symm)) ?_)
   exact fz hF
  refine Ok.b 7 [2] [(52,.bool false),(54,.bool (tmyV1 xt))] ?_
  refine Ok.bw 54 hF (fun A0 hF=>?_) (fun A0 hF=>?_)
  ·obtain ⟨hp38,hF⟩:=hF
   refine Ok.rn 6 [.e 0,.k (rpn_c xt.lab.2.1 hp38)] [2] [(60,.bool (!(plainS xt.lab.2.1)))] ?_
   refine Ok.nt (Ok.rb 60 (tmyV2 xt) (Eq.trans (mand_t A0) ((if_f Q0).symm)) ?_)
   exact fz hF
  refine Ok.b 6 [2] [(60,.bool false)] ?_
  refine Ok.nt (Ok.rb 60 (tmyV2 xt) (Eq.trans (mand_f A0) ((if_f Q0).symm)) ?_)
  exact fz hF
 refine Ok.cw hF (fun hc4 hF=>?_) (fun hc4 hF=>?_)
 ·refine Ok.sr (Ok.B 1 [(4,.bool false)] kr (Ok.nt (Ok.ret (Ok.tr ?_))))
  exact Ok.pb false hF
 refine Ok.k (Ok.t (Ok.q (Ok.ct [(2,pv bs2 0),(76,.bool (tmyV3 xt))] [.blk bs2 (.cells (aL xt.lab k0 xt.kids.length y0) 60)] (tmyj30 N xt K) ?_ (fun hF=>?_))))
 ·
  refine Ok.quiet' kr kr (OkQ.b 1 [2] [(61,pv bs2 0)] ?_)
  refine OkQ.op rfl (OpQ.s (v:=iv xt.lab.1) (Yields.l 0 rfl rfl underlying3 rfl kr) rfl rfl (OkQ.b 2 [2] [(64,.bool (xt.lab.1==2))] ?_))
  refine OkQ.boolAt 64 (xt.lab.1==2) rfl (fun K0=>?_) (fun K0=>?_)
  ·replace hF:=hF.1 K0
   refine OkQ.b 6 [2] [(69,.bool true),(70,pv bs2 1)] ?_
   refine OkQ.y (j:=8) (d:=69) (want:=true) (b:=true) rfl kr kr rfl (OpQ.s (v:=sv xt.lab.2.1) (Yields.l 0 rfl rfl underlying9 rfl kr) rfl rfl ?_)
   obtain ⟨hp30,hF⟩:=hF
   refine OkQ.y (j:=8) (d:=69) (want:=true) (b:=true) rfl kr kr rfl (OpQ.f enr (fun W hW=>rlow_c xt.lab.2.1 hp30) rfl ?_)
   refine OkQ.b 1 [2,69] [(72,sv (lowerS xt.lab.2.1)),(73,pv bs2 1)] ?_
   refine OkQ.y (j:=8) (d:=69) (want:=true) (b:=true) rfl kr kr rfl (OpQ.s (v:=sv xt.lab.2.1) (Yields.l 0 rfl rfl underlying9 rfl kr) rfl rfl (OkQ.y (j:=8) (d:=69) (want:=true) (b:=true) rfl kr kr rfl (OpQ.s (v:=.bool (!(lowerS xt.lab.2.1==xt.lab.2.1))) (Yields.sc (f:=.neq) (a:=lowerS xt.lab.2.1) (b:=xt.lab.2.1) kr kr rfl) rfl rfl (OkQ.b 1 [2] [(76,.bool (!(lowerS xt.lab.2.1==xt.lab.2.1)))] ?_))))
   refine OkQ.j (Ok.t (Ok.rb 76 (tmyV3 xt) ((if_t K0).symm) ?_))
   exact fz hF
  replace hF:=hF.2 K0
  refine OkQ.b 1 [2] [(64,.bool false),(65,pv bs2 0)] ?_
  refine OkQ.y (j:=3) (d:=64) (want:=false) (b:=false) rfl kr kr rfl (OpQ.s (v:=iv xt.lab.1) (Yields.l 0 rfl rfl underlying3 rfl kr) rfl rfl (OkQ.b 3 [2] [(69,.bool (xt.lab.1==5))] ?_))
  refine OkQ.boolAt 69 (xt.lab.1==5) rfl (fun J0=>?_) (fun J0=>?_)
  ·replace hF:=hF.1 J0
   refine OkQ.b 1 [2] [(69,.bool true),(70,pv bs2 1)] ?_
   refine OkQ.y (j:=8) (d:=69) (want:=true) (b:=true) rfl kr kr rfl (OpQ.s (v:=sv xt.lab.2.1) (Yields.l 0 rfl rfl underlying9 rfl kr) rfl rfl ?_)
   obtain ⟨hp32,hF⟩:=hF
   refine OkQ.y (j:=8) (d:=69) (want:=true) (b:=true) rfl kr kr rfl (OpQ.f enr (fun W hW=>rlow_c xt.lab.2.1 hp32) rfl ?_)
   refine OkQ.b 1 [2,69] [(72,sv (lowerS xt.lab.2.1)),(73,pv bs2 1)] ?_
   refine OkQ.y (j:=8) (d:=69) (want:=true) (b:=true) rfl kr kr rfl (OpQ.s (v:=sv xt.lab.2.1) (Yields.l 0 rfl rfl underlying9 rfl kr) rfl rfl (OkQ.y (j:=8) (d:=69) (want:=true) (b:=true) rfl kr kr rfl (OpQ.s (v:=.bool (!(lowerS xt.lab.2.1==xt.lab.2.1))) (Yields.sc (f:=.neq) (a:=lowerS xt.lab.2.1) (b:=xt.lab.2.1) kr kr rfl) rfl rfl (OkQ.b 1 [2] [(76,.bool (!(lowerS xt.lab.2.1==xt.lab.2.1)))] ?_))))
   refine OkQ.j (Ok.t (Ok.rb 76 (tmyV3 xt) (Eq.trans (mand_t J0) ((if_f K0).symm)) ?_))
   exact fz hF
  replace hF:=hF.2 J0
  refine OkQ.b 7 [2] [(76,.bool false)] ?_
  refine OkQ.j (Ok.t (Ok.rb 76 (tmyV3 xt) (Eq.trans (mand_f J0) ((if_f K0).symm)) ?_))
  exact fz hF
 refine Ok.cw hF (fun hc5 hF=>?_) (fun hc5 hF=>?_)
 ·refine Ok.sr (Ok.B 1 [(4,.bool false)] kr (Ok.nt (Ok.ret (Ok.tr ?_))))
  exact Ok.pb false hF
 refine Ok.k (Ok.t (Ok.q (Ok.ct [(2,pv bs2 0),(100,.bool (tmyV4 xt))] [.blk bs2 (.cells (aL xt.lab k0 xt.kids.length y0) 60)] (tmyj38 N xt K) ?_ (fun hF=>?_))))
 ·
  refine Ok.r (Ok.rn 4 [.e 0] [2] [(80,.bool (xt.lab.2.2.1==0))] ?_)
  refine Ok.bw 80 hF (fun o0 hF=>?_) (fun o0 hF=>?_)
  ·refine Ok.rn 5 [.e 0] [2] [(85,.bool (!(xt.lab.2.2.2.1==([]:Bs))))] ?_
   refine Ok.bw 85 hF (fun W0 hF=>?_) (fun W0 hF=>?_)
   ·refine Ok.b 15 [2] [(100,.bool true)] ?_
    refine Ok.nt (Ok.rb 100 (tmyV4 xt) (Eq.trans (mor_t W0) ((if_t o0).symm)) ?_)
    exact fz hF
   refine Ok.rn 4 [.e 0] [2] [(85,.bool false),(89,.bool (xt.lab.2.2.1 != 0))] ?_
   refine Ok.bw 89 hF (fun t0 hF=>?_) (fun t0 hF=>?_)
   ·refine Ok.rn 4 [.e 0] [2,85] [(89,.bool true),(93,.bool (xt.lab.1 != 5))] ?_
    refine Ok.bw 93 hF (fun I0 hF=>?_) (fun I0 hF=>?_)
    ·refine Ok.b 7 [2] [(100,.bool true)] ?_
     refine Ok.nt (Ok.rb 100 (tmyV4 xt) (Eq.trans (Eq.trans (Eq.trans (mor_t I0) (mand_t t0)) (mor_f W0)) ((if_t o0).symm)) ?_)
     exact fz hF
    obtain ⟨hp25,hF⟩:=hF
    refine Ok.rn 7 [.e 0,.k (hby_c ([61,126,124,94,36,42]:Bs) xt.lab.2.2.1 hp25)] [2] [(100,.bool (!(hbyS ([61,126,124,94,36,42]:Bs) xt.lab.2.2.1)))] ?_
    refine Ok.nt (Ok.rb 100 (tmyV4 xt) (Eq.trans (Eq.trans (Eq.trans (mor_f I0) (mand_t t0)) (mor_f W0)) ((if_t o0).symm)) ?_)
    exact fz hF
   refine Ok.b 11 [2] [(100,.bool false)] ?_
   refine Ok.nt (Ok.rb 100 (tmyV4 xt) (Eq.trans (Eq.trans (mand_f t0) (mor_f W0)) ((if_t o0).symm)) ?_)
   exact fz hF
  refine Ok.rn 9 [.e 0] [2] [(85,.bool false),(89,.bool (xt.lab.2.2.1 != 0))] ?_
  refine Ok.bw 89 hF (fun N0 hF=>?_) (fun N0 hF=>?_)
  ·refine Ok.rn 4 [.e 0] [2,85] [(89,.bool true),(93,.bool (xt.lab.1 != 5))] ?_
   refine Ok.bw 93 hF (fun z1 hF=>?_) (fun z1 hF=>?_)
   ·refine Ok.b 7 [2] [(100,.bool true)] ?_
    refine Ok.nt (Ok.rb 100 (tmyV4 xt) (Eq.trans (Eq.trans (mor_t z1) (mand_t N0)) ((if_f o0).symm)) ?_)
    exact fz hF
   obtain ⟨hp28,hF⟩:=hF
   refine Ok.rn 7 [.e 0,.k (hby_c ([61,126,124,94,36,42]:Bs) xt.lab.2.2.1 hp28)] [2] [(100,.bool (!(hbyS ([61,126,124,94,36,42]:Bs) xt.lab.2.2.1)))] ?_
   refine Ok.nt (Ok.rb 100 (tmyV4 xt) (Eq.trans (Eq.trans (mor_f z1) (mand_t N0)) ((if_f o0).symm)) ?_)
   exact fz hF
  refine Ok.b 11 [2] [(100,.bool false)] ?_
  refine Ok.nt (Ok.rb 100 (tmyV4 xt) (Eq.trans (mand_f N0) ((if_f o0).symm)) ?_)
  exact fz hF
 refine Ok.cw hF (fun hc6 hF=>?_) (fun hc6 hF=>?_)
 ·refine Ok.sr (Ok.B 1 [(4,.bool false)] kr (Ok.nt (Ok.ret (Ok.tr ?_))))
  exact Ok.pb false hF
 refine Ok.k (Ok.t (Ok.ct [(2,pv bs2 0),(6,.bool ((xt.lab.1==8)||(xt.lab.1==9)))] [.blk bs2 (.cells (aL xt.lab k0 xt.kids.length y0) 60)] (tmyj45 N xt K) ?_ (fun hF=>?_)))
 ·
  refine Ok.r (Ok.rn 4 [.e 0] [2] [(104,.bool (xt.lab.1==8))] ?_)
  refine Ok.bw 104 hF (fun v1 hF=>?_) (fun v1 hF=>?_)
  ·refine Ok.b 5 [2] [(6,.bool true)] ?_
   refine Ok.nt (Ok.rb 6 ((xt.lab.1==8)||(xt.lab.1==9)) (mor_t v1) ?_)
   exact fz hF
  refine Ok.rn 5 [.e 0] [2] [(6,.bool (xt.lab.1==9))] ?_
  refine Ok.nt (Ok.rb 6 ((xt.lab.1==8)||(xt.lab.1==9)) (mor_f v1) ?_)
  exact fz hF
 refine Ok.q (Ok.ct [(2,pv bs2 0),(140,.bool (tmyV5 xt))] [.blk bs2 (.cells (aL xt.lab k0 xt.kids.length y0) 60)] (tmyj48 N xt K) ?_ (fun hF=>?_))
 ·
  refine Ok.r (Ok.b 3 [2] [(111,.bool (!((xt.lab.1==8)||(xt.lab.1==9))))] ?_)
  refine Ok.bw 111 hF (fun g0 hF=>?_) (fun g0 hF=>?_)
  ·refine Ok.rn 4 [.e 0] [2] [(111,.bool true),(115,.bool (xt.lab.2.2.2.2.1 != 0))] ?_
   refine Ok.bw 115 hF (fun i0 hF=>?_) (fun i0 hF=>?_)
   ·refine Ok.b 25 [2] [(140,.bool true)] ?_
    refine Ok.nt (Ok.rb 140 (tmyV5 xt) (Eq.trans (mor_t i0) ((if_t g0).symm)) ?_)
    exact fz hF
   refine Ok.rn 6 [.e 0] [2] [(121,.bool (xt.lab.2.2.2.2.2 != 0))] ?_
   refine Ok.bw 121 hF (fun Y0 hF=>?_) (fun Y0 hF=>?_)
   ·refine Ok.b 19 [2] [(140,.bool true)] ?_
    refine Ok.nt (Ok.rb 140 (tmyV5 xt) (Eq.trans (Eq.trans (mor_t Y0) (mor_f i0)) ((if_t g0).symm)) ?_)
    exact fz hF
   refine Ok.rn 5 [.e 0] [2] [(126,.bool (decide (xt.lab.2.2.2.2.1<(-1000))))] ?_
   refine Ok.bw 126 hF (fun X0 hF=>?_) (fun X0 hF=>?_)
   ·refine Ok.b 14 [2] [(140,.bool true)] ?_
    refine Ok.nt (Ok.rb 140 (tmyV5 xt) (Eq.trans (Eq.trans (Eq.trans (mor_t X0) (mor_f Y0)) (mor_f i0)) ((if_t g0).symm)) ?_)
    exact fz hF
   refine Ok.rn 5 [.e 0] [2] [(131,.bool (decide (xt.lab.2.2.2.2.1>1000)))] ?_
   refine Ok.bw 131 hF (fun a0 hF=>?_) (fun a0 hF=>?_)
   ·refine Ok.b 9 [2] [(140,.bool true)] ?_
    refine Ok.nt (Ok.rb 140 (tmyV5 xt) (Eq.trans (Eq.trans (Eq.trans (Eq.trans (mor_t a0) (mor_f X0)) (mor_f Y0)) (mor_f i0)) ((if_t g0).symm)) ?_)
    exact fz hF
   refine Ok.rn 5 [.e 0] [2] [(136,.bool (decide (xt.lab.2.2.2.2.2<(-1000))))] ?_
   refine Ok.bw 136 hF (fun q1 hF=>?_) (fun q1 hF=>?_)
   ·refine Ok.b 4 [2] [(140,.bool true)] ?_
    refine Ok.nt (Ok.rb 140 (tmyV5 xt) (Eq.trans (Eq.trans (Eq.trans (Eq.trans (Eq.trans (mor_t q1) (mor_f a0)) (mor_f X0)) (mor_f Y0)) (mor_f i0)) ((if_t g0).symm)) ?_)
    exact fz hF
   refine Ok.rn 4 [.e 0] [2] [(140,.bool (decide (xt.lab.2.2.2.2.2>1000)))] ?_
   refine Ok.nt (Ok.rb 140 (tmyV5 xt) (Eq.trans (Eq.trans (Eq.trans (Eq.trans (Eq.trans (mor_f q1) (mor_f a0)) (mor_f X0)) (mor_f Y0)) (mor_f i0)) ((if_t g0).symm)) ?_)
   exact fz hF
  refine Ok.rn 15 [.e 0] [2] [(126,.bool (decide (xt.lab.2.2.2.2.1<(-1000))))] ?_
  refine Ok.bw 126 hF (fun S0 hF=>?_) (fun S0 hF=>?_)
  ·refine Ok.b 14 [2] [(140,.bool true)] ?_
   refine Ok.nt (Ok.rb 140 (tmyV5 xt) (Eq.trans (mor_t S0) ((if_f g0).symm)) ?_)
   exact fz hF
  refine Ok.rn 5 [.e 0] [2] [(131,.bool (decide (xt.lab.2.2.2.2.1>1000)))] ?_
  refine Ok.bw 131 hF (fun m0 hF=>?_) (fun m0 hF=>?_)
  ·refine Ok.b 9 [2] [(140,.bool true)] ?_
   refine Ok.nt (Ok.rb 140 (tmyV5 xt) (Eq.trans (Eq.trans (mor_t m0) (mor_f S0)) ((if_f g0).symm)) ?_)
   exact fz hF
  refine Ok.rn 5 [.e 0] [2] [(136,.bool (decide (xt.lab.2.2.2.2.2<(-1000))))] ?_
  refine Ok.bw 136 hF (fun n0 hF=>?_) (fun n0 hF=>?_)
  ·refine Ok.b 4 [2] [(140,.bool true)] ?_
   refine Ok.nt (Ok.rb 140 (tmyV5 xt) (Eq.trans (Eq.trans (Eq.trans (mor_t n0) (mor_f m0)) (mor_f S0)) ((if_f g0).symm)) ?_)
   exact fz hF
  refine Ok.rn 4 [.e 0] [2] [(140,.bool (decide (xt.lab.2.2.2.2.2>1000)))] ?_
  refine Ok.nt (Ok.rb 140 (tmyV5 xt) (Eq.trans (Eq.trans (Eq.trans (mor_f n0) (mor_f m0)) (mor_f S0)) ((if_f g0).symm)) ?_)
  exact fz hF
 refine Ok.cw hF (fun hc7 hF=>?_) (fun hc7 hF=>?_)
 ·refine Ok.sr (Ok.B 1 [(4,.bool false)] kr (Ok.nt (Ok.ret (Ok.tr ?_))))
  exact Ok.pb false hF
 refine Ok.k (Ok.t (Ok.q (Ok.ct [(2,pv bs2 0),(148,.bool ((xt.lab.1==10)||(xt.lab.1==11)))] [.blk bs2 (.cells (aL xt.lab k0 xt.kids.length y0) 60)] (tmyj56 N xt K) ?_ (fun hF=>?_))))
 ·
  refine Ok.r (Ok.rn 4 [.e 0] [2] [(144,.bool (xt.lab.1==10))] ?_)
  refine Ok.bw 144 hF (fun Z0 hF=>?_) (fun Z0 hF=>?_)
  ·refine Ok.b 4 [2] [(148,.bool true)] ?_
   refine Ok.nt (Ok.rb 148 ((xt.lab.1==10)||(xt.lab.1==11)) (mor_t Z0) ?_)
   exact fz hF
  refine Ok.rn 4 [.e 0] [2] [(148,.bool (xt.lab.1==11))] ?_
  refine Ok.nt (Ok.rb 148 ((xt.lab.1==10)||(xt.lab.1==11)) (mor_f Z0) ?_)
  exact fz hF
 refine Ok.cw hF (fun hc8 hF=>?_) (fun hc8 hF=>?_)
 ·refine Ok.q (Ok.r ?_)
  obtain ⟨hp9,hF⟩:=hF
  refine Ok.rn 4 [.e 0,.k (ih_pmy _ xt.kids f0 hG0 hp9)] [] [(4,.bool (ptsS xt.kids))] ?_
  refine Ok.nt (Ok.ret (Ok.tr ?_))
  exact Ok.pb (ptsS xt.kids) hF
 refine Ok.k (Ok.t (Ok.sr (Ok.rn 5 [.e 0] [] [(4,.bool ((xt.kids.length:Int)==0))] ?_)))
 refine Ok.nt (Ok.ret ?_)
 exact Ok.pb ((xt.kids.length:Int)==0) hF
def pmyV0 (e3:PH):Bool :=
 (((e3.1.length:Int)==0)||((e3.2.length:Int) != (w6 ((e3.1.length:Int) - 1))))
def pmyV3 (e3:PH) (z0:Int):Bool :=
 ((((e3.1.getD z0.toNat default).length:Int)==0)||(decide (z0>0)&&(!(hbyS ([32,62,43,126]:Bs) (e3.2.getD (Int.toNat (w6 (z0 - 1))) default)))))
def pmyl49b (N:Nat) (K:Bool→Prop) (e3:PH) (z0:Int) (C29:Int→Prop) (v0:Int) (C49:Int→Prop):Prop :=
 0≤z0∧z0.toNat<e3.1.length∧((decide (v0<((e3.1.getD z0.toNat default).length:Int)))=true→0≤v0∧v0.toNat<(e3.1.getD z0.toNat default).length∧tmyP N ((e3.1.getD z0.toNat default).getD v0.toNat default) v0∧((!(tstS ((e3.1.getD z0.toNat default).getD v0.toNat default) v0))=true→K false)∧((!(tstS ((e3.1.getD z0.toNat default).getD v0.toNat default) v0))=false→C49 (w6 (v0+1))))∧((decide (v0<((e3.1.getD z0.toNat default).length:Int)))=false→C29 (w6 (z0+1)))
def pmyl49 (N:Nat) (K:Bool→Prop) (e3:PH) (z0:Int) (C29:Int→Prop):Nat→Int→Prop
 | 0,_=>False
 | k+1,v0=>pmyl49b N K e3 z0 C29 v0 (pmyl49 N K e3 z0 C29 k)
def pmyj39 (N:Nat) (K:Bool→Prop) (e3:PH) (z0:Int) (C29:Int→Prop):Prop :=
 (pmyV3 e3 z0=true→K false)∧(pmyV3 e3 z0=false→∃ k,pmyl49 N K e3 z0 C29 k 0)
def pmyl29b (N:Nat) (K:Bool→Prop) (e3:PH) (q0:Int) (C7:Int→Prop) (z0:Int) (C29:Int→Prop):Prop :=
 ((decide (z0<(e3.1.length:Int)))=true→0≤z0∧z0.toNat<e3.1.length∧((((e3.1.getD z0.toNat default).length:Int)==0)=true→pmyj39 N K e3 z0 C29)∧((((e3.1.getD z0.toNat default).length:Int)==0)=false→(decide (z0>0)=true→0≤w6 (z0 - 1)∧Int.toNat (w6 (z0 - 1))<e3.2.length∧hbyP ([32,62,43,126]:Bs) (e3.2.getD (Int.toNat (w6 (z0 - 1))) default)∧pmyj39 N K e3 z0 C29)∧(decide (z0>0)=false→pmyj39 N K e3 z0 C29)))∧((decide (z0<(e3.1.length:Int)))=false→C7 (w6 (q0+1)))
def pmyl29 (N:Nat) (K:Bool→Prop) (e3:PH) (q0:Int) (C7:Int→Prop):Nat→Int→Prop
 | 0,_=>False
 | k+1,z0=>pmyl29b N K e3 q0 C7 z0 (pmyl29 N K e3 q0 C7 k)
def pmyj19 (N:Nat) (K:Bool→Prop) (e3:PH) (q0:Int) (C7:Int→Prop):Prop :=
 (pmyV0 e3=true→K false)∧(pmyV0 e3=false→∃ k,pmyl29 N K e3 q0 C7 k 0)
def pmyl7b (N:Nat) (xl:List PH) (K:Bool→Prop) (q0:Int) (C7:Int→Prop):Prop :=
 ((decide (q0<(xl.length:Int)))=true→0≤q0∧q0.toNat<xl.length∧((((xl.getD q0.toNat default).1.length:Int)==0)=true→pmyj19 N K (xl.getD q0.toNat default) q0 C7)∧((((xl.getD q0.toNat default).1.length:Int)==0)=false→pmyj19 N K (xl.getD q0.toNat default) q0 C7))∧((decide (q0<(xl.length:Int)))=false→K (decide ((xl.length:Int)>0)))
def pmyl7 (N:Nat) (xl:List PH) (K:Bool→Prop):Nat→Int→Prop
 | 0,_=>False
 | k+1,q0=>pmyl7b N xl K q0 (pmyl7 N xl K k)
def pmyF (N:Nat) (xl:List PH) (K:Bool→Prop):Prop :=
 ∃ k,pmyl7 N xl K k 0
theorem pmy_ok {g:Ghost} (N:Nat) (ih_tmy:tmy_C N) (ih_pmy:pmy_C N) {u0:Option Addr} {j0:Nat} (xl:List PH) (x0:Rep g (.slice yP) [.slice u0 xl.length j0] xl) (hG0:SomeInt g 0) (K:Bool→Prop)
  (hF:pmyF N xl K):CallsH prog 21 #[.slice u0 xl.length j0] g [] (fun g' H' v=>∃ (r0:Bool),v=.bool r0∧H'=[]∧K r0):=by
 refine CallsH.en 83 func21 rfl fun w0=>?_
 refine Ok.sr (Ok.B 1 [(0,.slice u0 xl.length j0)] kr (Ok.nt (Ok.q (Ok.sr (Ok.b 1 [0] [(3,iv 0)] ?_)))))
 refine Ok.nt (Ok.block ?_)
 obtain ⟨k,hF⟩:=hF
 refine Ok.L (fun k a W=>∃ (q0:Int),StA 83 [(0,.slice u0 xl.length j0),(3,iv q0)] a∧StW w0 [] g W∧pmyl7 N xl K k q0) k ?_ ?_
 ·
  exact fun _ _ u v=>⟨0,fA u v hF⟩
 clear hF
 rintro (_ | k7) _ _ ⟨q0,q⟩
 exact (q.2.2:False).elim
 refine jn (fun hF=>?_) _ _ q
 refine Ok.q (Ok.sr (Ok.b 4 [0,3] [(10,.bool (decide (q0<(xl.length:Int))))] ?_))
 refine Ok.nt (Ok.cw hF (fun hc1 hF=>?_) (fun hc1 hF=>?_))
 ·refine Ok.k (Ok.t (Ok.q (Ok.block (Ok.sr (Ok.b 2 [0,3] [(13,.slice u0 xl.length j0),(14,iv q0)] ?_)))))
  obtain ⟨h03,h13,hF⟩:=hF
  have he3:=get_of (l:=xl) default h13
  generalize hg3:(xl.getD q0.toNat default)=e3 at he3 hF ⊢
  refine Ok.o (OpOk.indexRo (e:=yP) rfl rfl underlying33 kr x0 h03 he3 rfl fun q2 o2 cs2 _ k1 hr2=>?_)
  obtain ⟨_,_,rfl,⟨s0,b0,rfl,hm2_0,hr2_0⟩,⟨c0,d0,rfl,hm2_1,hr2_1⟩⟩:=hr2
  have B0:Rep g (.slice (.slice yS)) [.slice s0 e3.1.length b0] e3.1:=⟨s0,b0,rfl,hm2_0,hr2_0⟩
  have hR2_1:Rep g (.slice yb) [.slice c0 e3.2.length d0] e3.2:=⟨c0,d0,rfl,hm2_1,hr2_1⟩
  replace k1:At g q2 o2 [.slice s0 e3.1.length b0,.slice c0 e3.2.length d0]:=k1
  refine Ok.o (OpOk.s (v:=.agg #[.slice s0 e3.1.length b0,.slice c0 e3.2.length d0]) (Yields.loadAggRo 0 2 #[.slice s0 e3.1.length b0,.slice c0 e3.2.length d0] k1 kr underlying28 rfl kr kr kr) rfl rfl (Ok.o (OpOk.aw #[.slice none 0 0,.slice none 0 0] fun bs4=>?_)))
  refine Ok.o (OpOk.sw 0 #[.slice s0 e3.1.length b0,.slice c0 e3.2.length d0] rfl rfl rfl ?_)
  refine Ok.nt (Ok.q (Ok.cut (fun a W=>StA 83 [(0,.slice u0 xl.length j0),(3,iv q0),(4,pv bs4 0),(30,.bool (pmyV0 e3))] a∧StW w0 [.blk bs4 (.cells #[.slice s0 e3.1.length b0,.slice c0 e3.2.length d0] 28)] g W∧pmyj19 N K e3 q0 (pmyl7 N xl K k7)) ?_ ?_))
  ·
   refine Ok.r (Ok.rn 5 [.e 0] [0,3] [(4,pv bs4 0),(21,.bool ((e3.1.length:Int)==0))] ?_)
   refine Ok.bw 21 hF (fun t0 hF=>?_) (fun t0 hF=>?_)
   ·refine Ok.b 9 [0,3,4] [(30,.bool true)] ?_
    refine Ok.nt (Ok.rb 30 (pmyV0 e3) (mor_t t0) ?_)
    exact fz hF
   refine Ok.rn 9 [.e 0,.e 0] [0,3,4] [(30,.bool ((e3.2.length:Int) != (w6 ((e3.1.length:Int) - 1))))] ?_
   refine Ok.nt (Ok.rb 30 (pmyV0 e3) (mor_f t0) ?_)
   exact fz hF
  clear hF
  refine jn fun hF=>?_
  refine Ok.cn hF rfl (fun hc5=>?_) (fun hc5=>?_)
  ·replace hF:=hF.1 hc5
   refine Ok.sr (Ok.B 1 [(2,.bool false)] kr (Ok.nt (Ok.ret (Ok.tr (Ok.kr (Ok.tr (Ok.tr (Ok.kr (Ok.tr ?_)))))))))
   exact Ok.pb false hF
  replace hF:=hF.2 hc5
  refine Ok.k (Ok.t (Ok.sr (Ok.b 1 [0,3,4] [(5,iv 0)] ?_)))
  refine Ok.nt (Ok.block ?_)
  obtain ⟨k,hF⟩:=hF
  refine Ok.L (fun k a W=>∃ (z0:Int),StA 83 [(0,.slice u0 xl.length j0),(3,iv q0),(4,pv bs4 0),(5,iv z0)] a∧StW w0 [.blk bs4 (.cells #[.slice s0 e3.1.length b0,.slice c0 e3.2.length d0] 28)] g W∧pmyl29 N K e3 q0 (pmyl7 N xl K k7) k z0) k ?_ ?_
  ·
   exact fun _ _ u v=>⟨0,fA u v hF⟩
  clear hF
  rintro (_ | k29) _ _ ⟨z0,q⟩
  exact (q.2.2:False).elim
  refine jn (fun hF=>?_) _ _ q
  refine Ok.q (Ok.sr (Ok.rn 5 [.e 0] [0,3,4,5] [(35,.bool (decide (z0<(e3.1.length:Int))))] ?_))
  refine Ok.nt (Ok.cn hF rfl (fun hc6=>?_) (fun hc6=>?_))
  ·replace hF:=hF.1 hc6
   refine Ok.k (Ok.t (Ok.q (Ok.block (Ok.q (Ok.ct [(0,.slice u0 xl.length j0),(3,iv q0),(4,pv bs4 0),(5,iv z0),(58,.bool (pmyV3 e3 z0))] [.blk bs4 (.cells #[.slice s0 e3.1.length b0,.slice c0 e3.2.length d0] 28)] (pmyj39 N K e3 z0 (pmyl29 N K e3 q0 (pmyl7 N xl K k7) k29)) ?_ (fun hF=>?_))))))
   ·
    refine Ok.r (Ok.rn 3 [.e 0] [0,3,4,5] [(39,.slice s0 e3.1.length b0),(40,iv z0)] ?_)
    obtain ⟨h017,h117,hF⟩:=hF
    have u1:=get_of (l:=e3.1) default h117
    generalize y1:(e3.1.getD z0.toNat default)=e17 at u1 hF ⊢
    refine Ok.o (OpOk.indexRo (e:=.slice yS) rfl rfl underlying25 kr B0 h017 u1 rfl fun q16 o16 cs16 _ hat16 hr16=>?_)
    obtain ⟨a16_0,c16_0,rfl,hR16_0⟩:=oS hr16
    refine Ok.rn 4 [.a 0 hat16] [0,3,4,5] [(45,.bool ((e17.length:Int)==0))] ?_
    refine Ok.a 45 ((e17.length:Int)==0) rfl (fun m0=>?_) (fun m0=>?_)
    ·replace hF:=hF.1 m0
     refine Ok.b 13 [0,3,4,5] [(58,.bool true)] ?_
     refine Ok.j (Ok.t ?_)
     subst y1
     refine Ok.rb 58 (pmyV3 e3 z0) (mor_t m0) ?_
     exact fz hF
    replace hF:=hF.2 m0
    refine Ok.b 3 [0,3,4,5] [(45,.bool false),(48,.bool (decide (z0>0)))] ?_
    refine Ok.a 48 (decide (z0>0)) rfl (fun n0=>?_) (fun n0=>?_)
    ·replace hF:=hF.1 n0
     refine Ok.rn 4 [.e 0] [0,3,4,5,45] [(48,.bool true),(50,.slice c0 e3.2.length d0),(52,iv (w6 (z0 - 1)))] ?_
     obtain ⟨h021,h121,hF⟩:=hF
     have j1:=get_of (l:=e3.2) default h121
     generalize hg21:(e3.2.getD (Int.toNat (w6 (z0 - 1))) default)=e21 at j1 hF ⊢
     refine Ok.oy (OpOk.indexRo (e:=.int .u8) rfl rfl underlying26 kr hR2_1 h021 j1 rfl fun q20 o20 cs20 _ C0 hr20=>?_)
     obtain rfl:=hr20
     replace C0:At g q20 o20 [.int .u8 e21]:=C0
     obtain ⟨hp22,hF⟩:=hF
     refine Ok.rn 5 [.a 0 C0,.k (hby_c ([32,62,43,126]:Bs) e21 hp22)] [0,3,4,5] [(58,.bool (!(hbyS ([32,62,43,126]:Bs) e21)))] ?_
     refine Ok.j (Ok.t ?_)
     subst hg21
     subst y1
     refine Ok.rb 58 (pmyV3 e3 z0) (Eq.trans (mand_t n0) (mor_f m0)) ?_
     exact fz hF
    replace hF:=hF.2 n0
    refine Ok.b 10 [0,3,4,5] [(58,.bool false)] ?_
    refine Ok.j (Ok.t ?_)
    subst y1
    refine Ok.rb 58 (pmyV3 e3 z0) (Eq.trans (mand_f n0) (mor_f m0)) ?_
    exact fz hF
   refine Ok.cw hF (fun hc7 hF=>?_) (fun hc7 hF=>?_)
   ·refine Ok.sr (Ok.B 1 [(2,.bool false)] kr (Ok.nt (Ok.ret (Ok.tr (Ok.kr (Ok.tr (Ok.tr (Ok.kr (Ok.kr (Ok.tr (Ok.tr (Ok.kr (Ok.tr ?_)))))))))))))
    exact Ok.pb false hF
   refine Ok.k (Ok.t (Ok.sr (Ok.b 1 [0,3,4,5] [(6,iv 0)] ?_)))
   refine Ok.nt (Ok.block ?_)
   obtain ⟨k,hF⟩:=hF
   refine Ok.L (fun k a W=>∃ (v0:Int),StA 83 [(0,.slice u0 xl.length j0),(3,iv q0),(4,pv bs4 0),(5,iv z0),(6,iv v0)] a∧StW w0 [.blk bs4 (.cells #[.slice s0 e3.1.length b0,.slice c0 e3.2.length d0] 28)] g W∧pmyl49 N K e3 z0 (pmyl29 N K e3 q0 (pmyl7 N xl K k7) k29) k v0) k ?_ ?_
   ·
    exact fun _ _ u v=>⟨0,fA u v hF⟩
   clear hF
   rintro (_ | k49) _ _ ⟨v0,q⟩
   exact (q.2.2:False).elim
   refine jn (fun hF=>?_) _ _ q
   refine Ok.q (Ok.sr (Ok.rn 4 [.e 0] [0,3,4,5,6] [(59,iv v0),(61,.slice s0 e3.1.length b0),(62,iv z0)] ?_))
   obtain ⟨h09,h19,hF⟩:=hF
   have he9:=get_of (l:=e3.1) default h19
   generalize hg9:(e3.1.getD z0.toNat default)=e9 at he9 hF ⊢
   refine Ok.o (OpOk.indexRo (e:=.slice yS) rfl rfl underlying25 kr B0 h09 he9 rfl fun q8 o8 cs8 _ hat8 hr8=>?_)
   obtain ⟨a8_0,c8_0,rfl,hR8_0⟩:=oS hr8
   refine Ok.rn 3 [.a 0 hat8] [0,3,4,5,6] [(66,.bool (decide (v0<(e9.length:Int))))] ?_
   refine Ok.nt (Ok.cn hF rfl (fun Z0=>?_) (fun Z0=>?_))
   ·replace hF:=hF.1 Z0
    refine Ok.k (Ok.t (Ok.q (Ok.block (Ok.sr (Ok.rn 3 [.e 0] [0,3,4,5,6] [(70,.slice s0 e3.1.length b0),(71,iv z0)] ?_)))))
    refine Ok.o (OpOk.indexRo (e:=.slice yS) rfl rfl underlying25 kr B0 h09 he9 rfl fun q11 o11 cs11 _ hat11 hr11=>?_)
    obtain ⟨a11_0,c11_0,rfl,hR11_0⟩:=oS hr11
    refine Ok.rn 2 [.a 0 hat11] [0,3,4,5,6] [(73,.slice a11_0 e9.length c11_0),(74,iv v0)] ?_
    obtain ⟨h013,h113,hF⟩:=hF
    have x1:=get_of (l:=e9) default h113
    generalize hg13:(e9.getD v0.toNat default)=e13 at x1 hF ⊢
    refine Ok.o (OpOk.indexRo (e:=yS) rfl rfl underlying54 kr hR11_0 h013 x1 rfl fun q12 o12 cs12 _ D0 hr12=>?_)
    have V0:=hr12
    replace V0:=Rep.tst.1 V0
    obtain ⟨_,_,rfl,⟨_,_,rfl,rfl,⟨_,_,rfl,rfl,⟨_,_,rfl,rfl,⟨_,_,rfl,rfl,⟨_,_,rfl,rfl,rfl⟩⟩⟩⟩⟩,⟨E0,F0,rfl,hm12_6,hr12_6⟩⟩:=V0
    have hR12_6:Rep g (.slice yP) [.slice E0 e13.kids.length F0] e13.kids:=⟨E0,F0,rfl,hm12_6,hr12_6⟩
    replace D0:At g q12 o12 (vL e13.lab E0 e13.kids.length F0):=D0
    obtain ⟨hp14,hF⟩:=hF
    refine Ok.rn 4 [.a 0 D0,.k (ih_tmy _ e13 v0 hR12_6 hG0 hp14)] [0,3,4,5,6] [(79,.bool (!(tstS e13 v0)))] ?_
    refine Ok.nt (Ok.cn hF rfl (fun a0=>?_) (fun a0=>?_))
    ·replace hF:=hF.1 a0
     refine Ok.sr (Ok.B 1 [(2,.bool false)] kr (Ok.nt (Ok.ret (Ok.kr (Ok.tr (Ok.tr (Ok.kr (Ok.kr (Ok.tr (Ok.tr (Ok.kr (Ok.kr (Ok.tr (Ok.tr (Ok.kr (Ok.tr ?_))))))))))))))))
     exact Ok.pb false hF
    replace hF:=hF.2 a0
    refine Ok.k (Ok.kn (Ok.t (Ok.r (Ok.b 3 [0,3,4,5] [(6,iv (w6 (v0+1)))] ?_))))
    refine Ok.j (Ok.t ?_)
    subst hg13
    subst hg9
    exact fun _ _ u v=>⟨k49,nl,w6 (v0+1),fA u v hF⟩
   replace hF:=hF.2 Z0
   refine Ok.x (Ok.thenE (Ok.thenE (Ok.blockHit (Ok.kn (Ok.t (Ok.r (Ok.b 3 [0,3,4] [(5,iv (w6 (z0+1)))] ?_)))))))
   refine Ok.j (Ok.t ?_)
   subst hg9
   exact fun _ _ u v=>⟨k29,nl,w6 (z0+1),fA u v hF⟩
  replace hF:=hF.2 hc6
  refine Ok.x (Ok.thenE (Ok.thenE (Ok.blockHit (Ok.kn (Ok.t (Ok.r (Ok.b 3 [0] [(3,iv (w6 (q0+1)))] ?_)))))))
  refine Ok.j (Ok.t ?_)
  subst hg3
  exact fun _ _ u v=>⟨k7,nl,w6 (q0+1),fA u v hF⟩
 refine Ok.x (Ok.thenE (Ok.thenE (Ok.blockHit (Ok.t (Ok.sr (Ok.B 4 [(2,.bool (decide ((xl.length:Int)>0)))] kr (Ok.nt (Ok.ret ?_))))))))
 exact Ok.pb (decide ((xl.length:Int)>0)) hF
theorem tmy_0 (t:Ts) (i:Int):¬ tmyP 0 t i:=fun h=>absurd h.1 (Nat.not_lt_zero _)
theorem pmy_0 (l:List Ph):¬ pmyP 0 l:=fun h=>absurd h.1 (Nat.not_lt_zero _)
theorem l0_eq (t:Ts) (i:Int):l0 t.lab i=((decide (t.lab.1<1)||decide (t.lab.1>11))||(tmyV0 t i||tmyV2 t)):=by
 unfold l0 tmyV0 tmyV2 tmyV1
 have hep:((t.lab.2.1==([]:Bs))&&plainS t.lab.2.1)=false:=by
  cases t.lab.2.1 with
  | nil=>decide
  | cons c s=>rfl
 generalize t.lab.1=k
 generalize (t.lab.2.1==([]:Bs))=e at *
 generalize plainS t.lab.2.1=p at *
 generalize decide (i>0)=a
 by_cases h1:k<1
 ·rw [decide_eq_true h1]; simp
 by_cases h2:k>11
 ·rw [decide_eq_true h2]; simp
 obtain rfl | rfl | rfl | rfl | rfl | rfl | rfl | rfl | rfl | rfl | rfl:k=1∨k=2∨k=3∨k=4∨k=5∨k=6∨k=7∨k=8∨k=9∨k=10∨k=11:=by omega
 all_goals (revert a e p hep; decide)
theorem l1_eq (t:Ts):l1 t.lab=tmyV3 t:=by
 unfold l1 tmyV3
 rw [show (lowerS t.lab.2.1==t.lab.2.1)=(t.lab.2.1==lowerS t.lab.2.1) from Bool.beq_comm ..]
theorem l2_eq (t:Ts):l2 t.lab=tmyV4 t:=by
 unfold l2 tmyV4
 generalize (t.lab.1 != 5)=a
 generalize (t.lab.2.2.2.1==([]:Bs))=b
 generalize hbyS ([61,126,124,94,36,42]:Bs) t.lab.2.2.1=c
 by_cases h:t.lab.2.2.1=0
 ·rw [h]; revert a b c; decide
 rw [show (t.lab.2.2.1==0)=false by simpa using h,show (t.lab.2.2.1 != 0)=true by simpa using h]
 revert a b c; decide
theorem l3_eq (t:Ts):l3 t.lab=tmyV5 t:=by
 unfold l3 tmyV5
 generalize (!((t.lab.1==8)||(t.lab.1==9)))=c
 generalize t.lab.2.2.2.2.1=a
 generalize t.lab.2.2.2.2.2=b
 have e:((decide ((if b<a then b else a)<(-1000)))||(decide ((if a<b then b else a)>1000)))=(decide (a<(-1000))||(decide (a>1000)||(decide (b<(-1000))||decide (b>1000)))):=by
  rw [Bool.eq_iff_iff]
  simp only [Bool.or_eq_true,decide_eq_true_eq]
  split <;> split <;> omega
 rw [e]
theorem lab_eq (t:Ts) (i:Int):labS t.lab i = !(((decide (t.lab.1<1)||decide (t.lab.1>11))||(tmyV0 t i||tmyV2 t))||(tmyV3 t||(tmyV4 t||tmyV5 t))):=by
 unfold labS
 rw [l0_eq,l1_eq,l2_eq,l3_eq]
 simp only [Bool.not_or]
theorem tmy_F (N:Nat) (t:Ts) (i:Int) (h:tmyP (N+1) t i):tmyF N t i (fun r=>r=tstS t i):=by
 have hk:pmyP N t.kids:=tstP_kids h
 have hb:=bT_kids t
 have hc:cutP t.lab.2.1:=by have:=h.2.1; show t.lab.2.1.length<4294967281; omega
 have hl:lowerP t.lab.2.1:=by have:=h.2.1; show t.lab.2.1.length≤140737488351232; omega
 have hy:hbyP ([61,126,124,94,36,42]:Bs) t.lab.2.2.1:=by show 6≤140737488351232; omega
 have e:=okT_eq t i
 rw [lab_eq] at e
 have e:tstS t i=_:=e
 generalize hB:(decide (t.lab.1<1)||decide (t.lab.1>11))=B at e
 have j56:B=false→tmyV0 t i=false→tmyV2 t=false→tmyV3 t=false→tmyV4 t=false→tmyV5 t=false→tmyj56 N t (fun r=>r=tstS t i):=by
  intro hB h0 h2 h3 h4 h5
  rw [hB,h0,h2,h3,h4,h5] at e
  refine ⟨fun hn=>⟨hk,?_⟩,fun hn=>?_⟩
  ·rw [if_t hn] at e; rw [e]; rfl
  rw [if_f hn] at e; rw [e]; rfl
 have j48:B=false→tmyV0 t i=false→tmyV2 t=false→tmyV3 t=false→tmyV4 t=false→tmyj48 N t (fun r=>r=tstS t i):=by
  intro hB h0 h2 h3 h4
  refine ⟨fun h5=>?_,fun h5=>⟨fun _=>j56 hB h0 h2 h3 h4 h5,fun _=>j56 hB h0 h2 h3 h4 h5⟩⟩
  rw [h5] at e; rw [e]; simp
 have j45:B=false→tmyV0 t i=false→tmyV2 t=false→tmyV3 t=false→tmyV4 t=false→tmyj45 N t (fun r=>r=tstS t i):=by
  intro hB h0 h2 h3 h4
  have k:=j48 hB h0 h2 h3 h4
  exact ⟨fun _=>⟨fun _=>k,fun _=>⟨fun _=>k,fun _=>⟨fun _=>k,fun _=>⟨fun _=>k,fun _=>⟨fun _=>k,fun _=>k⟩⟩⟩⟩⟩,fun _=>⟨fun _=>k,fun _=>⟨fun _=>k,fun _=>⟨fun _=>k,fun _=>k⟩⟩⟩⟩
 have j38:B=false→tmyV0 t i=false→tmyV2 t=false→tmyV3 t=false→tmyj38 N t (fun r=>r=tstS t i):=by
  intro hB h0 h2 h3
  refine ⟨fun h4=>?_,fun h4=>⟨fun _=>j45 hB h0 h2 h3 h4,fun _=>j45 hB h0 h2 h3 h4⟩⟩
  rw [h4] at e; rw [e]; simp
 have j30:B=false→tmyV0 t i=false→tmyV2 t=false→tmyj30 N t (fun r=>r=tstS t i):=by
  intro hB h0 h2
  refine ⟨fun h3=>?_,fun h3=>?_⟩
  ·rw [h3] at e; rw [e]; simp
  have k:=j38 hB h0 h2 h3
  exact ⟨fun _=>⟨fun _=>k,fun _=>⟨fun _=>⟨fun _=>k,fun _=>⟨hy,k⟩⟩,fun _=>k⟩⟩,fun _=>⟨fun _=>⟨fun _=>k,fun _=>⟨hy,k⟩⟩,fun _=>k⟩⟩
 have j22:B=false→tmyV0 t i=false→tmyj22 N t (fun r=>r=tstS t i):=by
  intro hB h0
  refine ⟨fun h2=>?_,fun h2=>?_⟩
  ·rw [h2] at e; rw [e]; simp
  have k:=j30 hB h0 h2
  exact ⟨fun _=>⟨hl,k⟩,fun _=>⟨fun _=>⟨hl,k⟩,fun _=>k⟩⟩
 have j19:B=false→tmyV0 t i=false→tmyj19 N t (fun r=>r=tstS t i):=by
  intro hB h0
  have k:=j22 hB h0
  exact ⟨fun _=>⟨fun _=>k,fun _=>⟨fun _=>⟨hc,k⟩,fun _=>k⟩⟩,fun _=>⟨fun _=>⟨hc,k⟩,fun _=>k⟩⟩
 have j12:B=false→tmyj12 N t i (fun r=>r=tstS t i):=by
  intro hB
  refine ⟨fun h0=>?_,fun h0=>?_⟩
  ·rw [h0] at e; rw [e]; simp
  have k:=j19 hB h0
  exact ⟨fun _=>k,fun _=>⟨fun _=>k,fun _=>⟨fun _=>k,fun _=>k⟩⟩⟩
 have j4:tmyj4 N t i (fun r=>r=tstS t i):=by
  refine ⟨fun h0=>?_,fun h0=>?_⟩
  ·rw [hB] at h0
   rw [h0] at e; rw [e]; simp
  rw [hB] at h0
  have k:=j12 h0
  exact ⟨fun _=>⟨fun _=>k,fun _=>k⟩,fun _=>k⟩
 exact ⟨fun _=>j4,fun _=>j4⟩
theorem pmy49 {N:Nat} {r:Bool} (q:Ph) (k:Nat) (hk:k<q.1.length) (hk2:k≤1048600) (hs:∀ t ∈ q.1.getD k default,∀ i,tmyP N t i) (hl:(q.1.getD k default).length≤1048600) (C:Int→Prop) (R:Bool) (hC:r=R→C (w6 ((k:Int)+1))) :
  ∀ (m i:Nat),i+m=(q.1.getD k default).length→r=(ok1 ((q.1.getD k default).drop i) i&&R)→pmyl49 N (fun x=>x=r) q (k:Int) C (m+1) (i:Int):=by
 intro m
 induction m with
 | zero =>
  intro i hi he
  rw [List.drop_of_length_le om,ok1,Bool.true_and] at he
  refine ⟨by omega,by rw [tnc]; omega,?_⟩
  rw [tnc]
  exact ⟨fun hc=>absurd (of_decide_eq_true hc) om,fun _=>hC he⟩
 | succ m ih =>
  intro i hi he
  have hi':i<(q.1.getD k default).length:=by omega
  have ht:=hs _ (get_in default hi') i
  rw [drop_get (l:=q.1.getD k default) default hi',ok1,Bool.and_assoc] at he
  refine ⟨by omega,by rw [tnc]; omega,?_⟩
  rw [tnc]
  refine ⟨fun _=>⟨by omega,by rw [tnc]; omega,?_⟩,fun hc=>absurd (of_decide_eq_false hc) om⟩
  rw [tnc]
  refine ⟨ht,fun hb=>?_,fun hb=>?_⟩
  ·have hb:okT ((q.1.getD k default).getD i default) i=false:=by simpa [tstS] using hb
   rw [he,hb,Bool.false_and]
  have hb:okT ((q.1.getD k default).getD i default) i=true:=by simpa [tstS] using hb
  rw [hb,Bool.true_and,show (i:Int)+1=((i+1:Nat):Int) by omega] at he
  rw [w64 om,show (i:Int)+1=((i+1:Nat):Int) by omega]
  exact ih (i+1) om he
theorem pmy29 {N:Nat} {r:Bool} (q:Ph) (hs:∀ s ∈ q.1,∀ t ∈ s,∀ i,tmyP N t i) (hw:w2 q.1≤1048600) (hl:q.2.length+1=q.1.length) (j:Int) (C:Int→Prop) (R:Bool) (hC:r=R→C (w6 (j+1))) :
  ∀ (m i:Nat),i+m=q.1.length→r=(ok2 (q.1.drop i)&&((q.2.drop (i - 1)).all jnB&&R))→pmyl29 N (fun x=>x=r) q j C (m+1) (i:Int):=by
 intro m
 have h3:=w2_len q.1
 induction m with
 | zero =>
  intro i hi he
  rw [List.drop_of_length_le om,ok2,Bool.true_and,List.drop_of_length_le om,List.all_nil,Bool.true_and] at he
  exact ⟨fun hc=>absurd (of_decide_eq_true hc) om,fun _=>hC he⟩
 | succ m ih =>
  intro i hi he
  have hi':i<q.1.length:=by omega
  have hin:=get_in default hi'
  have ht:=hs _ hin
  have h1:=w1_len (q.1.getD i default)
  have h2:=w2_in hin
  rw [drop_get (l:=q.1) default hi',ok2,Bool.and_assoc,Bool.and_assoc] at he
  refine ⟨fun _=>⟨by omega,by rw [tnc]; omega,?_⟩,fun hc=>absurd (of_decide_eq_false hc) om⟩
  have go:∀ s,q.1.getD i default=s→(((s.length:Int)==0)=false)→r=(ok1 s 0&&(ok2 (q.1.drop (i+1))&&((q.2.drop i).all jnB&&R)))→∃ k,pmyl49 N (fun x=>x=r) q (i:Int) (pmyl29 N (fun x=>x=r) q j C (m+1)) k 0:=by
   intro s hse hne hr
   subst hse
   refine ⟨_,pmy49 q i hi' om ht om _ _ (fun h=>?_) (q.1.getD i default).length 0 om (by rw [List.drop_zero]; exact hr)⟩
   rw [w64 om,show (i:Int)+1=((i+1:Nat):Int) by omega]
   exact ih (i+1) om h
  have j39:pmyj39 N (fun x=>x=r) q (i:Int) (pmyl29 N (fun x=>x=r) q j C (m+1)):=by
   unfold pmyj39 pmyV3
   rw [tnc]
   by_cases h0:i=0
   ·subst h0
    have e0:(decide (((0:Nat):Int)>0))=false:=rfl
    rw [e0,Bool.false_and,Bool.or_false]
    refine ⟨fun hb=>?_,fun hb=>?_⟩
    ·rw [he,hb]; simp
    rw [hb,Bool.not_false,Bool.true_and] at he
    exact go _ rfl hb he
   have e0:(decide ((i:Int)>0))=true:=decide_eq_true om
   have e1:Int.toNat (w6 ((i:Int) - 1))=i - 1:=by rw [w64 om]; omega
   rw [e0,Bool.true_and,e1]
   rw [drop_get (l:=q.2) (k:=i - 1) default om,List.all_cons,show i - 1+1=i by omega] at he
   refine ⟨fun hb=>?_,fun hb=>?_⟩
   ·rw [Bool.or_eq_true] at hb
    rcases hb with hb | hb
    ·rw [he,hb]; simp
    have hb:jnB (q.2.getD (i - 1) default)=false:=by simpa [jnB] using hb
    rw [he,hb]; simp
   rw [Bool.or_eq_false_iff] at hb
   have hb2:jnB (q.2.getD (i - 1) default)=true:=by simpa [jnB] using hb.2
   rw [hb.1,hb2,Bool.not_false,Bool.true_and,Bool.true_and] at he
   exact go _ rfl hb.1 he
  refine ⟨fun _=>j39,fun _=>⟨fun hc=>?_,fun _=>j39⟩⟩
  have hc:=of_decide_eq_true hc
  rw [w64 om]
  exact ⟨by omega,by omega,by show 4≤140737488351232; omega,j39⟩
theorem pmy_F (N:Nat) (l:List Ph) (h:pmyP (N+1) l):pmyF N l (fun r=>r=ptsS l):=by
 have h5:=b3_eq l
 have hlen:=w3_len l
 have hin:=fun q hq s hs t ht i=>ptsP_in h (q:=q) hq (s:=s) hs (t:=t) ht i
 obtain ⟨_,hb,ho⟩:=h
 have loop:∀ (m i:Nat),i+m=l.length→ptsS l=(ok3 (l.drop i)&&decide ((l.length:Int)>0))→pmyl7 N l (fun r=>r=ptsS l) (m+1) (i:Int):=by
  intro m
  induction m with
  | zero =>
   intro i hi he
   rw [List.drop_of_length_le om,ok3,Bool.true_and] at he
   exact ⟨fun hc=>absurd (of_decide_eq_true hc) om,fun _=>he.symm⟩
  | succ m ih =>
   intro i hi he
   have hi':i<l.length:=by omega
   have hq:=get_in default hi'
   have hwq:=w3_in hq
   have hq1:=w2_len (l.getD i default).1
   rw [drop_get (l:=l) default hi',ok3_cons,Bool.and_assoc,Bool.and_assoc,Bool.and_assoc] at he
   refine ⟨fun _=>⟨by omega,by rw [tnc]; omega,?_⟩,fun hc=>absurd (of_decide_eq_false hc) om⟩
   rw [tnc]
   have j19:pmyj19 N (fun r=>r=ptsS l) (l.getD i default) (i:Int) (pmyl7 N l (fun r=>r=ptsS l) (m+1)):=by
    have hV:pmyV0 (l.getD i default)=((((l.getD i default).1.length:Int)==0)||(((l.getD i default).2.length:Int) != ((l.getD i default).1.length:Int) - 1)):=by
     unfold pmyV0
     rw [w64 om]
    refine ⟨fun h0=>?_,fun h0=>?_⟩
    ·rw [hV] at h0
     rw [he,h0]; rfl
    rw [hV] at h0
    have h1:=h0
    rw [Bool.or_eq_false_iff] at h1
    have h2:(l.getD i default).2.length+1=(l.getD i default).1.length:=by
     have:=bne_eq_false_iff_eq.1 h1.2
     omega
    rw [h0,Bool.not_false,Bool.true_and] at he
    refine ⟨_,pmy29 (l.getD i default) (hin _ hq) om h2 (i:Int) _ _ (fun h=>?_) (l.getD i default).1.length 0 om (by rw [List.drop_zero]; exact he)⟩
    rw [w64 om,show (i:Int)+1=((i+1:Nat):Int) by omega]
    exact ih (i+1) om h
   exact ⟨fun _=>j19,fun _=>j19⟩
 exact ⟨_,loop l.length 0 om (by rw [List.drop_zero]; rfl)⟩
theorem tmy_rec:∀ N,tmy_C N∧pmy_C N
 | 0=>⟨(by intro g k0 y0 xt xat f0 hG0 hp; exact (tmy_0 xt xat hp).elim),(by intro g u0 j0 xl x0 hG0 hp; exact (pmy_0 xl hp).elim)⟩
 | N+1 =>
  have ih:=tmy_rec N
  ⟨(by intro g k0 y0 xt xat f0 hG0 hp; exact (tmy_ok N ih.1 ih.2 xt xat f0 hG0 _ (tmy_F N xt xat hp)).gv),(by intro g u0 j0 xl x0 hG0 hp; exact (pmy_ok N ih.1 ih.2 xl x0 hG0 _ (pmy_F N xl hp)).gv)⟩
def pmyPE (xl:List PH):Prop:=∃ N,pmyP N xl
theorem pmy_c {g:Ghost} {u0:Option Addr} {j0:Nat} (xl:List PH) (x0:Rep g (.slice yP) [.slice u0 xl.length j0] xl) (hG0:SomeInt g 0)  (hp:pmyPE xl):CallsG prog 21 #[.slice u0 xl.length j0] g (.bool (ptsS xl)):=by
 obtain ⟨N,hp⟩:=hp
 exact (tmy_rec N).2 _ xl x0 hG0 hp
end Go.Proofs.YtdapgmigogpdcaaGreatDoor.Se
