/- match: fits, path, Some. -/
import Derived.Test.YtdapgmigogpdcaaGreatDoorMac
import Derived.Test.YtdapgmigogpdcaaGreatDoorSrt
namespace Go.Proofs.YtdapgmigogpdcaaGreatDoor.Ma
open _root_.Go.Proofs.Tryz Go Go.Eng Go.RowKit Go.Shelf Go.Proofs Go.Sort Ti Do Se Sr Css
set_option linter.unusedVariables false
set_option linter.unusedSimpArgs false
set_option maxHeartbeats 4000000
set_option maxRecDepth 100000
noncomputable section
def preB (v w:Bs):Bool:=decide ((v.length:Int)≥(w.length:Int))&&(v.take w.length==w)
def sufB (v w:Bs):Bool:=decide ((v.length:Int)≥(w.length:Int))&&(v.drop (v.length - w.length)==w)
def aftB (v:Bs) (x:Lb):Bool :=
 if (x.2.2.1==61)=true then v==x.2.2.2.1 else if (x.2.2.1==124)=true then (v==x.2.2.2.1||preB v (x.2.2.2.1++[45])) else if (x.2.2.2.1==[])=true then false
 else if (x.2.2.1==126)=true then hwS v x.2.2.2.1 else if (x.2.2.1==94)=true then preB v x.2.2.2.1 else if (x.2.2.1==36)=true then sufB v x.2.2.2.1 else decide (idxS v x.2.2.2.1≥0)
def mfaS (x:ND) (t:Ts):Bool:=(attS x.2.2.1 t.lab.2.1).2&&(t.lab.2.2.1==0||aftB (attS x.2.2.1 t.lab.2.1).1 t.lab)
def mfaP (x:ND) (t:Ts):Prop:=AGood x.2.2.1∧t.lab.2.2.2.1.length≤2000000
def mfaV0 (xx:Nd) (xt:TS):Bool :=
 ((decide ((((matS xx xt.lab.2.1).1).length:Int)≥((xt.lab.2.2.2.1++([45]:Bs)).length:Int)))&&((((matS xx xt.lab.2.1).1).take (Int.toNat ((xt.lab.2.2.2.1++([45]:Bs)).length:Int)))==(xt.lab.2.2.2.1++([45]:Bs))))
def mfaV1 (xx:Nd) (xt:TS):Bool :=
 ((decide ((((matS xx xt.lab.2.1).1).length:Int)≥(xt.lab.2.2.2.1.length:Int)))&&((((matS xx xt.lab.2.1).1).take (Int.toNat (xt.lab.2.2.2.1.length:Int)))==xt.lab.2.2.2.1))
def mfaV2 (xx:Nd) (xt:TS):Bool :=
 ((decide ((((matS xx xt.lab.2.1).1).length:Int)≥(xt.lab.2.2.2.1.length:Int)))&&((((matS xx xt.lab.2.1).1).drop (Int.toNat (w6 ((((matS xx xt.lab.2.1).1).length:Int) - (xt.lab.2.2.2.1.length:Int)))))==xt.lab.2.2.2.1))
def mfaj22 (xx:Nd) (xt:TS) (K:Bool→Prop):Prop :=
 K (((matS xx xt.lab.2.1).1==xt.lab.2.2.2.1)||mfaV0 xx xt)
def mfaj3i44i7 (xx:Nd) (xt:TS) (K:Bool→Prop):Prop :=
 mfaj22 xx xt K
def mfaj3i65i7 (xx:Nd) (xt:TS) (K:Bool→Prop):Prop :=
 K (mfaV1 xx xt)
def mfaj3i73i7 (xx:Nd) (xt:TS) (K:Bool→Prop):Prop :=
 K (mfaV2 xx xt)
def mfaj7 (xx:Nd) (xt:TS) (K:Bool→Prop):Prop :=
 (((!((matS xx xt.lab.2.1).2))||(xt.lab.2.2.1==0))=true→K (matS xx xt.lab.2.1).2)∧(((!((matS xx xt.lab.2.1).2))||(xt.lab.2.2.1==0))=false→((xt.lab.2.2.1==61)=true→K ((matS xx xt.lab.2.1).1==xt.lab.2.2.2.1))∧((xt.lab.2.2.1==61)=false→((xt.lab.2.2.1==124)=true→(((matS xx xt.lab.2.1).1==xt.lab.2.2.2.1)=true→mfaj22 xx xt K)∧(((matS xx xt.lab.2.1).1==xt.lab.2.2.2.1)=false→xt.lab.2.2.2.1.length+([45]:Bs).length≤maxLen∧((decide ((((matS xx xt.lab.2.1).1).length:Int)≥((xt.lab.2.2.2.1++([45]:Bs)).length:Int)))=true→(0:Int)≤0∧0≤((xt.lab.2.2.2.1++([45]:Bs)).length:Int)∧((xt.lab.2.2.2.1++([45]:Bs)).length:Int)≤(((matS xx xt.lab.2.1).1).length:Int)∧mfaj3i44i7 xx xt K)∧((decide ((((matS xx xt.lab.2.1).1).length:Int)≥((xt.lab.2.2.2.1++([45]:Bs)).length:Int)))=false→mfaj3i44i7 xx xt K)))∧((xt.lab.2.2.1==124)=false→((xt.lab.2.2.2.1==([]:Bs))=true→K false)∧((xt.lab.2.2.2.1==([]:Bs))=false→((xt.lab.2.2.1==126)=true→hwP (matS xx xt.lab.2.1).1 xt.lab.2.2.2.1∧K (hwS (matS xx xt.lab.2.1).1 xt.lab.2.2.2.1))∧((xt.lab.2.2.1==126)=false→((xt.lab.2.2.1==94)=true→((decide ((((matS xx xt.lab.2.1).1).length:Int)≥(xt.lab.2.2.2.1.length:Int)))=true→(0:Int)≤0∧0≤(xt.lab.2.2.2.1.length:Int)∧(xt.lab.2.2.2.1.length:Int)≤(((matS xx xt.lab.2.1).1).length:Int)∧mfaj3i65i7 xx xt K)∧((decide ((((matS xx xt.lab.2.1).1).length:Int)≥(xt.lab.2.2.2.1.length:Int)))=false→mfaj3i65i7 xx xt K))∧((xt.lab.2.2.1==94)=false→((xt.lab.2.2.1==36)=true→((decide ((((matS xx xt.lab.2.1).1).length:Int)≥(xt.lab.2.2.2.1.length:Int)))=true→0≤(w6 ((((matS xx xt.lab.2.1).1).length:Int) - (xt.lab.2.2.2.1.length:Int)))∧((w6 ((((matS xx xt.lab.2.1).1).length:Int) - (xt.lab.2.2.2.1.length:Int))):Int)≤(((matS xx xt.lab.2.1).1).length:Int)∧(((matS xx xt.lab.2.1).1).length:Int)≤(((matS xx xt.lab.2.1).1).length:Int)∧mfaj3i73i7 xx xt K)∧((decide ((((matS xx xt.lab.2.1).1).length:Int)≥(xt.lab.2.2.2.1.length:Int)))=false→mfaj3i73i7 xx xt K))∧((xt.lab.2.2.1==36)=false→idxP (matS xx xt.lab.2.1).1 xt.lab.2.2.2.1∧K (decide (idxS (matS xx xt.lab.2.1).1 xt.lab.2.2.2.1≥0)))))))))
def mfaF (xx:Nd) (xt:TS) (K:Bool→Prop):Prop :=
 matP xx xt.lab.2.1∧((!((matS xx xt.lab.2.1).2))=true→mfaj7 xx xt K)∧((!((matS xx xt.lab.2.1).2))=false→mfaj7 xx xt K)
theorem mfa_ok {g:Ghost} {T1:Option Addr} {L1:Nat} {A1:Option Addr} {I1:Nat} (xx:Nd) {c1:Option Addr} {f1:Nat} (xt:TS) (g2:Rep g (.slice yA) [.slice T1 xx.2.2.1.length L1] xx.2.2.1) (m2:Rep g (.slice (.int .i64)) [.slice A1 xx.2.2.2.2.2.length I1] xx.2.2.2.2.2) (g1:Rep g (.slice yP) [.slice c1 xt.kids.length f1] xt.kids) (hG0:SomeInt g 0) (K:Bool→Prop)
  (hF:mfaF xx xt K):CallsH prog 114 #[.agg (aN xx T1 L1 A1 I1),.agg (aL xt.lab c1 xt.kids.length f1)] g [] (fun g' H' v=>∃ (r0:Bool),v=.bool r0∧H'=[]∧K r0):=by
 refine CallsH.en 78 func114 rfl fun w0=>?_
 refine Ok.sr (Ok.o (OpOk.bx (aN xx T1 L1 A1 I1) fun bs2=>?_))
 refine Ok.o (OpOk.bx (aL xt.lab c1 xt.kids.length f1) fun bs3=>?_)
 refine Ok.B 1 [(2,pv bs2 0),(3,pv bs3 0)] kr (Ok.nt (Ok.q (Ok.r ?_)))
 obtain ⟨hp3,hF⟩:=hF
 refine Ok.rn 9 [.e 1,.e 0,.k (mat_c xx xt.lab.2.1 g2 m2 hp3)] [3] [(5,sv ((matS xx xt.lab.2.1).1)),(6,.bool (matS xx xt.lab.2.1).2)] ?_
 refine Ok.nt (Ok.q (Ok.block (Ok.ct [(3,pv bs3 0),(5,sv ((matS xx xt.lab.2.1).1)),(6,.bool (matS xx xt.lab.2.1).2),(14,.bool ((!((matS xx xt.lab.2.1).2))||(xt.lab.2.2.1==0)))] [.blk bs3 (.cells (aL xt.lab c1 xt.kids.length f1) 60)] (mfaj7 xx xt K) ?_ (fun hF=>?_))))
 ·
  refine Ok.r (Ok.b 3 [3,5,6] [(17,.bool (!((matS xx xt.lab.2.1).2)))] ?_)
  refine Ok.bw 17 hF (fun L2 hF=>?_) (fun L2 hF=>?_)
  ·refine Ok.b 5 [3,5,6] [(14,.bool true)] ?_
   refine Ok.nt (Ok.rb 14 ((!((matS xx xt.lab.2.1).2))||(xt.lab.2.2.1==0)) (mor_t L2) ?_)
   exact fz hF
  refine Ok.rn 5 [.e 0] [3,5,6] [(14,.bool (xt.lab.2.2.1==0))] ?_
  refine Ok.nt (Ok.rb 14 ((!((matS xx xt.lab.2.1).2))||(xt.lab.2.2.1==0)) (mor_f L2) ?_)
  exact fz hF
 refine Ok.cw hF (fun hc4 hF=>?_) (fun hc4 hF=>?_)
 ·refine Ok.sr (Ok.B 2 [(4,.bool (matS xx xt.lab.2.1).2)] kr (Ok.nt (Ok.ret (Ok.kr (Ok.tr ?_)))))
  exact Ok.pb ((matS xx xt.lab.2.1).2) hF
 refine Ok.sr (Ok.rn 4 [.e 0] [3,5] [(23,.bool (xt.lab.2.2.1==61))] ?_)
 refine Ok.nt (Ok.cw hF (fun hc5 hF=>?_) (fun hc5 hF=>?_))
 ·refine Ok.sr (Ok.rn 5 [.e 0] [] [(4,.bool ((matS xx xt.lab.2.1).1==xt.lab.2.2.2.1))] ?_)
  refine Ok.nt (Ok.ret (Ok.kr (Ok.tr ?_)))
  exact Ok.pb ((matS xx xt.lab.2.1).1==xt.lab.2.2.2.1) hF
 refine Ok.sr (Ok.rn 4 [.e 0] [3,5] [(31,.bool (xt.lab.2.2.1==124))] ?_)
 refine Ok.nt (Ok.cw hF (fun hc6 hF=>?_) (fun hc6 hF=>?_))
 ·refine Ok.ct [(4,.bool (((matS xx xt.lab.2.1).1==xt.lab.2.2.2.1)||mfaV0 xx xt))] [] (mfaj22 xx xt K) ?_ (fun hF=>?_)
  ·
   refine Ok.r (Ok.rn 5 [.e 0] [3,5] [(39,.bool ((matS xx xt.lab.2.1).1==xt.lab.2.2.2.1))] ?_)
   refine Ok.bw 39 hF (fun hc7 hF=>?_) (fun hc7 hF=>?_)
   ·refine Ok.B 7 [(4,.bool true)] kr (Ok.nt (Ok.rb 4 (((matS xx xt.lab.2.1).1==xt.lab.2.2.2.1)||mfaV0 xx xt) (mor_t hc7) ?_))
    exact fz hF
   refine Ok.B 2 [(39,.bool false),(40,sv ((matS xx xt.lab.2.1).1)),(41,pv bs3 3)] kr (Ok.oy (OpOk.s (v:=sv xt.lab.2.2.2.1) (Yields.l 0 rfl rfl underlying9 rfl kr) rfl rfl ?_))
   obtain ⟨hv,hF⟩:=hF
   refine Ok.oy (OpOk.s (v:=sv (xt.lab.2.2.2.1++([45]:Bs))) (Yields.sa rfl rfl hv) rfl rfl (Ok.oy (OpOk.i (args:=#[sv ((matS xx xt.lab.2.1).1),sv (xt.lab.2.2.2.1++([45]:Bs))]) 8 [(0,sv ((matS xx xt.lab.2.1).1)),(1,sv (xt.lab.2.2.2.1++([45]:Bs)))] enr func97 rfl rfl rfl rfl (Ok.sr (Ok.B 1 [(0,sv ((matS xx xt.lab.2.1).1)),(1,sv (xt.lab.2.2.2.1++([45]:Bs)))] kr (Ok.nt (Ok.sr (Ok.B 2 [(5,sv ((matS xx xt.lab.2.1).1)),(6,sv (xt.lab.2.2.2.1++([45]:Bs)))] kr (Ok.o (OpOk.i (args:=#[sv ((matS xx xt.lab.2.1).1),sv (xt.lab.2.2.2.1++([45]:Bs))]) 18 [(0,sv ((matS xx xt.lab.2.1).1)),(1,sv (xt.lab.2.2.2.1++([45]:Bs)))] enr func142 rfl rfl rfl rfl (Ok.sr (Ok.B 1 [(0,sv ((matS xx xt.lab.2.1).1)),(1,sv (xt.lab.2.2.2.1++([45]:Bs)))] kr (Ok.nt (Ok.ct [(4,.bool (mfaV0 xx xt))] [] (mfaj3i44i7 xx xt K) ?_ (fun hF=>?_)))))))))))))))
   ·
    refine Ok.r (Ok.b 6 [0,1] [(10,.bool (decide ((((matS xx xt.lab.2.1).1).length:Int)≥((xt.lab.2.2.2.1++([45]:Bs)).length:Int))))] ?_)
    refine Ok.bw 10 hF (fun hc8 hF=>?_) (fun hc8 hF=>?_)
    ·refine Ok.b 3 [1] [(10,.bool true),(11,sv ((matS xx xt.lab.2.1).1)),(13,iv ((xt.lab.2.2.2.1++([45]:Bs)).length:Int))] ?_
     obtain ⟨h09,h19,h29,hF⟩:=hF
     refine Ok.oy (OpOk.s (Yields.ss (s:=(matS xx xt.lab.2.1).1) (l:=0) (h:=((xt.lab.2.2.2.1++([45]:Bs)).length:Int)) kr underlying9 (.inr ⟨rfl,rfl⟩) (.inl ⟨_,_,rfl,rfl⟩) h09 h19 h29 (((matS xx xt.lab.2.1).1).take (Int.toNat ((xt.lab.2.2.2.1++([45]:Bs)).length:Int))) (by simp)) rfl rfl (Ok.rn 4 [] [] [(4,.bool ((((matS xx xt.lab.2.1).1).take (Int.toNat ((xt.lab.2.2.2.1++([45]:Bs)).length:Int)))==(xt.lab.2.2.2.1++([45]:Bs))))] ?_))
     refine Ok.nt (Ok.rb 4 (mfaV0 xx xt) (mand_t hc8) ?_)
     exact fz hF
    refine Ok.B 8 [(4,.bool false)] kr (Ok.nt (Ok.rb 4 (mfaV0 xx xt) (mand_f hc8) ?_))
    exact fz hF
   refine Ok.ret (Ok.back (vs:=[.bool (mfaV0 xx xt)]) (.inl rfl) rfl (.cons (.tmp rfl) .nil) rfl (Ok.B 1 [(4,.bool (mfaV0 xx xt))] kr (Ok.nt (Ok.ret (Ok.back (vs:=[.bool (mfaV0 xx xt)]) (.inl rfl) rfl (.cons (.tmp rfl) .nil) rfl (Ok.B 2 [(4,.bool (mfaV0 xx xt))] kr (Ok.nt (Ok.rb 4 (((matS xx xt.lab.2.1).1==xt.lab.2.2.2.1)||mfaV0 xx xt) (mor_f hc7) ?_))))))))
   exact fz hF
  refine Ok.ret (Ok.kr (Ok.tr ?_))
  exact Ok.pb (((matS xx xt.lab.2.1).1==xt.lab.2.2.2.1)||mfaV0 xx xt) hF
 refine Ok.sr (Ok.rn 4 [.e 0] [3,5] [(46,.bool (xt.lab.2.2.2.1==([]:Bs)))] ?_)
 refine Ok.nt (Ok.cw hF (fun n2 hF=>?_) (fun n2 hF=>?_))
 ·refine Ok.sr (Ok.B 1 [(4,.bool false)] kr (Ok.nt (Ok.ret (Ok.kr (Ok.tr ?_)))))
  exact Ok.pb false hF
 refine Ok.sr (Ok.rn 4 [.e 0] [3,5] [(50,.bool (xt.lab.2.2.1==126))] ?_)
 refine Ok.nt (Ok.cw hF (fun hc11 hF=>?_) (fun hc11 hF=>?_))
 ·refine Ok.q (Ok.r ?_)
  obtain ⟨A2,hF⟩:=hF
  refine Ok.rn 5 [.e 0,.k (hw_c (matS xx xt.lab.2.1).1 xt.lab.2.2.2.1 A2)] [] [(4,.bool (hwS (matS xx xt.lab.2.1).1 xt.lab.2.2.2.1))] ?_
  refine Ok.nt (Ok.ret (Ok.kr (Ok.tr ?_)))
  exact Ok.pb (hwS (matS xx xt.lab.2.1).1 xt.lab.2.2.2.1) hF
 refine Ok.sr (Ok.rn 4 [.e 0] [3,5] [(58,.bool (xt.lab.2.2.1==94))] ?_)
 refine Ok.nt (Ok.cw hF (fun I2 hF=>?_) (fun I2 hF=>?_))
 ·refine Ok.sr (Ok.B 2 [(62,sv ((matS xx xt.lab.2.1).1)),(63,pv bs3 3)] kr (Ok.o (OpOk.s (v:=sv xt.lab.2.2.2.1) (Yields.l 0 rfl rfl underlying9 rfl kr) rfl rfl (Ok.o (OpOk.i (args:=#[sv ((matS xx xt.lab.2.1).1),sv xt.lab.2.2.2.1]) 8 [(0,sv ((matS xx xt.lab.2.1).1)),(1,sv xt.lab.2.2.2.1)] enr func97 rfl rfl rfl rfl (Ok.sr (Ok.B 1 [(0,sv ((matS xx xt.lab.2.1).1)),(1,sv xt.lab.2.2.2.1)] kr (Ok.nt (Ok.sr (Ok.B 2 [(5,sv ((matS xx xt.lab.2.1).1)),(6,sv xt.lab.2.2.2.1)] kr (Ok.o (OpOk.i (args:=#[sv ((matS xx xt.lab.2.1).1),sv xt.lab.2.2.2.1]) 18 [(0,sv ((matS xx xt.lab.2.1).1)),(1,sv xt.lab.2.2.2.1)] enr func142 rfl rfl rfl rfl (Ok.sr (Ok.B 1 [(0,sv ((matS xx xt.lab.2.1).1)),(1,sv xt.lab.2.2.2.1)] kr (Ok.nt (Ok.ct [(4,.bool (mfaV1 xx xt))] [] (mfaj3i65i7 xx xt K) ?_ (fun hF=>?_)))))))))))))))))
  ·
   refine Ok.r (Ok.b 6 [0,1] [(10,.bool (decide ((((matS xx xt.lab.2.1).1).length:Int)≥(xt.lab.2.2.2.1.length:Int))))] ?_)
   refine Ok.bw 10 hF (fun z3 hF=>?_) (fun z3 hF=>?_)
   ·refine Ok.b 3 [1] [(10,.bool true),(11,sv ((matS xx xt.lab.2.1).1)),(13,iv (xt.lab.2.2.2.1.length:Int))] ?_
    obtain ⟨h015,h115,h215,hF⟩:=hF
    refine Ok.oy (OpOk.s (Yields.ss (s:=(matS xx xt.lab.2.1).1) (l:=0) (h:=(xt.lab.2.2.2.1.length:Int)) kr underlying9 (.inr ⟨rfl,rfl⟩) (.inl ⟨_,_,rfl,rfl⟩) h015 h115 h215 (((matS xx xt.lab.2.1).1).take (Int.toNat (xt.lab.2.2.2.1.length:Int))) (by simp)) rfl rfl (Ok.rn 4 [] [] [(4,.bool ((((matS xx xt.lab.2.1).1).take (Int.toNat (xt.lab.2.2.2.1.length:Int)))==xt.lab.2.2.2.1))] ?_))
    refine Ok.nt (Ok.rb 4 (mfaV1 xx xt) (mand_t z3) ?_)
    exact fz hF
   refine Ok.B 8 [(4,.bool false)] kr (Ok.nt (Ok.rb 4 (mfaV1 xx xt) (mand_f z3) ?_))
   exact fz hF
  refine Ok.ret (Ok.back (vs:=[.bool (mfaV1 xx xt)]) (.inl rfl) rfl (.cons (.tmp rfl) .nil) rfl (Ok.B 1 [(4,.bool (mfaV1 xx xt))] kr (Ok.nt (Ok.ret (Ok.back (vs:=[.bool (mfaV1 xx xt)]) (.inl rfl) rfl (.cons (.tmp rfl) .nil) rfl (Ok.B 1 [(4,.bool (mfaV1 xx xt))] kr (Ok.nt (Ok.ret (Ok.kr (Ok.tr ?_))))))))))
  exact Ok.pb (mfaV1 xx xt) hF
 refine Ok.sr (Ok.rn 4 [.e 0] [3,5] [(66,.bool (xt.lab.2.2.1==36))] ?_)
 refine Ok.nt (Ok.cw hF (fun v3 hF=>?_) (fun v3 hF=>?_))
 ·refine Ok.sr (Ok.B 2 [(70,sv ((matS xx xt.lab.2.1).1)),(71,pv bs3 3)] kr (Ok.o (OpOk.s (v:=sv xt.lab.2.2.2.1) (Yields.l 0 rfl rfl underlying9 rfl kr) rfl rfl (Ok.o (OpOk.i (args:=#[sv ((matS xx xt.lab.2.1).1),sv xt.lab.2.2.2.1]) 8 [(0,sv ((matS xx xt.lab.2.1).1)),(1,sv xt.lab.2.2.2.1)] enr func154 rfl rfl rfl rfl (Ok.sr (Ok.B 1 [(0,sv ((matS xx xt.lab.2.1).1)),(1,sv xt.lab.2.2.2.1)] kr (Ok.nt (Ok.sr (Ok.B 2 [(5,sv ((matS xx xt.lab.2.1).1)),(6,sv xt.lab.2.2.2.1)] kr (Ok.o (OpOk.i (args:=#[sv ((matS xx xt.lab.2.1).1),sv xt.lab.2.2.2.1]) 21 [(0,sv ((matS xx xt.lab.2.1).1)),(1,sv xt.lab.2.2.2.1)] enr func172 rfl rfl rfl rfl (Ok.sr (Ok.B 1 [(0,sv ((matS xx xt.lab.2.1).1)),(1,sv xt.lab.2.2.2.1)] kr (Ok.nt (Ok.ct [(4,.bool (mfaV2 xx xt))] [] (mfaj3i73i7 xx xt K) ?_ (fun hF=>?_)))))))))))))))))
  ·
   refine Ok.r (Ok.b 6 [0,1] [(10,.bool (decide ((((matS xx xt.lab.2.1).1).length:Int)≥(xt.lab.2.2.2.1.length:Int))))] ?_)
   refine Ok.bw 10 hF (fun k3 hF=>?_) (fun k3 hF=>?_)
   ·refine Ok.b 6 [1] [(10,.bool true),(11,sv ((matS xx xt.lab.2.1).1)),(16,iv (w6 ((((matS xx xt.lab.2.1).1).length:Int) - (xt.lab.2.2.2.1.length:Int))))] ?_
    obtain ⟨h018,h118,h218,hF⟩:=hF
    refine Ok.oy (OpOk.s (Yields.ss (s:=(matS xx xt.lab.2.1).1) (l:=(w6 ((((matS xx xt.lab.2.1).1).length:Int) - (xt.lab.2.2.2.1.length:Int)))) (h:=(((matS xx xt.lab.2.1).1).length:Int)) kr underlying9 (.inl ⟨_,_,rfl,rfl⟩) (.inr ⟨rfl,rfl⟩) h018 h118 h218 (((matS xx xt.lab.2.1).1).drop (Int.toNat (w6 ((((matS xx xt.lab.2.1).1).length:Int) - (xt.lab.2.2.2.1.length:Int))))) (by rw [show (((matS xx xt.lab.2.1).1).length:Int).toNat=((matS xx xt.lab.2.1).1).length from tnc _,List.take_length])) rfl rfl (Ok.rn 4 [] [] [(4,.bool ((((matS xx xt.lab.2.1).1).drop (Int.toNat (w6 ((((matS xx xt.lab.2.1).1).length:Int) - (xt.lab.2.2.2.1.length:Int)))))==xt.lab.2.2.2.1))] ?_))
    refine Ok.nt (Ok.rb 4 (mfaV2 xx xt) (mand_t k3) ?_)
    exact fz hF
   refine Ok.B 11 [(4,.bool false)] kr (Ok.nt (Ok.rb 4 (mfaV2 xx xt) (mand_f k3) ?_))
   exact fz hF
  refine Ok.ret (Ok.back (vs:=[.bool (mfaV2 xx xt)]) (.inl rfl) rfl (.cons (.tmp rfl) .nil) rfl (Ok.B 1 [(4,.bool (mfaV2 xx xt))] kr (Ok.nt (Ok.ret (Ok.back (vs:=[.bool (mfaV2 xx xt)]) (.inl rfl) rfl (.cons (.tmp rfl) .nil) rfl (Ok.B 1 [(4,.bool (mfaV2 xx xt))] kr (Ok.nt (Ok.ret (Ok.kr (Ok.tr ?_))))))))))
  exact Ok.pb (mfaV2 xx xt) hF
 refine Ok.k (Ok.kn (Ok.t (Ok.sr (Ok.B 2 [(74,sv ((matS xx xt.lab.2.1).1)),(75,pv bs3 3)] kr (Ok.o (OpOk.s (v:=sv xt.lab.2.2.2.1) (Yields.l 0 rfl rfl underlying9 rfl kr) rfl rfl (Ok.o (OpOk.i (args:=#[sv ((matS xx xt.lab.2.1).1),sv xt.lab.2.2.2.1]) 9 [(0,sv ((matS xx xt.lab.2.1).1)),(1,sv xt.lab.2.2.2.1)] enr func155 rfl rfl rfl rfl (Ok.sr (Ok.B 1 [(0,sv ((matS xx xt.lab.2.1).1)),(1,sv xt.lab.2.2.2.1)] kr (Ok.nt (Ok.q (Ok.r ?_)))))))))))))
 obtain ⟨J2,hF⟩:=hF
 refine Ok.rn 5 [.k (idx_c (matS xx xt.lab.2.1).1 xt.lab.2.2.2.1 hG0 J2)] [] [(4,.bool (decide (idxS (matS xx xt.lab.2.1).1 xt.lab.2.2.2.1≥0)))] ?_
 refine Ok.nt (Ok.ret (Ok.back (vs:=[.bool (decide (idxS (matS xx xt.lab.2.1).1 xt.lab.2.2.2.1≥0))]) (.inl rfl) rfl (.cons (.tmp rfl) .nil) rfl (Ok.B 1 [(4,.bool (decide (idxS (matS xx xt.lab.2.1).1 xt.lab.2.2.2.1≥0)))] kr (Ok.nt (Ok.ret ?_)))))
 exact Ok.pb (decide (idxS (matS xx xt.lab.2.1).1 xt.lab.2.2.2.1≥0)) hF
theorem att_len {l:List (Bs×Bs)} (h:∀ a ∈ l,a.2.length≤400) (n:Bs):(attS l n).1.length≤400:=by
 induction l with
 | nil=>exact Nat.zero_le _
 | cons a l ih =>
  rw [attS]
  split
  ·exact h a (List.mem_cons_self ..)
  exact ih fun b hb=>h b (List.mem_cons_of_mem _ hb)
theorem mfa_F (x:ND) (t:Ts) (hp:mfaP x t):mfaF x t (fun a=>a=mfaS x t):=by
 obtain ⟨hA,hv⟩:=hp
 have hl:=att_len hA.2 t.lab.2.1
 have j7:mfaj7 x t (fun a=>a=mfaS x t):=by
  have e1:mfaV0 x t=preB (attS x.2.2.1 t.lab.2.1).1 (t.lab.2.2.2.1++[45]):=rfl
  have e2:mfaV1 x t=preB (attS x.2.2.1 t.lab.2.1).1 t.lab.2.2.2.1:=rfl
  have e3:decide (((attS x.2.2.1 t.lab.2.1).1.length:Int)≥(t.lab.2.2.2.1.length:Int))=true→mfaV2 x t=sufB (attS x.2.2.1 t.lab.2.1).1 t.lab.2.2.2.1:=fun h=>by
   have h:=of_decide_eq_true h
   show (decide _&&(((attS x.2.2.1 t.lab.2.1).1.drop (Int.toNat (w6 (((attS x.2.2.1 t.lab.2.1).1.length:Int) - (t.lab.2.2.2.1.length:Int)))))==t.lab.2.2.2.1))=_
   rw [w64 om,show Int.toNat (((attS x.2.2.1 t.lab.2.1).1.length:Int) - (t.lab.2.2.2.1.length:Int))=(attS x.2.2.1 t.lab.2.1).1.length - t.lab.2.2.2.1.length by omega]
   rfl
  have e4:decide (((attS x.2.2.1 t.lab.2.1).1.length:Int)≥(t.lab.2.2.2.1.length:Int))=false→mfaV2 x t=sufB (attS x.2.2.1 t.lab.2.1).1 t.lab.2.2.2.1:=fun h=>by
   show (decide _&&_)=(decide _&&_)
   rw [show decide (((matS x t.lab.2.1).1.length:Int)≥(t.lab.2.2.2.1.length:Int))=false from h,h]; rfl
  have hS:mfaS x t=((attS x.2.2.1 t.lab.2.1).2&&(t.lab.2.2.1==0||aftB (attS x.2.2.1 t.lab.2.1).1 t.lab)):=rfl
  generalize hr:mfaS x t=r at hS
  unfold mfaj7 mfaj22 mfaj3i44i7 mfaj3i65i7 mfaj3i73i7 mfaj22
  rw [e1,e2,show matS x t.lab.2.1=attS x.2.2.1 t.lab.2.1 from rfl]
  generalize attS x.2.2.1 t.lab.2.1=a at hl e3 e4 hS
  have go:∀ {b:Bool},(!a.2||t.lab.2.2.1==0)=false→b=aftB a.1 t.lab→b=r:=fun h hb=>by
   rw [Bool.or_eq_false_iff,Bool.not_eq_false'] at h
   rw [hS,h.1,h.2,hb]; rfl
  have hlen:((t.lab.2.2.2.1++([45]:Bs)).length:Int)=(t.lab.2.2.2.1.length:Int)+1:=by rw [List.length_append]; rfl
  refine ⟨fun h0=>?_,fun h0=>⟨fun h1=>go h0 ?_,fun h1=>⟨fun h2=>⟨fun h=>go h0 ?_,fun h=>⟨?_,fun hh=>⟨Int.le_refl _,by omega,of_decide_eq_true hh,go h0 ?_⟩,fun hh=>go h0 ?_⟩⟩,fun h2=>⟨fun h3=>go h0 ?_,fun h3=>⟨fun h4=>⟨?_,go h0 ?_⟩,fun h4=>⟨fun h5=>⟨fun hh=>⟨Int.le_refl _,by omega,of_decide_eq_true hh,go h0 ?_⟩,fun hh=>go h0 ?_⟩,fun h5=>⟨fun h6=>⟨fun hh=>⟨?_,?_,Int.le_refl _,go h0 ?_⟩,fun hh=>go h0 ?_⟩,fun h6=>⟨?_,go h0 ?_⟩⟩⟩⟩⟩⟩⟩⟩
  ·rw [hS]
   cases ha:a.2 with
   | false=>rfl
   | true =>
    rw [ha,Bool.not_true,Bool.false_or] at h0
    rw [h0]; rfl
  ·unfold aftB; rw [if_t h1]
  ·unfold aftB; rw [if_f h1,if_t h2]
  ·show t.lab.2.2.2.1.length+1≤maxLen
   have:(2000001:Nat)≤maxLen:=by decide
   omega
  ·unfold aftB; rw [if_f h1,if_t h2]
  ·unfold aftB; rw [if_f h1,if_t h2]
  ·unfold aftB; rw [if_f h1,if_f h2,if_t h3]
  ·show a.1.length≤1000; omega
  ·unfold aftB; rw [if_f h1,if_f h2,if_f h3,if_t h4]
  ·unfold aftB; rw [if_f h1,if_f h2,if_f h3,if_f h4,if_t h5]
  ·unfold aftB; rw [if_f h1,if_f h2,if_f h3,if_f h4,if_t h5]
  ·have:=of_decide_eq_true hh; rw [w64 om]; omega
  ·have:=of_decide_eq_true hh; rw [w64 om]; omega
  ·unfold aftB; rw [if_f h1,if_f h2,if_f h3,if_f h4,if_f h5,if_t h6]; exact e3 hh
  ·unfold aftB; rw [if_f h1,if_f h2,if_f h3,if_f h4,if_f h5,if_t h6]; exact e4 hh
  ·show a.1.length<4294967281; omega
  unfold aftB; rw [if_f h1,if_f h2,if_f h3,if_f h4,if_f h5,if_f h6]
 exact ⟨by show x.2.2.1.length≤1000; have:=hA.1; omega,fun _=>j7,fun _=>j7⟩
theorem mfa_c {g:Ghost} {T1:Option Addr} {L1:Nat} {A1:Option Addr} {I1:Nat} (xx:Nd) {c1:Option Addr} {f1:Nat} (xt:TS) (g2:Rep g (.slice yA) [.slice T1 xx.2.2.1.length L1] xx.2.2.1) (m2:Rep g (.slice (.int .i64)) [.slice A1 xx.2.2.2.2.2.length I1] xx.2.2.2.2.2) (g1:Rep g (.slice yP) [.slice c1 xt.kids.length f1] xt.kids) (hG0:SomeInt g 0)  (hp:mfaP xx xt):CallsG prog 114 #[.agg (aN xx T1 L1 A1 I1),.agg (aL xt.lab c1 xt.kids.length f1)] g (.bool (mfaS xx xt)) :=
 (mfa_ok xx xt g2 m2 g1 hG0 _ (mfa_F xx xt hp)).gv
def nthB (a b i:Int):Bool:=if a=0 then i==b else ((i - b).tmod a==0)&&decide (0≤(i - b).tdiv a)
def outB (a b i:Int):Bool:=decide (a < -1000)||(decide (b < -1000)||(decide (1000<a)||(decide (1000<b)||(decide (i<1)||decide (200<i)))))
def nthSp (a b i:Int):Bool:=if outB a b i=true then false else nthB a b i
def mntV0 (xa:Int) (xb:Int) (xi:Int):Bool :=
 (((Int.tmod (w6 (xi - xb)) xa)==0)&&(decide ((w6 (Int.tdiv (w6 (xi - xb)) xa))≥0)))
def mntj19 (xa:Int) (xb:Int) (xi:Int) (K:Bool→Prop):Prop :=
 K (mntV0 xa xb xi)
def mntF (xa:Int) (xb:Int) (xi:Int) (K:Bool→Prop):Prop :=
 (((((decide ((if xb<xa then xb else xa)<(-1000)))||(decide ((if xa<xb then xb else xa)>1000)))||decide (xi<1))||decide (xi>200))=true→K false)∧(((((decide ((if xb<xa then xb else xa)<(-1000)))||(decide ((if xa<xb then xb else xa)>1000)))||decide (xi<1))||decide (xi>200))=false→((xa==0)=true→K (xi==xb))∧((xa==0)=false→xa≠0∧(((Int.tmod (w6 (xi - xb)) xa)==0)=true→xa≠0∧mntj19 xa xb xi K)∧(((Int.tmod (w6 (xi - xb)) xa)==0)=false→mntj19 xa xb xi K)))
abbrev mmx (xa xb:Int):Bool:=(decide ((if xb<xa then xb else xa)<(-1000)))||(decide ((if xa<xb then xb else xa)>1000))
theorem mnt_ok {g:Ghost} (xa:Int) (xb:Int) (xi:Int) (K:Bool→Prop)
  (hF:mntF xa xb xi K):CallsH prog 117 #[iv xa,iv xb,iv xi] g [] (fun g' H' v=>∃ (r0:Bool),v=.bool r0∧H'=[]∧K r0):=by
 refine CallsH.en 44 func117 rfl fun w0=>?_
 refine Ok.sr (Ok.B 1 [(0,iv xa),(1,iv xb),(2,iv xi)] kr (Ok.nt (Ok.q (Ok.sr (Ok.b 5 [0,1,2] [(11,.bool (decide ((if xb<xa then xb else xa)<(-1000))))] ?_)))))
 refine Ok.w 5 [(0,iv xa),(1,iv xb),(2,iv xi),(16,.bool (mmx xa xb))] (fun hR1=>?_) ?_
 ·refine Ok.a 11 (decide ((if xb<xa then xb else xa)<(-1000))) rfl (fun hc2=>?_) (fun hc2=>?_)
  ·skip
   refine Ok.b 5 [0,1,2] [(16,.bool true)] ?_
   refine Ok.rb 16 (mmx xa xb) (mor_t hc2) (Ok.b 0 [0,1,2] [(16,.bool (mmx xa xb))] ?_)
   exact hR1
  skip
  refine Ok.b 5 [0,1,2] [(16,.bool (decide ((if xa<xb then xb else xa)>1000)))] ?_
  refine Ok.rb 16 (mmx xa xb) (mor_f hc2) (Ok.b 0 [0,1,2] [(16,.bool (mmx xa xb))] ?_)
  exact hR1
 refine Ok.b 1 [0,1,2] [(17,.bool (mmx xa xb))] ?_
 refine Ok.w 3 [(0,iv xa),(1,iv xb),(2,iv xi),(20,.bool (mmx xa xb||decide (xi<1)))] (fun hR3=>?_) ?_
 ·refine Ok.a 17 (mmx xa xb) rfl (fun hc4=>?_) (fun hc4=>?_)
  ·skip
   refine Ok.b 3 [0,1,2] [(20,.bool true)] ?_
   refine Ok.rb 20 (mmx xa xb||decide (xi<1)) (mor_t hc4) (Ok.b 0 [0,1,2] [(20,.bool (mmx xa xb||decide (xi<1)))] ?_)
   exact hR3
  skip
  refine Ok.b 3 [0,1,2] [(20,.bool (decide (xi<1)))] ?_
  refine Ok.rb 20 (mmx xa xb||decide (xi<1)) (mor_f hc4) (Ok.b 0 [0,1,2] [(20,.bool (mmx xa xb||decide (xi<1)))] ?_)
  exact hR3
 refine Ok.b 1 [0,1,2] [(21,.bool (mmx xa xb||decide (xi<1)))] ?_
 refine Ok.w 3 [(0,iv xa),(1,iv xb),(2,iv xi),(24,.bool ((mmx xa xb||decide (xi<1))||decide (xi>200)))] (fun hR5=>?_) ?_
 ·refine Ok.a 21 (mmx xa xb||decide (xi<1)) rfl (fun hc6=>?_) (fun hc6=>?_)
  ·skip
   refine Ok.b 3 [0,1,2] [(24,.bool true)] ?_
   refine Ok.rb 24 ((mmx xa xb||decide (xi<1))||decide (xi>200)) (mor_t hc6) (Ok.b 0 [0,1,2] [(24,.bool ((mmx xa xb||decide (xi<1))||decide (xi>200)))] ?_)
   exact hR5
  skip
  refine Ok.b 3 [0,1,2] [(24,.bool (decide (xi>200)))] ?_
  refine Ok.rb 24 ((mmx xa xb||decide (xi<1))||decide (xi>200)) (mor_f hc6) (Ok.b 0 [0,1,2] [(24,.bool ((mmx xa xb||decide (xi<1))||decide (xi>200)))] ?_)
  exact hR5
 refine Ok.nt (Ok.cw hF (fun hc7 hF=>?_) (fun hc7 hF=>?_))
 ·refine Ok.sr (Ok.B 1 [(6,.bool false)] kr (Ok.nt (Ok.ret (Ok.tr ?_))))
  exact Ok.pb false hF
 refine Ok.k (Ok.t (Ok.q (Ok.sr (Ok.b 2 [0,1,2] [(26,.bool (xa==0))] ?_))))
 refine Ok.nt (Ok.cw hF (fun hc8 hF=>?_) (fun hc8 hF=>?_))
 ·refine Ok.sr (Ok.B 4 [(6,.bool (xi==xb))] kr (Ok.nt (Ok.ret (Ok.tr ?_))))
  exact Ok.pb (xi==xb) hF
 refine Ok.k (Ok.t (Ok.ct [(6,.bool (mntV0 xa xb xi))] [] (mntj19 xa xb xi K) ?_ (fun hF=>?_)))
 ·
  refine Ok.r (Ok.b 4 [0,1,2] [(32,iv (w6 (xi - xb))),(33,iv xa)] ?_)
  obtain ⟨hv,hF⟩:=hF
  refine Ok.o (OpOk.s (v:=iv (Int.tmod (w6 (xi - xb)) xa)) (Yields.rem rfl rfl hv) rfl rfl (Ok.b 2 [0,1,2] [(36,.bool ((Int.tmod (w6 (xi - xb)) xa)==0))] ?_))
  refine Ok.bw 36 hF (fun hc9 hF=>?_) (fun hc9 hF=>?_)
  ·refine Ok.B 4 [(36,.bool true),(39,iv (w6 (xi - xb))),(40,iv xa)] kr ?_
   obtain ⟨hv,hF⟩:=hF
   refine Ok.oy (OpOk.s (v:=iv (w6 (Int.tdiv (w6 (xi - xb)) xa))) (Yields.quo rfl rfl hv) rfl rfl (Ok.B 3 [(6,.bool (decide ((w6 (Int.tdiv (w6 (xi - xb)) xa))≥0)))] kr (Ok.nt (Ok.rb 6 (mntV0 xa xb xi) (mand_t hc9) ?_))))
   exact fz hF
  refine Ok.B 8 [(6,.bool false)] kr (Ok.nt (Ok.rb 6 (mntV0 xa xb xi) (mand_f hc9) ?_))
  exact fz hF
 refine Ok.ret ?_
 exact Ok.pb (mntV0 xa xb xi) hF
theorem tdiv_bd (x a:Int) (n:Nat) (h : -n≤x) (h':x≤n) : -(n:Int)≤x.tdiv a∧x.tdiv a≤n:=by
 have h1:=Int.natAbs_tdiv x a
 have h2:=Nat.div_le_self x.natAbs a.natAbs
 have h3:x.natAbs.div a.natAbs=x.natAbs / a.natAbs:=rfl
 omega
theorem mnt_F (a b i:Int):mntF a b i (fun r=>r=nthSp a b i):=by
 have e:(((decide ((if b<a then b else a)<(-1000))||decide ((if a<b then b else a)>1000))||decide (i<1))||decide (i>200))=outB a b i:=by
  unfold outB
  rw [Bool.eq_iff_iff]
  simp only [Bool.or_eq_true,decide_eq_true_eq]
  omega
 unfold mntF mntj19
 rw [e]
 refine ⟨fun h=>by unfold nthSp; rw [if_t h],fun h=>?_⟩
 have hb : -1000≤a∧a≤1000∧-1000≤b∧b≤1000∧1≤i∧i≤200:=by
  unfold outB at h
  simp only [Bool.or_eq_false_iff,decide_eq_false_iff_not] at h
  omega
 have hn:nthSp a b i=nthB a b i:=by unfold nthSp; rw [if_f h]
 rw [hn]
 refine ⟨fun h0=>?_,fun h0=>?_⟩
 ·unfold nthB; rw [if_pos (eq_of_beq h0)]
 have h0:¬ a=0:=by simpa using h0
 have hv:mntV0 a b i=nthB a b i:=by
  unfold mntV0 nthB
  rw [if_neg h0]
  obtain ⟨d1,d2⟩:=tdiv_bd (i - b) a 2000 om om
  rw [w64 (x:=i - b) om,w64 (x:=(i - b).tdiv a) om]
 rw [hv]
 exact ⟨h0,fun _=>⟨h0,rfl⟩,fun _=>rfl⟩
theorem mnt_c {g:Ghost} (xa:Int) (xb:Int) (xi:Int)  : CallsG prog 117 #[iv xa,iv xb,iv xi] g (.bool (nthSp xa xb xi)) :=
 (mnt_ok xa xb xi _ (mnt_F xa xb xi)).gv
def nodeS (d:DC) (n:Int):ND:=d.1.getD n.toNat default
def wId:Bs:=[105,100]
def wClass:Bs:=[99,108,97,115,115]
def rch (nx:Int→Int→List Int):List (Int→Bool)→List Int→Int→Bool
 | [],_,_=>false
 | f::fs,js,n=>f n&&(fs.isEmpty||(nx n (js.headD 0)).any fun m=>rch nx fs js.tail m)
def labB (d:DC) (x:Lb) (n:Int) (v:Bool):Bool :=
 if (x.1==2)=true then (nodeS d n).2.1==x.2.1
 else if (x.1==3)=true then (attS (nodeS d n).2.2.1 wId).2&&((attS (nodeS d n).2.2.1 wId).1==x.2.1)
 else if (x.1==4)=true then hwS (attS (nodeS d n).2.2.1 wClass).1 x.2.1
 else if (x.1==5)=true then mfaS (nodeS d n) (.mk x [])
 else if (x.1==6)=true then par d.1 n.toNat==0
 else if (x.1==7)=true then memS d n
 else if (x.1==8)=true then (decide (0≤(kinS d n).2)&&nthSp x.2.2.2.2.1 x.2.2.2.2.2 ((kinS d n).2+1))
 else if (x.1==9)=true then (decide (0≤(kinS d n).2)&&nthSp x.2.2.2.2.1 x.2.2.2.2.2 (((kinS d n).1.length:Int) - (kinS d n).2))
 else if (x.1==10)=true then !v else if (x.1==11)=true then v else true
mutual
def fitT (d:DC):Ts→Int→Bool
 | .mk x l,n=>labB d x n (any3 d l n)
def any3 (d:DC):List Ph→Int→Bool
 | [],_=>false
 | (p,js)::l,n=>rch (mnxS d) (fns2 d p).reverse js.reverse n||any3 d l n
def fns2 (d:DC):List (List Ts)→List (Int→Bool)
 | []=>[]
 | s::p=>(fun n=>melS d n&&all1 d s n)::fns2 d p
def all1 (d:DC):List Ts→Int→Bool
 | [],_=>true
 | t::s,n=>fitT d t n&&all1 d s n
end
def mftS (d:DC) (n:Int) (t:Ts):Bool:=fitT d t n
def mpaS (d:DC) (n:Int) (p:Ph):Bool:=rch (mnxS d) (fns2 d p.1).reverse p.2.reverse n
def msoS (d:DC) (n:Int) (l:List Ph):Bool:=any3 d l n
def mftP (N:Nat) (d:DC) (n:Int) (t:Ts):Prop:=bT t<N∧bT t≤1048600∧DGood d∧inD d n∧melS d n=true∧∃ i,okT t i=true
def okPh (p:Ph):Prop:=p.1≠[]∧p.2.length+1=p.1.length∧ok2 p.1=true∧∀ z ∈ p.2,jnB z=true
def mpaP (N:Nat) (d:DC) (n:Int) (p:Ph):Prop:=w2 p.1+1<N∧w2 p.1≤1048600∧DGood d∧inD d n∧okPh p
def msoP (N:Nat) (d:DC) (n:Int) (l:List Ph):Prop:=b3 l<N∧b3 l≤1048600∧DGood d∧inD d n∧ok3 l=true
theorem ok1_in {t:Ts}:∀ {s:List Ts} {i:Int},ok1 s i=true→t ∈ s→∃ i,okT t i=true
 | [],_,_,h=>by cases h
 | u::s,i,h,ht=>by
  rw [ok1,Bool.and_eq_true] at h
  rcases List.mem_cons.1 ht with rfl | ht
  ·exact ⟨_,h.1⟩
  exact ok1_in h.2 ht
theorem ok2_in {s:List Ts}:∀ {p:List (List Ts)},ok2 p=true→s ∈ p→∃ i,ok1 s i=true
 | [],_,h=>by cases h
 | u::p,h,hs=>by
  rw [ok2,Bool.and_eq_true,Bool.and_eq_true] at h
  rcases List.mem_cons.1 hs with rfl | hs
  ·exact ⟨_,h.1⟩
  exact ok2_in h.2.2 hs
def okQ (q:Ph):Prop:=q.1≠[]∧q.2.length+1=q.1.length∧∀ z ∈ q.2,jnB z=true
theorem ok3_in {q:Ph}:∀ {l:List Ph},ok3 l=true→q ∈ l→okQ q∧ok2 q.1=true
 | [],_,h=>by cases h
 | u::l,h,hq=>by
  rw [ok3_cons,Bool.and_eq_true,Bool.and_eq_true,Bool.and_eq_true] at h
  rcases List.mem_cons.1 hq with rfl | hq
  ·obtain ⟨h1,h2,h3,h4⟩:=h
   rw [Bool.not_eq_true',Bool.or_eq_false_iff] at h1
   have h5:¬ ((q.1.length:Int)=0):=by simpa using h1.1
   have h6:(q.2.length:Int)=(q.1.length:Int) - 1:=by simpa using h1.2
   exact ⟨⟨fun e=>h5 (by rw [e]; rfl),by omega,fun z hz=>(List.all_eq_true.1 h3) z hz⟩,h2⟩
  exact ok3_in h.2.2.2 hq
theorem any3_cons (d:DC) (q:Ph) (l:List Ph) (n:Int):any3 d (q::l) n=(rch (mnxS d) (fns2 d q.1).reverse q.2.reverse n||any3 d l n):=by obtain ⟨p,js⟩:=q; rw [any3]
theorem rch_cons {nx:Int→Int→List Int} {f:Int→Bool} {fs:List (Int→Bool)} {j:Int} {js:List Int} (h:fs≠[]) (n:Int):rch nx (f::fs) (j::js) n=(f n&&(nx n j).any fun m=>rch nx fs js m):=by
 rw [rch]
 cases fs with
 | nil=>exact absurd rfl h
 | cons g fs=>rfl
theorem fns2_eq (d:DC):∀ p:List (List Ts),fns2 d p=p.map fun s n=>melS d n&&all1 d s n
 | []=>rfl
 | s::p=>by rw [fns2,fns2_eq d p]; rfl
theorem kin_in {d:DC} (hG:DGood d) {n m:Int} (hn:inD d n) (h:m ∈ kinL d n):inD d m:=by
 unfold kinL at h
 split at h
 ·rw [List.mem_singleton] at h; subst h; exact hn
 rename_i hc
 have hc:¬ par d.1 n.toNat<0:=by simpa using hc
 have hp:=par_in hG hn hc
 have:=hG.kids.kid _ (by have:=hp.1; have:=hp.2; omega) m (List.mem_filter.1 h).1
 exact ⟨this.1,this.2.1⟩
theorem anc_in {d:DC} {m:Int}:∀ {k:Nat} {p:Int},Ends d.1 k p→m ∈ ancN d.1 k p→inD d m
 | 0,p,_,h=>by cases h
 | k+1,p,hE,h=>by
  rw [ancN] at h
  split at h
  ·rename_i hc
   have hc:=of_decide_eq_true hc
   rcases List.mem_cons.1 h with h | h
   ·subst h; exact ⟨by omega,ends_in hE om⟩
   rcases hE with hE | hE
   ·omega
   exact anc_in hE.2 h
  cases h
theorem up_ends {d:DC} (hG:DGood d) {n:Int} (hn:inD d n):Ends d.1 42 (par d.1 n.toNat):=by
 have h2:=ends_ok hG (n:=n.toNat) (by have:=hn.1; have:=hn.2; omega)
 rw [show ((n.toNat:Nat):Int)=n by have:=hn.1; omega] at h2
 exact (ends_up (k:=40) h2 hn.1).mono om
theorem mnx_in {d:DC} (hG:DGood d) {n j m:Int} (hn:inD d n) (h:m ∈ mnxS d n j):inD d m:=by
 unfold mnxS at h
 have hu:∀ {m},m ∈ upS d n→inD d m:=fun h=>anc_in (up_ends hG hn) h
 have hk:∀ {m},m ∈ ((kinS d n).1.take (kinS d n).2.toNat).reverse→inD d m:=fun h=>kin_in hG hn (List.mem_of_mem_take (List.mem_reverse.1 h))
 split at h
 ·split at h
  ·exact hu (List.mem_of_mem_take h)
  exact hu h
 split at h
 ·exact hk (List.mem_of_mem_take h)
 exact hk h
/-! slices.Compact -/
def cmpS (l:List Int):List Int:=Lib.compact l
def cmpP (l:List Int):Prop:=l.length≤1000000000000
theorem cmp_lt {d:Array Int} {j:Nat} (h:Lib.keeps d j=true):j=0∨d[j]!≠d[j - 1]!:=of_decide_eq_true h
theorem cmp_mem (l:List Int) (x:Int):x ∈ cmpS l↔x ∈ l:=by
 unfold cmpS Lib.compact Lib.compactUpTo
 rw [List.mem_map]
 constructor
 ·rintro ⟨j,hj,rfl⟩
  have hj:=List.mem_range.1 (List.mem_filter.1 hj).1
  have e:l.toArray[j]! = l[j]:=by simp [hj]
  rw [e]; exact List.getElem_mem hj
 intro h
 obtain ⟨i,hi,e⟩:=List.getElem_of_mem h
 have key:∀ i (hi:i<l.length),l[i]=x→∃ a,a ∈ (List.range l.length).filter (Lib.keeps l.toArray)∧l.toArray[a]! = x:=by
  intro i
  induction i with
  | zero =>
   intro hi e
   exact ⟨0,List.mem_filter.2 ⟨List.mem_range.2 hi,by simp [Lib.keeps]⟩,by simp [hi,e]⟩
  | succ i ih =>
   intro hi e
   by_cases hk:l.toArray[i+1]! = l.toArray[i]!
   ·refine ih om ?_
    have e2:l.toArray[i]! = l[i]:=by simp [show i<l.length by omega]
    have e1:l.toArray[i+1]! = l[i+1]:=by simp [hi]
    rw [← e2,← hk,e1,e]
   exact ⟨i+1,List.mem_filter.2 ⟨List.mem_range.2 hi,by simp only [Lib.keeps,decide_eq_true_eq]; exact .inr hk⟩,by simp [hi,e]⟩
 exact key i hi e
theorem cmp_nodup {l:List Int} (h:l.Pairwise fun x y=>x≤y):(cmpS l).Nodup:=by
 unfold cmpS Lib.compact Lib.compactUpTo
 have hg:=List.pairwise_iff_getElem.1 h
 have h1:((List.range l.length).filter (Lib.keeps l.toArray)).Pairwise fun a b=>l.toArray[a]!≠l.toArray[b]!:=by
  refine List.Pairwise.imp_of_mem ?_ ((List.pairwise_lt_range (n:=l.length)).filter _)
  intro a b ha hb hab
  have ha':=List.mem_range.1 (List.mem_filter.1 ha).1
  have hb':=List.mem_range.1 (List.mem_filter.1 hb).1
  have hk:=cmp_lt (List.mem_filter.1 hb).2
  have e:∀ j (hj:j<l.length),l.toArray[j]! = l[j]:=fun j hj=>by simp [hj]
  rcases hk with hk | hk
  ·omega
  rw [e b hb',e (b - 1) om] at hk
  rw [e a ha',e b hb']
  have q1:=hg (b - 1) b om hb' om
  by_cases hab2:a=b - 1
  ·subst hab2; exact fun h=>hk h.symm
  have q2:=hg a (b - 1) ha' om om
  intro he; apply hk; omega
 exact List.pairwise_map.2 h1
theorem srt_pair (l:List Int):(srtS l).Pairwise fun x y=>x≤y:=by
 have:=List.pairwise_mergeSort (le:=fun x y:Int=>decide (x≤y)) (fun a b c h1 h2=>by simp only [decide_eq_true_eq] at *; omega) (fun a b=>by simp only [Bool.or_eq_true,decide_eq_true_eq]; omega) l
 exact this.imp fun h=>of_decide_eq_true h
theorem srt_mem (l:List Int) (x:Int):x ∈ srtS l↔x ∈ l:=List.mem_mergeSort
theorem cmp_c {g:Ghost} {a:Option Addr} {c:Nat} {xs:List Value} (l:List Int) (hL:RepL g (.int .i64) xs l) (hp:cmpP l):CallsH prog 75 #[.slice a l.length c] g [.own (.slice a l.length c) 3 1 l.length xs] (fun g' H' v=>∃ (ar0:Option Addr) (cr0:Nat) (t3:List Value),v=.slice ar0 (cmpS l).length cr0∧RepL g' (.int .i64) t3 (cmpS l)∧H'=[.own (.slice ar0 (cmpS l).length cr0) 3 1 (cmpS l).length t3]):=by
 intro W hW
 unfold cmpP at hp
 have hx:=repL_ints hL
 subst hx
 have hle:(cmpS l).length≤l.length:=by
  unfold cmpS Lib.compact Lib.compactUpTo
  rw [List.length_map]
  exact Nat.le_trans (List.length_filter_le ..) (by rw [List.length_range]; exact Nat.le_refl _)
 have hok:W.ownsRow 0 3 1 (.slice a l.length c) l.length (l.map (Value.int .i64)):=hW.ents _ (List.mem_singleton.2 rfl)
 rcases hok.2 with ⟨hv,hn⟩ | ⟨q,cap,cur,hv,hb,hh,h1,h2,h3,h4⟩
 ·obtain rfl:l=[]:=List.eq_nil_of_length_eq_zero hn
  refine (Tryz.slices_Compact_int_empty a c W).mono fun e W' ⟨he,hw⟩=>?_
  subst hw
  exact ⟨_,g,_,he,⟨a,c,[],rfl,rfl,rfl⟩,Gext.r _ _,hW⟩
 obtain ⟨rfl,rfl⟩:a=some ⟨q,0,none⟩∧c=cap:=by cases hv; exact ⟨rfl,rfl⟩
 have hH:=holds_of_block_i hh (by rw [Nat.mul_one] at h4; exact h4)
 refine (Tryz.slices_Compact_int q 0 c l W hH om h1).mono fun e W' ⟨he,n,hw⟩=>?_
 have hlt:(cmpS l++List.replicate (l.length - (cmpS l).length) 0).length=l.length:=by rw [List.length_append,List.length_replicate]; omega
 have hw:W'=grow (putRow encZ (Sort.ahead W n) q 0 (cmpS l++List.replicate (l.length - (cmpS l).length) 0).toArray) #[]:=by rw [hw,grow_empty]; rfl
 subst hw
 have ho:=ownsRow_sorted_i (w:=W) (base:=0) (n:=n) (os:=#[]) hlt (Nat.zero_le _) hh h1 h2 h3
 refine ⟨_,g,_,he,⟨some ⟨q,0,none⟩,c,(cmpS l).map (Value.int .i64),rfl,repL_int _,rfl⟩,Gext.r _ _,?_⟩
 have:=hW.grown (i:=0) rfl (grownBy_sorted_i (n:=n) (os:=#[]) (cmpS l++List.replicate (l.length - (cmpS l).length) 0).toArray) (e':=.own (.slice (some ⟨q,0,none⟩) (cmpS l).length c) 3 1 (cmpS l).length ((cmpS l).map (Value.int .i64))) (by
  refine ⟨by simp,?_⟩
  rcases ho.2 with ⟨hv,-⟩ | ⟨q',cap',cur',hv',hb',hh',h1',h2',h3',h4'⟩
  ·cases hv
  obtain ⟨rfl,rfl⟩:q=q'∧c=cap':=by cases hv'; exact ⟨rfl,rfl⟩
  refine .inr ⟨q,c,cur',rfl,hb',hh',by omega,h2',h3',?_⟩
  rw [Nat.mul_one] at h4' ⊢
  have:=congrArg (List.take (cmpS l).length) h4'
  rw [List.take_take,Nat.min_eq_left hle,List.map_append,List.take_left' (by rw [List.length_map])] at this
  exact this) (.inl rfl)
 exact this
def mft_C (N:Nat):Prop:=∀ (g:Ghost) {m0:Option Addr} {n0:Nat} (xd:Dc) (xn:Int) {c1:Option Addr} {f1:Nat} (xt:TS) (b0:Rep g yNs [.slice m0 xd.1.length n0] xd.1) (g1:Rep g (.slice yP) [.slice c1 xt.kids.length f1] xt.kids) (hG0:SomeInt g 0)  (hp:mftP N xd xn xt),CallsG prog 72 #[.agg (aD xd m0 n0),iv xn,.agg (aL xt.lab c1 xt.kids.length f1)] g (.bool (mftS xd xn xt))
def mpa_C (N:Nat):Prop:=∀ (g:Ghost) {m0:Option Addr} {n0:Nat} (xd:Dc) (xn:Int) {H0:Option Addr} {M0:Nat} {N0:Option Addr} {O0:Nat} (xp:PH) (b0:Rep g yNs [.slice m0 xd.1.length n0] xd.1) (V0:Rep g (.slice (.slice yS)) [.slice H0 xp.1.length M0] xp.1) (U0:Rep g (.slice yb) [.slice N0 xp.2.length O0] xp.2) (hG0:SomeInt g 0)  (hp:mpaP N xd xn xp),CallsG prog 42 #[.agg (aD xd m0 n0),iv xn,.agg #[.slice H0 xp.1.length M0,.slice N0 xp.2.length O0]] g (.bool (mpaS xd xn xp))
def mso_C (N:Nat):Prop:=∀ (g:Ghost) {m0:Option Addr} {n0:Nat} (xd:Dc) (xn:Int) {k1:Option Addr} {y1:Nat} (xl:List PH) (b0:Rep g yNs [.slice m0 xd.1.length n0] xd.1) (C1:Rep g (.slice yP) [.slice k1 xl.length y1] xl) (hG0:SomeInt g 0)  (hp:msoP N xd xn xl),CallsG prog 23 #[.agg (aD xd m0 n0),iv xn,.slice k1 xl.length y1] g (.bool (msoS xd xn xl))
def mftV0 (xt:TS) (e4:Nd):Bool :=
 ((matS e4 ([105,100]:Bs)).2&&((matS e4 ([105,100]:Bs)).1==xt.lab.2.1))
def mftV1 (xd:Dc) (xn:Int) (xt:TS):Int :=
 (if (xt.lab.1==9)=true then w6 ((w6 ((((kinS xd xn).1).length:Int) - 1)) - (kinS xd xn).2) else (kinS xd xn).2)
def mftj20 (xt:TS) (K:Bool→Prop) (e4:Nd):Prop :=
 K (mftV0 xt e4)
def mftj58 (xd:Dc) (xn:Int) (xt:TS) (K:Bool→Prop):Prop :=
 K (nthSp xt.lab.2.2.2.2.1 xt.lab.2.2.2.2.2 (w6 ((mftV1 xd xn xt)+1)))
def mftj49 (N:Nat) (xd:Dc) (xn:Int) (xt:TS) (K:Bool→Prop):Prop :=
 (((xt.lab.1==8)||(xt.lab.1==9))=true→kinP xd xn∧((xt.lab.1==9)=true→mftj58 xd xn xt K)∧((xt.lab.1==9)=false→mftj58 xd xn xt K))∧(((xt.lab.1==8)||(xt.lab.1==9))=false→((xt.lab.1==10)=true→msoP N xd xn xt.kids∧K (!(msoS xd xn xt.kids)))∧((xt.lab.1==10)=false→((xt.lab.1==11)=true→msoP N xd xn xt.kids∧K (msoS xd xn xt.kids))∧((xt.lab.1==11)=false→K true)))
def mftF (N:Nat) (xd:Dc) (xn:Int) (xt:TS) (K:Bool→Prop):Prop :=
 0≤xn∧xn.toNat<xd.1.length∧((xt.lab.1==2)=true→K ((xd.1.getD xn.toNat default).2.1==xt.lab.2.1))∧((xt.lab.1==2)=false→((xt.lab.1==3)=true→matP (xd.1.getD xn.toNat default) ([105,100]:Bs)∧((matS (xd.1.getD xn.toNat default) ([105,100]:Bs)).2=true→mftj20 xt K (xd.1.getD xn.toNat default))∧((matS (xd.1.getD xn.toNat default) ([105,100]:Bs)).2=false→mftj20 xt K (xd.1.getD xn.toNat default)))∧((xt.lab.1==3)=false→((xt.lab.1==4)=true→matP (xd.1.getD xn.toNat default) ([99,108,97,115,115]:Bs)∧hwP (matS (xd.1.getD xn.toNat default) ([99,108,97,115,115]:Bs)).1 xt.lab.2.1∧K (hwS (matS (xd.1.getD xn.toNat default) ([99,108,97,115,115]:Bs)).1 xt.lab.2.1))∧((xt.lab.1==4)=false→((xt.lab.1==5)=true→mfaP (xd.1.getD xn.toNat default) xt∧K (mfaS (xd.1.getD xn.toNat default) xt))∧((xt.lab.1==5)=false→((xt.lab.1==6)=true→K ((xd.1.getD xn.toNat default).2.2.2.2.1==0))∧((xt.lab.1==6)=false→((xt.lab.1==7)=true→kinP xd xn∧K (memS xd xn))∧((xt.lab.1==7)=false→((xt.lab.1==8)=true→mftj49 N xd xn xt K)∧((xt.lab.1==8)=false→mftj49 N xd xn xt K)))))))
theorem mft_ok {g:Ghost} (N:Nat) (ih_mft:mft_C N) (ih_mpa:mpa_C N) (ih_mso:mso_C N) {m0:Option Addr} {n0:Nat} (xd:Dc) (xn:Int) {c1:Option Addr} {f1:Nat} (xt:TS) (b0:Rep g yNs [.slice m0 xd.1.length n0] xd.1) (g1:Rep g (.slice yP) [.slice c1 xt.kids.length f1] xt.kids) (hG0:SomeInt g 0) (K:Bool→Prop)
  (hF:mftF N xd xn xt K):CallsH prog 72 #[.agg (aD xd m0 n0),iv xn,.agg (aL xt.lab c1 xt.kids.length f1)] g [] (fun g' H' v=>∃ (r0:Bool),v=.bool r0∧H'=[]∧K r0):=by
 refine CallsH.en 107 func72 rfl fun w0=>?_
 refine Ok.sr (Ok.o (OpOk.bx (aD xd m0 n0) fun bs3=>?_))
 refine Ok.o (OpOk.bx (aL xt.lab c1 xt.kids.length f1) fun bs5=>?_)
 refine Ok.B 1 [(1,iv xn),(3,pv bs3 0),(5,pv bs5 0)] kr (Ok.nt (Ok.sr (Ok.rn 3 [.e 1] [1,3,5] [(15,.slice m0 xd.1.length n0),(16,iv xn)] ?_)))
 obtain ⟨h04,h14,hF⟩:=hF
 have he4:=get_of (l:=xd.1) default h14
 generalize hg4:(xd.1.getD xn.toNat default)=e4 at he4 hF ⊢
 refine Ok.o (OpOk.indexRo (e:=yN) rfl rfl underlying22 kr b0 h04 he4 rfl fun q3 o3 cs3 _ hat3 hr3=>?_)
 obtain ⟨M2,N2,O2,P2,rfl,W2,X2⟩:=oN hr3
 refine Ok.o (OpOk.s (v:=.agg (aN e4 M2 N2 O2 P2)) (Yields.loadAggRo 0 6 (aN e4 M2 N2 O2 P2) hat3 kr underlying48 rfl kr kr kr) rfl rfl (Ok.o (OpOk.aw #[iv 0,sv ([]:Bs),.slice none 0 0,sv ([]:Bs),iv 0,.slice none 0 0] fun bs7=>?_)))
 refine Ok.o (OpOk.sw 0 (aN e4 M2 N2 O2 P2) rfl rfl rfl ?_)
 refine Ok.nt (Ok.q (Ok.sr (Ok.b 1 [1,3,5] [(7,pv bs7 0),(19,pv bs5 0)] ?_)))
 refine Ok.o (OpOk.s (v:=iv xt.lab.1) (Yields.l 1 rfl rfl underlying3 rfl kr) rfl rfl (Ok.nt (Ok.block (Ok.sr (Ok.b 2 [1,3,5,7] [(20,iv xt.lab.1),(21,.bool (xt.lab.1==2))] ?_)))))
 refine Ok.nt (Ok.cw hF (fun hc6 hF=>?_) (fun hc6 hF=>?_))
 ·refine Ok.sr (Ok.rn 6 [.e 0,.e 1] [] [(6,.bool (e4.2.1==xt.lab.2.1))] ?_)
  refine Ok.nt (Ok.ret (Ok.kr (Ok.tr ?_)))
  exact Ok.pb (e4.2.1==xt.lab.2.1) hF
 refine Ok.sr (Ok.b 2 [1,3,5,7,20] [(28,.bool (xt.lab.1==3))] ?_)
 refine Ok.nt (Ok.cw hF (fun hc7 hF=>?_) (fun hc7 hF=>?_))
 ·refine Ok.q (Ok.r ?_)
  obtain ⟨hp8,hF⟩:=hF
  refine Ok.rn 7 [.e 0,.k (mat_c e4 ([105,100]:Bs) W2 X2 hp8)] [5] [(8,sv ((matS e4 ([105,100]:Bs)).1)),(9,.bool (matS e4 ([105,100]:Bs)).2)] ?_
  refine Ok.nt (Ok.cg g [(6,.bool (mftV0 xt e4))] [] (mftj20 xt K e4) ?_ (fun gj20 T2 hF=>?_))
  ·
   refine Ok.r (Ok.b 2 [5,8] [(36,.bool (matS e4 ([105,100]:Bs)).2)] ?_)
   refine Ok.bw 36 hF (fun hc9 hF=>?_) (fun hc9 hF=>?_)
   ·refine Ok.rn 6 [.e 1] [] [(6,.bool ((matS e4 ([105,100]:Bs)).1==xt.lab.2.1))] ?_
    refine Ok.nt (Ok.rb 6 (mftV0 xt e4) (mand_t hc9) ?_)
    exact fg hF
   refine Ok.B 6 [(6,.bool false)] kr (Ok.nt (Ok.rb 6 (mftV0 xt e4) (mand_f hc9) ?_))
   exact fg hF
  replace hG0:=hG0.mono T2.1
  refine Ok.ret (Ok.kr (Ok.tr ?_))
  exact Ok.h1 (.bool (mftV0 xt e4)) T2 ⟨_,rfl,rfl,hF⟩
 refine Ok.sr (Ok.b 2 [1,3,5,7,20] [(42,.bool (xt.lab.1==4))] ?_)
 refine Ok.nt (Ok.cw hF (fun n2 hF=>?_) (fun n2 hF=>?_))
 ·refine Ok.q (Ok.r ?_)
  obtain ⟨hp11,hF⟩:=hF
  refine Ok.rn 7 [.e 0,.k (mat_c e4 ([99,108,97,115,115]:Bs) W2 X2 hp11)] [5] [(10,sv ((matS e4 ([99,108,97,115,115]:Bs)).1))] ?_
  refine Ok.nt (Ok.q (Ok.r ?_))
  obtain ⟨A2,hF⟩:=hF
  refine Ok.rn 5 [.e 1,.k (hw_c (matS e4 ([99,108,97,115,115]:Bs)).1 xt.lab.2.1 A2)] [] [(6,.bool (hwS (matS e4 ([99,108,97,115,115]:Bs)).1 xt.lab.2.1))] ?_
  refine Ok.nt (Ok.ret (Ok.kr (Ok.tr ?_)))
  exact Ok.pb (hwS (matS e4 ([99,108,97,115,115]:Bs)).1 xt.lab.2.1) hF
 refine Ok.sr (Ok.b 2 [1,3,5,7,20] [(53,.bool (xt.lab.1==5))] ?_)
 refine Ok.nt (Ok.cw hF (fun I2 hF=>?_) (fun I2 hF=>?_))
 ·refine Ok.q (Ok.r ?_)
  obtain ⟨y3,hF⟩:=hF
  refine Ok.rn 4 [.e 0,.e 1,.k (mfa_c e4 xt W2 X2 g1 hG0 y3)] [] [(6,.bool (mfaS e4 xt))] ?_
  refine Ok.nt (Ok.ret (Ok.kr (Ok.tr ?_)))
  exact Ok.pb (mfaS e4 xt) hF
 refine Ok.sr (Ok.b 2 [1,3,5,7,20] [(58,.bool (xt.lab.1==6))] ?_)
 refine Ok.nt (Ok.cw hF (fun hc15 hF=>?_) (fun hc15 hF=>?_))
 ·refine Ok.sr (Ok.rn 4 [.e 0] [] [(6,.bool (e4.2.2.2.2.1==0))] ?_)
  refine Ok.nt (Ok.ret (Ok.kr (Ok.tr ?_)))
  exact Ok.pb (e4.2.2.2.2.1==0) hF
 refine Ok.sr (Ok.b 2 [1,3,5,20] [(63,.bool (xt.lab.1==7))] ?_)
 refine Ok.nt (Ok.cw hF (fun v3 hF=>?_) (fun v3 hF=>?_))
 ·refine Ok.q (Ok.r ?_)
  obtain ⟨u3,hF⟩:=hF
  refine Ok.rn 4 [.e 2,.k (mem_c xd xn b0 u3)] [] [(6,.bool (memS xd xn))] ?_
  refine Ok.nt (Ok.ret (Ok.kr (Ok.tr ?_)))
  exact Ok.pb (memS xd xn) hF
 refine Ok.cg g [(1,iv xn),(3,pv bs3 0),(5,pv bs5 0),(20,iv xt.lab.1),(68,.bool ((xt.lab.1==8)||(xt.lab.1==9)))] [.blk bs5 (.cells (aL xt.lab c1 xt.kids.length f1) 60),.blk bs3 (.cells (aD xd m0 n0) 24)] (mftj49 N xd xn xt K) ?_ (fun gj49 k2 hF=>?_)
 ·
  refine Ok.sr (Ok.b 2 [1,3,5,20] [(68,.bool (xt.lab.1==8))] ?_)
  refine Ok.nt (Ok.cw hF (fun R2 hF=>?_) (fun R2 hF=>?_))
  ·refine Ok.k (Ok.t (Ok.rb 68 ((xt.lab.1==8)||(xt.lab.1==9)) (Eq.trans (R2) (mor_t R2)) ?_))
   exact fg hF
  refine Ok.r (Ok.b 2 [1,3,5,20] [(68,.bool (xt.lab.1==9))] ?_)
  refine Ok.nt (Ok.rb 68 ((xt.lab.1==8)||(xt.lab.1==9)) (mor_f R2) ?_)
  exact fg hF
 replace g1:=g1.mono k2.1
 replace b0:=b0.mono k2.1
 replace hG0:=hG0.mono k2.1
 refine Ok.cw hF (fun hc18 hF=>?_) (fun hc18 hF=>?_)
 ·refine Ok.sr (Ok.rn 2 [.e 1] [5] [(72,.agg (aD xd m0 n0)),(73,iv xn)] ?_)
  obtain ⟨J2,hF⟩:=hF
  refine Ok.o (OpOk.callH [] _ enr rfl (kin_c xd xn b0 J2) rfl fun g20 _ _ v2 j3=>?_)
  obtain ⟨V2,Q2,S2,rfl,B2,rfl⟩:=j3
  replace b0:=b0.mono v2.1
  replace g1:=g1.mono v2.1
  replace hG0:=hG0.mono v2.1
  refine Ok.b 5 [5] [(12,.slice V2 ((kinS xd xn).1).length Q2),(13,iv (kinS xd xn).2)] ?_
  refine Ok.nt (Ok.cg g20 [(5,pv bs5 0),(13,iv (mftV1 xd xn xt))] [.blk bs5 (.cells (aL xt.lab c1 xt.kids.length f1) 60)] (mftj58 xd xn xt K) ?_ (fun gj58 C2 hF=>?_))
  ·
   refine Ok.sr (Ok.rn 3 [.e 1] [5,12,13] [(79,.bool (xt.lab.1==9))] ?_)
   refine Ok.nt (Ok.cw hF (fun x3 hF=>?_) (fun x3 hF=>?_))
   ·refine Ok.r (Ok.b 6 [5] [(13,iv (w6 ((w6 ((((kinS xd xn).1).length:Int) - 1)) - (kinS xd xn).2)))] ?_)
    refine Ok.nt (Ok.v 13 rfl (show (iv (w6 ((w6 ((((kinS xd xn).1).length:Int) - 1)) - (kinS xd xn).2)):Value)=iv (mftV1 xd xn xt) from congrArg (Value.int .i64) ((if_t x3).symm)) ?_)
    exact fg hF
   refine Ok.k (Ok.t (Ok.v 13 rfl (show (iv (kinS xd xn).2:Value)=iv (mftV1 xd xn xt) from congrArg (Value.int .i64) ((if_f x3).symm)) ?_))
   exact fg hF
  replace g1:=g1.mono C2.1
  replace hG0:=hG0.mono C2.1
  refine Ok.sr (Ok.rn 8 [.e 0,.e 0,.k (mnt_c xt.lab.2.2.2.2.1 xt.lab.2.2.2.2.2 (w6 ((mftV1 xd xn xt)+1)))] [] [(6,.bool (nthSp xt.lab.2.2.2.2.1 xt.lab.2.2.2.2.2 (w6 ((mftV1 xd xn xt)+1))))] ?_)
  refine Ok.nt (Ok.ret (Ok.kr (Ok.tr ?_)))
  exact Ok.p1 (.bool (nthSp xt.lab.2.2.2.2.1 xt.lab.2.2.2.2.2 (w6 ((mftV1 xd xn xt)+1)))) ((k2.trans v2).trans C2) ⟨_,rfl,rfl,hF⟩
 refine Ok.sr (Ok.b 2 [1,3,5,20] [(92,.bool (xt.lab.1==10))] ?_)
 refine Ok.nt (Ok.cw hF (fun s3 hF=>?_) (fun s3 hF=>?_))
 ·refine Ok.q (Ok.r ?_)
  obtain ⟨hp23,hF⟩:=hF
  refine Ok.rn 7 [.e 1,.e 0,.k (ih_mso _ xd xn xt.kids b0 g1 hG0 hp23)] [] [(6,.bool (!(msoS xd xn xt.kids)))] ?_
  refine Ok.nt (Ok.ret (Ok.kr (Ok.tr ?_)))
  exact Ok.p1 (.bool (!(msoS xd xn xt.kids))) k2 ⟨_,rfl,rfl,hF⟩
 refine Ok.sr (Ok.b 2 [1,3,5] [(100,.bool (xt.lab.1==11))] ?_)
 refine Ok.nt (Ok.cw hF (fun D2 hF=>?_) (fun D2 hF=>?_))
 ·refine Ok.q (Ok.r ?_)
  obtain ⟨hp25,hF⟩:=hF
  refine Ok.rn 6 [.e 1,.e 0,.k (ih_mso _ xd xn xt.kids b0 g1 hG0 hp25)] [] [(6,.bool (msoS xd xn xt.kids))] ?_
  refine Ok.nt (Ok.ret (Ok.kr (Ok.tr ?_)))
  exact Ok.p1 (.bool (msoS xd xn xt.kids)) k2 ⟨_,rfl,rfl,hF⟩
 refine Ok.k (Ok.kn (Ok.t (Ok.sr (Ok.B 1 [(6,.bool true)] kr (Ok.nt (Ok.ret ?_))))))
 exact Ok.p1 (.bool true) k2 ⟨_,rfl,rfl,hF⟩
def msoji18 (K:Bool→Prop) (Q1:Int):Prop :=
 K (decide (Q1≥0))
def msol7x1b (N:Nat) (xd:Dc) (xn:Int) (xl:List PH) (K:Bool→Prop) (Q0:Int) (C7x1:Int→Prop):Prop :=
 ((decide (Q0<(xl.length:Int)))=true→(0:Int)≤Q0∧Int.toNat Q0<xl.length∧mpaP N xd xn (xl.getD (Int.toNat Q0) default)∧((mpaS xd xn (xl.getD (Int.toNat Q0) default))=true→msoji18 K Q0)∧((mpaS xd xn (xl.getD (Int.toNat Q0) default))=false→C7x1 (w6 (Q0+1))))∧((decide (Q0<(xl.length:Int)))=false→msoji18 K (-1))
def msol7x1 (N:Nat) (xd:Dc) (xn:Int) (xl:List PH) (K:Bool→Prop):Nat→Int→Prop
 | 0,_=>False
 | k+1,Q0=>msol7x1b N xd xn xl K Q0 (msol7x1 N xd xn xl K k)
def msoF (N:Nat) (xd:Dc) (xn:Int) (xl:List PH) (K:Bool→Prop):Prop :=
 ∃ k,msol7x1 N xd xn xl K k 0
theorem mso_ok {g:Ghost} (N:Nat) (ih_mft:mft_C N) (ih_mpa:mpa_C N) (ih_mso:mso_C N) {m0:Option Addr} {n0:Nat} (xd:Dc) (xn:Int) {k1:Option Addr} {y1:Nat} (xl:List PH) (b0:Rep g yNs [.slice m0 xd.1.length n0] xd.1) (C1:Rep g (.slice yP) [.slice k1 xl.length y1] xl) (hG0:SomeInt g 0) (K:Bool→Prop)
  (hF:msoF N xd xn xl K):CallsH prog 23 #[.agg (aD xd m0 n0),iv xn,.slice k1 xl.length y1] g [] (fun g' H' v=>∃ (r0:Bool),v=.bool r0∧H'=[]∧K r0):=by
 refine CallsH.en 10 func23 rfl fun w0=>?_
 refine Ok.sr (Ok.o (OpOk.bx (aD xd m0 n0) fun bs3=>?_))
 refine Ok.o (OpOk.box (v:=iv xn) (cs:=#[iv xn]) rfl kr rfl fun bs4=>?_)
 refine Ok.B 1 [(2,.slice k1 xl.length y1),(3,pv bs3 0),(4,pv bs4 0)] kr (Ok.nt (Ok.sr (Ok.B 2 [(7,.slice k1 xl.length y1),(8,.func (.func 41) #[] #[pv bs3 0,pv bs4 0])] kr (Ok.o (OpOk.i (args:=#[.slice k1 xl.length y1,.func (.func 41) #[] #[pv bs3 0,pv bs4 0]]) 9 [(0,.slice k1 xl.length y1),(1,.func (.func 41) #[] #[pv bs3 0,pv bs4 0])] enr func40 rfl rfl rfl rfl (Ok.sr (Ok.B 1 [(0,.slice k1 xl.length y1),(1,.func (.func 41) #[] #[pv bs3 0,pv bs4 0])] kr (Ok.nt (Ok.sr (Ok.B 2 [(5,.slice k1 xl.length y1),(6,.func (.func 41) #[] #[pv bs3 0,pv bs4 0])] kr (Ok.o (OpOk.cut (fun a W=>∃ (Q1:Int),StA 9 [(7,iv Q1)] a∧StW w0 [] g W∧msoji18 K Q1) ?_ ?_))))))))))))
 ·
  refine OpOk.i (args:=#[.slice k1 xl.length y1,.func (.func 41) #[] #[pv bs3 0,pv bs4 0]]) 19 [(0,.slice k1 xl.length y1),(1,.func (.func 41) #[] #[pv bs3 0,pv bs4 0])] enr func66 rfl rfl rfl rfl (Ok.sr (Ok.B 1 [(0,.slice k1 xl.length y1),(1,.func (.func 41) #[] #[pv bs3 0,pv bs4 0])] kr (Ok.nt (Ok.q (Ok.sr (Ok.b 3 [0,1] [(7,iv (xl.length:Int)),(8,iv 0)] ?_))))))
  refine Ok.nt (Ok.block ?_)
  obtain ⟨k,hF⟩:=hF
  refine Ok.L (fun k a W=>∃ (Q0:Int),StA 19 [(0,.slice k1 xl.length y1),(1,.func (.func 41) #[] #[pv bs3 0,pv bs4 0]),(7,iv (xl.length:Int)),(8,iv Q0)] a∧StW w0 [.blk bs4 (.cells #[iv xn] 3),.blk bs3 (.cells (aD xd m0 n0) 24)] g W∧msol7x1 N xd xn xl K k Q0) k ?_ ?_
  ·
   exact fun _ _ u v=>⟨0,fA u v hF⟩
  clear hF
  rintro (_ | k7x1) _ _ ⟨Q0,q⟩
  exact (q.2.2:False).elim
  refine jn (fun hF=>?_) _ _ q
  refine Ok.sr (Ok.b 1 [0,1,7,8] [(9,.bool (decide (Q0<(xl.length:Int))))] ?_)
  refine Ok.nt (Ok.q (Ok.cw hF (fun hc3 hF=>?_) (fun hc3 hF=>?_)))
  ·refine Ok.k (Ok.t (Ok.q (Ok.block (Ok.sr (Ok.b 2 [0,1,7,8] [(5,iv Q0)] ?_)))))
   refine Ok.nt (Ok.sr (Ok.b 3 [0,1,5,7,8] [(11,.func (.func 41) #[] #[pv bs3 0,pv bs4 0]),(12,.slice k1 xl.length y1),(13,iv Q0)] ?_))
   obtain ⟨h05,h15,hF⟩:=hF
   have he5:=get_of (l:=xl) default h15
   generalize hg5:(xl.getD (Int.toNat Q0) default)=e5 at he5 hF ⊢
   refine Ok.o (OpOk.indexRo (e:=yP) rfl rfl underlying33 kr C1 h05 he5 rfl fun q4 o4 cs4 _ c3 hr4=>?_)
   obtain ⟨_,_,rfl,⟨j2,x2,rfl,hm4_0,hr4_0⟩,⟨s2,b2,rfl,hm4_1,hr4_1⟩⟩:=hr4
   have hR4_0:Rep g (.slice (.slice yS)) [.slice j2 e5.1.length x2] e5.1:=⟨j2,x2,rfl,hm4_0,hr4_0⟩
   have hR4_1:Rep g (.slice yb) [.slice s2 e5.2.length b2] e5.2:=⟨s2,b2,rfl,hm4_1,hr4_1⟩
   replace c3:At g q4 o4 [.slice j2 e5.1.length x2,.slice s2 e5.2.length b2]:=c3
   refine Ok.o (OpOk.s (v:=.agg #[.slice j2 e5.1.length x2,.slice s2 e5.2.length b2]) (Yields.loadAggRo 0 2 #[.slice j2 e5.1.length x2,.slice s2 e5.2.length b2] c3 kr underlying28 rfl kr kr kr) rfl rfl (Ok.o (OpOk.i (args:=#[.agg #[.slice j2 e5.1.length x2,.slice s2 e5.2.length b2],pv bs3 0,pv bs4 0]) 9 [(0,.agg #[.slice j2 e5.1.length x2,.slice s2 e5.2.length b2]),(1,pv bs3 0),(2,pv bs4 0)] enr func41 rfl rfl rfl rfl (Ok.sr (Ok.o (OpOk.bx #[.slice j2 e5.1.length x2,.slice s2 e5.2.length b2] fun bs3i9i7i16=>?_))))))
   refine Ok.B 1 [(1,pv bs3 0),(2,pv bs4 0),(3,pv bs3i9i7i16 0)] kr (Ok.nt (Ok.q (Ok.r ?_)))
   obtain ⟨hp7,hF⟩:=hF
   refine Ok.rn 5 [.e 2,.e 1,.e 0,.k (ih_mpa _ xd xn e5 b0 hR4_0 hR4_1 hG0 hp7)] [] [(4,.bool (mpaS xd xn e5))] ?_
   refine Ok.nt (Ok.ret (Ok.back (vs:=[.bool (mpaS xd xn e5)]) (.inl rfl) rfl (.cons (.tmp rfl) .nil) rfl (Ok.nt (Ok.cn hF rfl (fun hc8=>?_) (fun hc8=>?_)))))
   ·replace hF:=hF.1 hc8
    refine Ok.sr (Ok.B 2 [(4,iv Q0)] kr (Ok.nt (Ok.ret (Ok.kr (Ok.tr (Ok.tr (Ok.kr (Ok.tr (Ok.back (vs:=[iv Q0]) (.inl rfl) rfl (.cons (.tmp rfl) .nil) rfl ?_)))))))))
    subst hg5
    exact fun _ _ u v=>⟨Q0,fA u v hF⟩
   replace hF:=hF.2 hc8
   refine Ok.k (Ok.kn (Ok.t (Ok.r (Ok.B 2 [(0,.slice k1 xl.length y1),(1,.func (.func 41) #[] #[pv bs3 0,pv bs4 0]),(7,iv (xl.length:Int)),(8,iv (w6 (Q0+1)))] kr (Ok.j (Ok.t ?_))))))
   subst hg5
   exact fun _ _ u v=>⟨k7x1,nl,w6 (Q0+1),fA u v hF⟩
  refine Ok.x (Ok.thenE (Ok.thenE (Ok.blockHit (Ok.t (Ok.sr (Ok.B 1 [(4,iv (-1))] kr (Ok.nt (Ok.ret (Ok.back (vs:=[iv (-1)]) (.inl rfl) rfl (.cons (.tmp rfl) .nil) rfl ?_)))))))))
  exact fun _ _ u v=>⟨-1,fA u v hF⟩
 clear hF
 rintro _ _ ⟨Q1,q⟩
 refine jn (fun hF=>?_) _ _ q
 refine Ok.B 2 [(4,.bool (decide (Q1≥0)))] kr (Ok.nt (Ok.ret (Ok.back (vs:=[.bool (decide (Q1≥0))]) (.inl rfl) rfl (.cons (.tmp rfl) .nil) rfl (Ok.B 1 [(6,.bool (decide (Q1≥0)))] kr (Ok.nt (Ok.ret ?_))))))
 exact Ok.pb (decide (Q1≥0)) hF
def mpal27b (xd:Dc) (xp:PH) (z0:Int) (C8:Int→List Int→Prop) (k0:List Int) (A0:Int) (e0:List Int) (C27:Int→List Int→Prop):Prop :=
 ((decide (A0<(k0.length:Int)))=true→(0:Int)≤A0∧Int.toNat A0<k0.length∧0≤w6 (z0 - 1)∧Int.toNat (w6 (z0 - 1))<xp.2.length∧mnxP xd (k0.getD (Int.toNat A0) default) (xp.2.getD (Int.toNat (w6 (z0 - 1))) default)∧(e0++(mnxS xd (k0.getD (Int.toNat A0) default) (xp.2.getD (Int.toNat (w6 (z0 - 1))) default))).length≤17592186044416∧C27 (w6 (A0+1)) (e0++(mnxS xd (k0.getD (Int.toNat A0) default) (xp.2.getD (Int.toNat (w6 (z0 - 1))) default))))∧((decide (A0<(k0.length:Int)))=false→srtP e0∧cmpP (srtS e0)∧C8 (w6 (z0 - 1)) (cmpS (srtS e0)))
def mpal27 (xd:Dc) (xp:PH) (z0:Int) (C8:Int→List Int→Prop) (k0:List Int):Nat→Int→List Int→Prop
 | 0,_,_=>False
 | k+1,A0,e0=>mpal27b xd xp z0 C8 k0 A0 e0 (mpal27 xd xp z0 C8 k0 k)
def mpaji66 (xd:Dc) (xp:PH) (K:Bool→Prop) (z0:Int) (C8:Int→List Int→Prop) (k0:List Int):Prop :=
 (((z0==0)||((k0.length:Int)==0))=true→K (decide ((k0.length:Int)>0)))∧(((z0==0)||((k0.length:Int)==0))=false→∃ k,mpal27 xd xp z0 C8 k0 k 0 ([]:List Int))
def mpaj24i22 (a1:Int) (D0:List Int) (s0:Int) (C17x3:Int→Int→List Int→Prop):Prop :=
 C17x3 a1 (w6 (s0+1)) D0
def mpaj3i22i28 (v1:Bool) (u0:Int) (s0:Int) (v0:List Int) (C17x3:Int→Int→List Int→Prop):Prop :=
 ((!v1)=true→0≤u0∧u0.toNat<v0.length∧mpaj24i22 (w6 (u0+1)) (v0.set u0.toNat (v0.getD s0.toNat default)) s0 C17x3)∧((!v1)=false→mpaj24i22 u0 v0 s0 C17x3)
def mpaji86 (u0:Int) (s0:Int) (v0:List Int) (C17x3:Int→Int→List Int→Prop) (K1:Int):Prop :=
 mpaj3i22i28 (decide (K1≥0)) u0 s0 v0 C17x3
def mpal7x4b (N:Nat) (xd:Dc) (u0:Int) (s0:Int) (v0:List Int) (e25:Int) (C17x3:Int→Int→List Int→Prop) (e34:List TS) (j0:Int) (C7x4:Int→Prop):Prop :=
 ((decide (j0<(e34.length:Int)))=true→0≤j0∧j0.toNat<e34.length∧mftP N xd e25 (e34.getD j0.toNat default)∧((!(mftS xd e25 (e34.getD j0.toNat default)))=true→mpaji86 u0 s0 v0 C17x3 j0)∧((!(mftS xd e25 (e34.getD j0.toNat default)))=false→C7x4 (w6 (j0+1))))∧((decide (j0<(e34.length:Int)))=false→mpaji86 u0 s0 v0 C17x3 (-1))
def mpal7x4 (N:Nat) (xd:Dc) (u0:Int) (s0:Int) (v0:List Int) (e25:Int) (C17x3:Int→Int→List Int→Prop) (e34:List TS):Nat→Int→Prop
 | 0,_=>False
 | k+1,j0=>mpal7x4b N xd u0 s0 v0 e25 C17x3 e34 j0 (mpal7x4 N xd u0 s0 v0 e25 C17x3 e34 k)
def mpal17x3b (N:Nat) (xd:Dc) (xp:PH) (K:Bool→Prop) (z0:Int) (C8:Int→List Int→Prop) (u0:Int) (s0:Int) (v0:List Int) (C17x3:Int→Int→List Int→Prop):Prop :=
 ((decide (s0<(v0.length:Int)))=true→0≤s0∧s0.toNat<v0.length∧melP xd (v0.getD s0.toNat default)∧((!(melS xd (v0.getD s0.toNat default)))=true→mpaj3i22i28 true u0 s0 v0 C17x3)∧((!(melS xd (v0.getD s0.toNat default)))=false→0≤z0∧z0.toNat<xp.1.length∧∃ k,mpal7x4 N xd u0 s0 v0 (v0.getD s0.toNat default) C17x3 (xp.1.getD z0.toNat default) k 0))∧((decide (s0<(v0.length:Int)))=false→0≤u0∧(u0:Int)≤(v0.length:Int)∧(v0.length:Int)≤(v0.length:Int)∧u0.toNat≤Int.toNat (v0.length:Int)∧0≤u0∧u0≤((clr v0 u0.toNat (0:Int)).length:Int)∧mpaji66 xd xp K z0 C8 ((clr v0 u0.toNat (0:Int)).take u0.toNat))
def mpal17x3 (N:Nat) (xd:Dc) (xp:PH) (K:Bool→Prop) (z0:Int) (C8:Int→List Int→Prop):Nat→Int→Int→List Int→Prop
 | 0,_,_,_=>False
 | k+1,u0,s0,v0=>mpal17x3b N xd xp K z0 C8 u0 s0 v0 (mpal17x3 N xd xp K z0 C8 k)
def mpaji74 (N:Nat) (xd:Dc) (xp:PH) (K:Bool→Prop) (z0:Int) (q0:List Int) (C8:Int→List Int→Prop) (j1:Int):Prop :=
 ((j1==(-1))=true→mpaji66 xd xp K z0 C8 q0)∧((j1==(-1))=false→∃ k,mpal17x3 N xd xp K z0 C8 k j1 (w6 (j1+1)) q0)
def mpaj3i22i10i16 (N:Nat) (xd:Dc) (xp:PH) (K:Bool→Prop) (P0:Bool) (x0:Int) (z0:Int) (q0:List Int) (C8:Int→List Int→Prop) (C7x5:Int→Prop):Prop :=
 (P0=true→mpaji74 N xd xp K z0 q0 C8 x0)∧(P0=false→C7x5 (w6 (x0+1)))
def mpaji98 (N:Nat) (xd:Dc) (xp:PH) (K:Bool→Prop) (x0:Int) (z0:Int) (q0:List Int) (C8:Int→List Int→Prop) (C7x5:Int→Prop) (Y1:Int):Prop :=
 mpaj3i22i10i16 N xd xp K (decide (Y1≥0)) x0 z0 q0 C8 C7x5
def mpal7x6b (N:Nat) (xd:Dc) (xp:PH) (K:Bool→Prop) (x0:Int) (z0:Int) (q0:List Int) (C8:Int→List Int→Prop) (e46:Int) (C7x5:Int→Prop) (e52:List TS) (y0:Int) (C7x6:Int→Prop):Prop :=
 ((decide (y0<(e52.length:Int)))=true→0≤y0∧y0.toNat<e52.length∧mftP N xd e46 (e52.getD y0.toNat default)∧((!(mftS xd e46 (e52.getD y0.toNat default)))=true→mpaji98 N xd xp K x0 z0 q0 C8 C7x5 y0)∧((!(mftS xd e46 (e52.getD y0.toNat default)))=false→C7x6 (w6 (y0+1))))∧((decide (y0<(e52.length:Int)))=false→mpaji98 N xd xp K x0 z0 q0 C8 C7x5 (-1))
def mpal7x6 (N:Nat) (xd:Dc) (xp:PH) (K:Bool→Prop) (x0:Int) (z0:Int) (q0:List Int) (C8:Int→List Int→Prop) (e46:Int) (C7x5:Int→Prop) (e52:List TS):Nat→Int→Prop
 | 0,_=>False
 | k+1,y0=>mpal7x6b N xd xp K x0 z0 q0 C8 e46 C7x5 e52 y0 (mpal7x6 N xd xp K x0 z0 q0 C8 e46 C7x5 e52 k)
def mpal7x5b (N:Nat) (xd:Dc) (xp:PH) (K:Bool→Prop) (z0:Int) (q0:List Int) (C8:Int→List Int→Prop) (x0:Int) (C7x5:Int→Prop):Prop :=
 ((decide (x0<(q0.length:Int)))=true→0≤x0∧x0.toNat<q0.length∧melP xd (q0.getD x0.toNat default)∧((!(melS xd (q0.getD x0.toNat default)))=true→mpaj3i22i10i16 N xd xp K true x0 z0 q0 C8 C7x5)∧((!(melS xd (q0.getD x0.toNat default)))=false→0≤z0∧z0.toNat<xp.1.length∧∃ k,mpal7x6 N xd xp K x0 z0 q0 C8 (q0.getD x0.toNat default) C7x5 (xp.1.getD z0.toNat default) k 0))∧((decide (x0<(q0.length:Int)))=false→mpaji74 N xd xp K z0 q0 C8 (-1))
def mpal7x5 (N:Nat) (xd:Dc) (xp:PH) (K:Bool→Prop) (z0:Int) (q0:List Int) (C8:Int→List Int→Prop):Nat→Int→Prop
 | 0,_=>False
 | k+1,x0=>mpal7x5b N xd xp K z0 q0 C8 x0 (mpal7x5 N xd xp K z0 q0 C8 k)
def mpal8b (N:Nat) (xd:Dc) (xp:PH) (K:Bool→Prop) (z0:Int) (q0:List Int) (C8:Int→List Int→Prop):Prop :=
 ∃ k,mpal7x5 N xd xp K z0 q0 C8 k 0
def mpal8 (N:Nat) (xd:Dc) (xp:PH) (K:Bool→Prop):Nat→Int→List Int→Prop
 | 0,_,_=>False
 | k+1,z0,q0=>mpal8b N xd xp K z0 q0 (mpal8 N xd xp K k)
def mpaF (N:Nat) (xd:Dc) (xn:Int) (xp:PH) (K:Bool→Prop):Prop :=
 ∃ k,mpal8 N xd xp K k (w6 ((xp.1.length:Int) - 1)) ([xn]:List Int)
theorem mpa_ok {g:Ghost} (N:Nat) (ih_mft:mft_C N) (ih_mpa:mpa_C N) (ih_mso:mso_C N) {m0:Option Addr} {n0:Nat} (xd:Dc) (xn:Int) {H0:Option Addr} {M0:Nat} {N0:Option Addr} {O0:Nat} (xp:PH) (b0:Rep g yNs [.slice m0 xd.1.length n0] xd.1) (V0:Rep g (.slice (.slice yS)) [.slice H0 xp.1.length M0] xp.1) (U0:Rep g (.slice yb) [.slice N0 xp.2.length O0] xp.2) (hG0:SomeInt g 0) (K:Bool→Prop)
  (hF:mpaF N xd xn xp K):CallsH prog 42 #[.agg (aD xd m0 n0),iv xn,.agg #[.slice H0 xp.1.length M0,.slice N0 xp.2.length O0]] g [] (fun g' H' v=>∃ (r0:Bool),v=.bool r0∧H'=[]∧K r0):=by
 refine CallsH.en 56 func42 rfl fun w0=>?_
 refine Ok.sr (Ok.o (OpOk.bx (aD xd m0 n0) fun bs3=>?_))
 refine Ok.o (OpOk.bx #[.slice H0 xp.1.length M0,.slice N0 xp.2.length O0] fun bs5=>?_)
 refine Ok.B 1 [(1,iv xn),(3,pv bs3 0),(5,pv bs5 0)] kr (Ok.nt (Ok.sr (Ok.b 1 [3,5] [(12,iv xn)] ?_)))
 have hL3:RepL g (.int .i64) ([iv xn]:List Value) ([xn]:List Int):=(RepL.consN (c:=[iv xn]) rfl rfl)
 refine Ok.o (OpOk.lit (E:=3) (.int .i64) ([xn]:List Int) ([iv xn]:List Value) kr kr rfl kr hL3 rfl fun b3=>?_)
 refine Ok.b 1 [3,5] [(7,.slice (some ⟨b3,0,none⟩) ([xn]:List Int).length 1)] ?_
 refine Ok.nt (Ok.sr (Ok.rn 4 [.e 1] [3,5,7] [(17,iv (w6 ((xp.1.length:Int) - 1)))] ?_))
 refine Ok.o (OpOk.a (z:=iv 0) (cs:=#[iv 0]) kr kr rfl fun bs8=>?_)
 refine Ok.o (OpOk.s1 0 (iv (w6 ((xp.1.length:Int) - 1))) rfl rfl rfl ?_)
 refine Ok.nt (Ok.block ?_)
 obtain ⟨k,hF⟩:=hF
 refine Ok.L (fun k a W=>∃ gl8:Ghost,Gext w0 g gl8∧∃ (J0:Nat) (z0:Int) (f0:Option Addr) (g0:Nat) (q0:List Int) (F0:List Value),RepL gl8 (.int .i64) F0 q0∧StA 56 [(3,pv bs3 0),(5,pv bs5 0),(7,.slice f0 q0.length g0),(8,pv J0 0)] a∧StW w0 [.blk J0 (.cells #[iv z0] 3),.own (.slice f0 q0.length g0) 3 1 q0.length F0,.blk bs5 (.cells #[.slice H0 xp.1.length M0,.slice N0 xp.2.length O0] 28),.blk bs3 (.cells (aD xd m0 n0) 24)] gl8 W∧mpal8 N xd xp K k z0 q0) k ?_ ?_
 ·
  exact fun _ _ u v=>⟨g,Gext.r w0 g,bs8,w6 ((xp.1.length:Int) - 1),(some ⟨b3,0,none⟩),1,([xn]:List Int),([iv xn]:List Value),hL3,fA u v hF⟩
 clear hF
 rintro (_ | k8) _ _ ⟨gl8,U2,J0,z0,f0,g0,q0,F0,B0,q⟩
 exact (q.2.2:False).elim
 refine jn (fun hF=>?_) _ _ q
 replace V0:=V0.mono U2.1
 replace U0:=U0.mono U2.1
 replace b0:=b0.mono U2.1
 replace hG0:=hG0.mono U2.1
 refine Ok.q (Ok.block (Ok.sr (Ok.b 2 [3,5,8] [(20,.slice f0 q0.length g0),(21,.func (.func 68) #[] #[pv bs3 0,pv bs5 0,pv J0 0])] ?_)))
 refine Ok.o (OpOk.cut (fun a W=>∃ z2:Ghost,Gext w0 gl8 z2∧∃ (o0:Option Addr) (t0:Nat) (k0:List Int) (Y0:List Value),RepL z2 (.int .i64) Y0 k0∧StA 56 [(3,pv bs3 0),(5,pv bs5 0),(8,pv J0 0),(22,.slice o0 k0.length t0)] a∧StW w0 [.blk J0 (.cells #[iv z0] 3),.own (.slice o0 k0.length t0) 3 1 k0.length Y0,.blk bs5 (.cells #[.slice H0 xp.1.length M0,.slice N0 xp.2.length O0] 28),.blk bs3 (.cells (aD xd m0 n0) 24)] z2 W∧mpaji66 xd xp K z0 (mpal8 N xd xp K k8) k0) ?_ ?_)
 ·
  refine OpOk.i (args:=#[.slice f0 q0.length g0,.func (.func 68) #[] #[pv bs3 0,pv bs5 0,pv J0 0]]) 42 [(0,.slice f0 q0.length g0),(1,.func (.func 68) #[] #[pv bs3 0,pv bs5 0,pv J0 0])] enr func67 rfl rfl rfl rfl (Ok.sr (Ok.B 1 [(0,.slice f0 q0.length g0),(1,.func (.func 68) #[] #[pv bs3 0,pv bs5 0,pv J0 0])] kr (Ok.nt (Ok.sr (Ok.b 2 [0,1] [(8,.slice f0 q0.length g0),(9,.func (.func 68) #[] #[pv bs3 0,pv bs5 0,pv J0 0])] ?_)))))
  refine Ok.o (OpOk.cut (fun a W=>∃ y2:Ghost,Gext w0 gl8 y2∧∃ (j1:Int),StA 42 [(0,.slice f0 q0.length g0),(1,.func (.func 68) #[] #[pv bs3 0,pv bs5 0,pv J0 0]),(10,iv j1)] a∧StW w0 [.blk J0 (.cells #[iv z0] 3),.own (.slice f0 q0.length g0) 3 1 q0.length F0,.blk bs5 (.cells #[.slice H0 xp.1.length M0,.slice N0 xp.2.length O0] 28),.blk bs3 (.cells (aD xd m0 n0) 24)] y2 W∧mpaji74 N xd xp K z0 q0 (mpal8 N xd xp K k8) j1) ?_ ?_)
  ·
   refine OpOk.i (args:=#[.slice f0 q0.length g0,.func (.func 68) #[] #[pv bs3 0,pv bs5 0,pv J0 0]]) 19 [(0,.slice f0 q0.length g0),(1,.func (.func 68) #[] #[pv bs3 0,pv bs5 0,pv J0 0])] enr func110 rfl rfl rfl rfl (Ok.sr (Ok.B 1 [(0,.slice f0 q0.length g0),(1,.func (.func 68) #[] #[pv bs3 0,pv bs5 0,pv J0 0])] kr (Ok.nt (Ok.q (Ok.sr (Ok.b 3 [0,1] [(7,iv (q0.length:Int)),(8,iv 0)] ?_))))))
   refine Ok.nt (Ok.block ?_)
   obtain ⟨k,hF⟩:=hF
   refine Ok.L (fun k a W=>∃ z1:Ghost,Gext w0 gl8 z1∧∃ (x0:Int),StA 19 [(0,.slice f0 q0.length g0),(1,.func (.func 68) #[] #[pv bs3 0,pv bs5 0,pv J0 0]),(7,iv (q0.length:Int)),(8,iv x0)] a∧StW w0 [.blk J0 (.cells #[iv z0] 3),.own (.slice f0 q0.length g0) 3 1 q0.length F0,.blk bs5 (.cells #[.slice H0 xp.1.length M0,.slice N0 xp.2.length O0] 28),.blk bs3 (.cells (aD xd m0 n0) 24)] z1 W∧mpal7x5 N xd xp K z0 q0 (mpal8 N xd xp K k8) k x0) k ?_ ?_
   ·
    exact fun _ _ u v=>⟨gl8,Gext.r w0 gl8,0,fA u v hF⟩
   clear hF
   rintro (_ | k7x5) _ _ ⟨z1,u1,x0,q⟩
   exact (q.2.2:False).elim
   refine jn (fun hF=>?_) _ _ q
   replace B0:=B0.mono u1.1
   replace V0:=V0.mono u1.1
   replace U0:=U0.mono u1.1
   replace b0:=b0.mono u1.1
   replace hG0:=hG0.mono u1.1
   refine Ok.sr (Ok.b 1 [0,1,7,8] [(9,.bool (decide (x0<(q0.length:Int))))] ?_)
   refine Ok.nt (Ok.q (Ok.cw hF (fun hc44 hF=>?_) (fun hc44 hF=>?_)))
   ·refine Ok.k (Ok.t (Ok.q (Ok.block (Ok.sr (Ok.b 2 [0,1,7,8] [(5,iv x0)] ?_)))))
    refine Ok.nt (Ok.sr (Ok.b 3 [0,1,5,7,8] [(11,.func (.func 68) #[] #[pv bs3 0,pv bs5 0,pv J0 0]),(12,.slice f0 q0.length g0),(13,iv x0)] ?_))
    obtain ⟨h046,h146,hF⟩:=hF
    have a3:=get_of (l:=q0) default h146
    generalize i3:(q0.getD x0.toNat default)=e46 at a3 hF ⊢
    refine Ok.o (OpOk.indexOwn (e:=.int .i64) 1 rfl B0 rfl rfl underlying46 kr kr h046 a3 rfl fun cs45 _ hr45 d3=>?_)
    obtain rfl:=hr45
    replace d3:∀ j v,([iv e46]:List Value)[j]? = some v→F0[x0.toNat * 1+j]? = some v:=d3
    refine Ok.o (OpOk.s (v:=iv e46) (Yields.loadOwn 1 0 rfl d3 rfl underlying3 rfl kr) rfl rfl (Ok.o (OpOk.i (args:=#[iv e46,pv bs3 0,pv bs5 0,pv J0 0]) 19 [(0,iv e46),(1,pv bs3 0),(2,pv bs5 0),(3,pv J0 0)] enr func68 rfl rfl rfl rfl (Ok.sr (Ok.o (OpOk.box (v:=iv e46) (cs:=#[iv e46]) rfl kr rfl fun a0=>?_))))))
    refine Ok.B 1 [(1,pv bs3 0),(2,pv bs5 0),(3,pv J0 0),(4,pv a0 0)] kr (Ok.nt (Ok.cut (fun a W=>∃ o1:Ghost,Gext w0 z1 o1∧∃ (P0:Bool),StA 19 [(5,.bool P0)] a∧StW w0 [.blk J0 (.cells #[iv z0] 3),.own (.slice f0 q0.length g0) 3 1 q0.length F0,.blk bs5 (.cells #[.slice H0 xp.1.length M0,.slice N0 xp.2.length O0] 28),.blk bs3 (.cells (aD xd m0 n0) 24)] o1 W∧mpaj3i22i10i16 N xd xp K P0 x0 z0 q0 (mpal8 N xd xp K k8) (mpal7x5 N xd xp K z0 q0 (mpal8 N xd xp K k8) k7x5)) ?_ ?_))
    ·
     refine Ok.r ?_
     obtain ⟨hp49,hF⟩:=hF
     refine Ok.rn 5 [.e 4,.e 0,.k (mel_c xd e46 b0 hp49)] [1,2,3,4] [(10,.bool (!(melS xd e46)))] ?_
     refine Ok.bw 10 hF (fun hc50 hF=>?_) (fun hc50 hF=>?_)
     ·refine Ok.B 9 [(5,.bool true)] kr (Ok.j (Ok.t ?_))
      exact fun _ _ u v=>⟨z1,Gext.r w0 z1,true,fA u v hF⟩
     refine Ok.b 1 [1,3,4] [(10,.bool false),(11,pv bs5 0)] ?_
     refine Ok.oy (OpOk.s (v:=.slice H0 xp.1.length M0) (Yields.l 3 rfl rfl underlying25 rfl kr) rfl rfl (Ok.oy (OpOk.s (v:=iv z0) (Yields.l 1 rfl rfl underlying3 rfl kr) rfl rfl ?_)))
     obtain ⟨h052,h152,hF⟩:=hF
     have Z3:=get_of (l:=xp.1) default h152
     generalize hg52:(xp.1.getD z0.toNat default)=e52 at Z3 hF ⊢
     refine Ok.oy (OpOk.indexRo (e:=.slice yS) rfl rfl underlying25 kr V0 h052 Z3 rfl fun q51 o51 cs51 _ hat51 hr51=>?_)
     obtain ⟨J1,W1,rfl,o2⟩:=oS hr51
     refine Ok.rn 2 [.a 0 hat51] [10] [(15,.slice J1 e52.length W1),(16,.func (.func 71) #[] #[pv bs3 0,pv a0 0])] ?_
     refine Ok.oy (OpOk.i (args:=#[.slice J1 e52.length W1,.func (.func 71) #[] #[pv bs3 0,pv a0 0]]) 9 [(0,.slice J1 e52.length W1),(1,.func (.func 71) #[] #[pv bs3 0,pv a0 0])] enr func70 rfl rfl rfl rfl (Ok.sr (Ok.B 1 [(0,.slice J1 e52.length W1),(1,.func (.func 71) #[] #[pv bs3 0,pv a0 0])] kr (Ok.nt (Ok.sr (Ok.B 2 [(5,.slice J1 e52.length W1),(6,.func (.func 71) #[] #[pv bs3 0,pv a0 0])] kr (Ok.o (OpOk.cut (fun a W=>∃ K2:Ghost,Gext w0 z1 K2∧∃ (Y1:Int),StA 9 [(7,iv Y1)] a∧StW w0 [.blk J0 (.cells #[iv z0] 3),.own (.slice f0 q0.length g0) 3 1 q0.length F0,.blk bs5 (.cells #[.slice H0 xp.1.length M0,.slice N0 xp.2.length O0] 28),.blk bs3 (.cells (aD xd m0 n0) 24)] K2 W∧mpaji98 N xd xp K x0 z0 q0 (mpal8 N xd xp K k8) (mpal7x5 N xd xp K z0 q0 (mpal8 N xd xp K k8) k7x5) Y1) ?_ ?_))))))))
     ·
      refine OpOk.i (args:=#[.slice J1 e52.length W1,.func (.func 71) #[] #[pv bs3 0,pv a0 0]]) 19 [(0,.slice J1 e52.length W1),(1,.func (.func 71) #[] #[pv bs3 0,pv a0 0])] enr func111 rfl rfl rfl rfl (Ok.sr (Ok.B 1 [(0,.slice J1 e52.length W1),(1,.func (.func 71) #[] #[pv bs3 0,pv a0 0])] kr (Ok.nt (Ok.q (Ok.sr (Ok.b 3 [0,1] [(7,iv (e52.length:Int)),(8,iv 0)] ?_))))))
      refine Ok.nt (Ok.block ?_)
      obtain ⟨k,hF⟩:=hF
      refine Ok.L (fun k a W=>∃ W0:Ghost,Gext w0 z1 W0∧∃ (y0:Int),StA 19 [(0,.slice J1 e52.length W1),(1,.func (.func 71) #[] #[pv bs3 0,pv a0 0]),(7,iv (e52.length:Int)),(8,iv y0)] a∧StW w0 [.blk a0 (.cells #[iv e46] 3),.blk J0 (.cells #[iv z0] 3),.own (.slice f0 q0.length g0) 3 1 q0.length F0,.blk bs5 (.cells #[.slice H0 xp.1.length M0,.slice N0 xp.2.length O0] 28),.blk bs3 (.cells (aD xd m0 n0) 24)] W0 W∧mpal7x6 N xd xp K x0 z0 q0 (mpal8 N xd xp K k8) e46 (mpal7x5 N xd xp K z0 q0 (mpal8 N xd xp K k8) k7x5) e52 k y0) k ?_ ?_
      ·
       exact fun _ _ u v=>⟨z1,Gext.r w0 z1,0,fA u v hF⟩
      clear hF
      rintro (_ | k7x6) _ _ ⟨W0,Z0,y0,q⟩
      exact (q.2.2:False).elim
      refine jn (fun hF=>?_) _ _ q
      replace o2:=o2.mono Z0.1
      replace B0:=B0.mono Z0.1
      replace V0:=V0.mono Z0.1
      replace U0:=U0.mono Z0.1
      replace b0:=b0.mono Z0.1
      replace hG0:=hG0.mono Z0.1
      refine Ok.sr (Ok.b 1 [0,1,7,8] [(9,.bool (decide (y0<(e52.length:Int))))] ?_)
      refine Ok.nt (Ok.q (Ok.cw hF (fun hc53 hF=>?_) (fun hc53 hF=>?_)))
      ·refine Ok.k (Ok.t (Ok.q (Ok.block (Ok.sr (Ok.b 2 [0,1,7,8] [(5,iv y0)] ?_)))))
       refine Ok.nt (Ok.sr (Ok.b 3 [0,1,5,7,8] [(11,.func (.func 71) #[] #[pv bs3 0,pv a0 0]),(12,.slice J1 e52.length W1),(13,iv y0)] ?_))
       obtain ⟨h055,h155,hF⟩:=hF
       have V3:=get_of (l:=e52) default h155
       generalize Q3:(e52.getD y0.toNat default)=e55 at V3 hF ⊢
       refine Ok.o (OpOk.indexRo (e:=yS) rfl rfl underlying54 kr o2 h055 V3 rfl fun q54 o54 cs54 _ E2 hr54=>?_)
       have p2:=hr54
       replace p2:=Rep.tst.1 p2
       obtain ⟨_,_,rfl,⟨_,_,rfl,rfl,⟨_,_,rfl,rfl,⟨_,_,rfl,rfl,⟨_,_,rfl,rfl,⟨_,_,rfl,rfl,rfl⟩⟩⟩⟩⟩,⟨E1,F1,rfl,hm54_6,hr54_6⟩⟩:=p2
       have hR54_6:Rep W0 (.slice yP) [.slice E1 e55.kids.length F1] e55.kids:=⟨E1,F1,rfl,hm54_6,hr54_6⟩
       replace E2:At W0 q54 o54 (vL e55.lab E1 e55.kids.length F1):=E2
       refine Ok.o (OpOk.s (v:=.agg (aL e55.lab E1 e55.kids.length F1)) (Yields.loadAggRo 0 7 (aL e55.lab E1 e55.kids.length F1) E2 kr underlying60 rfl kr kr kr) rfl rfl (Ok.o (OpOk.i (args:=#[.agg (aL e55.lab E1 e55.kids.length F1),pv bs3 0,pv a0 0]) 10 [(0,.agg (aL e55.lab E1 e55.kids.length F1)),(1,pv bs3 0),(2,pv a0 0)] enr func71 rfl rfl rfl rfl (Ok.sr (Ok.o (OpOk.bx (aL e55.lab E1 e55.kids.length F1) fun bs3i22i10i16i17i7i16=>?_))))))
       refine Ok.B 1 [(1,pv bs3 0),(2,pv a0 0),(3,pv bs3i22i10i16i17i7i16 0)] kr (Ok.nt (Ok.q (Ok.r ?_)))
       obtain ⟨hp57,hF⟩:=hF
       refine Ok.rn 6 [.e 5,.e 1,.e 0,.k (ih_mft _ xd e46 e55 b0 hR54_6 hG0 hp57)] [] [(4,.bool (!(mftS xd e46 e55)))] ?_
       refine Ok.nt (Ok.ret (Ok.back (vs:=[.bool (!(mftS xd e46 e55))]) (.inl rfl) rfl (.cons (.tmp rfl) .nil) rfl (Ok.nt (Ok.cn hF rfl (fun f3=>?_) (fun f3=>?_)))))
       ·replace hF:=hF.1 f3
        refine Ok.sr (Ok.B 2 [(4,iv y0)] kr (Ok.nt (Ok.ret (Ok.kr (Ok.tr (Ok.tr (Ok.kr (Ok.tr (Ok.back (vs:=[iv y0]) (.inl rfl) rfl (.cons (.tmp rfl) .nil) rfl ?_)))))))))
        subst Q3
        exact fun _ _ u v=>⟨W0,Z0,y0,fA u v hF⟩
       replace hF:=hF.2 f3
       refine Ok.k (Ok.kn (Ok.t (Ok.r (Ok.B 2 [(0,.slice J1 e52.length W1),(1,.func (.func 71) #[] #[pv bs3 0,pv a0 0]),(7,iv (e52.length:Int)),(8,iv (w6 (y0+1)))] kr (Ok.j (Ok.t ?_))))))
       subst Q3
       exact fun _ _ u v=>⟨k7x6,nl,W0,Z0,w6 (y0+1),fA u v hF⟩
      refine Ok.x (Ok.thenE (Ok.thenE (Ok.blockHit (Ok.t (Ok.sr (Ok.B 1 [(4,iv (-1))] kr (Ok.nt (Ok.ret (Ok.back (vs:=[iv (-1)]) (.inl rfl) rfl (.cons (.tmp rfl) .nil) rfl ?_)))))))))
      exact fun _ _ u v=>⟨W0,Z0,-1,fA u v hF⟩
     clear hF
     rintro _ _ ⟨K2,N1,Y1,q⟩
     refine jn (fun hF=>?_) _ _ q
     replace B0:=B0.mono N1.1
     replace V0:=V0.mono N1.1
     replace U0:=U0.mono N1.1
     replace b0:=b0.mono N1.1
     replace hG0:=hG0.mono N1.1
     refine Ok.B 2 [(4,.bool (decide (Y1≥0)))] kr (Ok.nt (Ok.ret (Ok.back (vs:=[.bool (decide (Y1≥0))]) (.inl rfl) rfl (.cons (.tmp rfl) .nil) rfl (Ok.B 2 [(5,.bool (decide (Y1≥0)))] kr (Ok.j (Ok.t ?_))))))
     subst hg52
     exact fun _ _ u v=>⟨K2,N1,decide (Y1≥0),fA u v hF⟩
    clear hF
    rintro _ _ ⟨o1,I0,P0,q⟩
    refine jn (fun hF=>?_) _ _ q
    replace B0:=B0.mono I0.1
    replace V0:=V0.mono I0.1
    replace U0:=U0.mono I0.1
    replace b0:=b0.mono I0.1
    replace hG0:=hG0.mono I0.1
    refine Ok.ret (Ok.back (vs:=[.bool P0]) (.inl rfl) rfl (.cons (.tmp rfl) .nil) rfl (Ok.nt (Ok.cn hF rfl (fun g3=>?_) (fun g3=>?_))))
    ·replace hF:=hF.1 g3
     refine Ok.sr (Ok.B 2 [(4,iv x0)] kr (Ok.nt (Ok.ret (Ok.kr (Ok.tr (Ok.tr (Ok.kr (Ok.tr (Ok.back (vs:=[iv x0]) (.inl rfl) rfl (.cons (.tmp rfl) .nil) rfl ?_)))))))))
     subst i3
     exact fun _ _ u v=>⟨o1,u1.trans I0,x0,fA u v hF⟩
    replace hF:=hF.2 g3
    refine Ok.k (Ok.kn (Ok.t (Ok.r (Ok.B 2 [(0,.slice f0 q0.length g0),(1,.func (.func 68) #[] #[pv bs3 0,pv bs5 0,pv J0 0]),(7,iv (q0.length:Int)),(8,iv (w6 (x0+1)))] kr (Ok.j (Ok.t ?_))))))
    subst i3
    exact fun _ _ u v=>⟨k7x5,nl,o1,u1.trans I0,w6 (x0+1),fA u v hF⟩
   refine Ok.x (Ok.thenE (Ok.thenE (Ok.blockHit (Ok.t (Ok.sr (Ok.B 1 [(4,iv (-1))] kr (Ok.nt (Ok.ret (Ok.back (vs:=[iv (-1)]) (.inl rfl) rfl (.cons (.tmp rfl) .nil) rfl ?_)))))))))
   exact fun _ _ u v=>⟨z1,u1,-1,fA u v hF⟩
  clear hF
  rintro _ _ ⟨y2,D1,j1,q⟩
  refine jn (fun hF=>?_) _ _ q
  replace B0:=B0.mono D1.1
  replace V0:=V0.mono D1.1
  replace U0:=U0.mono D1.1
  replace b0:=b0.mono D1.1
  replace hG0:=hG0.mono D1.1
  refine Ok.b 1 [0,1] [(5,iv j1)] ?_
  refine Ok.nt (Ok.q (Ok.sr (Ok.b 2 [0,1,5] [(12,.bool (j1==(-1)))] ?_)))
  refine Ok.nt (Ok.cw hF (fun s3 hF=>?_) (fun s3 hF=>?_))
  ·refine Ok.sr (Ok.B 2 [(4,.slice f0 q0.length g0)] kr (Ok.nt (Ok.ret (Ok.tr (Ok.back (vs:=[.slice f0 q0.length g0]) (.inl rfl) rfl (.cons (.tmp rfl) .nil) rfl ?_)))))
   exact fun _ _ u v=>⟨y2,D1,f0,g0,q0,F0,B0,fA u v hF⟩
  refine Ok.k (Ok.t (Ok.q (Ok.sr (Ok.b 3 [0,1,5] [(6,iv (w6 (j1+1)))] ?_))))
  refine Ok.nt (Ok.block ?_)
  obtain ⟨k,hF⟩:=hF
  refine Ok.L (fun k a W=>∃ x1:Ghost,Gext w0 y2 x1∧∃ (u0:Int) (s0:Int) (c0:Option Addr) (d0:Nat) (v0:List Int) (X0:List Value),RepL x1 (.int .i64) X0 v0∧StA 42 [(0,.slice c0 v0.length d0),(1,.func (.func 68) #[] #[pv bs3 0,pv bs5 0,pv J0 0]),(5,iv u0),(6,iv s0)] a∧StW w0 [.blk J0 (.cells #[iv z0] 3),.own (.slice c0 v0.length d0) 3 1 v0.length X0,.blk bs5 (.cells #[.slice H0 xp.1.length M0,.slice N0 xp.2.length O0] 28),.blk bs3 (.cells (aD xd m0 n0) 24)] x1 W∧mpal17x3 N xd xp K z0 (mpal8 N xd xp K k8) k u0 s0 v0) k ?_ ?_
  ·
   exact fun _ _ u v=>⟨y2,Gext.r w0 y2,j1,w6 (j1+1),f0,g0,q0,F0,B0,fA u v hF⟩
  clear hF
  rintro (_ | k17x3) _ _ ⟨x1,Z1,u0,s0,c0,d0,v0,X0,K0,q⟩
  exact (q.2.2:False).elim
  refine jn (fun hF=>?_) _ _ q
  replace V0:=V0.mono Z1.1
  replace U0:=U0.mono Z1.1
  replace b0:=b0.mono Z1.1
  replace hG0:=hG0.mono Z1.1
  refine Ok.q (Ok.sr (Ok.b 4 [0,1,5,6] [(19,.bool (decide (s0<(v0.length:Int))))] ?_))
  refine Ok.nt (Ok.cw hF (fun hc23 hF=>?_) (fun hc23 hF=>?_))
  ·refine Ok.k (Ok.t (Ok.cut (fun a W=>∃ G1:Ghost,Gext w0 x1 G1∧∃ (a1:Int) (r1:Option Addr) (t1:Nat) (D0:List Int) (m1:List Value),RepL G1 (.int .i64) m1 D0∧StA 42 [(0,.slice r1 D0.length t1),(1,.func (.func 68) #[] #[pv bs3 0,pv bs5 0,pv J0 0]),(5,iv a1),(6,iv s0)] a∧StW w0 [.blk J0 (.cells #[iv z0] 3),.own (.slice r1 D0.length t1) 3 1 D0.length m1,.blk bs5 (.cells #[.slice H0 xp.1.length M0,.slice N0 xp.2.length O0] 28),.blk bs3 (.cells (aD xd m0 n0) 24)] G1 W∧mpaj24i22 a1 D0 s0 (mpal17x3 N xd xp K z0 (mpal8 N xd xp K k8) k17x3)) ?_ ?_))
   ·
    refine Ok.block (Ok.sr (Ok.b 2 [0,1,5,6] [(22,.slice c0 v0.length d0),(23,iv s0)] ?_))
    obtain ⟨h025,h125,hF⟩:=hF
    have K3:=get_of (l:=v0) default h125
    generalize Y3:(v0.getD s0.toNat default)=e25 at K3 hF ⊢
    refine Ok.o (OpOk.indexOwn (e:=.int .i64) 1 rfl K0 rfl rfl underlying46 kr kr h025 K3 rfl fun cs24 _ hr24 D2=>?_)
    obtain rfl:=hr24
    replace D2:∀ j v,([iv e25]:List Value)[j]? = some v→X0[s0.toNat * 1+j]? = some v:=D2
    refine Ok.o (OpOk.s (v:=iv e25) (Yields.loadOwn 1 0 rfl D2 rfl underlying3 rfl kr) rfl rfl (Ok.b 1 [0,1,5,6] [(7,iv e25)] ?_))
    refine Ok.nt (Ok.sr (Ok.b 2 [0,1,5,6,7] [(26,.func (.func 68) #[] #[pv bs3 0,pv bs5 0,pv J0 0]),(27,iv e25)] ?_))
    refine Ok.o (OpOk.i (args:=#[iv e25,pv bs3 0,pv bs5 0,pv J0 0]) 19 [(0,iv e25),(1,pv bs3 0),(2,pv bs5 0),(3,pv J0 0)] enr func68 rfl rfl rfl rfl (Ok.sr (Ok.o (OpOk.box (v:=iv e25) (cs:=#[iv e25]) rfl kr rfl fun C0=>?_))))
    refine Ok.B 1 [(1,pv bs3 0),(2,pv bs5 0),(3,pv J0 0),(4,pv C0 0)] kr (Ok.nt (Ok.cut (fun a W=>∃ V1:Ghost,Gext w0 x1 V1∧∃ (v1:Bool),StA 19 [(5,.bool v1)] a∧StW w0 [.blk J0 (.cells #[iv z0] 3),.own (.slice c0 v0.length d0) 3 1 v0.length X0,.blk bs5 (.cells #[.slice H0 xp.1.length M0,.slice N0 xp.2.length O0] 28),.blk bs3 (.cells (aD xd m0 n0) 24)] V1 W∧mpaj3i22i28 v1 u0 s0 v0 (mpal17x3 N xd xp K z0 (mpal8 N xd xp K k8) k17x3)) ?_ ?_))
    ·
     refine Ok.r ?_
     obtain ⟨hp31,hF⟩:=hF
     refine Ok.rn 5 [.e 4,.e 0,.k (mel_c xd e25 b0 hp31)] [1,2,3,4] [(10,.bool (!(melS xd e25)))] ?_
     refine Ok.bw 10 hF (fun hc32 hF=>?_) (fun hc32 hF=>?_)
     ·refine Ok.B 9 [(5,.bool true)] kr (Ok.j (Ok.t ?_))
      exact fun _ _ u v=>⟨x1,Gext.r w0 x1,true,fA u v hF⟩
     refine Ok.b 1 [1,3,4] [(10,.bool false),(11,pv bs5 0)] ?_
     refine Ok.oy (OpOk.s (v:=.slice H0 xp.1.length M0) (Yields.l 3 rfl rfl underlying25 rfl kr) rfl rfl (Ok.oy (OpOk.s (v:=iv z0) (Yields.l 1 rfl rfl underlying3 rfl kr) rfl rfl ?_)))
     obtain ⟨h034,h134,hF⟩:=hF
     have U3:=get_of (l:=xp.1) default h134
     generalize hg34:(xp.1.getD z0.toNat default)=e34 at U3 hF ⊢
     refine Ok.oy (OpOk.indexRo (e:=.slice yS) rfl rfl underlying25 kr V0 h034 U3 rfl fun q33 o33 cs33 _ hat33 hr33=>?_)
     obtain ⟨X1,S1,rfl,r2⟩:=oS hr33
     refine Ok.rn 2 [.a 0 hat33] [10] [(15,.slice X1 e34.length S1),(16,.func (.func 71) #[] #[pv bs3 0,pv C0 0])] ?_
     refine Ok.oy (OpOk.i (args:=#[.slice X1 e34.length S1,.func (.func 71) #[] #[pv bs3 0,pv C0 0]]) 9 [(0,.slice X1 e34.length S1),(1,.func (.func 71) #[] #[pv bs3 0,pv C0 0])] enr func70 rfl rfl rfl rfl (Ok.sr (Ok.B 1 [(0,.slice X1 e34.length S1),(1,.func (.func 71) #[] #[pv bs3 0,pv C0 0])] kr (Ok.nt (Ok.sr (Ok.B 2 [(5,.slice X1 e34.length S1),(6,.func (.func 71) #[] #[pv bs3 0,pv C0 0])] kr (Ok.o (OpOk.cut (fun a W=>∃ Y2:Ghost,Gext w0 x1 Y2∧∃ (K1:Int),StA 9 [(7,iv K1)] a∧StW w0 [.blk J0 (.cells #[iv z0] 3),.own (.slice c0 v0.length d0) 3 1 v0.length X0,.blk bs5 (.cells #[.slice H0 xp.1.length M0,.slice N0 xp.2.length O0] 28),.blk bs3 (.cells (aD xd m0 n0) 24)] Y2 W∧mpaji86 u0 s0 v0 (mpal17x3 N xd xp K z0 (mpal8 N xd xp K k8) k17x3) K1) ?_ ?_))))))))
     ·
      refine OpOk.i (args:=#[.slice X1 e34.length S1,.func (.func 71) #[] #[pv bs3 0,pv C0 0]]) 19 [(0,.slice X1 e34.length S1),(1,.func (.func 71) #[] #[pv bs3 0,pv C0 0])] enr func111 rfl rfl rfl rfl (Ok.sr (Ok.B 1 [(0,.slice X1 e34.length S1),(1,.func (.func 71) #[] #[pv bs3 0,pv C0 0])] kr (Ok.nt (Ok.q (Ok.sr (Ok.b 3 [0,1] [(7,iv (e34.length:Int)),(8,iv 0)] ?_))))))
      refine Ok.nt (Ok.block ?_)
      obtain ⟨k,hF⟩:=hF
      refine Ok.L (fun k a W=>∃ G0:Ghost,Gext w0 x1 G0∧∃ (j0:Int),StA 19 [(0,.slice X1 e34.length S1),(1,.func (.func 71) #[] #[pv bs3 0,pv C0 0]),(7,iv (e34.length:Int)),(8,iv j0)] a∧StW w0 [.blk C0 (.cells #[iv e25] 3),.blk J0 (.cells #[iv z0] 3),.own (.slice c0 v0.length d0) 3 1 v0.length X0,.blk bs5 (.cells #[.slice H0 xp.1.length M0,.slice N0 xp.2.length O0] 28),.blk bs3 (.cells (aD xd m0 n0) 24)] G0 W∧mpal7x4 N xd u0 s0 v0 e25 (mpal17x3 N xd xp K z0 (mpal8 N xd xp K k8) k17x3) e34 k j0) k ?_ ?_
      ·
       exact fun _ _ u v=>⟨x1,Gext.r w0 x1,0,fA u v hF⟩
      clear hF
      rintro (_ | k7x4) _ _ ⟨G0,S0,j0,q⟩
      exact (q.2.2:False).elim
      refine jn (fun hF=>?_) _ _ q
      replace r2:=r2.mono S0.1
      replace K0:=K0.mono S0.1
      replace U0:=U0.mono S0.1
      replace b0:=b0.mono S0.1
      replace hG0:=hG0.mono S0.1
      refine Ok.sr (Ok.b 1 [0,1,7,8] [(9,.bool (decide (j0<(e34.length:Int))))] ?_)
      refine Ok.nt (Ok.q (Ok.cw hF (fun hc35 hF=>?_) (fun hc35 hF=>?_)))
      ·refine Ok.k (Ok.t (Ok.q (Ok.block (Ok.sr (Ok.b 2 [0,1,7,8] [(5,iv j0)] ?_)))))
       refine Ok.nt (Ok.sr (Ok.b 3 [0,1,5,7,8] [(11,.func (.func 71) #[] #[pv bs3 0,pv C0 0]),(12,.slice X1 e34.length S1),(13,iv j0)] ?_))
       obtain ⟨h037,h137,hF⟩:=hF
       have J3:=get_of (l:=e34) default h137
       generalize W3:(e34.getD j0.toNat default)=e37 at J3 hF ⊢
       refine Ok.o (OpOk.indexRo (e:=yS) rfl rfl underlying54 kr r2 h037 J3 rfl fun q36 o36 cs36 _ F2 hr36=>?_)
       have t2:=hr36
       replace t2:=Rep.tst.1 t2
       obtain ⟨_,_,rfl,⟨_,_,rfl,rfl,⟨_,_,rfl,rfl,⟨_,_,rfl,rfl,⟨_,_,rfl,rfl,⟨_,_,rfl,rfl,rfl⟩⟩⟩⟩⟩,⟨H1,M1,rfl,hm36_6,hr36_6⟩⟩:=t2
       have hR36_6:Rep G0 (.slice yP) [.slice H1 e37.kids.length M1] e37.kids:=⟨H1,M1,rfl,hm36_6,hr36_6⟩
       replace F2:At G0 q36 o36 (vL e37.lab H1 e37.kids.length M1):=F2
       refine Ok.o (OpOk.s (v:=.agg (aL e37.lab H1 e37.kids.length M1)) (Yields.loadAggRo 0 7 (aL e37.lab H1 e37.kids.length M1) F2 kr underlying60 rfl kr kr kr) rfl rfl (Ok.o (OpOk.i (args:=#[.agg (aL e37.lab H1 e37.kids.length M1),pv bs3 0,pv C0 0]) 10 [(0,.agg (aL e37.lab H1 e37.kids.length M1)),(1,pv bs3 0),(2,pv C0 0)] enr func71 rfl rfl rfl rfl (Ok.sr (Ok.o (OpOk.bx (aL e37.lab H1 e37.kids.length M1) fun bs3i22i28i17i7i16=>?_))))))
       refine Ok.B 1 [(1,pv bs3 0),(2,pv C0 0),(3,pv bs3i22i28i17i7i16 0)] kr (Ok.nt (Ok.q (Ok.r ?_)))
       obtain ⟨hp39,hF⟩:=hF
       refine Ok.rn 6 [.e 5,.e 1,.e 0,.k (ih_mft _ xd e25 e37 b0 hR36_6 hG0 hp39)] [] [(4,.bool (!(mftS xd e25 e37)))] ?_
       refine Ok.nt (Ok.ret (Ok.back (vs:=[.bool (!(mftS xd e25 e37))]) (.inl rfl) rfl (.cons (.tmp rfl) .nil) rfl (Ok.nt (Ok.cn hF rfl (fun m3=>?_) (fun m3=>?_)))))
       ·replace hF:=hF.1 m3
        refine Ok.sr (Ok.B 2 [(4,iv j0)] kr (Ok.nt (Ok.ret (Ok.kr (Ok.tr (Ok.tr (Ok.kr (Ok.tr (Ok.back (vs:=[iv j0]) (.inl rfl) rfl (.cons (.tmp rfl) .nil) rfl ?_)))))))))
        subst W3
        exact fun _ _ u v=>⟨G0,S0,j0,fA u v hF⟩
       replace hF:=hF.2 m3
       refine Ok.k (Ok.kn (Ok.t (Ok.r (Ok.B 2 [(0,.slice X1 e34.length S1),(1,.func (.func 71) #[] #[pv bs3 0,pv C0 0]),(7,iv (e34.length:Int)),(8,iv (w6 (j0+1)))] kr (Ok.j (Ok.t ?_))))))
       subst W3
       exact fun _ _ u v=>⟨k7x4,nl,G0,S0,w6 (j0+1),fA u v hF⟩
      refine Ok.x (Ok.thenE (Ok.thenE (Ok.blockHit (Ok.t (Ok.sr (Ok.B 1 [(4,iv (-1))] kr (Ok.nt (Ok.ret (Ok.back (vs:=[iv (-1)]) (.inl rfl) rfl (.cons (.tmp rfl) .nil) rfl ?_)))))))))
      exact fun _ _ u v=>⟨G0,S0,-1,fA u v hF⟩
     clear hF
     rintro _ _ ⟨Y2,O1,K1,q⟩
     refine jn (fun hF=>?_) _ _ q
     replace K0:=K0.mono O1.1
     replace U0:=U0.mono O1.1
     replace b0:=b0.mono O1.1
     refine Ok.B 2 [(4,.bool (decide (K1≥0)))] kr (Ok.nt (Ok.ret (Ok.back (vs:=[.bool (decide (K1≥0))]) (.inl rfl) rfl (.cons (.tmp rfl) .nil) rfl (Ok.B 2 [(5,.bool (decide (K1≥0)))] kr (Ok.j (Ok.t ?_))))))
     subst hg34
     exact fun _ _ u v=>⟨Y2,O1,decide (K1≥0),fA u v hF⟩
    clear hF
    rintro _ _ ⟨V1,n1,v1,q⟩
    refine jn (fun hF=>?_) _ _ q
    replace K0:=K0.mono n1.1
    replace U0:=U0.mono n1.1
    replace b0:=b0.mono n1.1
    refine Ok.ret (Ok.back (vs:=[.bool v1]) (.inl rfl) rfl (.cons (.tmp rfl) .nil) rfl (Ok.B 1 [(0,.slice c0 v0.length d0),(1,.func (.func 68) #[] #[pv bs3 0,pv bs5 0,pv J0 0]),(5,iv u0),(6,iv s0),(7,iv e25),(29,.bool (!v1))] kr (Ok.nt (Ok.cn hF rfl (fun n3=>?_) (fun n3=>?_)))))
    ·replace hF:=hF.1 n3
     refine Ok.sr (Ok.b 3 [0,1,5,6] [(30,.slice c0 v0.length d0),(31,iv u0),(32,iv e25)] ?_)
     obtain ⟨h029,h129,hF⟩:=hF
     have X3:=get_of (l:=v0) default h129
     generalize hg29:(v0.getD u0.toNat default)=e29 at X3 hF ⊢
     refine Ok.o (OpOk.indexOwn (e:=.int .i64) 1 rfl K0 rfl rfl underlying46 kr kr h029 X3 rfl fun cs28 _ hr28 p3=>?_)
     obtain rfl:=hr28
     replace p3:∀ j v,([iv e29]:List Value)[j]? = some v→X0[u0.toNat * 1+j]? = some v:=p3
     refine Ok.o (OpOk.storeOwn (e:=.int .i64) (q:=u0.toNat) (cells:=[iv e29]) (vs:=[iv e25]) (el':=e25) 1 0 1 rfl K0 p3 kr rfl rfl rfl kr kr kr kr kr (show Rep _ _ [iv e25] _ from rfl) fun xs30 hL30=>?_)
     rw [show v0.length=(v0.set u0.toNat e25).length from (List.length_set ..).symm]
     refine Ok.nt (Ok.r (Ok.b 3 [1,6] [(0,.slice c0 (v0.set u0.toNat e25).length d0),(5,iv (w6 (u0+1)))] ?_))
     refine Ok.j (Ok.kn (Ok.t ?_))
     subst hg29
     subst Y3
     exact fun _ _ u v=>⟨V1,n1,w6 (u0+1),c0,d0,(v0.set u0.toNat (v0.getD s0.toNat default)),xs30,hL30,fA u v hF⟩
    replace hF:=hF.2 n3
    refine Ok.k (Ok.kn (Ok.t ?_))
    subst Y3
    exact fun _ _ u v=>⟨V1,n1,u0,c0,d0,v0,X0,K0,fA u v hF⟩
   clear hF
   rintro _ _ ⟨G1,B1,a1,r1,t1,D0,m1,hLyown3_0j24i22,q⟩
   refine jn (fun hF=>?_) _ _ q
   replace U0:=U0.mono B1.1
   replace b0:=b0.mono B1.1
   refine Ok.r (Ok.b 3 [0,1,5] [(6,iv (w6 (s0+1)))] ?_)
   refine Ok.j (Ok.t ?_)
   exact fun _ _ u v=>⟨k17x3,nl,G1,Z1.trans B1,a1,w6 (s0+1),r1,t1,D0,m1,hLyown3_0j24i22,fA u v hF⟩
  refine Ok.x (Ok.thenE (Ok.thenE (Ok.blockHit (Ok.t (Ok.sr (Ok.b 2 [0,5] [(36,.slice c0 v0.length d0),(37,iv u0)] ?_))))))
  refine Ok.capOwn 1 rfl fun hcc41 hcm41=>?_
  obtain ⟨h041,h141,h241,hF⟩:=hF
  refine Ok.o (OpOk.s (v:=vw c0 1 d0 u0.toNat (Int.toNat (v0.length:Int))) (slice_run (size:=1) (l:=u0) (h:=(v0.length:Int)) rfl underlying46 kr (.inl ⟨_,_,rfl,rfl⟩) (.inr ⟨rfl,rfl⟩) h041 h141 (Int.le_trans h241 (Int.ofNat_le.2 hcc41))) rfl rfl ?_)
  obtain ⟨r3,hF⟩:=hF
  refine Ok.o (OpOk.clearOwn (e:=.int .i64) (l:=v0) (lo:=u0.toNat) (y:=(0:Int)) (z:=iv 0) 1 rfl rfl K0 underlying46 kr dc rfl r3 (tnc _) fun xs42 hL42=>?_)
  rw [clr_len v0 u0.toNat (0:Int) (by rw [tnc] at r3; exact r3)]
  refine Ok.nt (Ok.sr (Ok.B 2 [(39,.slice c0 (clr v0 u0.toNat (0:Int)).length d0),(40,iv u0)] kr ?_))
  obtain ⟨h043,h243,hF⟩:=hF
  refine Ok.o (OpOk.cutOwn (e:=.int .i64) (h:=u0) 1 rfl rfl rfl hL42 underlying46 kr h043 h243 rfl fun xs43 hL43=>?_)
  refine Ok.B 1 [(4,.slice c0 ((clr v0 u0.toNat (0:Int)).take u0.toNat).length d0)] kr (Ok.nt (Ok.ret (Ok.back (vs:=[.slice c0 ((clr v0 u0.toNat (0:Int)).take u0.toNat).length d0]) (.inl rfl) rfl (.cons (.tmp rfl) .nil) rfl ?_)))
  exact fun _ _ u v=>⟨x1,D1.trans Z1,c0,d0,((clr v0 u0.toNat (0:Int)).take u0.toNat),xs43,hL43,fA u v hF⟩
 clear hF
 rintro _ _ ⟨z2,P1,o0,t0,k0,Y0,E0,q⟩
 refine jn (fun hF=>?_) _ _ q
 replace U0:=U0.mono P1.1
 replace b0:=b0.mono P1.1
 refine Ok.b 1 [3,5,8] [(7,.slice o0 k0.length t0)] ?_
 refine Ok.nt (Ok.q (Ok.sr (Ok.rn 3 [.e 0] [3,5,7,8] [(25,.bool (z0==0))] ?_)))
 refine Ok.w 4 [(3,pv bs3 0),(5,pv bs5 0),(7,.slice o0 k0.length t0),(8,pv J0 0),(29,.bool ((z0==0)||((k0.length:Int)==0)))] (fun hR5=>?_) ?_
 ·refine Ok.a 25 (z0==0) rfl (fun hc6=>?_) (fun hc6=>?_)
  ·skip
   refine Ok.b 4 [3,5,7,8] [(29,.bool true)] ?_
   refine Ok.rb 29 ((z0==0)||((k0.length:Int)==0)) (mor_t hc6) (Ok.b 0 [3,5,7,8] [(29,.bool ((z0==0)||((k0.length:Int)==0)))] ?_)
   exact hR5
  skip
  refine Ok.b 4 [3,5,7,8] [(29,.bool ((k0.length:Int)==0))] ?_
  refine Ok.rb 29 ((z0==0)||((k0.length:Int)==0)) (mor_f hc6) (Ok.b 0 [3,5,7,8] [(29,.bool ((z0==0)||((k0.length:Int)==0)))] ?_)
  exact hR5
 refine Ok.nt (Ok.cw hF (fun hc7 hF=>?_) (fun hc7 hF=>?_))
 ·refine Ok.sr (Ok.B 4 [(6,.bool (decide ((k0.length:Int)>0)))] kr (Ok.nt (Ok.ret (Ok.tr (Ok.kr (Ok.tr (Ok.tr (Ok.kr ?_))))))))
  exact Ok.p1 (.bool (decide ((k0.length:Int)>0))) (U2.trans P1) ⟨_,rfl,rfl,hF⟩
 refine Ok.k (Ok.t (Ok.sr (Ok.b 1 [3,5,7,8] [(9,.slice none 0 0)] ?_)))
 have hL8:RepL z2 (.int .i64) [] []:=rfl
 refine Ok.ownNil 3 1 (Ok.nt (Ok.q (Ok.sr (Ok.b 3 [3,5,8] [(9,.slice none ([]:List Int).length 0),(33,.slice o0 k0.length t0),(34,iv (k0.length:Int)),(35,iv 0)] ?_))))
 refine Ok.nt (Ok.block ?_)
 obtain ⟨k,hF⟩:=hF
 refine Ok.L (fun k a W=>∃ G2:Ghost,Gext w0 z2 G2∧∃ (A0:Int) (T0:Option Addr) (L0:Nat) (e0:List Int) (U1:List Value),RepL G2 (.int .i64) U1 e0∧StA 56 [(3,pv bs3 0),(5,pv bs5 0),(8,pv J0 0),(9,.slice T0 e0.length L0),(33,.slice o0 k0.length t0),(34,iv (k0.length:Int)),(35,iv A0)] a∧StW w0 [.own (.slice T0 e0.length L0) 3 1 e0.length U1,.blk J0 (.cells #[iv z0] 3),.own (.slice o0 k0.length t0) 3 1 k0.length Y0,.blk bs5 (.cells #[.slice H0 xp.1.length M0,.slice N0 xp.2.length O0] 28),.blk bs3 (.cells (aD xd m0 n0) 24)] G2 W∧mpal27 xd xp z0 (mpal8 N xd xp K k8) k0 k A0 e0) k ?_ ?_
 ·
  exact fun _ _ u v=>⟨z2,Gext.r w0 z2,0,none,0,([]:List Int),[],hL8,fA u v hF⟩
 clear hF
 rintro (_ | k27) _ _ ⟨G2,u2,A0,T0,L0,e0,U1,b1,q⟩
 exact (q.2.2:False).elim
 refine jn (fun hF=>?_) _ _ q
 replace E0:=E0.mono u2.1
 replace U0:=U0.mono u2.1
 replace b0:=b0.mono u2.1
 refine Ok.sr (Ok.b 1 [3,5,8,9,33,34,35] [(36,.bool (decide (A0<(k0.length:Int))))] ?_)
 refine Ok.nt (Ok.q (Ok.cw hF (fun hc9 hF=>?_) (fun hc9 hF=>?_)))
 ·refine Ok.k (Ok.t (Ok.q (Ok.block (Ok.q (Ok.r ?_)))))
  obtain ⟨h011,h111,hF⟩:=hF
  have S3:=get_of (l:=k0) default h111
  generalize hg11:(k0.getD (Int.toNat A0) default)=e11 at S3 hF ⊢
  refine Ok.o (OpOk.indexOwn (e:=.int .i64) 2 rfl E0 rfl rfl underlying46 kr kr h011 S3 rfl fun cs10 _ hr10 n2=>?_)
  obtain rfl:=hr10
  replace n2:∀ j v,([iv e11]:List Value)[j]? = some v→Y0[Int.toNat A0 * 1+j]? = some v:=n2
  refine Ok.o (OpOk.s (v:=iv e11) (Yields.loadOwn 2 0 rfl n2 rfl underlying3 rfl kr) rfl rfl (Ok.b 1 [3,5,8,9,33,34,35] [(11,iv e11)] ?_))
  refine Ok.nt (Ok.mix [] [] [.blk J0 (.cells #[iv z0] 3),.own (.slice o0 k0.length t0) 3 1 k0.length Y0,.blk bs5 (.cells #[.slice H0 xp.1.length M0,.slice N0 xp.2.length O0] 28),.blk bs3 (.cells (aD xd m0 n0) 24)] [(0,true),(1,true),(2,true),(3,true),(4,true),(5,true),(6,true),(7,true),(8,false),(9,false),(10,false),(11,true)] kr kr (.cons _ (.cons_cons _ (.cons_cons _ (.cons_cons _ (.cons_cons _ .slnil))))) (OkM.b 1 [3,5,8,11,33,34,35] [(39,.slice T0 e0.length L0)] ?_))
  refine OkM.h rfl rfl rfl (OpQ.s (v:=.agg (aD xd m0 n0)) (Yields.loadAgg 3 2 (aD xd m0 n0) rfl rfl underlying24 rfl kr kr kr) rfl rfl (OkM.b 2 [3,5,8,33,34,35,39] [(40,.agg (aD xd m0 n0)),(41,iv e11),(42,pv bs5 1)] ?_))
  refine OkM.h rfl rfl rfl (OpQ.s (v:=.slice N0 xp.2.length O0) (Yields.l 2 rfl rfl underlying26 rfl kr) rfl rfl (OkM.h rfl rfl rfl (OpQ.s (v:=iv z0) (Yields.l 0 rfl rfl underlying3 rfl kr) rfl rfl (OkM.b 1 [3,5,8,33,34,35,39,40,41] [(43,.slice N0 xp.2.length O0),(45,iv (w6 (z0 - 1)))] ?_))))
  obtain ⟨h013,h113,hF⟩:=hF
  have B3:=get_of (l:=xp.2) default h113
  generalize hg13:(xp.2.getD (Int.toNat (w6 (z0 - 1))) default)=e13 at B3 hF ⊢
  refine OkM.h rfl rfl rfl (OpQ.indexRo (e:=.int .u8) rfl rfl underlying26 kr U0 h013 B3 rfl fun q12 o12 cs12 _ H2 hr12=>?_)
  obtain rfl:=hr12
  replace H2:At G2 q12 o12 [.int .u8 e13]:=H2
  refine OkM.t rfl rfl (OpOk.s (v:=.int .u8 e13) (Yields.lr 0 H2 kr underlying5 rfl kr) rfl rfl (OkM.l (i:=8) rfl (Gle.refl _) (.cons _ (.cons_cons _ (.cons_cons _ (.cons_cons _ (.cons_cons _ .slnil))))) ?_))
  obtain ⟨y3,hF⟩:=hF
  refine OkM.t rfl rfl (OpOk.callH [] _ enr rfl (mnx_c xd e11 e13 b0 y3) rfl fun g15 _ _ c2 hV15=>?_)
  obtain ⟨a15_0,c15_0,rfl,hR15_0,rfl⟩:=hV15
  replace b1:=b1.mono c2.1
  refine OkM.l (i:=9) rfl c2.1 (.cons _ (.cons_cons _ (.cons_cons _ (.cons_cons _ (.cons_cons _ .slnil))))) ?_
  obtain ⟨hb16,hF⟩:=hF
  refine OkM.t rfl rfl (OpOk.appendRo (e:=.int .i64) 8 17592186044416 0 rfl rfl rfl b1 hR15_0 underlying46 kr kr kr hb16 rfl fun a16 c16 xs16 hL16=>?_)
  refine OkM.l (i:=10) rfl c2.1 (.cons _ (.cons_cons _ (.cons_cons _ (.cons_cons _ (.cons_cons _ .slnil))))) (OkM.b 1 [3,5,8,33,34,35] [(9,.slice a16 (e0++mnxS xd e11 e13).length c16)] ?_)
  refine OkM.nil (Ok.kn (Ok.t (Ok.r (Ok.b 2 [3,5,8,9,33,34] [(35,iv (w6 (A0+1)))] ?_))))
  refine Ok.j (Ok.t ?_)
  subst hg13
  subst hg11
  exact fun _ _ u v=>⟨k27,nl,g15,u2.trans c2,w6 (A0+1),a16,c16,(e0++(mnxS xd (k0.getD (Int.toNat A0) default) (xp.2.getD (Int.toNat (w6 (z0 - 1))) default))),xs16,hL16,fA u v hF⟩
 refine Ok.x (Ok.thenE (Ok.thenE (Ok.blockHit (Ok.t (Ok.sr (Ok.b 1 [3,5,8,9] [(51,.slice T0 e0.length L0)] ?_))))))
 obtain ⟨u3,hF⟩:=hF
 refine Ok.o (OpOk.callH [_] _ enr rfl (srt_c e0 b1 u3) rfl fun g18 _ _ a2 hV18=>?_)
 obtain ⟨xs18_0,rfl,Z2,rfl,f2⟩:=hV18
 refine Ok.v 9 rfl (show (.slice T0 e0.length L0:Value)=.slice T0 (srtS e0).length L0 from by rw [f2]) (Ok.v 51 rfl (show (.slice T0 e0.length L0:Value)=.slice T0 (srtS e0).length L0 from by rw [f2]) (Ok.nt (Ok.r (Ok.b 1 [3,5,8] [(53,.slice T0 (srtS e0).length L0)] ?_))))
 obtain ⟨J2,hF⟩:=hF
 refine Ok.o (OpOk.callH [_] _ enr rfl (cmp_c (srtS e0) Z2 J2) rfl fun g20 _ _ v2 j3=>?_)
 obtain ⟨V2,Q2,S2,rfl,B2,rfl⟩:=j3
 refine Ok.b 1 [3,5,8] [(7,.slice V2 (cmpS (srtS e0)).length Q2)] ?_
 refine Ok.j (Ok.kn (Ok.t (Ok.q (Ok.sr (Ok.o (OpOk.s (v:=iv z0) (Yields.l 1 rfl rfl underlying3 rfl kr) rfl rfl (Ok.nt (Ok.r (Ok.o (OpOk.a (z:=iv 0) (cs:=#[iv 0]) kr kr rfl fun bs8=>?_))))))))))
 refine Ok.o (OpOk.s1 0 (iv z0) rfl rfl rfl ?_)
 refine Ok.nt (Ok.r (Ok.rn 2 [.e 0] [3,5,7] [(8,pv bs8 0),(19,iv (w6 (z0 - 1)))] ?_))
 refine Ok.o (OpOk.s1 0 (iv (w6 (z0 - 1))) rfl rfl rfl ?_)
 refine Ok.j (Ok.t ?_)
 exact fun _ _ u v=>⟨k8,nl,g20,((((U2.trans P1).trans u2).trans a2).trans v2),bs8,w6 (z0 - 1),V2,Q2,cmpS (srtS e0),S2,B2,fA u v hF⟩
theorem mft_0 (d:DC) (n:Int) (t:Ts):¬ mftP 0 d n t:=fun h=>absurd h.1 (Nat.not_lt_zero _)
theorem mpa_0 (d:DC) (n:Int) (t:Ph):¬ mpaP 0 d n t:=fun h=>absurd h.1 (Nat.not_lt_zero _)
theorem mso_0 (d:DC) (n:Int) (t:List Ph):¬ msoP 0 d n t:=fun h=>absurd h.1 (Nat.not_lt_zero _)
theorem inNat {d:DC} {n:Int} (h:inD d n):n.toNat<d.1.length:=by have:=h.1; have:=h.2; omega
theorem good_at {d:DC} (hG:DGood d) {n:Int} (h:inD d n):AGood (nodeS d n).2.2.1:=hG.vals _ (inNat h)
theorem labP {t:Ts}:t.lab.2.2.2.1.length≤bT t:=by have:=bT_kids t; omega
theorem kin_two {d:DC} (hG:DGood d) {n:Int} (hn:inD d n) (he:melS d n=true):0≤(kinS d n).2∧(kinS d n).2<((kinS d n).1.length:Int)∧(kinS d n).1.length≤200:=⟨(kin_idx hG hn he).1,(kin_idx hG hn he).2,kin_len hG hn⟩
theorem kids_ok {t:Ts} (h:∃ i,okT t i=true):ok3 t.kids=true:=by
 obtain ⟨i,h⟩:=h
 rw [okT_eq,Bool.and_eq_true] at h
 have h:=h.2
 split at h
 ·unfold ptsS at h; rw [Bool.and_eq_true] at h; exact h.1
 have:t.kids=[]:=List.eq_nil_of_length_eq_zero (by have:=eq_of_beq h; omega)
 rw [this]; rw [ok3]
theorem fitT_eq (d:DC) (t:Ts) (n:Int):fitT d t n=labB d t.lab n (any3 d t.kids n):=by obtain ⟨x,l⟩:=t; rw [fitT]; rfl
theorem mft_F (N:Nat) (d:DC) (n:Int) (t:Ts) (h:mftP (N+1) d n t):mftF N d n t (fun r=>r=mftS d n t):=by
 obtain ⟨h1,h2,hG,hn,he,hk⟩:=h
 have hA:=good_at hG hn
 have hP:∀ w,matP (nodeS d n) w:=fun w=>by show (nodeS d n).2.2.1.length≤1000; have:=hA.1; omega
 have hM:mfaP (nodeS d n) t:=⟨hA,by have:=labP (t:=t); omega⟩
 have hW:hwP (attS (nodeS d n).2.2.1 wClass).1 t.lab.2.1:=by show (attS (nodeS d n).2.2.1 wClass).1.length≤1000; have:=att_len hA.2 wClass; omega
 have hS:msoP N d n t.kids:=⟨by have:=bT_kids t; omega,by have:=bT_kids t; omega,hG,hn,kids_ok hk⟩
 obtain ⟨i0,i1,i2⟩:=kin_two hG hn he
 have hr:mftS d n t=labB d t.lab n (any3 d t.kids n):=fitT_eq d t n
 generalize mftS d n t=r at hr
 unfold labB at hr
 have j49:(t.lab.1==2)=false→(t.lab.1==3)=false→(t.lab.1==4)=false→(t.lab.1==5)=false→(t.lab.1==6)=false→(t.lab.1==7)=false→mftj49 N d n t (fun a=>a=r):=by
  intro q2 q3 q4 q5 q6 q7
  rw [if_f q2,if_f q3,if_f q4,if_f q5,if_f q6,if_f q7] at hr
  have j58:((t.lab.1==8)||(t.lab.1==9))=true→mftj58 d n t (fun a=>a=r):=by
   intro h89
   show nthSp t.lab.2.2.2.2.1 t.lab.2.2.2.2.2 (w6 (mftV1 d n t+1))=r
   cases h9:(t.lab.1==9) with
   | true =>
    have h8:(t.lab.1==8)=false:=by rw [eq_of_beq h9]; rfl
    rw [if_f h8,if_t h9,decide_eq_true i0,Bool.true_and] at hr
    have e:mftV1 d n t=((kinS d n).1.length:Int) - 1 - (kinS d n).2:=by
     unfold mftV1
     rw [if_t h9,w64 (x:=((kinS d n).1.length:Int) - 1) om,w64 om]
    rw [hr,e,w64 om,show ((kinS d n).1.length:Int) - 1 - (kinS d n).2+1=((kinS d n).1.length:Int) - (kinS d n).2 by omega]
   | false =>
    rw [h9,Bool.or_false] at h89
    rw [if_t h89,decide_eq_true i0,Bool.true_and] at hr
    have e:mftV1 d n t=(kinS d n).2:=by unfold mftV1; rw [if_f h9]
    rw [hr,e,w64 om]
  refine ⟨fun h=>⟨⟨hG,hn⟩,fun _=>j58 h,fun _=>j58 h⟩,fun h=>?_⟩
  rw [Bool.or_eq_false_iff] at h
  rw [if_f h.1,if_f h.2] at hr
  refine ⟨fun q=>⟨hS,?_⟩,fun q=>⟨fun q'=>⟨hS,?_⟩,fun q'=>?_⟩⟩
  ·rw [if_t q] at hr; exact hr.symm
  ·rw [if_f q,if_t q'] at hr; exact hr.symm
  rw [if_f q,if_f q'] at hr; exact hr.symm
 refine ⟨hn.1,inNat hn,fun q2=>?_,fun q2=>⟨fun q3=>⟨hP _,fun _=>?_,fun _=>?_⟩,fun q3=>⟨fun q4=>⟨hP _,hW,?_⟩,fun q4=>⟨fun q5=>⟨hM,?_⟩,fun q5=>⟨fun q6=>?_,fun q6=>⟨fun q7=>⟨⟨hG,hn⟩,?_⟩,fun q7=>⟨fun _=>j49 q2 q3 q4 q5 q6 q7,fun _=>j49 q2 q3 q4 q5 q6 q7⟩⟩⟩⟩⟩⟩⟩
 ·rw [if_t q2] at hr; exact hr.symm
 ·rw [if_f q2,if_t q3] at hr; exact hr.symm
 ·rw [if_f q2,if_t q3] at hr; exact hr.symm
 ·rw [if_f q2,if_f q3,if_t q4] at hr; exact hr.symm
 ·rw [if_f q2,if_f q3,if_f q4,if_t q5] at hr; exact hr.symm
 ·rw [if_f q2,if_f q3,if_f q4,if_f q5,if_t q6] at hr; exact hr.symm
 rw [if_f q2,if_f q3,if_f q4,if_f q5,if_f q6,if_t q7] at hr; exact hr.symm
theorem mso_F (N:Nat) (d:DC) (n:Int) (l:List Ph) (h:msoP (N+1) d n l):msoF N d n l (fun r=>r=msoS d n l):=by
 obtain ⟨h1,h2,hG,hn,hk⟩:=h
 rw [b3_eq] at h1 h2
 have hl:l.length≤1048600:=by have:=w3_len l; omega
 have hP:∀ q ∈ l,mpaP N d n q:=fun q hq=>by
  have:=w3_in hq
  have ho:=ok3_in hk hq
  exact ⟨by omega,by omega,hG,hn,ho.1.1,ho.1.2.1,ho.2,ho.1.2.2⟩
 have loop:∀ (k i:Nat),i+k=l.length→msoS d n l=any3 d (l.drop i) n→msol7x1 N d n l (fun r=>r=msoS d n l) (k+1) (i:Int):=by
  intro k
  induction k with
  | zero =>
   intro i h3 h4
   rw [List.drop_of_length_le om,any3] at h4
   exact ⟨fun hc=>od hc,fun _=>h4.symm⟩
  | succ k ih =>
   intro i h3 h4
   rw [drop_get (l:=l) default om,any3_cons] at h4
   refine ⟨fun _=>⟨by omega,by rw [tnc]; omega,hP _ (mem_getD default (by rw [tnc]; omega)),fun hc=>?_,fun hc=>?_⟩,fun hc=>oe hc⟩
   ·rw [tnc] at hc
    have hc:rch (mnxS d) (fns2 d (l.getD i default).1).reverse (l.getD i default).2.reverse n=true:=hc
    rw [hc,Bool.true_or] at h4
    show decide ((i:Int)≥0)=_
    rw [h4,decide_eq_true om]
   rw [tnc] at hc
   have hc:rch (mnxS d) (fns2 d (l.getD i default).1).reverse (l.getD i default).2.reverse n=false:=hc
   rw [hc,Bool.false_or] at h4
   rw [w64 om]
   exact ih (i+1) om h4
 exact ⟨_,loop l.length 0 om rfl⟩
def fB (d:DC) (p:Ph) (a:Nat) (x:Int):Bool:=all1 d (p.1.getD a default) x
def FB (d:DC) (p:Ph) (a:Nat) (x:Int):Bool:=melS d x&&fB d p a x
def GB (d:DC) (p:Ph) (a:Nat) (x:Int):Bool:=rch (mnxS d) ((fns2 d p.1).take (a+1)).reverse (p.2.take a).reverse x
theorem fns2_len (d:DC) (p:List (List Ts)):(fns2 d p).length=p.length:=by rw [fns2_eq,List.length_map]
theorem fns2_get (d:DC) (p:Ph) {a:Nat} (h:a<p.1.length):(fns2 d p.1).getD a default=FB d p a:=by
 rw [fns2_eq,List.getD_eq_getElem?_getD,List.getElem?_map]
 unfold FB fB
 rw [List.getD_eq_getElem?_getD,List.getElem?_eq_getElem h]
 rfl
theorem GB_zero (d:DC) (p:Ph) (h:0<p.1.length) (x:Int):GB d p 0 x=FB d p 0 x:=by
 unfold GB
 rw [take_get default (by rw [fns2_len]; exact h),fns2_get d p h,List.take_zero,List.nil_append,List.reverse_singleton,rch,List.isEmpty_nil,Bool.true_or,Bool.and_true]
theorem GB_succ (d:DC) (p:Ph) {b:Nat} (h:b+1<p.1.length) (hj:b<p.2.length) (x:Int):GB d p (b+1) x=(FB d p (b+1) x&&(mnxS d x (p.2.getD b default)).any (GB d p b)):=by
 unfold GB
 rw [take_get default (by rw [fns2_len]; exact h),fns2_get d p h,List.reverse_append,List.reverse_singleton,List.singleton_append,take_get default hj,List.reverse_append,List.reverse_singleton,List.singleton_append,rch_cons (by
  intro e
  have:=congrArg List.length e
  rw [List.length_reverse,List.length_take,fns2_len,List.length_nil] at this
  omega)]
theorem mnx_len {d:DC} (hG:DGood d) {n:Int} (hn:inD d n) (j:Int):(mnxS d n j).length≤200:=by
 have h1:(upS d n).length≤42:=anc_len d.1 42 _
 have h2:((kinS d n).1).length≤200:=kin_len hG hn
 unfold mnxS
 split
 ·split
  ·rw [List.length_take]; omega
  omega
 split
 ·rw [List.length_take,List.length_reverse,List.length_take]; omega
 rw [List.length_reverse,List.length_take]; omega
theorem any_congr_mem {l m:List Int} {f:Int→Bool} (h:∀ x,x ∈ l↔x ∈ m):l.any f=m.any f:=by
 rw [Bool.eq_iff_iff,List.any_eq_true,List.any_eq_true]
 exact ⟨fun ⟨x,hx,e⟩=>⟨x,(h x).1 hx,e⟩,fun ⟨x,hx,e⟩=>⟨x,(h x).2 hx,e⟩⟩
theorem any_filter_and (l:List Int) (f g:Int→Bool):(l.any fun x=>f x&&g x)=(l.filter f).any g:=by
 induction l with
 | nil=>rfl
 | cons x l ih =>
  rw [List.any_cons,ih,List.filter_cons]
  cases hf:f x with
  | true=>rw [if_pos rfl,List.any_cons,Bool.true_and]
  | false=>rw [if_neg dc,Bool.false_and,Bool.false_or]
theorem any_flat (l:List Int) (f:Int→List Int) (g:Int→Bool):(l.any fun x=>(f x).any g)=(l.flatMap f).any g:=by
 induction l with
 | nil=>rfl
 | cons x l ih=>rw [List.any_cons,ih,List.flatMap_cons,List.any_append]
theorem mpa_F (N:Nat) (d:DC) (n:Int) (p:Ph) (h:mpaP (N+1) d n p):mpaF N d n p (fun r=>r=mpaS d n p):=by
 obtain ⟨hw1,hw2,hG,hn,hp1,hp2,hp3,hp4⟩:=h
 have hlen:p.1.length≤1048600:=by have:=w2_len p.1; omega
 have hpos:0<p.1.length:=List.length_pos_iff.2 hp1
 have hR:mpaS d n p=[n].any (GB d p (p.1.length - 1)):=by
  rw [List.any_cons,List.any_nil,Bool.or_false]
  unfold GB mpaS
  rw [show p.1.length - 1+1=p.1.length by omega,List.take_of_length_le (by rw [fns2_len]; exact Nat.le_refl _),List.take_of_length_le om]
 generalize mpaS d n p=r at hR
 have hT:∀ (a:Nat),a<p.1.length→∀ t ∈ p.1.getD a default,∀ x,inD d x→melS d x=true→mftP N d x t:=fun a ha t ht x hx hm=>by
  have hs:p.1.getD a default ∈ p.1:=mem_getD default ha
  have h1:=w1_in ht
  have h2:=w2_in hs
  obtain ⟨i,hi⟩:=ok2_in hp3 hs
  obtain ⟨k,hk⟩:=ok1_in hi ht
  exact ⟨by omega,by omega,hG,hx,hm,k,hk⟩
 have hS:∀ a,a<p.1.length→(p.1.getD a default).length≤1048600:=fun a ha=>by
  have h1:=w1_len (p.1.getD a default)
  have h2:=w2_in (show p.1.getD a default ∈ p.1 from mem_getD default ha)
  omega
 have in6:∀ (a:Nat) (ha:a<p.1.length) (x:Int),inD d x→melS d x=true→∀ (i:Int) (S:List Int) (C8:Int→List Int→Prop) (C7:Int→Prop),
   (fB d p a x=false→mpaji74 N d p (fun b=>b=r) (a:Int) S C8 i)→(fB d p a x=true→C7 (w6 (i+1))) →
   ∀ (k m:Nat),m+k=(p.1.getD a default).length→fB d p a x=all1 d ((p.1.getD a default).drop m) x→mpal7x6 N d p (fun b=>b=r) i (a:Int) S C8 x C7 (p.1.getD a default) (k+1) (m:Int):=by
  intro a ha x hx hm i S C8 C7 hA hB k
  have hSa:=hS a ha
  induction k with
  | zero =>
   intro m h1 h2
   rw [List.drop_of_length_le om,all1] at h2
   exact ⟨fun hc=>od hc,fun _=>⟨fun h=>absurd h dc,fun _=>hB h2⟩⟩
  | succ k ih =>
   intro m h1 h2
   rw [drop_get (l:=p.1.getD a default) default om,all1] at h2
   refine ⟨fun _=>⟨by omega,by rw [tnc]; omega,hT a ha _ (mem_getD default (by rw [tnc]; omega)) x hx hm,fun hc=>?_,fun hc=>?_⟩,fun hc=>oe hc⟩
   ·rw [tnc] at hc
    have hc:fitT d ((p.1.getD a default).getD m default) x=false:=by rw [Bool.not_eq_true'] at hc; exact hc
    rw [hc,Bool.false_and] at h2
    exact ⟨fun _=>hA h2,fun hcc=>oe hcc⟩
   rw [tnc] at hc
   have hc:fitT d ((p.1.getD a default).getD m default) x=true:=by rw [Bool.not_eq_false'] at hc; exact hc
   rw [hc,Bool.true_and] at h2
   rw [w64 om]
   exact ih (m+1) om h2
 have in4:∀ (a:Nat) (ha:a<p.1.length) (x:Int),inD d x→melS d x=true→∀ (i j:Int) (own:List Int) (C:Int→Int→List Int→Prop),
   mpaj3i22i28 (!(fB d p a x)) i j own C →
   ∀ (k m:Nat),m+k=(p.1.getD a default).length→fB d p a x=all1 d ((p.1.getD a default).drop m) x→mpal7x4 N d i j own x C (p.1.getD a default) (k+1) (m:Int):=by
  intro a ha x hx hm i j own C hA k
  have hSa:=hS a ha
  induction k with
  | zero =>
   intro m h1 h2
   rw [List.drop_of_length_le om,all1] at h2
   rw [h2] at hA
   exact ⟨fun hc=>od hc,fun _=>hA⟩
  | succ k ih =>
   intro m h1 h2
   rw [drop_get (l:=p.1.getD a default) default om,all1] at h2
   refine ⟨fun _=>⟨by omega,by rw [tnc]; omega,hT a ha _ (mem_getD default (by rw [tnc]; omega)) x hx hm,fun hc=>?_,fun hc=>?_⟩,fun hc=>oe hc⟩
   ·rw [tnc] at hc
    have hc:fitT d ((p.1.getD a default).getD m default) x=false:=by rw [Bool.not_eq_true'] at hc; exact hc
    rw [hc,Bool.false_and] at h2
    rw [h2] at hA
    show mpaj3i22i28 (decide ((m:Int)≥0)) i j own C
    rw [decide_eq_true om]
    exact hA
   rw [tnc] at hc
   have hc:fitT d ((p.1.getD a default).getD m default) x=true:=by rw [Bool.not_eq_false'] at hc; exact hc
   rw [hc,Bool.true_and] at h2
   rw [w64 om]
   exact ih (m+1) om h2
 have second:∀ (a:Nat) (ha:a<p.1.length) (S:List Int) (hin:∀ x ∈ S,inD d x) (hl:S.length≤200) (C8:Int→List Int→Prop),mpaji66 d p (fun b=>b=r) (a:Int) C8 (S.filter (FB d p a)) →
   ∀ (k i j:Nat) (own:List Int),j+k=S.length→DInv S (FB d p a) i j own→mpal17x3 N d p (fun b=>b=r) (a:Int) C8 (k+1) (i:Int) (j:Int) own:=by
  intro a ha S hin hl C8 hji k
  induction k with
  | zero =>
   intro i j own h hI
   have hj:j=S.length:=by omega
   subst hj
   have hln:=hI.len
   have hij:=hI.ij
   have hfin:=hI.fin
   have hcl:(clr own i (0:Int)).length=own.length:=(clr_len own i 0 om).symm
   refine ⟨fun hc=>od hc,fun _=>⟨by omega,by omega,Int.le_refl _,by omega,by omega,?_,?_⟩⟩
   ·rw [tnc]; omega
   rw [tnc,hfin]
   exact hji
  | succ k ih =>
   intro i j own h hI
   have hln:=hI.len
   have hij:=hI.ij
   have hg:=hI.get
   have hx:=hin (S.getD j default) (mem_getD default om)
   have st:∀ b,b = !(FB d p a (S.getD j default))→mpaj3i22i28 b (i:Int) (j:Int) own (mpal17x3 N d p (fun b=>b=r) (a:Int) C8 (k+1)):=by
    intro b hb
    refine ⟨fun hc=>⟨by omega,by rw [tnc]; omega,?_⟩,fun hc=>?_⟩
    ·have hc':FB d p a (S.getD j default)=true:=by rw [hb,Bool.not_not] at hc; exact hc
     show mpal17x3 N d p (fun b=>b=r) (a:Int) C8 (k+1) _ _ _
     rw [tnc,tnc,w64 om,w64 om,show (i:Int)+1=((i+1:Nat):Int) by omega,show (j:Int)+1=((j+1:Nat):Int) by omega]
     exact ih (i+1) (j+1) _ om (hI.keep om hc')
    have hc':FB d p a (S.getD j default)=false:=by rw [hb,Bool.not_not] at hc; exact hc
    show mpal17x3 N d p (fun b=>b=r) (a:Int) C8 (k+1) _ _ _
    rw [w64 om,show (j:Int)+1=((j+1:Nat):Int) by omega]
    exact ih i (j+1) own om (hI.skip om hc')
   refine ⟨fun _=>⟨by omega,by rw [tnc]; omega,?_⟩,fun hc=>oe hc⟩
   rw [tnc,hg]
   refine ⟨⟨hx.1,inNat hx⟩,fun hc=>?_,fun hc=>⟨by omega,by rw [tnc]; exact ha,?_⟩⟩
   ·have hc:melS d (S.getD j default)=false:=by rw [Bool.not_eq_true'] at hc; exact hc
    exact st true (by unfold FB; rw [hc]; rfl)
   have hc:melS d (S.getD j default)=true:=by rw [Bool.not_eq_false'] at hc; exact hc
   rw [tnc]
   exact ⟨_,in4 a ha _ hx hc _ _ _ _ (st _ (by unfold FB; rw [hc,Bool.true_and])) (p.1.getD a default).length 0 om rfl⟩
 have first:∀ (a:Nat) (ha:a<p.1.length) (S:List Int) (hin:∀ x ∈ S,inD d x) (hl:S.length≤200) (C8:Int→List Int→Prop),mpaji66 d p (fun b=>b=r) (a:Int) C8 (S.filter (FB d p a)) →
   ∀ (k i:Nat),i+k=S.length→(S.take i).filter (FB d p a)=S.take i→mpal7x5 N d p (fun b=>b=r) (a:Int) S C8 (k+1) (i:Int):=by
  intro a ha S hin hl C8 hji k
  induction k with
  | zero =>
   intro i h hf
   refine ⟨fun hc=>od hc,fun _=>⟨fun _=>?_,fun hc=>absurd hc dc⟩⟩
   rw [List.take_of_length_le om] at hf
   rw [hf] at hji
   exact hji
  | succ k ih =>
   intro i h hf
   have hx:=hin (S.getD i default) (mem_getD default om)
   have no:FB d p a (S.getD i default)=false→mpaji74 N d p (fun b=>b=r) (a:Int) S C8 (i:Int):=fun hc=>by
    refine ⟨fun hc=>absurd (eq_of_beq hc) om,fun _=>?_⟩
    rw [w64 om,show (i:Int)+1=((i+1:Nat):Int) by omega]
    exact ⟨_,second a ha S hin hl C8 hji (S.length - (i+1)) i (i+1) S om (DInv.start om hf hc)⟩
   refine ⟨fun _=>⟨by omega,by rw [tnc]; omega,?_⟩,fun hc=>oe hc⟩
   rw [tnc]
   refine ⟨⟨hx.1,inNat hx⟩,fun hc=>?_,fun hc=>⟨by omega,by rw [tnc]; exact ha,?_⟩⟩
   ·have hc:melS d (S.getD i default)=false:=by rw [Bool.not_eq_true'] at hc; exact hc
    exact ⟨fun _=>no (by unfold FB; rw [hc]; rfl),(fun h=>by cases h)⟩
   have hc:melS d (S.getD i default)=true:=by rw [Bool.not_eq_false'] at hc; exact hc
   rw [tnc]
   refine ⟨_,in6 a ha _ hx hc _ _ _ _ (fun hf2=>no (by unfold FB; rw [hf2,Bool.and_false])) (fun hf2=>?_) (p.1.getD a default).length 0 om rfl⟩
   rw [w64 om,show (i:Int)+1=((i+1:Nat):Int) by omega]
   exact ih (i+1) om (all_next om hf (by unfold FB; rw [hc,hf2]; rfl))
 have loop:∀ (a:Nat) (S:List Int),a<p.1.length→(∀ x ∈ S,inD d x)→S.length≤200→r=S.any (GB d p a)→mpal8 N d p (fun b=>b=r) (a+1) (a:Int) S:=by
  intro a
  induction a with
  | zero =>
   intro S ha hin hl hS
   refine ⟨_,first 0 ha S hin hl _ ⟨fun _=>?_,fun hc=>absurd hc (by simp)⟩ S.length 0 om rfl⟩
   rw [show S.any (GB d p 0)=S.any (FB d p 0) from congrArg S.any (funext (GB_zero d p ha))] at hS
   have e:(S.any fun x=>FB d p 0 x&&true)=(S.filter (FB d p 0)).any fun _=>true:=any_filter_and S (FB d p 0) fun _=>true
   simp only [Bool.and_true] at e
   rw [hS,show S.any (FB d p 0)=_ from e]
   cases S.filter (FB d p 0) with
   | nil=>rfl
   | cons x l=>rw [List.any_cons,Bool.true_or]; exact decide_eq_true (by rw [List.length_cons]; omega)
  | succ b ih =>
   intro S ha hin hl hS
   have hjb:b<p.2.length:=by omega
   rw [show S.any (GB d p (b+1))=S.any (fun x=>FB d p (b+1) x&&(mnxS d x (p.2.getD b default)).any (GB d p b)) from congrArg S.any (funext (GB_succ d p ha hjb)),any_filter_and,any_flat] at hS
   have hin':∀ x ∈ S.filter (FB d p (b+1)),inD d x∧melS d x=true:=fun x hx=>by
    have hx:=List.mem_filter.1 hx
    unfold FB at hx
    rw [Bool.and_eq_true] at hx
    exact ⟨hin x hx.1,hx.2.1⟩
   have hl':(S.filter (FB d p (b+1))).length≤200:=Nat.le_trans (List.length_filter_le ..) hl
   refine ⟨_,first (b+1) ha S hin hl _ ?_ S.length 0 om rfl⟩
   generalize S.filter (FB d p (b+1))=S' at hin' hl' hS
   have e1:w6 (((b+1:Nat):Int) - 1)=(b:Int):=by rw [w64 om]; omega
   refine ⟨fun hc=>?_,fun hc=>?_⟩
   ·have hc:S'=[]:=by
     rw [Bool.or_eq_true] at hc
     rcases hc with hc | hc
     ·have:=eq_of_beq hc; omega
     exact List.eq_nil_of_length_eq_zero (by have:=eq_of_beq hc; omega)
    subst hc
    exact hS.symm
   have l27:∀ (k i:Nat) (acc:List Int),i+k=S'.length→acc++(S'.drop i).flatMap (fun x=>mnxS d x (p.2.getD b default))=S'.flatMap (fun x=>mnxS d x (p.2.getD b default))→acc.length≤i * 200 →
     mpal27 d p ((b+1:Nat):Int) (mpal8 N d p (fun b=>b=r) (b+1)) S' (k+1) (i:Int) acc:=by
    intro k
    induction k with
    | zero =>
     intro i acc h1 h2 h3
     rw [List.drop_of_length_le om,List.flatMap_nil,List.append_nil] at h2
     have h5:acc.length≤40000:=by omega
     refine ⟨fun hc=>od hc,fun _=>⟨by show acc.length≤1000000000000; omega,?_,?_⟩⟩
     ·show (srtS acc).length≤1000000000000
      unfold srtS; rw [List.length_mergeSort]; omega
     rw [e1]
     have hm:∀ x,x ∈ cmpS (srtS acc)↔x ∈ acc:=fun x=>by rw [cmp_mem,srt_mem]
     have hi2:∀ x ∈ cmpS (srtS acc),inD d x:=fun x hx=>by
      have hx:=(hm x).1 hx
      rw [h2,List.mem_flatMap] at hx
      obtain ⟨y,hy,hx⟩:=hx
      exact mnx_in hG (hin' y hy).1 hx
     refine ih _ om hi2 (Nat.le_trans (nodup_le d.1.length _ (cmp_nodup (srt_pair acc)) hi2) hG.few) ?_
     rw [hS,← h2]
     exact (any_congr_mem hm).symm
    | succ k ih2 =>
     intro i acc h1 h2 h3
     have hx:=hin' (S'.getD i default) (mem_getD default om)
     have hlm:=mnx_len hG hx.1 (p.2.getD b default)
     rw [drop_get (l:=S') default om,List.flatMap_cons,← List.append_assoc] at h2
     refine ⟨fun _=>?_,fun hc=>oe hc⟩
     rw [e1,tnc,tnc]
     refine ⟨by omega,by omega,by omega,hjb,⟨hG,hx.1,hx.2⟩,by rw [List.length_append]; omega,?_⟩
     rw [w64 om]
     exact ih2 (i+1) _ om h2 (by rw [List.length_append]; omega)
   exact ⟨_,l27 S'.length 0 [] om rfl (Nat.zero_le _)⟩
 show ∃ k,mpal8 N d p (fun b=>b=r) k (w6 ((p.1.length:Int) - 1)) [n]
 rw [show w6 ((p.1.length:Int) - 1)=((p.1.length - 1:Nat):Int) by rw [w64 om]; omega]
 exact ⟨_,loop (p.1.length - 1) [n] om (fun x hx=>by rw [List.mem_singleton] at hx; subst hx; exact hn) (by simp) hR⟩
theorem mft_rec:∀ N,mft_C N∧mpa_C N∧mso_C N
 | 0=>⟨(by intro g m0 n0 xd xn c1 f1 xt b0 g1 hG0 hp; exact (mft_0 xd xn xt hp).elim),(by intro g m0 n0 xd xn H0 M0 N0 O0 xp b0 V0 U0 hG0 hp; exact (mpa_0 xd xn xp hp).elim),(by intro g m0 n0 xd xn k1 y1 xl b0 C1 hG0 hp; exact (mso_0 xd xn xl hp).elim)⟩
 | N+1 =>
  have ih:=mft_rec N
  ⟨(by intro g m0 n0 xd xn c1 f1 xt b0 g1 hG0 hp; exact (mft_ok N ih.1 ih.2.1 ih.2.2 xd xn xt b0 g1 hG0 _ (mft_F N xd xn xt hp)).gv),(by intro g m0 n0 xd xn H0 M0 N0 O0 xp b0 V0 U0 hG0 hp; exact (mpa_ok N ih.1 ih.2.1 ih.2.2 xd xn xp b0 V0 U0 hG0 _ (mpa_F N xd xn xp hp)).gv),(by intro g m0 n0 xd xn k1 y1 xl b0 C1 hG0 hp; exact (mso_ok N ih.1 ih.2.1 ih.2.2 xd xn xl b0 C1 hG0 _ (mso_F N xd xn xl hp)).gv)⟩
def msoPE (xd:Dc) (xn:Int) (xl:List PH):Prop:=∃ N,msoP N xd xn xl
theorem mso_c {g:Ghost} {m0:Option Addr} {n0:Nat} (xd:Dc) (xn:Int) {k1:Option Addr} {y1:Nat} (xl:List PH) (b0:Rep g yNs [.slice m0 xd.1.length n0] xd.1) (C1:Rep g (.slice yP) [.slice k1 xl.length y1] xl) (hG0:SomeInt g 0)  (hp:msoPE xd xn xl):CallsG prog 23 #[.agg (aD xd m0 n0),iv xn,.slice k1 xl.length y1] g (.bool (msoS xd xn xl)):=by
 obtain ⟨N,hp⟩:=hp
 exact (mft_rec N).2.2 _ xd xn xl b0 C1 hG0 hp
end
end Go.Proofs.YtdapgmigogpdcaaGreatDoor.Ma
