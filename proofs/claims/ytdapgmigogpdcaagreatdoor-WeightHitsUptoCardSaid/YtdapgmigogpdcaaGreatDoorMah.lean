/- match: fits, path, Some. -/
import Derived.Test.YtdapgmigogpdcaaGreatDoorMac
import Derived.Test.YtdapgmigogpdcaaGreatDoorSrt
set_option linter.unusedSimpArgs false
set_option linter.unusedVariables false
namespace Go.Proofs.YtdapgmigogpdcaaGreatDoor.Ma
open _root_.Go.Proofs.Tryz Go Go.iT Go.RowKit Go.Shelf Go.Proofs Go.Sort Ti Do Se Sr tO
set_option maxHeartbeats 4000000
set_option maxRecDepth 100000
noncomputable section
def preB (v w:Bs):Bool:=decide ((v.length:Int)≥(w.length:Int))&&(v.take w.length==w)
def R5 (v w:Bs):Bool:=decide ((v.length:Int)≥(w.length:Int))&&(v.drop (v.length - w.length)==w)
def u_ (v:Bs) (x:Lb):Bool :=
 if (x.2.2.1==61)=true then v==x.2.2.2.1 else if (x.2.2.1==124)=true then (v==x.2.2.2.1||preB v (x.2.2.2.1++[45])) else if (x.2.2.2.1==[])=true then false
 else if (x.2.2.1==126)=true then Dx v x.2.2.2.1 else if (x.2.2.1==94)=true then preB v x.2.2.2.1 else if (x.2.2.1==36)=true then R5 v x.2.2.2.1 else decide (mX v x.2.2.2.1≥0)
def Hu (x:ND) (t:Ts):Bool:=(jK x.2.2.1 t.lab.2.1).2&&(t.lab.2.2.1==0||u_ (jK x.2.2.1 t.lab.2.1).1 t.lab)
def Xw (x:ND) (t:Ts):Prop:=mV x.2.2.1∧t.lab.2.2.2.1.length≤2000000
def ru (xx:Nd) (xt:TS):Bool :=
 ((decide (((dh xx xt.lab.2.1).1.length:Int)≥((xt.lab.2.2.2.1++([45]:Bs)).length:Int)))&&(((dh xx xt.lab.2.1).1.take (Int.toNat ((xt.lab.2.2.2.1++([45]:Bs)).length:Int)))==(xt.lab.2.2.2.1++([45]:Bs))))
def wm (xx:Nd) (xt:TS):Bool :=
 ((decide (((dh xx xt.lab.2.1).1.length:Int)≥(xt.lab.2.2.2.1.length:Int)))&&(((dh xx xt.lab.2.1).1.take (Int.toNat (xt.lab.2.2.2.1.length:Int)))==xt.lab.2.2.2.1))
def uo (xx:Nd) (xt:TS):Bool :=
 ((decide (((dh xx xt.lab.2.1).1.length:Int)≥(xt.lab.2.2.2.1.length:Int)))&&(((dh xx xt.lab.2.1).1.drop (Int.toNat (w6 (((dh xx xt.lab.2.1).1.length:Int) - (xt.lab.2.2.2.1.length:Int)))))==xt.lab.2.2.2.1))
def C_ (xx:Nd) (xt:TS) (K:Bool→Prop):Prop :=
 K (((dh xx xt.lab.2.1).1==xt.lab.2.2.2.1)||ru xx xt)
def r9 (xx:Nd) (xt:TS) (K:Bool→Prop):Prop :=
 C_ xx xt K
def rZ (xx:Nd) (xt:TS) (K:Bool→Prop):Prop :=
 K (wm xx xt)
def rY (xx:Nd) (xt:TS) (K:Bool→Prop):Prop :=
 K (uo xx xt)
def Kk (xx:Nd) (xt:TS) (K:Bool→Prop):Prop :=
 (((!(dh xx xt.lab.2.1).2)||(xt.lab.2.2.1==0))=true→K (dh xx xt.lab.2.1).2)∧(((!(dh xx xt.lab.2.1).2)||(xt.lab.2.2.1==0))=false→((xt.lab.2.2.1==61)=true→K ((dh xx xt.lab.2.1).1==xt.lab.2.2.2.1))∧((xt.lab.2.2.1==61)=false→((xt.lab.2.2.1==124)=true→(((dh xx xt.lab.2.1).1==xt.lab.2.2.2.1)=true→C_ xx xt K)∧(((dh xx xt.lab.2.1).1==xt.lab.2.2.2.1)=false→xt.lab.2.2.2.1.length+([45]:Bs).length≤maxLen∧((decide (((dh xx xt.lab.2.1).1.length:Int)≥((xt.lab.2.2.2.1++([45]:Bs)).length:Int)))=true→(0:Int)≤0∧0≤((xt.lab.2.2.2.1++([45]:Bs)).length:Int)∧((xt.lab.2.2.2.1++([45]:Bs)).length:Int)≤((dh xx xt.lab.2.1).1.length:Int)∧r9 xx xt K)∧((decide (((dh xx xt.lab.2.1).1.length:Int)≥((xt.lab.2.2.2.1++([45]:Bs)).length:Int)))=false→r9 xx xt K)))∧((xt.lab.2.2.1==124)=false→((xt.lab.2.2.2.1==([]:Bs))=true→K false)∧((xt.lab.2.2.2.1==([]:Bs))=false→((xt.lab.2.2.1==126)=true→XR (dh xx xt.lab.2.1).1 xt.lab.2.2.2.1∧K (Dx (dh xx xt.lab.2.1).1 xt.lab.2.2.2.1))∧((xt.lab.2.2.1==126)=false→((xt.lab.2.2.1==94)=true→((decide (((dh xx xt.lab.2.1).1.length:Int)≥(xt.lab.2.2.2.1.length:Int)))=true→(0:Int)≤0∧0≤(xt.lab.2.2.2.1.length:Int)∧(xt.lab.2.2.2.1.length:Int)≤((dh xx xt.lab.2.1).1.length:Int)∧rZ xx xt K)∧((decide (((dh xx xt.lab.2.1).1.length:Int)≥(xt.lab.2.2.2.1.length:Int)))=false→rZ xx xt K))∧((xt.lab.2.2.1==94)=false→((xt.lab.2.2.1==36)=true→((decide (((dh xx xt.lab.2.1).1.length:Int)≥(xt.lab.2.2.2.1.length:Int)))=true→0≤(w6 (((dh xx xt.lab.2.1).1.length:Int) - (xt.lab.2.2.2.1.length:Int)))∧((w6 (((dh xx xt.lab.2.1).1.length:Int) - (xt.lab.2.2.2.1.length:Int))):Int)≤((dh xx xt.lab.2.1).1.length:Int)∧((dh xx xt.lab.2.1).1.length:Int)≤((dh xx xt.lab.2.1).1.length:Int)∧rY xx xt K)∧((decide (((dh xx xt.lab.2.1).1.length:Int)≥(xt.lab.2.2.2.1.length:Int)))=false→rY xx xt K))∧((xt.lab.2.2.1==36)=false→XO (dh xx xt.lab.2.1).1 xt.lab.2.2.2.1∧K (decide (mX (dh xx xt.lab.2.1).1 xt.lab.2.2.2.1≥0)))))))))
def aiN (xx:Nd) (xt:TS) (K:Bool→Prop):Prop :=
 QP xx xt.lab.2.1∧((!(dh xx xt.lab.2.1).2)=true→Kk xx xt K)∧((!(dh xx xt.lab.2.1).2)=false→Kk xx xt K)
theorem abQ {g:ak} {I1:Option Addr} {z2:Nat} {v2:Option Addr} {k2:Nat} (xx:Nd) {b1:Option Addr} {c1:Nat} (xt:TS) (j2:bE g (.slice yA) [.slice I1 xx.2.2.1.length z2] xx.2.2.1) (x2:bE g (.slice (.int .i64)) [.slice v2 xx.2.2.2.2.2.length k2] xx.2.2.2.2.2) (z1:bE g (.slice yP) [.slice b1 xt.kids.length c1] xt.kids) (hG0:bR g 0) (K:Bool→Prop)
  (hF:aiN xx xt K):az prog 114 #[.agg (aN xx I1 z2 v2 k2),.agg (aL xt.lab b1 xt.kids.length c1)] g [] (fun g' H' v=>∃ (r0:Bool),v=.bool r0∧H'=[]∧K r0):=by
 refine aP 78 func114 rfl fun w0=>?_;refine ae (ai (cO fun eT=>?_));refine ai (cO fun dD=>?_);refine av 1 [(2,pv eT 0),(3,pv dD 0)] kr (aa (aF (aR ?_)));obtain ⟨hp3,hF⟩:=hF;refine aj 9 [.e 1,.e 0,.k (TE xx xt.lab.2.1 j2 x2 hp3)] [3] [(5,sv ((dh xx xt.lab.2.1).1)),(6,.bool (dh xx xt.lab.2.1).2)] ?_;refine aa (aF (Ok.block (gB [(3,pv dD 0),(5,sv ((dh xx xt.lab.2.1).1)),(6,.bool (dh xx xt.lab.2.1).2),(14,.bool ((!(dh xx xt.lab.2.1).2)||(xt.lab.2.2.1==0)))] [.blk dD (.cells (aL xt.lab b1 xt.kids.length c1) 60)] (Kk xx xt K) ?_ (fun hF=>?_))))
 ·
  refine aR (ag 3 [3,5,6] [(17,.bool (!(dh xx xt.lab.2.1).2))] ?_);refine bP 17 hF (fun M2 hF=>?_) (fun M2 hF=>?_)
  ·refine ag 5 [3,5,6] [(14,.bool true)] ?_;refine aa (aB 14 ((!(dh xx xt.lab.2.1).2)||(xt.lab.2.2.1==0)) (cK M2) ?_);exact fz hF
  refine aj 5 [.e 0] [3,5,6] [(14,.bool (xt.lab.2.2.1==0))] ?_;refine aa (aB 14 ((!(dh xx xt.lab.2.1).2)||(xt.lab.2.2.1==0)) (bN M2) ?_);exact fz hF
 refine aJ hF (fun hc4 hF=>?_) (fun hc4 hF=>?_)
 ·refine ae (av 2 [(4,.bool (dh xx xt.lab.2.1).2)] kr (aa (Ok.ret (aV (aC ?_)))));exact dE ((dh xx xt.lab.2.1).2) hF
 refine ae (aj 4 [.e 0] [3,5] [(23,.bool (xt.lab.2.2.1==61))] ?_);refine aa (aJ hF (fun jy hF=>?_) (fun jy hF=>?_))
 ·refine ae (aj 5 [.e 0] [] [(4,.bool ((dh xx xt.lab.2.1).1==xt.lab.2.2.2.1))] ?_);refine aa (Ok.ret (aV (aC ?_)));exact dE ((dh xx xt.lab.2.1).1==xt.lab.2.2.2.1) hF
 refine ae (aj 4 [.e 0] [3,5] [(31,.bool (xt.lab.2.2.1==124))] ?_);refine aa (aJ hF (fun hc6 hF=>?_) (fun hc6 hF=>?_))
 ·refine gB [(4,.bool (((dh xx xt.lab.2.1).1==xt.lab.2.2.2.1)||ru xx xt))] [] (C_ xx xt K) ?_ (fun hF=>?_)
  ·
   refine aR (aj 5 [.e 0] [3,5] [(39,.bool ((dh xx xt.lab.2.1).1==xt.lab.2.2.2.1))] ?_);refine bP 39 hF (fun iB hF=>?_) (fun iB hF=>?_)
   ·refine av 7 [(4,.bool true)] kr (aa (aB 4 (((dh xx xt.lab.2.1).1==xt.lab.2.2.2.1)||ru xx xt) (cK iB) ?_));exact fz hF
   refine av 2 [(39,.bool false),(40,sv ((dh xx xt.lab.2.1).1)),(41,pv dD 3)] kr (dZ (af.s (v:=sv xt.lab.2.2.2.1) (aS 0 rfl rfl underlying9 rfl kr) rfl rfl ?_));obtain ⟨hv,hF⟩:=hF;refine dZ (af.s (v:=sv (xt.lab.2.2.2.1++([45]:Bs))) (dz rfl rfl hv) rfl rfl (dZ (bO (args:=#[sv ((dh xx xt.lab.2.1).1),sv (xt.lab.2.2.2.1++([45]:Bs))]) 8 [(0,sv ((dh xx xt.lab.2.1).1)),(1,sv (xt.lab.2.2.2.1++([45]:Bs)))] gU func97 rfl rfl rfl rfl (ae (av 1 [(0,sv ((dh xx xt.lab.2.1).1)),(1,sv (xt.lab.2.2.2.1++([45]:Bs)))] kr (aa (ae (av 2 [(5,sv ((dh xx xt.lab.2.1).1)),(6,sv (xt.lab.2.2.2.1++([45]:Bs)))] kr (ai (bO (args:=#[sv ((dh xx xt.lab.2.1).1),sv (xt.lab.2.2.2.1++([45]:Bs))]) 18 [(0,sv ((dh xx xt.lab.2.1).1)),(1,sv (xt.lab.2.2.2.1++([45]:Bs)))] gU func142 rfl rfl rfl rfl (ae (av 1 [(0,sv ((dh xx xt.lab.2.1).1)),(1,sv (xt.lab.2.2.2.1++([45]:Bs)))] kr (aa (gB [(4,.bool (ru xx xt))] [] (r9 xx xt K) ?_ (fun hF=>?_)))))))))))))))
   ·
    refine aR (ag 6 [0,1] [(10,.bool (decide (((dh xx xt.lab.2.1).1.length:Int)≥((xt.lab.2.2.2.1++([45]:Bs)).length:Int))))] ?_);refine bP 10 hF (fun hc8 hF=>?_) (fun hc8 hF=>?_)
    ·refine ag 3 [1] [(10,.bool true),(11,sv ((dh xx xt.lab.2.1).1)),(13,iv ((xt.lab.2.2.2.1++([45]:Bs)).length:Int))] ?_;obtain ⟨Eo,h19,QX,hF⟩:=hF;refine dZ (af.s (b_ (s:=(dh xx xt.lab.2.1).1) (l:=0) (h:=((xt.lab.2.2.2.1++([45]:Bs)).length:Int)) kr underlying9 (.inr ⟨rfl,rfl⟩) (.inl ⟨_,_,rfl,rfl⟩) Eo h19 QX ((dh xx xt.lab.2.1).1.take (Int.toNat ((xt.lab.2.2.2.1++([45]:Bs)).length:Int))) (by simp)) rfl rfl (aj 4 [] [] [(4,.bool (((dh xx xt.lab.2.1).1.take (Int.toNat ((xt.lab.2.2.2.1++([45]:Bs)).length:Int)))==(xt.lab.2.2.2.1++([45]:Bs))))] ?_));refine aa (aB 4 (ru xx xt) (bn hc8) ?_);exact fz hF
    refine av 8 [(4,.bool false)] kr (aa (aB 4 (ru xx xt) (bZ hc8) ?_));exact fz hF
   refine Ok.ret (bA (vs:=[.bool (ru xx xt)]) (.inl rfl) rfl (.cons (.tmp rfl) .nil) rfl (av 1 [(4,.bool (ru xx xt))] kr (aa (Ok.ret (bA (vs:=[.bool (ru xx xt)]) (.inl rfl) rfl (.cons (.tmp rfl) .nil) rfl (av 2 [(4,.bool (ru xx xt))] kr (aa (aB 4 (((dh xx xt.lab.2.1).1==xt.lab.2.2.2.1)||ru xx xt) (bN iB) ?_))))))));exact fz hF
  refine Ok.ret (aV (aC ?_));exact dE (((dh xx xt.lab.2.1).1==xt.lab.2.2.2.1)||ru xx xt) hF
 refine ae (aj 4 [.e 0] [3,5] [(46,.bool (xt.lab.2.2.2.1==([]:Bs)))] ?_);refine aa (aJ hF (fun s2 hF=>?_) (fun s2 hF=>?_))
 ·refine ae (av 1 [(4,.bool false)] kr (aa (Ok.ret (aV (aC ?_)))));exact dE false hF
 refine ae (aj 4 [.e 0] [3,5] [(50,.bool (xt.lab.2.2.1==126))] ?_);refine aa (aJ hF (fun acV hF=>?_) (fun acV hF=>?_))
 ·refine aF (aR ?_);obtain ⟨N2,hF⟩:=hF;refine aj 5 [.e 0,.k (ajq (dh xx xt.lab.2.1).1 xt.lab.2.2.2.1 N2)] [] [(4,.bool (Dx (dh xx xt.lab.2.1).1 xt.lab.2.2.2.1))] ?_;refine aa (Ok.ret (aV (aC ?_)));exact dE (Dx (dh xx xt.lab.2.1).1 xt.lab.2.2.2.1) hF
 refine ae (aj 4 [.e 0] [3,5] [(58,.bool (xt.lab.2.2.1==94))] ?_);refine aa (aJ hF (fun O2 hF=>?_) (fun O2 hF=>?_))
 ·refine ae (av 2 [(62,sv ((dh xx xt.lab.2.1).1)),(63,pv dD 3)] kr (ai (af.s (v:=sv xt.lab.2.2.2.1) (aS 0 rfl rfl underlying9 rfl kr) rfl rfl (ai (bO (args:=#[sv ((dh xx xt.lab.2.1).1),sv xt.lab.2.2.2.1]) 8 [(0,sv ((dh xx xt.lab.2.1).1)),(1,sv xt.lab.2.2.2.1)] gU func97 rfl rfl rfl rfl (ae (av 1 [(0,sv ((dh xx xt.lab.2.1).1)),(1,sv xt.lab.2.2.2.1)] kr (aa (ae (av 2 [(5,sv ((dh xx xt.lab.2.1).1)),(6,sv xt.lab.2.2.2.1)] kr (ai (bO (args:=#[sv ((dh xx xt.lab.2.1).1),sv xt.lab.2.2.2.1]) 18 [(0,sv ((dh xx xt.lab.2.1).1)),(1,sv xt.lab.2.2.2.1)] gU func142 rfl rfl rfl rfl (ae (av 1 [(0,sv ((dh xx xt.lab.2.1).1)),(1,sv xt.lab.2.2.2.1)] kr (aa (gB [(4,.bool (wm xx xt))] [] (rZ xx xt K) ?_ (fun hF=>?_)))))))))))))))))
  ·
   refine aR (ag 6 [0,1] [(10,.bool (decide (((dh xx xt.lab.2.1).1.length:Int)≥(xt.lab.2.2.2.1.length:Int))))] ?_);refine bP 10 hF (fun P2 hF=>?_) (fun P2 hF=>?_)
   ·refine ag 3 [1] [(10,.bool true),(11,sv ((dh xx xt.lab.2.1).1)),(13,iv (xt.lab.2.2.2.1.length:Int))] ?_;obtain ⟨IL,Nl,Ni,hF⟩:=hF;refine dZ (af.s (b_ (s:=(dh xx xt.lab.2.1).1) (l:=0) (h:=(xt.lab.2.2.2.1.length:Int)) kr underlying9 (.inr ⟨rfl,rfl⟩) (.inl ⟨_,_,rfl,rfl⟩) IL Nl Ni ((dh xx xt.lab.2.1).1.take (Int.toNat (xt.lab.2.2.2.1.length:Int))) (by simp)) rfl rfl (aj 4 [] [] [(4,.bool (((dh xx xt.lab.2.1).1.take (Int.toNat (xt.lab.2.2.2.1.length:Int)))==xt.lab.2.2.2.1))] ?_));refine aa (aB 4 (wm xx xt) (bn P2) ?_);exact fz hF
   refine av 8 [(4,.bool false)] kr (aa (aB 4 (wm xx xt) (bZ P2) ?_));exact fz hF
  refine Ok.ret (bA (vs:=[.bool (wm xx xt)]) (.inl rfl) rfl (.cons (.tmp rfl) .nil) rfl (av 1 [(4,.bool (wm xx xt))] kr (aa (Ok.ret (bA (vs:=[.bool (wm xx xt)]) (.inl rfl) rfl (.cons (.tmp rfl) .nil) rfl (av 1 [(4,.bool (wm xx xt))] kr (aa (Ok.ret (aV (aC ?_))))))))));exact dE (wm xx xt) hF
 refine ae (aj 4 [.e 0] [3,5] [(66,.bool (xt.lab.2.2.1==36))] ?_);refine aa (aJ hF (fun R2 hF=>?_) (fun R2 hF=>?_))
 ·refine ae (av 2 [(70,sv ((dh xx xt.lab.2.1).1)),(71,pv dD 3)] kr (ai (af.s (v:=sv xt.lab.2.2.2.1) (aS 0 rfl rfl underlying9 rfl kr) rfl rfl (ai (bO (args:=#[sv ((dh xx xt.lab.2.1).1),sv xt.lab.2.2.2.1]) 8 [(0,sv ((dh xx xt.lab.2.1).1)),(1,sv xt.lab.2.2.2.1)] gU func154 rfl rfl rfl rfl (ae (av 1 [(0,sv ((dh xx xt.lab.2.1).1)),(1,sv xt.lab.2.2.2.1)] kr (aa (ae (av 2 [(5,sv ((dh xx xt.lab.2.1).1)),(6,sv xt.lab.2.2.2.1)] kr (ai (bO (args:=#[sv ((dh xx xt.lab.2.1).1),sv xt.lab.2.2.2.1]) 21 [(0,sv ((dh xx xt.lab.2.1).1)),(1,sv xt.lab.2.2.2.1)] gU func172 rfl rfl rfl rfl (ae (av 1 [(0,sv ((dh xx xt.lab.2.1).1)),(1,sv xt.lab.2.2.2.1)] kr (aa (gB [(4,.bool (uo xx xt))] [] (rY xx xt K) ?_ (fun hF=>?_)))))))))))))))))
  ·
   refine aR (ag 6 [0,1] [(10,.bool (decide (((dh xx xt.lab.2.1).1.length:Int)≥(xt.lab.2.2.2.1.length:Int))))] ?_);refine bP 10 hF (fun T2 hF=>?_) (fun T2 hF=>?_)
   ·refine ag 6 [1] [(10,.bool true),(11,sv ((dh xx xt.lab.2.1).1)),(16,iv (w6 (((dh xx xt.lab.2.1).1.length:Int) - (xt.lab.2.2.2.1.length:Int))))] ?_;obtain ⟨Nr,Nk,adX,hF⟩:=hF;refine dZ (af.s (b_ (s:=(dh xx xt.lab.2.1).1) (l:=(w6 (((dh xx xt.lab.2.1).1.length:Int) - (xt.lab.2.2.2.1.length:Int)))) (h:=((dh xx xt.lab.2.1).1.length:Int)) kr underlying9 (.inl ⟨_,_,rfl,rfl⟩) (.inr ⟨rfl,rfl⟩) Nr Nk adX ((dh xx xt.lab.2.1).1.drop (Int.toNat (w6 (((dh xx xt.lab.2.1).1.length:Int) - (xt.lab.2.2.2.1.length:Int))))) (by rw [show ((dh xx xt.lab.2.1).1.length:Int).toNat=(dh xx xt.lab.2.1).1.length from dR _,iX])) rfl rfl (aj 4 [] [] [(4,.bool (((dh xx xt.lab.2.1).1.drop (Int.toNat (w6 (((dh xx xt.lab.2.1).1.length:Int) - (xt.lab.2.2.2.1.length:Int)))))==xt.lab.2.2.2.1))] ?_));refine aa (aB 4 (uo xx xt) (bn T2) ?_);exact fz hF
   refine av 11 [(4,.bool false)] kr (aa (aB 4 (uo xx xt) (bZ T2) ?_));exact fz hF
  refine Ok.ret (bA (vs:=[.bool (uo xx xt)]) (.inl rfl) rfl (.cons (.tmp rfl) .nil) rfl (av 1 [(4,.bool (uo xx xt))] kr (aa (Ok.ret (bA (vs:=[.bool (uo xx xt)]) (.inl rfl) rfl (.cons (.tmp rfl) .nil) rfl (av 1 [(4,.bool (uo xx xt))] kr (aa (Ok.ret (aV (aC ?_))))))))));exact dE (uo xx xt) hF
 refine Ok.k (bG (Ok.t (ae (av 2 [(74,sv ((dh xx xt.lab.2.1).1)),(75,pv dD 3)] kr (ai (af.s (v:=sv xt.lab.2.2.2.1) (aS 0 rfl rfl underlying9 rfl kr) rfl rfl (ai (bO (args:=#[sv ((dh xx xt.lab.2.1).1),sv xt.lab.2.2.2.1]) 9 [(0,sv ((dh xx xt.lab.2.1).1)),(1,sv xt.lab.2.2.2.1)] gU func155 rfl rfl rfl rfl (ae (av 1 [(0,sv ((dh xx xt.lab.2.1).1)),(1,sv xt.lab.2.2.2.1)] kr (aa (aF (aR ?_)))))))))))));obtain ⟨Y2,hF⟩:=hF;refine aj 5 [.k (ZN (dh xx xt.lab.2.1).1 xt.lab.2.2.2.1 hG0 Y2)] [] [(4,.bool (decide (mX (dh xx xt.lab.2.1).1 xt.lab.2.2.2.1≥0)))] ?_;refine aa (Ok.ret (bA (vs:=[.bool (decide (mX (dh xx xt.lab.2.1).1 xt.lab.2.2.2.1≥0))]) (.inl rfl) rfl (.cons (.tmp rfl) .nil) rfl (av 1 [(4,.bool (decide (mX (dh xx xt.lab.2.1).1 xt.lab.2.2.2.1≥0)))] kr (aa (Ok.ret ?_)))));exact dE (decide (mX (dh xx xt.lab.2.1).1 xt.lab.2.2.2.1≥0)) hF
theorem BH {l:List (Bs×Bs)} (h:∀ a ∈ l,a.2.length≤400) (n:Bs):(jK l n).1.length≤400:=by
 induction l with
 | nil=>exact ik _
 | cons a l ih =>
  rw [jK]
  split
  ·exact h a (cz ..)
  exact ih fun b hb=>h b (dK _ hb)
theorem aiM (x:ND) (t:Ts) (hp:Xw x t):aiN x t (fun a=>a=Hu x t):=by
 obtain ⟨hA,hv⟩:=hp;have hl:=BH hA.2 t.lab.2.1
 have j7:Kk x t (fun a=>a=Hu x t):=by
  have e1:ru x t=preB (jK x.2.2.1 t.lab.2.1).1 (t.lab.2.2.2.1++[45]):=rfl;have e2:wm x t=preB (jK x.2.2.1 t.lab.2.1).1 t.lab.2.2.2.1:=rfl
  have e3:decide (((jK x.2.2.1 t.lab.2.1).1.length:Int)≥(t.lab.2.2.2.1.length:Int))=true→uo x t=R5 (jK x.2.2.1 t.lab.2.1).1 t.lab.2.2.2.1:=fun h=>by
   have h:=df h;show (decide _&&(((jK x.2.2.1 t.lab.2.1).1.drop (Int.toNat (w6 (((jK x.2.2.1 t.lab.2.1).1.length:Int) - (t.lab.2.2.2.1.length:Int)))))==t.lab.2.2.2.1))=_;rw [fU om,show Int.toNat (((jK x.2.2.1 t.lab.2.1).1.length:Int) - (t.lab.2.2.2.1.length:Int))=(jK x.2.2.1 t.lab.2.1).1.length - t.lab.2.2.2.1.length by omega];rfl
  have e4:decide (((jK x.2.2.1 t.lab.2.1).1.length:Int)≥(t.lab.2.2.2.1.length:Int))=false→uo x t=R5 (jK x.2.2.1 t.lab.2.1).1 t.lab.2.2.2.1:=fun h=>by
   show (decide _&&_)=(decide _&&_);rw [show decide (((dh x t.lab.2.1).1.length:Int)≥(t.lab.2.2.2.1.length:Int))=false from h,h]; rfl
  have hS:Hu x t=((jK x.2.2.1 t.lab.2.1).2&&(t.lab.2.2.1==0||u_ (jK x.2.2.1 t.lab.2.1).1 t.lab)):=rfl;generalize hr:Hu x t=r at hS;unfold Kk C_ r9 rZ rY C_;rw [e1,e2,show dh x t.lab.2.1=jK x.2.2.1 t.lab.2.1 from rfl];generalize jK x.2.2.1 t.lab.2.1=a at hl e3 e4 hS
  have go:∀ {b:Bool},(!a.2||t.lab.2.2.1==0)=false→b=u_ a.1 t.lab→b=r:=fun h hb=>by
   rw [dB,eX] at h;rw [hS,h.1,h.2,hb]; rfl
  have hlen:((t.lab.2.2.2.1++([45]:Bs)).length:Int)=(t.lab.2.2.2.1.length:Int)+1:=by rw [bD]; rfl
  refine ⟨fun h0=>?_,fun h0=>⟨fun h1=>go h0 ?_,fun h1=>⟨fun h2=>⟨fun h=>go h0 ?_,fun h=>⟨?_,fun hh=>⟨lv _,om,df hh,go h0 ?_⟩,fun hh=>go h0 ?_⟩⟩,fun h2=>⟨fun h3=>go h0 ?_,fun h3=>⟨fun h4=>⟨?_,go h0 ?_⟩,fun h4=>⟨fun h5=>⟨fun hh=>⟨lv _,om,df hh,go h0 ?_⟩,fun hh=>go h0 ?_⟩,fun h5=>⟨fun h6=>⟨fun hh=>⟨?_,?_,lv _,go h0 ?_⟩,fun hh=>go h0 ?_⟩,fun h6=>⟨?_,go h0 ?_⟩⟩⟩⟩⟩⟩⟩⟩
  ·rw [hS]
   cases ha:a.2 with
   | false=>rfl
   | true =>
    rw [ha,Bool.not_true,lC] at h0;rw [h0]; rfl
  ·unfold u_; rw [aU h1]
  ·unfold u_; rw [aG h1,aU h2]
  ·show t.lab.2.2.2.1.length+1≤maxLen
   have:(2000001:Nat)≤maxLen:=by decide
   omega
  ·unfold u_; rw [aG h1,aU h2]
  ·unfold u_; rw [aG h1,aU h2]
  ·unfold u_; rw [aG h1,aG h2,aU h3]
  ·show a.1.length≤1000; omega
  ·unfold u_; rw [aG h1,aG h2,aG h3,aU h4]
  ·unfold u_; rw [aG h1,aG h2,aG h3,aG h4,aU h5]
  ·unfold u_; rw [aG h1,aG h2,aG h3,aG h4,aU h5]
  ·have:=df hh; rw [fU om]; omega
  ·have:=df hh; rw [fU om]; omega
  ·unfold u_; rw [aG h1,aG h2,aG h3,aG h4,aG h5,aU h6]; exact e3 hh
  ·unfold u_; rw [aG h1,aG h2,aG h3,aG h4,aG h5,aU h6]; exact e4 hh
  ·show a.1.length<4294967281; omega
  unfold u_; rw [aG h1,aG h2,aG h3,aG h4,aG h5,aG h6]
 exact ⟨by show x.2.2.1.length≤1000; have:=hA.1; omega,fun _=>j7,fun _=>j7⟩
theorem aiL {g:ak} {I1:Option Addr} {z2:Nat} {v2:Option Addr} {k2:Nat} (xx:Nd) {b1:Option Addr} {c1:Nat} (xt:TS) (j2:bE g (.slice yA) [.slice I1 xx.2.2.1.length z2] xx.2.2.1) (x2:bE g (.slice (.int .i64)) [.slice v2 xx.2.2.2.2.2.length k2] xx.2.2.2.2.2) (z1:bE g (.slice yP) [.slice b1 xt.kids.length c1] xt.kids) (hG0:bR g 0)  (hp:Xw xx xt):bC prog 114 #[.agg (aN xx I1 z2 v2 k2),.agg (aL xt.lab b1 xt.kids.length c1)] g (.bool (Hu xx xt)) :=
 (abQ xx xt j2 x2 z1 hG0 _ (aiM xx xt hp)).gv
def nX (a b i:Int):Bool:=if a=0 then i==b else ((i - b).tmod a==0)&&decide (0≤(i - b).tdiv a)
def Ms (a b i:Int):Bool:=decide (a < -1000)||(decide (b < -1000)||(decide (1000<a)||(decide (1000<b)||(decide (i<1)||decide (200<i)))))
def kD (a b i:Int):Bool:=if Ms a b i=true then false else nX a b i
def CZ (xa:Int) (xb:Int) (xi:Int):Bool :=
 (((Int.tmod (w6 (xi - xb)) xa)==0)&&(decide ((w6 (Int.tdiv (w6 (xi - xb)) xa))≥0)))
def Ho (xa:Int) (xb:Int) (xi:Int) (K:Bool→Prop):Prop :=
 K (CZ xa xb xi)
def abO (xa:Int) (xb:Int) (xi:Int) (K:Bool→Prop):Prop :=
 (((((decide ((if xb<xa then xb else xa)<(-1000)))||(decide ((if xa<xb then xb else xa)>1000)))||decide (xi<1))||decide (xi>200))=true→K false)∧(((((decide ((if xb<xa then xb else xa)<(-1000)))||(decide ((if xa<xb then xb else xa)>1000)))||decide (xi<1))||decide (xi>200))=false→((xa==0)=true→K (xi==xb))∧((xa==0)=false→xa≠0∧(((Int.tmod (w6 (xi - xb)) xa)==0)=true→xa≠0∧Ho xa xb xi K)∧(((Int.tmod (w6 (xi - xb)) xa)==0)=false→Ho xa xb xi K)))
abbrev Hq (xa xb:Int):Bool:=(decide ((if xb<xa then xb else xa)<(-1000)))||(decide ((if xa<xb then xb else xa)>1000))
theorem abN {g:ak} (xa:Int) (xb:Int) (xi:Int) (K:Bool→Prop)
  (hF:abO xa xb xi K):az prog 117 #[iv xa,iv xb,iv xi] g [] (fun g' H' v=>∃ (r0:Bool),v=.bool r0∧H'=[]∧K r0):=by
 refine aP 44 func117 rfl fun w0=>?_;let D:=decide ((if xb<xa then xb else xa)<(-1000));refine ae (av 1 [(0,iv xa),(1,iv xb),(2,iv xi)] kr (aa (aF (ae (ag 5 [0,1,2] [(11,.bool D)] ?_)))));refine Ok.w 5 [(0,iv xa),(1,iv xb),(2,iv xi),(16,.bool (Hq xa xb))] (fun AL=>?_) ?_
 ·refine Ok.a 11 D rfl (fun hc2=>?_) (fun hc2=>?_)
  ·skip;refine ag 5 [0,1,2] [(16,.bool true)] ?_;refine aB 16 (Hq xa xb) (cK hc2) (ag 0 [0,1,2] [(16,.bool (Hq xa xb))] ?_);exact AL
  skip;refine ag 5 [0,1,2] [(16,.bool (decide ((if xa<xb then xb else xa)>1000)))] ?_;refine aB 16 (Hq xa xb) (bN hc2) (ag 0 [0,1,2] [(16,.bool (Hq xa xb))] ?_);exact AL
 refine ag 1 [0,1,2] [(17,.bool (Hq xa xb))] ?_;let A:=Hq xa xb||decide (xi<1);refine Ok.w 3 [(0,iv xa),(1,iv xb),(2,iv xi),(20,.bool A)] (fun Iu=>?_) ?_
 ·refine Ok.a 17 (Hq xa xb) rfl (fun hc4=>?_) (fun hc4=>?_)
  ·skip;refine ag 3 [0,1,2] [(20,.bool true)] ?_;refine aB 20 A (cK hc4) (ag 0 [0,1,2] [(20,.bool A)] ?_);exact Iu
  skip;refine ag 3 [0,1,2] [(20,.bool (decide (xi<1)))] ?_;refine aB 20 A (bN hc4) (ag 0 [0,1,2] [(20,.bool A)] ?_);exact Iu
 refine ag 1 [0,1,2] [(21,.bool A)] ?_;let B:=A||decide (xi>200);refine Ok.w 3 [(0,iv xa),(1,iv xb),(2,iv xi),(24,.bool B)] (fun Bp=>?_) ?_
 ·refine Ok.a 21 A rfl (fun hc6=>?_) (fun hc6=>?_)
  ·skip;refine ag 3 [0,1,2] [(24,.bool true)] ?_;refine aB 24 B (cK hc6) (ag 0 [0,1,2] [(24,.bool B)] ?_);exact Bp
  skip;refine ag 3 [0,1,2] [(24,.bool (decide (xi>200)))] ?_;refine aB 24 B (bN hc6) (ag 0 [0,1,2] [(24,.bool B)] ?_);exact Bp
 refine aa (aJ hF (fun iB hF=>?_) (fun iB hF=>?_))
 ·refine ae (av 1 [(6,.bool false)] kr (aa (Ok.ret (aC ?_))));exact dE false hF
 refine Ok.k (Ok.t (aF (ae (ag 2 [0,1,2] [(26,.bool (xa==0))] ?_))));refine aa (aJ hF (fun hc8 hF=>?_) (fun hc8 hF=>?_))
 ·refine ae (av 4 [(6,.bool (xi==xb))] kr (aa (Ok.ret (aC ?_))));exact dE (xi==xb) hF
 refine Ok.k (Ok.t (gB [(6,.bool (CZ xa xb xi))] [] (Ho xa xb xi K) ?_ (fun hF=>?_)))
 ·
  let C:=w6 (xi - xb);refine aR (ag 4 [0,1,2] [(32,iv C),(33,iv xa)] ?_);obtain ⟨hv,hF⟩:=hF;refine ai (af.s (v:=iv (Int.tmod C xa)) (Yields.rem rfl rfl hv) rfl rfl (ag 2 [0,1,2] [(36,.bool ((Int.tmod C xa)==0))] ?_));refine bP 36 hF (fun mq hF=>?_) (fun mq hF=>?_)
  ·refine av 4 [(36,.bool true),(39,iv C),(40,iv xa)] kr ?_;obtain ⟨hv,hF⟩:=hF;refine dZ (af.s (v:=iv (w6 (Int.tdiv C xa))) (Yields.quo rfl rfl hv) rfl rfl (av 3 [(6,.bool (decide ((w6 (Int.tdiv C xa))≥0)))] kr (aa (aB 6 (CZ xa xb xi) (bn mq) ?_))));exact fz hF
  refine av 8 [(6,.bool false)] kr (aa (aB 6 (CZ xa xb xi) (bZ mq) ?_));exact fz hF
 refine Ok.ret ?_;exact dE (CZ xa xb xi) hF
theorem Oz (x a:Int) (n:Nat) (h : -n≤x) (h':x≤n) : -(n:Int)≤x.tdiv a∧x.tdiv a≤n:=by
 have h1:=Int.natAbs_tdiv x a;have h2:=Nat.div_le_self x.natAbs a.natAbs;have h3:x.natAbs.div a.natAbs=x.natAbs / a.natAbs:=rfl;omega
theorem aiH (a b i:Int):abO a b i (fun r=>r=kD a b i):=by
 have e:(((decide ((if b<a then b else a)<(-1000))||decide ((if a<b then b else a)>1000))||decide (i<1))||decide (i>200))=Ms a b i:=by
  unfold Ms;rw [uX];simp only [dY,dI];omega
 unfold abO Ho;rw [e];refine ⟨fun h=>by unfold kD; rw [aU h],fun h=>?_⟩
 have hb : -1000≤a∧a≤1000∧-1000≤b∧b≤1000∧1≤i∧i≤200:=by
  unfold Ms at h;simp only [dB,eP] at h;omega
 have hn:kD a b i=nX a b i:=by unfold kD; rw [aG h]
 rw [hn];refine ⟨fun h0=>?_,fun h0=>?_⟩
 ·unfold nX; rw [bB (eq_of_beq h0)]
 have h0:¬ a=0:=by simpa using h0
 have hv:CZ a b i=nX a b i:=by
  unfold CZ nX;rw [aQ h0];obtain ⟨d1,d2⟩:=Oz (i - b) a 2000 om om;rw [fU (x:=i - b) om,fU (x:=(i - b).tdiv a) om]
 rw [hv];exact ⟨h0,fun _=>⟨h0,rfl⟩,fun _=>rfl⟩
theorem aiG {g:ak} (xa:Int) (xb:Int) (xi:Int)  : bC prog 117 #[iv xa,iv xb,iv xi] g (.bool (kD xa xb xi)) :=
 (abN xa xb xi _ (aiH xa xb xi)).gv
def lI (d:DC) (n:Int):ND:=d.1.getD n.toNat default
def wId:Bs:=[105,100]
def oP:Bs:=[99,108,97,115,115]
def rch (nx:Int→Int→List Int):List (Int→Bool)→List Int→Int→Bool
 | [],_,_=>false
 | f::fs,js,n=>f n&&(fs.isEmpty||(nx n (js.headD 0)).any fun m=>rch nx fs js.tail m)
def KJ (d:DC) (x:Lb) (n:Int) (v:Bool):Bool :=
 if (x.1==2)=true then (lI d n).2.1==x.2.1
 else if (x.1==3)=true then (jK (lI d n).2.2.1 wId).2&&((jK (lI d n).2.2.1 wId).1==x.2.1)
 else if (x.1==4)=true then Dx (jK (lI d n).2.2.1 oP).1 x.2.1
 else if (x.1==5)=true then Hu (lI d n) (.mk x [])
 else if (x.1==6)=true then par d.1 n.toNat==0
 else if (x.1==7)=true then MH d n
 else if (x.1==8)=true then (decide (0≤(cB d n).2)&&kD x.2.2.2.2.1 x.2.2.2.2.2 ((cB d n).2+1))
 else if (x.1==9)=true then (decide (0≤(cB d n).2)&&kD x.2.2.2.2.1 x.2.2.2.2.2 (((cB d n).1.length:Int) - (cB d n).2))
 else if (x.1==10)=true then !v else if (x.1==11)=true then v else true
mutual
def EC (d:DC):Ts→Int→Bool
 | .mk x l,n=>KJ d x n (xk d l n)
def xk (d:DC):List Ph→Int→Bool
 | [],_=>false
 | (p,js)::l,n=>rch (mnxS d) (AQ d p).reverse js.reverse n||xk d l n
def AQ (d:DC):List (List Ts)→List (Int→Bool)
 | []=>[]
 | s::p=>(fun n=>eU d n&&all1 d s n)::AQ d p
def all1 (d:DC):List Ts→Int→Bool
 | [],_=>true
 | t::s,n=>EC d t n&&all1 d s n
end
def AA (d:DC) (n:Int) (t:Ts):Bool:=EC d t n
def Ex (d:DC) (n:Int) (p:Ph):Bool:=rch (mnxS d) (AQ d p.1).reverse p.2.reverse n
def tL (d:DC) (n:Int) (l:List Ph):Bool:=xk d l n
def QO (N:Nat) (d:DC) (n:Int) (t:Ts):Prop:=bT t<N∧bT t≤1048600∧gN d∧nu d n∧eU d n=true∧∃ i,yh t i=true
def anD (p:Ph):Prop:=p.1≠[]∧p.2.length+1=p.1.length∧uk p.1=true∧∀ z ∈ p.2,zw z=true
def QN (N:Nat) (d:DC) (n:Int) (p:Ph):Prop:=w2 p.1+1<N∧w2 p.1≤1048600∧gN d∧nu d n∧anD p
def Ke (N:Nat) (d:DC) (n:Int) (l:List Ph):Prop:=b3 l<N∧b3 l≤1048600∧gN d∧nu d n∧rV l=true
theorem GR {t:Ts}:∀ {s:List Ts} {i:Int},ok1 s i=true→t ∈ s→∃ i,yh t i=true
 | [],_,_,h=>by cases h
 | u::s,i,h,ht=>by
  rw [ok1,aH] at h
  rcases eO.1 ht with rfl | ht
  ·exact ⟨_,h.1⟩
  exact GR h.2 ht
theorem rW {s:List Ts}:∀ {p:List (List Ts)},uk p=true→s ∈ p→∃ i,ok1 s i=true
 | [],_,h=>by cases h
 | u::p,h,hs=>by
  rw [uk,aH,aH] at h
  rcases eO.1 hs with rfl | hs
  ·exact ⟨_,h.1⟩
  exact rW h.2.2 hs
def okQ (q:Ph):Prop:=q.1≠[]∧q.2.length+1=q.1.length∧∀ z ∈ q.2,zw z=true
theorem kI {q:Ph}:∀ {l:List Ph},rV l=true→q ∈ l→okQ q∧uk q.1=true
 | [],_,h=>by cases h
 | u::l,h,hq=>by
  rw [kJ,aH,aH,aH] at h
  rcases eO.1 hq with rfl | hq
  ·obtain ⟨h1,h2,h3,h4⟩:=h;rw [dC,dB] at h1
   have h5:¬ ((q.1.length:Int)=0):=by simpa using h1.1
   have h6:(q.2.length:Int)=(q.1.length:Int) - 1:=by simpa using h1.2
   exact ⟨⟨fun e=>h5 (by rw [e]; rfl),om,fun z hz=>(l7.1 h3) z hz⟩,h2⟩
  exact kI h.2.2.2 hq
theorem FW (d:DC) (q:Ph) (l:List Ph) (n:Int):xk d (q::l) n=(rch (mnxS d) (AQ d q.1).reverse q.2.reverse n||xk d l n):=by obtain ⟨p,js⟩:=q; rw [xk]
theorem JW {nx:Int→Int→List Int} {f:Int→Bool} {fs:List (Int→Bool)} {j:Int} {js:List Int} (h:fs≠[]) (n:Int):rch nx (f::fs) (j::js) n=(f n&&(nx n j).any fun m=>rch nx fs js m):=by
 rw [rch]
 cases fs with
 | nil=>exact absurd rfl h
 | cons g fs=>rfl
theorem Bq (d:DC):∀ p:List (List Ts),AQ d p=p.map fun s n=>eU d n&&all1 d s n
 | []=>rfl
 | s::p=>by rw [AQ,Bq d p]; rfl
theorem abZ {d:DC} (hG:gN d) {n m:Int} (hn:nu d n) (h:m ∈ d_ d n):nu d m:=by
 unfold d_ at h
 split at h
 ·rw [il] at h; subst h; exact hn
 rename_i hc
 have hc:¬ par d.1 n.toNat<0:=by simpa using hc
 have hp:=CR hG hn hc;have:=hG.kids.kid _ (by have:=hp.1; have:=hp.2; omega) m (pK.1 h).1;exact ⟨this.1,this.2.1⟩
theorem VN {d:DC} {m:Int}:∀ {k:Nat} {p:Int},Ends d.1 k p→m ∈ ancN d.1 k p→nu d m
 | 0,p,_,h=>by cases h
 | k+1,p,hE,h=>by
  rw [ancN] at h
  split at h
  ·rename_i hc
   have hc:=df hc
   rcases eO.1 h with h | h
   ·subst h; exact ⟨om,IX hE om⟩
   rcases hE with hE | hE
   ·omega
   exact VN hE.2 h
  cases h
theorem Od {d:DC} (hG:gN d) {n:Int} (hn:nu d n):Ends d.1 42 (par d.1 n.toNat):=by
 have h2:=PN hG (n:=n.toNat) (by have:=hn.1; have:=hn.2; omega);rw [show ((n.toNat:Nat):Int)=n by have:=hn.1; omega] at h2;exact (PM (k:=40) h2 hn.1).mono om
theorem ME {d:DC} (hG:gN d) {n j m:Int} (hn:nu d n) (h:m ∈ mnxS d n j):nu d m:=by
 unfold mnxS at h;have hu:∀ {m},m ∈ upS d n→nu d m:=fun h=>VN (Od hG hn) h;have hk:∀ {m},m ∈ ((cB d n).1.take (cB d n).2.toNat).reverse→nu d m:=fun h=>abZ hG hn (Ee (List.mem_reverse.1 h))
 split at h
 ·split at h
  ·exact hu (Ee h)
  exact hu h
 split at h
 ·exact hk (Ee h)
 exact hk h
def nO (l:List Int):List Int:=Lib.compact l
def afd (l:List Int):Prop:=l.length≤1000000000000
theorem afc {d:Array Int} {j:Nat} (h:Lib.keeps d j=true):j=0∨d[j]!≠d[j - 1]!:=df h
theorem YM (l:List Int) (x:Int):x ∈ nO l↔x ∈ l:=by
 unfold nO Lib.compact Lib.compactUpTo;rw [List.mem_map];constructor
 ·rintro ⟨j,hj,rfl⟩;have hj:=xu.1 (pK.1 hj).1
  have e:l.toArray[j]! = l[j]:=by simp [hj]
  rw [e]; exact zU hj
 intro h;obtain ⟨i,hi,e⟩:=List.getElem_of_mem h
 have key:∀ i (hi:i<l.length),l[i]=x→∃ a,a ∈ (List.range l.length).filter (Lib.keeps l.toArray)∧l.toArray[a]! = x:=by
  intro i
  induction i with
  | zero =>
   intro hi e;exact ⟨0,pK.2 ⟨xu.2 hi,by simp [Lib.keeps]⟩,by simp [hi,e]⟩
  | succ i ih =>
   intro hi e
   by_cases hk:l.toArray[i+1]! = l.toArray[i]!
   ·refine ih om ?_
    have e2:l.toArray[i]! = l[i]:=by simp [show i<l.length by omega]
    have e1:l.toArray[i+1]! = l[i+1]:=by simp [hi]
    rw [← e2,← hk,e1,e]
   exact ⟨i+1,pK.2 ⟨xu.2 hi,by simp only [Lib.keeps,dI]; exact .inr hk⟩,by simp [hi,e]⟩
 exact key i hi e
theorem Re {l:List Int} (h:l.Pairwise fun x y=>x≤y):(nO l).Nodup:=by
 unfold nO Lib.compact Lib.compactUpTo;have hg:=List.pairwise_iff_getElem.1 h
 have h1:((List.range l.length).filter (Lib.keeps l.toArray)).Pairwise fun a b=>l.toArray[a]!≠l.toArray[b]!:=by
  refine List.Pairwise.imp_of_mem ?_ ((List.pairwise_lt_range (n:=l.length)).filter _);intro a b ha hb hab;have ha':=xu.1 (pK.1 ha).1;have hb':=xu.1 (pK.1 hb).1;have hk:=afc (pK.1 hb).2
  have e:∀ j (hj:j<l.length),l.toArray[j]! = l[j]:=fun j hj=>by simp [hj]
  rcases hk with hk | hk
  ·omega
  rw [e b hb',e (b - 1) om] at hk;rw [e a ha',e b hb'];have q1:=hg (b - 1) b om hb' om
  by_cases apw:a=b - 1
  ·subst apw; exact fun h=>hk h.symm
  have q2:=hg a (b - 1) ha' om om;intro he; apply hk; omega
 exact List.pairwise_map.2 h1
theorem Sd (l:List Int):(nT l).Pairwise fun x y=>x≤y:=by
 have:=List.pairwise_mergeSort (le:=fun x y:Int=>decide (x≤y)) (fun a b c h1 h2=>by simp only [dI] at *; omega) (fun a b=>by simp only [dY,dI]; omega) l;exact this.imp fun h=>df h
theorem Wy (l:List Int) (x:Int):x ∈ nT l↔x ∈ l:=List.mem_mergeSort
theorem alh {g:ak} {a:Option Addr} {c:Nat} {xs:List Value} (l:List Int) (hL:aW g (.int .i64) xs l) (hp:afd l):az prog 75 #[.slice a l.length c] g [.own (.slice a l.length c) 3 1 l.length xs] (fun g' H' v=>∃ (Av:Option Addr) (Au:Nat) (f3:List Value),v=.slice Av (nO l).length Au∧aW g' (.int .i64) f3 (nO l)∧H'=[.own (.slice Av (nO l).length Au) 3 1 (nO l).length f3]):=by
 intro W hW;unfold afd at hp;have hx:=kS hL;subst hx
 have hle:(nO l).length≤l.length:=by
  unfold nO Lib.compact Lib.compactUpTo;rw [iY];exact gQ (zT ..) (by rw [List.length_range]; exact fP _)
 have hok:W.ownsRow 0 3 1 (.slice a l.length c) l.length (l.map (Value.int .i64)):=hW.f_ _ (il.2 rfl)
 rcases hok.2 with ⟨hv,hn⟩ | ⟨q,cap,cur,hv,hb,hh,h1,h2,h3,h4⟩
 ·obtain rfl:l=[]:=iO hn;refine (Tryz.slices_Compact_int_empty a c W).mono fun e W' ⟨he,hw⟩=>?_;subst hw;exact ⟨_,g,_,he,⟨a,c,[],rfl,rfl,rfl⟩,bu _ _,hW⟩
 obtain ⟨rfl,rfl⟩:a=some ⟨q,0,none⟩∧c=cap:=by cases hv; exact ⟨rfl,rfl⟩
 have hH:=holds_of_block_i hh (by rw [Nat.mul_one] at h4; exact h4);refine (Tryz.slices_Compact_int q 0 c l W hH om h1).mono fun e W' ⟨he,n,hw⟩=>?_
 have hlt:(nO l++List.replicate (l.length - (nO l).length) 0).length=l.length:=by rw [bD,List.length_replicate]; omega
 have hw:W'=grow (putRow encZ (Sort.ahead W n) q 0 (nO l++List.replicate (l.length - (nO l).length) 0).toArray) #[]:=by rw [hw,grow_empty]; rfl
 subst hw;have ho:=ownsRow_sorted_i (w:=W) (base:=0) (n:=n) (os:=#[]) hlt (ik _) hh h1 h2 h3;refine ⟨_,g,_,he,⟨some ⟨q,0,none⟩,c,(nO l).map (Value.int .i64),rfl,CF _,rfl⟩,bu _ _,?_⟩
 have:=hW.grown (i:=0) rfl (grownBy_sorted_i (n:=n) (os:=#[]) (nO l++List.replicate (l.length - (nO l).length) 0).toArray) (e':=.own (.slice (some ⟨q,0,none⟩) (nO l).length c) 3 1 (nO l).length ((nO l).map (Value.int .i64))) (by
  refine ⟨by simp,?_⟩
  rcases ho.2 with ⟨hv,-⟩ | ⟨q',cap',cur',hv',hb',hh',h1',h2',h3',h4'⟩
  ·cases hv
  obtain ⟨rfl,rfl⟩:q=q'∧c=cap':=by cases hv'; exact ⟨rfl,rfl⟩
  refine .inr ⟨q,c,cur',rfl,hb',hh',om,h2',h3',?_⟩;rw [Nat.mul_one] at h4' ⊢;have:=aA (List.take (nO l).length) h4';rw [xq,og hle,uT,List.take_left' (by rw [iY])] at this
  exact this) (.inl rfl)
 exact this
def Pk (N:Nat):Prop:=∀ (g:ak) {n0:Option Addr} {o0:Nat} (xd:Dc) (xn:Int) {b1:Option Addr} {c1:Nat} (xt:TS) (s0:bE g qj [.slice n0 xd.1.length o0] xd.1) (z1:bE g (.slice yP) [.slice b1 xt.kids.length c1] xt.kids) (hG0:bR g 0)  (hp:QO N xd xn xt),bC prog 72 #[.agg (aD xd n0 o0),iv xn,.agg (aL xt.lab b1 xt.kids.length c1)] g (.bool (AA xd xn xt))
def Pf (N:Nat):Prop:=∀ (g:ak) {n0:Option Addr} {o0:Nat} (xd:Dc) (xn:Int) {R0:Option Addr} {T0:Nat} {L0:Option Addr} {A0:Nat} (xp:PH) (s0:bE g qj [.slice n0 xd.1.length o0] xd.1) (t0:bE g (.slice (.slice yS)) [.slice R0 xp.1.length T0] xp.1) (a0:bE g (.slice yb) [.slice L0 xp.2.length A0] xp.2) (hG0:bR g 0)  (hp:QN N xd xn xp),bC prog 42 #[.agg (aD xd n0 o0),iv xn,.agg #[.slice R0 xp.1.length T0,.slice L0 xp.2.length A0]] g (.bool (Ex xd xn xp))
def Pe (N:Nat):Prop:=∀ (g:ak) {n0:Option Addr} {o0:Nat} (xd:Dc) (xn:Int) {v1:Option Addr} {k1:Nat} (xl:List PH) (s0:bE g qj [.slice n0 xd.1.length o0] xd.1) (B1:bE g (.slice yP) [.slice v1 xl.length k1] xl) (hG0:bR g 0)  (hp:Ke N xd xn xl),bC prog 23 #[.agg (aD xd n0 o0),iv xn,.slice v1 xl.length k1] g (.bool (tL xd xn xl))
def Kj (xt:TS) (e4:Nd):Bool :=
 ((dh e4 ([105,100]:Bs)).2&&((dh e4 ([105,100]:Bs)).1==xt.lab.2.1))
def tC (xd:Dc) (xn:Int) (xt:TS):Int :=
 (if (xt.lab.1==9)=true then w6 ((w6 (((cB xd xn).1.length:Int) - 1)) - (cB xd xn).2) else (cB xd xn).2)
def MG (xt:TS) (K:Bool→Prop) (e4:Nd):Prop :=
 K (Kj xt e4)
def Hr (xd:Dc) (xn:Int) (xt:TS) (K:Bool→Prop):Prop :=
 K (kD xt.lab.2.2.2.2.1 xt.lab.2.2.2.2.2 (w6 ((tC xd xn xt)+1)))
def Ht (N:Nat) (xd:Dc) (xn:Int) (xt:TS) (K:Bool→Prop):Prop :=
 (((xt.lab.1==8)||(xt.lab.1==9))=true→Dp xd xn∧((xt.lab.1==9)=true→Hr xd xn xt K)∧((xt.lab.1==9)=false→Hr xd xn xt K))∧(((xt.lab.1==8)||(xt.lab.1==9))=false→((xt.lab.1==10)=true→Ke N xd xn xt.kids∧K (!(tL xd xn xt.kids)))∧((xt.lab.1==10)=false→((xt.lab.1==11)=true→Ke N xd xn xt.kids∧K (tL xd xn xt.kids))∧((xt.lab.1==11)=false→K true)))
def aiK (N:Nat) (xd:Dc) (xn:Int) (xt:TS) (K:Bool→Prop):Prop :=
 0≤xn∧xn.toNat<xd.1.length∧((xt.lab.1==2)=true→K ((xd.1.getD xn.toNat default).2.1==xt.lab.2.1))∧((xt.lab.1==2)=false→((xt.lab.1==3)=true→QP (xd.1.getD xn.toNat default) ([105,100]:Bs)∧((dh (xd.1.getD xn.toNat default) ([105,100]:Bs)).2=true→MG xt K (xd.1.getD xn.toNat default))∧((dh (xd.1.getD xn.toNat default) ([105,100]:Bs)).2=false→MG xt K (xd.1.getD xn.toNat default)))∧((xt.lab.1==3)=false→((xt.lab.1==4)=true→QP (xd.1.getD xn.toNat default) ([99,108,97,115,115]:Bs)∧XR (dh (xd.1.getD xn.toNat default) ([99,108,97,115,115]:Bs)).1 xt.lab.2.1∧K (Dx (dh (xd.1.getD xn.toNat default) ([99,108,97,115,115]:Bs)).1 xt.lab.2.1))∧((xt.lab.1==4)=false→((xt.lab.1==5)=true→Xw (xd.1.getD xn.toNat default) xt∧K (Hu (xd.1.getD xn.toNat default) xt))∧((xt.lab.1==5)=false→((xt.lab.1==6)=true→K ((xd.1.getD xn.toNat default).2.2.2.2.1==0))∧((xt.lab.1==6)=false→((xt.lab.1==7)=true→Dp xd xn∧K (MH xd xn))∧((xt.lab.1==7)=false→((xt.lab.1==8)=true→Ht N xd xn xt K)∧((xt.lab.1==8)=false→Ht N xd xn xt K)))))))
theorem abP {g:ak} (N:Nat) (Ii:Pk N) (MW:Pf N) (Ih:Pe N) {n0:Option Addr} {o0:Nat} (xd:Dc) (xn:Int) {b1:Option Addr} {c1:Nat} (xt:TS) (s0:bE g qj [.slice n0 xd.1.length o0] xd.1) (z1:bE g (.slice yP) [.slice b1 xt.kids.length c1] xt.kids) (hG0:bR g 0) (K:Bool→Prop)
  (hF:aiK N xd xn xt K):az prog 72 #[.agg (aD xd n0 o0),iv xn,.agg (aL xt.lab b1 xt.kids.length c1)] g [] (fun g' H' v=>∃ (r0:Bool),v=.bool r0∧H'=[]∧K r0):=by
 refine aP 107 func72 rfl fun w0=>?_;refine ae (ai (cO fun dD=>?_));refine ai (cO fun iF=>?_);refine av 1 [(1,iv xn),(3,pv dD 0),(5,pv iF 0)] kr (aa (ae (aj 3 [.e 1] [1,3,5] [(15,.slice n0 xd.1.length o0),(16,iv xn)] ?_)));obtain ⟨oo,pg,hF⟩:=hF;have ny:=aT (l:=xd.1) default pg;generalize hg4:(xd.1.getD xn.toNat default)=e4 at ny hF ⊢;refine ai (af.aX (e:=yN) rfl rfl underlying22 kr s0 oo ny rfl fun q3 o3 Rz _ UL hr3=>?_);obtain ⟨g3,m3,n3,p3,rfl,U2,J2⟩:=oN hr3;refine ai (af.s (v:=.agg (aN e4 g3 m3 n3 p3)) (bL 0 6 (aN e4 g3 m3 n3 p3) UL kr underlying48 rfl kr kr kr) rfl rfl (ai (bI #[iv 0,sv ([]:Bs),.slice none 0 0,sv ([]:Bs),iv 0,.slice none 0 0] fun LM=>?_)));refine ai (af.w 0 ?_);refine aa (aF (ae (ag 1 [1,3,5] [(7,pv LM 0),(19,pv iF 0)] ?_)));refine ai (af.s (v:=iv xt.lab.1) (aS 1 rfl rfl underlying3 rfl kr) rfl rfl (aa (Ok.block (ae (ag 2 [1,3,5,7] [(20,iv xt.lab.1),(21,.bool (xt.lab.1==2))] ?_)))));refine aa (aJ hF (fun hc6 hF=>?_) (fun hc6 hF=>?_))
 ·refine ae (aj 6 [.e 0,.e 1] [] [(6,.bool (e4.2.1==xt.lab.2.1))] ?_);refine aa (Ok.ret (aV (aC ?_)));exact dE (e4.2.1==xt.lab.2.1) hF
 refine ae (ag 2 [1,3,5,7,20] [(28,.bool (xt.lab.1==3))] ?_);refine aa (aJ hF (fun iB hF=>?_) (fun iB hF=>?_))
 ·refine aF (aR ?_);obtain ⟨KV,hF⟩:=hF;let B:=dh e4 ([105,100]:Bs);refine aj 7 [.e 0,.k (TE e4 ([105,100]:Bs) U2 J2 KV)] [5] [(8,sv (B.1)),(9,.bool B.2)] ?_;refine aa (iK g [(6,.bool (Kj xt e4))] [] (MG xt K e4) ?_ (fun avA H2 hF=>?_))
  ·
   refine aR (ag 2 [5,8] [(36,.bool B.2)] ?_);refine bP 36 hF (fun mq hF=>?_) (fun mq hF=>?_)
   ·refine aj 6 [.e 1] [] [(6,.bool (B.1==xt.lab.2.1))] ?_;refine aa (aB 6 (Kj xt e4) (bn mq) ?_);exact fg hF
   refine av 6 [(6,.bool false)] kr (aa (aB 6 (Kj xt e4) (bZ mq) ?_));exact fg hF
  replace hG0:=hG0.mono H2.1;refine Ok.ret (aV (aC ?_));exact qg (.bool (Kj xt e4)) H2 ⟨_,rfl,rfl,hF⟩
 refine ae (ag 2 [1,3,5,7,20] [(42,.bool (xt.lab.1==4))] ?_);refine aa (aJ hF (fun s2 hF=>?_) (fun s2 hF=>?_))
 ·refine aF (aR ?_);obtain ⟨Io,hF⟩:=hF;let G:=([99,108,97,115,115]:Bs);let A:=dh e4 G;refine aj 7 [.e 0,.k (TE e4 G U2 J2 Io)] [5] [(10,sv (A.1))] ?_;refine aa (aF (aR ?_));obtain ⟨N2,hF⟩:=hF;refine aj 5 [.e 1,.k (ajq A.1 xt.lab.2.1 N2)] [] [(6,.bool (Dx A.1 xt.lab.2.1))] ?_;refine aa (Ok.ret (aV (aC ?_)));exact dE (Dx A.1 xt.lab.2.1) hF
 refine ae (ag 2 [1,3,5,7,20] [(53,.bool (xt.lab.1==5))] ?_);refine aa (aJ hF (fun O2 hF=>?_) (fun O2 hF=>?_))
 ·refine aF (aR ?_);obtain ⟨L2,hF⟩:=hF;refine aj 4 [.e 0,.e 1,.k (aiL e4 xt U2 J2 z1 hG0 L2)] [] [(6,.bool (Hu e4 xt))] ?_;refine aa (Ok.ret (aV (aC ?_)));exact dE (Hu e4 xt) hF
 refine ae (ag 2 [1,3,5,7,20] [(58,.bool (xt.lab.1==6))] ?_);refine aa (aJ hF (fun Ir hF=>?_) (fun Ir hF=>?_))
 ·refine ae (aj 4 [.e 0] [] [(6,.bool (e4.2.2.2.2.1==0))] ?_);refine aa (Ok.ret (aV (aC ?_)));exact dE (e4.2.2.2.2.1==0) hF
 refine ae (ag 2 [1,3,5,20] [(63,.bool (xt.lab.1==7))] ?_);refine aa (aJ hF (fun R2 hF=>?_) (fun R2 hF=>?_))
 ·refine aF (aR ?_);obtain ⟨A2,hF⟩:=hF;refine aj 4 [.e 2,.k (aiO xd xn s0 A2)] [] [(6,.bool (MH xd xn))] ?_;refine aa (Ok.ret (aV (aC ?_)));exact dE (MH xd xn) hF
 let D:=(xt.lab.1==8)||(xt.lab.1==9);let F:=(.cells (aL xt.lab b1 xt.kids.length c1) 60:Obj);refine iK g [(1,iv xn),(3,pv dD 0),(5,pv iF 0),(20,iv xt.lab.1),(68,.bool D)] [.blk iF F,.blk dD (.cells (aD xd n0 o0) 24)] (Ht N xd xn xt K) ?_ (fun avw N1 hF=>?_)
 ·
  refine ae (ag 2 [1,3,5,20] [(68,.bool (xt.lab.1==8))] ?_);refine aa (aJ hF (fun G2 hF=>?_) (fun G2 hF=>?_))
  ·refine Ok.k (Ok.t (aB 68 D (au (G2) (cK G2)) ?_));exact fg hF
  refine aR (ag 2 [1,3,5,20] [(68,.bool (xt.lab.1==9))] ?_);refine aa (aB 68 D (bN G2) ?_);exact fg hF
 replace z1:=z1.mono N1.1;replace s0:=s0.mono N1.1;replace hG0:=hG0.mono N1.1;refine aJ hF (fun hc18 hF=>?_) (fun hc18 hF=>?_)
 ·refine ae (aj 2 [.e 1] [5] [(72,.agg (aD xd n0 o0)),(73,iv xn)] ?_);obtain ⟨Y2,hF⟩:=hF;refine ai (bS (ZI xd xn s0 Y2) fun g20 _ _ M1 I2=>?_);obtain ⟨a2,Z2,W2,rfl,X2,rfl⟩:=I2;replace s0:=s0.mono M1.1;replace z1:=z1.mono M1.1;replace hG0:=hG0.mono M1.1;refine ag 5 [5] [(12,.slice a2 (cB xd xn).1.length Z2),(13,iv (cB xd xn).2)] ?_;refine aa (iK g20 [(5,pv iF 0),(13,iv (tC xd xn xt))] [.blk iF F] (Hr xd xn xt K) ?_ (fun avv S2 hF=>?_))
  ·
   refine ae (aj 3 [.e 1] [5,12,13] [(79,.bool (xt.lab.1==9))] ?_);refine aa (aJ hF (fun z3 hF=>?_) (fun z3 hF=>?_))
   ·let E:=w6 ((w6 (((cB xd xn).1.length:Int) - 1)) - (cB xd xn).2);refine aR (ag 6 [5] [(13,iv E)] ?_);refine aa (gX 13 rfl (show (iv E:Value)=iv (tC xd xn xt) from aA (Value.int .i64) ((aU z3).symm)) ?_);exact fg hF
   refine Ok.k (Ok.t (gX 13 rfl (show (iv (cB xd xn).2:Value)=iv (tC xd xn xt) from aA (Value.int .i64) ((aG z3).symm)) ?_));exact fg hF
  replace z1:=z1.mono S2.1;replace hG0:=hG0.mono S2.1;let H:=w6 ((tC xd xn xt)+1);let C:=kD xt.lab.2.2.2.2.1 xt.lab.2.2.2.2.2 H;refine ae (aj 8 [.e 0,.e 0,.k (aiG xt.lab.2.2.2.2.1 xt.lab.2.2.2.2.2 H)] [] [(6,.bool C)] ?_);refine aa (Ok.ret (aV (aC ?_)));exact jg (.bool C) ((N1.trans M1).trans S2) ⟨_,rfl,rfl,hF⟩
 refine ae (ag 2 [1,3,5,20] [(92,.bool (xt.lab.1==10))] ?_);refine aa (aJ hF (fun v3 hF=>?_) (fun v3 hF=>?_))
 ·refine aF (aR ?_);obtain ⟨Uy,hF⟩:=hF;refine aj 7 [.e 1,.e 0,.k (Ih _ xd xn xt.kids s0 z1 hG0 Uy)] [] [(6,.bool (!(tL xd xn xt.kids)))] ?_;refine aa (Ok.ret (aV (aC ?_)));exact jg (.bool (!(tL xd xn xt.kids))) N1 ⟨_,rfl,rfl,hF⟩
 refine ae (ag 2 [1,3,5] [(100,.bool (xt.lab.1==11))] ?_);refine aa (aJ hF (fun B2 hF=>?_) (fun B2 hF=>?_))
 ·refine aF (aR ?_);obtain ⟨M4,hF⟩:=hF;refine aj 6 [.e 1,.e 0,.k (Ih _ xd xn xt.kids s0 z1 hG0 M4)] [] [(6,.bool (tL xd xn xt.kids))] ?_;refine aa (Ok.ret (aV (aC ?_)));exact jg (.bool (tL xd xn xt.kids)) N1 ⟨_,rfl,rfl,hF⟩
 refine Ok.k (bG (Ok.t (ae (av 1 [(6,.bool true)] kr (aa (Ok.ret ?_))))));exact jg (.bool true) N1 ⟨_,rfl,rfl,hF⟩
def Hd (K:Bool→Prop) (V1:Int):Prop :=
 K (decide (V1≥0))
def Tx (N:Nat) (xd:Dc) (xn:Int) (xl:List PH) (K:Bool→Prop) (V0:Int) (En:Int→Prop):Prop :=
 ((decide (V0<(xl.length:Int)))=true→(0:Int)≤V0∧Int.toNat V0<xl.length∧QN N xd xn (xl.getD (Int.toNat V0) default)∧((Ex xd xn (xl.getD (Int.toNat V0) default))=true→Hd K V0)∧((Ex xd xn (xl.getD (Int.toNat V0) default))=false→En (w6 (V0+1))))∧((decide (V0<(xl.length:Int)))=false→Hd K (-1))
def Bh (N:Nat) (xd:Dc) (xn:Int) (xl:List PH) (K:Bool→Prop):Nat→Int→Prop
 | 0,_=>False
 | k+1,V0=>Tx N xd xn xl K V0 (Bh N xd xn xl K k)
def aiz (N:Nat) (xd:Dc) (xn:Int) (xl:List PH) (K:Bool→Prop):Prop :=
 ∃ k,Bh N xd xn xl K k 0
theorem abH {g:ak} (N:Nat) (Ii:Pk N) (MW:Pf N) (Ih:Pe N) {n0:Option Addr} {o0:Nat} (xd:Dc) (xn:Int) {v1:Option Addr} {k1:Nat} (xl:List PH) (s0:bE g qj [.slice n0 xd.1.length o0] xd.1) (B1:bE g (.slice yP) [.slice v1 xl.length k1] xl) (hG0:bR g 0) (K:Bool→Prop)
  (hF:aiz N xd xn xl K):az prog 23 #[.agg (aD xd n0 o0),iv xn,.slice v1 xl.length k1] g [] (fun g' H' v=>∃ (r0:Bool),v=.bool r0∧H'=[]∧K r0):=by
 refine aP 10 func23 rfl fun w0=>?_;refine ae (ai (cO fun dD=>?_));refine ai (af.box (v:=iv xn) (cs:=#[iv xn]) rfl kr rfl fun ll=>?_);let A:=(#[pv dD 0,pv ll 0]:Array Value);refine av 1 [(2,.slice v1 xl.length k1),(3,pv dD 0),(4,pv ll 0)] kr (aa (ae (av 2 [(7,.slice v1 xl.length k1),(8,.func (.func 41) #[] A)] kr (ai (bO (args:=#[.slice v1 xl.length k1,.func (.func 41) #[] A]) 9 [(0,.slice v1 xl.length k1),(1,.func (.func 41) #[] A)] gU func40 rfl rfl rfl rfl (ae (av 1 [(0,.slice v1 xl.length k1),(1,.func (.func 41) #[] A)] kr (aa (ae (av 2 [(5,.slice v1 xl.length k1),(6,.func (.func 41) #[] A)] kr (ai (af.cut (fun a W=>∃ (V1:Int),fC 9 [(7,iv V1)] a∧dm w0 [] g W∧Hd K V1) ?_ ?_))))))))))))
 ·
  refine bO (args:=#[.slice v1 xl.length k1,.func (.func 41) #[] A]) 19 [(0,.slice v1 xl.length k1),(1,.func (.func 41) #[] A)] gU func66 rfl rfl rfl rfl (ae (av 1 [(0,.slice v1 xl.length k1),(1,.func (.func 41) #[] A)] kr (aa (aF (ae (ag 3 [0,1] [(7,iv (xl.length:Int)),(8,iv 0)] ?_))))));refine aa (Ok.block ?_);obtain ⟨k,hF⟩:=hF;refine fQ (fun k a W=>∃ (V0:Int),fC 19 [(0,.slice v1 xl.length k1),(1,.func (.func 41) #[] A),(7,iv (xl.length:Int)),(8,iv V0)] a∧dm w0 [.blk ll (.cells #[iv xn] 3),.blk dD (.cells (aD xd n0 o0) 24)] g W∧Bh N xd xn xl K k V0) k ?_ ?_
  ·
   exact fun _ _ u v=>⟨0,fA u v hF⟩
  clear hF;rintro (_ | KL) _ _ ⟨V0,q⟩;exact (q.2.2:False).elim;refine jn (fun hF=>?_) _ _ q;refine ae (ag 1 [0,1,7,8] [(9,.bool (decide (V0<(xl.length:Int))))] ?_);refine aa (aF (aJ hF (fun hc3 hF=>?_) (fun hc3 hF=>?_)))
  ·refine Ok.k (Ok.t (aF (Ok.block (ae (ag 2 [0,1,7,8] [(5,iv V0)] ?_)))));refine aa (ae (ag 3 [0,1,5,7,8] [(11,.func (.func 41) #[] A),(12,.slice v1 xl.length k1),(13,iv V0)] ?_));obtain ⟨Ep,IE,hF⟩:=hF;have DD:=aT (l:=xl) default IE;generalize hg5:(xl.getD (Int.toNat V0) default)=e5 at DD hF ⊢;refine ai (af.aX (e:=yP) rfl rfl underlying33 kr B1 Ep DD rfl fun q4 o4 cs4 _ k3 hr4=>?_);obtain ⟨_,_,rfl,⟨b2,c2,rfl,ajW,ajE⟩,⟨f2,g2,rfl,ajV,ajD⟩⟩:=hr4;have UR:bE g (.slice (.slice yS)) [.slice b2 e5.1.length c2] e5.1:=⟨b2,c2,rfl,ajW,ajE⟩;have akD:bE g (.slice yb) [.slice f2 e5.2.length g2] e5.2:=⟨f2,g2,rfl,ajV,ajD⟩;replace k3:At g q4 o4 [.slice b2 e5.1.length c2,.slice f2 e5.2.length g2]:=k3;let B:=(#[.slice b2 e5.1.length c2,.slice f2 e5.2.length g2]:Array Value);refine ai (af.s (v:=.agg B) (bL 0 2 B k3 kr underlying28 rfl kr kr kr) rfl rfl (ai (bO (args:=#[.agg B,pv dD 0,pv ll 0]) 9 [(0,.agg B),(1,pv dD 0),(2,pv ll 0)] gU func41 rfl rfl rfl rfl (ae (ai (cO fun NM=>?_))))));refine av 1 [(1,pv dD 0),(2,pv ll 0),(3,pv NM 0)] kr (aa (aF (aR ?_)));obtain ⟨Im,hF⟩:=hF;refine aj 5 [.e 2,.e 1,.e 0,.k (MW _ xd xn e5 s0 UR akD hG0 Im)] [] [(4,.bool (Ex xd xn e5))] ?_;refine aa (Ok.ret (bA (vs:=[.bool (Ex xd xn e5)]) (.inl rfl) rfl (.cons (.tmp rfl) .nil) rfl (aa (dW hF rfl (fun hc8=>?_) (fun hc8=>?_)))))
   ·replace hF:=hF.1 hc8;refine ae (av 2 [(4,iv V0)] kr (aa (Ok.ret (aV (aC (aC (aV (aC (bA (vs:=[iv V0]) (.inl rfl) rfl (.cons (.tmp rfl) .nil) rfl ?_)))))))));subst hg5;exact fun _ _ u v=>⟨V0,fA u v hF⟩
   replace hF:=hF.2 hc8;refine Ok.k (bG (Ok.t (aR (av 2 [(0,.slice v1 xl.length k1),(1,.func (.func 41) #[] A),(7,iv (xl.length:Int)),(8,iv (w6 (V0+1)))] kr (bV (Ok.t ?_))))));subst hg5;exact fun _ _ u v=>⟨KL,nl,w6 (V0+1),fA u v hF⟩
  refine fw (ay (ay (aM (Ok.t (ae (av 1 [(4,iv (-1))] kr (aa (Ok.ret (bA (vs:=[iv (-1)]) (.inl rfl) rfl (.cons (.tmp rfl) .nil) rfl ?_)))))))));exact fun _ _ u v=>⟨-1,fA u v hF⟩
 clear hF;rintro _ _ ⟨V1,q⟩;refine jn (fun hF=>?_) _ _ q;let C:=decide (V1≥0);refine av 2 [(4,.bool C)] kr (aa (Ok.ret (bA (vs:=[.bool C]) (.inl rfl) rfl (.cons (.tmp rfl) .nil) rfl (av 1 [(6,.bool C)] kr (aa (Ok.ret ?_))))));exact dE C hF
def Xt (xd:Dc) (xp:PH) (z0:Int) (C8:Int→List Int→Prop) (y0:List Int) (N0:Int) (e0:List Int) (C27:Int→List Int→Prop):Prop :=
 ((decide (N0<(y0.length:Int)))=true→(0:Int)≤N0∧Int.toNat N0<y0.length∧0≤w6 (z0 - 1)∧Int.toNat (w6 (z0 - 1))<xp.2.length∧abM xd (y0.getD (Int.toNat N0) default) (xp.2.getD (Int.toNat (w6 (z0 - 1))) default)∧(e0++(mnxS xd (y0.getD (Int.toNat N0) default) (xp.2.getD (Int.toNat (w6 (z0 - 1))) default))).length≤17592186044416∧C27 (w6 (N0+1)) (e0++(mnxS xd (y0.getD (Int.toNat N0) default) (xp.2.getD (Int.toNat (w6 (z0 - 1))) default))))∧((decide (N0<(y0.length:Int)))=false→aaE e0∧afd (nT e0)∧C8 (w6 (z0 - 1)) (nO (nT e0)))
def He (xd:Dc) (xp:PH) (z0:Int) (C8:Int→List Int→Prop) (y0:List Int):Nat→Int→List Int→Prop
 | 0,_,_=>False
 | k+1,N0,e0=>Xt xd xp z0 C8 y0 N0 e0 (He xd xp z0 C8 y0 k)
def yt (xd:Dc) (xp:PH) (K:Bool→Prop) (z0:Int) (C8:Int→List Int→Prop) (y0:List Int):Prop :=
 (((z0==0)||((y0.length:Int)==0))=true→K (decide ((y0.length:Int)>0)))∧(((z0==0)||((y0.length:Int)==0))=false→∃ k,He xd xp z0 C8 y0 k 0 ([]:List Int))
def zo (t1:Int) (S0:List Int) (b0:Int) (pR:Int→Int→List Int→Prop):Prop :=
 pR t1 (w6 (b0+1)) S0
def l_ (I0:Bool) (u0:Int) (b0:Int) (v0:List Int) (pR:Int→Int→List Int→Prop):Prop :=
 ((!I0)=true→0≤u0∧u0.toNat<v0.length∧zo (w6 (u0+1)) (v0.set u0.toNat (v0.getD b0.toNat default)) b0 pR)∧((!I0)=false→zo u0 v0 b0 pR)
def Hl (u0:Int) (b0:Int) (v0:List Int) (pR:Int→Int→List Int→Prop) (Q1:Int):Prop :=
 l_ (decide (Q1≥0)) u0 b0 v0 pR
def TB (N:Nat) (xd:Dc) (u0:Int) (b0:Int) (v0:List Int) (e25:Int) (pR:Int→Int→List Int→Prop) (e34:List TS) (j0:Int) (asg:Int→Prop):Prop :=
 ((decide (j0<(e34.length:Int)))=true→0≤j0∧j0.toNat<e34.length∧QO N xd e25 (e34.getD j0.toNat default)∧((!(AA xd e25 (e34.getD j0.toNat default)))=true→Hl u0 b0 v0 pR j0)∧((!(AA xd e25 (e34.getD j0.toNat default)))=false→asg (w6 (j0+1))))∧((decide (j0<(e34.length:Int)))=false→Hl u0 b0 v0 pR (-1))
def Bj (N:Nat) (xd:Dc) (u0:Int) (b0:Int) (v0:List Int) (e25:Int) (pR:Int→Int→List Int→Prop) (e34:List TS):Nat→Int→Prop
 | 0,_=>False
 | k+1,j0=>TB N xd u0 b0 v0 e25 pR e34 j0 (Bj N xd u0 b0 v0 e25 pR e34 k)
def QM (N:Nat) (xd:Dc) (xp:PH) (K:Bool→Prop) (z0:Int) (C8:Int→List Int→Prop) (u0:Int) (b0:Int) (v0:List Int) (pR:Int→Int→List Int→Prop):Prop :=
 ((decide (b0<(v0.length:Int)))=true→0≤b0∧b0.toNat<v0.length∧MI xd (v0.getD b0.toNat default)∧((!(eU xd (v0.getD b0.toNat default)))=true→l_ true u0 b0 v0 pR)∧((!(eU xd (v0.getD b0.toNat default)))=false→0≤z0∧z0.toNat<xp.1.length∧∃ k,Bj N xd u0 b0 v0 (v0.getD b0.toNat default) pR (xp.1.getD z0.toNat default) k 0))∧((decide (b0<(v0.length:Int)))=false→0≤u0∧(u0:Int)≤(v0.length:Int)∧(v0.length:Int)≤(v0.length:Int)∧u0.toNat≤Int.toNat (v0.length:Int)∧0≤u0∧u0≤((BD v0 u0.toNat (0:Int)).length:Int)∧yt xd xp K z0 C8 ((BD v0 u0.toNat (0:Int)).take u0.toNat))
def kK (N:Nat) (xd:Dc) (xp:PH) (K:Bool→Prop) (z0:Int) (C8:Int→List Int→Prop):Nat→Int→Int→List Int→Prop
 | 0,_,_,_=>False
 | k+1,u0,b0,v0=>QM N xd xp K z0 C8 u0 b0 v0 (kK N xd xp K z0 C8 k)
def yo (N:Nat) (xd:Dc) (xp:PH) (K:Bool→Prop) (z0:Int) (q0:List Int) (C8:Int→List Int→Prop) (u1:Int):Prop :=
 ((u1==(-1))=true→yt xd xp K z0 C8 q0)∧((u1==(-1))=false→∃ k,kK N xd xp K z0 C8 k u1 (w6 (u1+1)) q0)
def oZ (N:Nat) (xd:Dc) (xp:PH) (K:Bool→Prop) (E0:Bool) (x0:Int) (z0:Int) (q0:List Int) (C8:Int→List Int→Prop) (AU:Int→Prop):Prop :=
 (E0=true→yo N xd xp K z0 q0 C8 x0)∧(E0=false→AU (w6 (x0+1)))
def Hg (N:Nat) (xd:Dc) (xp:PH) (K:Bool→Prop) (x0:Int) (z0:Int) (q0:List Int) (C8:Int→List Int→Prop) (AU:Int→Prop) (K1:Int):Prop :=
 oZ N xd xp K (decide (K1≥0)) x0 z0 q0 C8 AU
def Tz (N:Nat) (xd:Dc) (xp:PH) (K:Bool→Prop) (x0:Int) (z0:Int) (q0:List Int) (C8:Int→List Int→Prop) (e46:Int) (AU:Int→Prop) (e52:List TS) (k0:Int) (asf:Int→Prop):Prop :=
 ((decide (k0<(e52.length:Int)))=true→0≤k0∧k0.toNat<e52.length∧QO N xd e46 (e52.getD k0.toNat default)∧((!(AA xd e46 (e52.getD k0.toNat default)))=true→Hg N xd xp K x0 z0 q0 C8 AU k0)∧((!(AA xd e46 (e52.getD k0.toNat default)))=false→asf (w6 (k0+1))))∧((decide (k0<(e52.length:Int)))=false→Hg N xd xp K x0 z0 q0 C8 AU (-1))
def Bi (N:Nat) (xd:Dc) (xp:PH) (K:Bool→Prop) (x0:Int) (z0:Int) (q0:List Int) (C8:Int→List Int→Prop) (e46:Int) (AU:Int→Prop) (e52:List TS):Nat→Int→Prop
 | 0,_=>False
 | k+1,k0=>Tz N xd xp K x0 z0 q0 C8 e46 AU e52 k0 (Bi N xd xp K x0 z0 q0 C8 e46 AU e52 k)
def TA (N:Nat) (xd:Dc) (xp:PH) (K:Bool→Prop) (z0:Int) (q0:List Int) (C8:Int→List Int→Prop) (x0:Int) (AU:Int→Prop):Prop :=
 ((decide (x0<(q0.length:Int)))=true→0≤x0∧x0.toNat<q0.length∧MI xd (q0.getD x0.toNat default)∧((!(eU xd (q0.getD x0.toNat default)))=true→oZ N xd xp K true x0 z0 q0 C8 AU)∧((!(eU xd (q0.getD x0.toNat default)))=false→0≤z0∧z0.toNat<xp.1.length∧∃ k,Bi N xd xp K x0 z0 q0 C8 (q0.getD x0.toNat default) AU (xp.1.getD z0.toNat default) k 0))∧((decide (x0<(q0.length:Int)))=false→yo N xd xp K z0 q0 C8 (-1))
def rX (N:Nat) (xd:Dc) (xp:PH) (K:Bool→Prop) (z0:Int) (q0:List Int) (C8:Int→List Int→Prop):Nat→Int→Prop
 | 0,_=>False
 | k+1,x0=>TA N xd xp K z0 q0 C8 x0 (rX N xd xp K z0 q0 C8 k)
def abJ (N:Nat) (xd:Dc) (xp:PH) (K:Bool→Prop) (z0:Int) (q0:List Int) (C8:Int→List Int→Prop):Prop :=
 ∃ k,rX N xd xp K z0 q0 C8 k 0
def lJ (N:Nat) (xd:Dc) (xp:PH) (K:Bool→Prop):Nat→Int→List Int→Prop
 | 0,_,_=>False
 | k+1,z0,q0=>abJ N xd xp K z0 q0 (lJ N xd xp K k)
def aiC (N:Nat) (xd:Dc) (xn:Int) (xp:PH) (K:Bool→Prop):Prop :=
 ∃ k,lJ N xd xp K k (w6 ((xp.1.length:Int) - 1)) ([xn]:List Int)
theorem abK {g:ak} (N:Nat) (Ii:Pk N) (MW:Pf N) (Ih:Pe N) {n0:Option Addr} {o0:Nat} (xd:Dc) (xn:Int) {R0:Option Addr} {T0:Nat} {L0:Option Addr} {A0:Nat} (xp:PH) (s0:bE g qj [.slice n0 xd.1.length o0] xd.1) (t0:bE g (.slice (.slice yS)) [.slice R0 xp.1.length T0] xp.1) (a0:bE g (.slice yb) [.slice L0 xp.2.length A0] xp.2) (hG0:bR g 0) (K:Bool→Prop)
  (hF:aiC N xd xn xp K):az prog 42 #[.agg (aD xd n0 o0),iv xn,.agg #[.slice R0 xp.1.length T0,.slice L0 xp.2.length A0]] g [] (fun g' H' v=>∃ (r0:Bool),v=.bool r0∧H'=[]∧K r0):=by
 refine aP 56 func42 rfl fun w0=>?_;refine ae (ai (cO fun dD=>?_));refine ai (cO fun iF=>?_);refine av 1 [(1,iv xn),(3,pv dD 0),(5,pv iF 0)] kr (aa (ae (ag 1 [3,5] [(12,iv xn)] ?_)));have hL3:aW g (.int .i64) ([iv xn]:List Value) ([xn]:List Int):=(dx (c:=[iv xn]) rfl rfl);refine ai (gz hL3 fun b3=>?_);refine ag 1 [3,5] [(7,.slice (some ⟨b3,0,none⟩) ([xn]:List Int).length 1)] ?_;refine aa (ae (aj 4 [.e 1] [3,5,7] [(17,iv (w6 ((xp.1.length:Int) - 1)))] ?_));refine ai (af.a (z:=iv 0) (cs:=#[iv 0]) kr kr rfl fun pW=>?_);refine ai (dA 0 ?_);refine aa (Ok.block ?_);obtain ⟨k,hF⟩:=hF;refine fQ (fun k a W=>∃ X_:ak,bf w0 g X_∧∃ (W0:Nat) (z0:Int) (f0:Option Addr) (g0:Nat) (q0:List Int) (C0:List Value),aW X_ (.int .i64) C0 q0∧fC 56 [(3,pv dD 0),(5,pv iF 0),(7,.slice f0 q0.length g0),(8,pv W0 0)] a∧dm w0 [.blk W0 (.cells #[iv z0] 3),.own (.slice f0 q0.length g0) 3 1 q0.length C0,.blk iF (.cells #[.slice R0 xp.1.length T0,.slice L0 xp.2.length A0] 28),.blk dD (.cells (aD xd n0 o0) 24)] X_ W∧lJ N xd xp K k z0 q0) k ?_ ?_
 ·
  exact fun _ _ u v=>⟨g,bu w0 g,pW,w6 ((xp.1.length:Int) - 1),(some ⟨b3,0,none⟩),1,([xn]:List Int),([iv xn]:List Value),hL3,fA u v hF⟩
 clear hF;rintro (_ | k8) _ _ ⟨X_,K2,W0,z0,f0,g0,q0,C0,J0,q⟩;exact (q.2.2:False).elim;refine jn (fun hF=>?_) _ _ q;replace t0:=t0.mono K2.1;replace a0:=a0.mono K2.1;replace s0:=s0.mono K2.1;replace hG0:=hG0.mono K2.1;refine aF (Ok.block (ae (ag 2 [3,5,8] [(20,.slice f0 q0.length g0),(21,.func (.func 68) #[] #[pv dD 0,pv iF 0,pv W0 0])] ?_)));refine ai (af.cut (fun a W=>∃ H1:ak,bf w0 X_ H1∧∃ (H0:Option Addr) (M0:Nat) (y0:List Int) (f1:List Value),aW H1 (.int .i64) f1 y0∧fC 56 [(3,pv dD 0),(5,pv iF 0),(8,pv W0 0),(22,.slice H0 y0.length M0)] a∧dm w0 [.blk W0 (.cells #[iv z0] 3),.own (.slice H0 y0.length M0) 3 1 y0.length f1,.blk iF (.cells #[.slice R0 xp.1.length T0,.slice L0 xp.2.length A0] 28),.blk dD (.cells (aD xd n0 o0) 24)] H1 W∧yt xd xp K z0 (lJ N xd xp K k8) y0) ?_ ?_)
 ·
  refine bO (args:=#[.slice f0 q0.length g0,.func (.func 68) #[] #[pv dD 0,pv iF 0,pv W0 0]]) 42 [(0,.slice f0 q0.length g0),(1,.func (.func 68) #[] #[pv dD 0,pv iF 0,pv W0 0])] gU func67 rfl rfl rfl rfl (ae (av 1 [(0,.slice f0 q0.length g0),(1,.func (.func 68) #[] #[pv dD 0,pv iF 0,pv W0 0])] kr (aa (ae (ag 2 [0,1] [(8,.slice f0 q0.length g0),(9,.func (.func 68) #[] #[pv dD 0,pv iF 0,pv W0 0])] ?_)))));refine ai (af.cut (fun a W=>∃ O1:ak,bf w0 X_ O1∧∃ (u1:Int),fC 42 [(0,.slice f0 q0.length g0),(1,.func (.func 68) #[] #[pv dD 0,pv iF 0,pv W0 0]),(10,iv u1)] a∧dm w0 [.blk W0 (.cells #[iv z0] 3),.own (.slice f0 q0.length g0) 3 1 q0.length C0,.blk iF (.cells #[.slice R0 xp.1.length T0,.slice L0 xp.2.length A0] 28),.blk dD (.cells (aD xd n0 o0) 24)] O1 W∧yo N xd xp K z0 q0 (lJ N xd xp K k8) u1) ?_ ?_)
  ·
   refine bO (args:=#[.slice f0 q0.length g0,.func (.func 68) #[] #[pv dD 0,pv iF 0,pv W0 0]]) 19 [(0,.slice f0 q0.length g0),(1,.func (.func 68) #[] #[pv dD 0,pv iF 0,pv W0 0])] gU func110 rfl rfl rfl rfl (ae (av 1 [(0,.slice f0 q0.length g0),(1,.func (.func 68) #[] #[pv dD 0,pv iF 0,pv W0 0])] kr (aa (aF (ae (ag 3 [0,1] [(7,iv (q0.length:Int)),(8,iv 0)] ?_))))));refine aa (Ok.block ?_);obtain ⟨k,hF⟩:=hF;refine fQ (fun k a W=>∃ P0:ak,bf w0 X_ P0∧∃ (x0:Int),fC 19 [(0,.slice f0 q0.length g0),(1,.func (.func 68) #[] #[pv dD 0,pv iF 0,pv W0 0]),(7,iv (q0.length:Int)),(8,iv x0)] a∧dm w0 [.blk W0 (.cells #[iv z0] 3),.own (.slice f0 q0.length g0) 3 1 q0.length C0,.blk iF (.cells #[.slice R0 xp.1.length T0,.slice L0 xp.2.length A0] 28),.blk dD (.cells (aD xd n0 o0) 24)] P0 W∧rX N xd xp K z0 q0 (lJ N xd xp K k8) k x0) k ?_ ?_
   ·
    exact fun _ _ u v=>⟨X_,bu w0 X_,0,fA u v hF⟩
   clear hF;rintro (_ | XL) _ _ ⟨P0,y1,x0,q⟩;exact (q.2.2:False).elim;refine jn (fun hF=>?_) _ _ q;replace J0:=J0.mono y1.1;replace t0:=t0.mono y1.1;replace a0:=a0.mono y1.1;replace s0:=s0.mono y1.1;replace hG0:=hG0.mono y1.1;refine ae (ag 1 [0,1,7,8] [(9,.bool (decide (x0<(q0.length:Int))))] ?_);refine aa (aF (aJ hF (fun apb hF=>?_) (fun apb hF=>?_)))
   ·refine Ok.k (Ok.t (aF (Ok.block (ae (ag 2 [0,1,7,8] [(5,iv x0)] ?_)))));refine aa (ae (ag 3 [0,1,5,7,8] [(11,.func (.func 68) #[] #[pv dD 0,pv iF 0,pv W0 0]),(12,.slice f0 q0.length g0),(13,iv x0)] ?_));obtain ⟨arl,aq4,hF⟩:=hF;have r3:=aT (l:=q0) default aq4;generalize t3:(q0.getD x0.toNat default)=e46 at r3 hF ⊢;refine ai (af.fZ (e:=.int .i64) 1 rfl J0 rfl rfl underlying46 kr kr arl r3 rfl fun avS _ an4 y3=>?_);obtain rfl:=an4;replace y3:∀ j v,([iv e46]:List Value)[j]? = some v→C0[x0.toNat * 1+j]? = some v:=y3;refine ai (af.s (v:=iv e46) (dP 1 0 rfl y3 rfl underlying3 rfl kr) rfl rfl (ai (bO (args:=#[iv e46,pv dD 0,pv iF 0,pv W0 0]) 19 [(0,iv e46),(1,pv dD 0),(2,pv iF 0),(3,pv W0 0)] gU func68 rfl rfl rfl rfl (ae (ai (af.box (v:=iv e46) (cs:=#[iv e46]) rfl kr rfl fun m0=>?_))))));refine av 1 [(1,pv dD 0),(2,pv iF 0),(3,pv W0 0),(4,pv m0 0)] kr (aa (Ok.cut (fun a W=>∃ n1:ak,bf w0 P0 n1∧∃ (E0:Bool),fC 19 [(5,.bool E0)] a∧dm w0 [.blk W0 (.cells #[iv z0] 3),.own (.slice f0 q0.length g0) 3 1 q0.length C0,.blk iF (.cells #[.slice R0 xp.1.length T0,.slice L0 xp.2.length A0] 28),.blk dD (.cells (aD xd n0 o0) 24)] n1 W∧oZ N xd xp K E0 x0 z0 q0 (lJ N xd xp K k8) (rX N xd xp K z0 q0 (lJ N xd xp K k8) XL)) ?_ ?_))
    ·
     refine aR ?_;obtain ⟨aok,hF⟩:=hF;refine aj 5 [.e 4,.e 0,.k (Kl xd e46 s0 aok)] [1,2,3,4] [(10,.bool (!(eU xd e46)))] ?_;refine bP 10 hF (fun ao7 hF=>?_) (fun ao7 hF=>?_)
     ·refine av 9 [(5,.bool true)] kr (bV (Ok.t ?_));exact fun _ _ u v=>⟨P0,bu w0 P0,true,fA u v hF⟩
     refine ag 1 [1,3,4] [(10,.bool false),(11,pv iF 0)] ?_;refine dZ (af.s (v:=.slice R0 xp.1.length T0) (aS 3 rfl rfl underlying25 rfl kr) rfl rfl (dZ (af.s (v:=iv z0) (aS 1 rfl rfl underlying3 rfl kr) rfl rfl ?_)));obtain ⟨ari,aq1,hF⟩:=hF;have a3:=aT (l:=xp.1) default aq1;generalize aoD:(xp.1.getD z0.toNat default)=e52 at a3 hF ⊢;refine dZ (af.aX (e:=.slice yS) rfl rfl underlying25 kr t0 ari a3 rfl fun q51 o51 avR _ aj6 an3=>?_);obtain ⟨U1,J1,rfl,m2⟩:=oS an3;refine aj 2 [.a 0 aj6] [10] [(15,.slice U1 e52.length J1),(16,.func (.func 71) #[] #[pv dD 0,pv m0 0])] ?_;refine dZ (bO (args:=#[.slice U1 e52.length J1,.func (.func 71) #[] #[pv dD 0,pv m0 0]]) 9 [(0,.slice U1 e52.length J1),(1,.func (.func 71) #[] #[pv dD 0,pv m0 0])] gU func70 rfl rfl rfl rfl (ae (av 1 [(0,.slice U1 e52.length J1),(1,.func (.func 71) #[] #[pv dD 0,pv m0 0])] kr (aa (ae (av 2 [(5,.slice U1 e52.length J1),(6,.func (.func 71) #[] #[pv dD 0,pv m0 0])] kr (ai (af.cut (fun a W=>∃ V2:ak,bf w0 P0 V2∧∃ (K1:Int),fC 9 [(7,iv K1)] a∧dm w0 [.blk W0 (.cells #[iv z0] 3),.own (.slice f0 q0.length g0) 3 1 q0.length C0,.blk iF (.cells #[.slice R0 xp.1.length T0,.slice L0 xp.2.length A0] 28),.blk dD (.cells (aD xd n0 o0) 24)] V2 W∧Hg N xd xp K x0 z0 q0 (lJ N xd xp K k8) (rX N xd xp K z0 q0 (lJ N xd xp K k8) XL) K1) ?_ ?_))))))))
     ·
      refine bO (args:=#[.slice U1 e52.length J1,.func (.func 71) #[] #[pv dD 0,pv m0 0]]) 19 [(0,.slice U1 e52.length J1),(1,.func (.func 71) #[] #[pv dD 0,pv m0 0])] gU func111 rfl rfl rfl rfl (ae (av 1 [(0,.slice U1 e52.length J1),(1,.func (.func 71) #[] #[pv dD 0,pv m0 0])] kr (aa (aF (ae (ag 3 [0,1] [(7,iv (e52.length:Int)),(8,iv 0)] ?_))))));refine aa (Ok.block ?_);obtain ⟨k,hF⟩:=hF;refine fQ (fun k a W=>∃ K0:ak,bf w0 P0 K0∧∃ (k0:Int),fC 19 [(0,.slice U1 e52.length J1),(1,.func (.func 71) #[] #[pv dD 0,pv m0 0]),(7,iv (e52.length:Int)),(8,iv k0)] a∧dm w0 [.blk m0 (.cells #[iv e46] 3),.blk W0 (.cells #[iv z0] 3),.own (.slice f0 q0.length g0) 3 1 q0.length C0,.blk iF (.cells #[.slice R0 xp.1.length T0,.slice L0 xp.2.length A0] 28),.blk dD (.cells (aD xd n0 o0) 24)] K0 W∧Bi N xd xp K x0 z0 q0 (lJ N xd xp K k8) e46 (rX N xd xp K z0 q0 (lJ N xd xp K k8) XL) e52 k k0) k ?_ ?_
      ·
       exact fun _ _ u v=>⟨P0,bu w0 P0,0,fA u v hF⟩
      clear hF;rintro (_ | anM) _ _ ⟨K0,Z0,k0,q⟩;exact (q.2.2:False).elim;refine jn (fun hF=>?_) _ _ q;replace m2:=m2.mono Z0.1;replace J0:=J0.mono Z0.1;replace t0:=t0.mono Z0.1;replace a0:=a0.mono Z0.1;replace s0:=s0.mono Z0.1;replace hG0:=hG0.mono Z0.1;refine ae (ag 1 [0,1,7,8] [(9,.bool (decide (k0<(e52.length:Int))))] ?_);refine aa (aF (aJ hF (fun acR hF=>?_) (fun acR hF=>?_)))
      ·refine Ok.k (Ok.t (aF (Ok.block (ae (ag 2 [0,1,7,8] [(5,iv k0)] ?_)))));refine aa (ae (ag 3 [0,1,5,7,8] [(11,.func (.func 71) #[] #[pv dD 0,pv m0 0]),(12,.slice U1 e52.length J1),(13,iv k0)] ?_));obtain ⟨arf,aqZ,hF⟩:=hF;have i3:=aT (l:=e52) default aqZ;generalize Z3:(e52.getD k0.toNat default)=e55 at i3 hF ⊢;refine ai (af.aX (e:=yS) rfl rfl underlying54 kr m2 arf i3 rfl fun q54 o54 avQ _ C2 an2=>?_);have n2:=an2;replace n2:=bE.tst.1 n2;obtain ⟨_,_,rfl,⟨_,_,rfl,rfl,⟨_,_,rfl,rfl,⟨_,_,rfl,rfl,⟨_,_,rfl,rfl,⟨_,_,rfl,rfl,rfl⟩⟩⟩⟩⟩,⟨P1,R1,rfl,acJ,ace⟩⟩:=n2;have adn:bE K0 (.slice yP) [.slice P1 e55.kids.length R1] e55.kids:=⟨P1,R1,rfl,acJ,ace⟩;replace C2:At K0 q54 o54 (vL e55.lab P1 e55.kids.length R1):=C2;refine ai (af.s (v:=.agg (aL e55.lab P1 e55.kids.length R1)) (bL 0 7 (aL e55.lab P1 e55.kids.length R1) C2 kr underlying60 rfl kr kr kr) rfl rfl (ai (bO (args:=#[.agg (aL e55.lab P1 e55.kids.length R1),pv dD 0,pv m0 0]) 10 [(0,.agg (aL e55.lab P1 e55.kids.length R1)),(1,pv dD 0),(2,pv m0 0)] gU func71 rfl rfl rfl rfl (ae (ai (cO fun uK=>?_))))));refine av 1 [(1,pv dD 0),(2,pv m0 0),(3,pv uK 0)] kr (aa (aF (aR ?_)));obtain ⟨aoi,hF⟩:=hF;refine aj 6 [.e 5,.e 1,.e 0,.k (Ii _ xd e46 e55 s0 adn hG0 aoi)] [] [(4,.bool (!(AA xd e46 e55)))] ?_;refine aa (Ok.ret (bA (vs:=[.bool (!(AA xd e46 e55))]) (.inl rfl) rfl (.cons (.tmp rfl) .nil) rfl (aa (dW hF rfl (fun u3=>?_) (fun u3=>?_)))))
       ·replace hF:=hF.1 u3;refine ae (av 2 [(4,iv k0)] kr (aa (Ok.ret (aV (aC (aC (aV (aC (bA (vs:=[iv k0]) (.inl rfl) rfl (.cons (.tmp rfl) .nil) rfl ?_)))))))));subst Z3;exact fun _ _ u v=>⟨K0,Z0,k0,fA u v hF⟩
       replace hF:=hF.2 u3;refine Ok.k (bG (Ok.t (aR (av 2 [(0,.slice U1 e52.length J1),(1,.func (.func 71) #[] #[pv dD 0,pv m0 0]),(7,iv (e52.length:Int)),(8,iv (w6 (k0+1)))] kr (bV (Ok.t ?_))))));subst Z3;exact fun _ _ u v=>⟨anM,nl,K0,Z0,w6 (k0+1),fA u v hF⟩
      refine fw (ay (ay (aM (Ok.t (ae (av 1 [(4,iv (-1))] kr (aa (Ok.ret (bA (vs:=[iv (-1)]) (.inl rfl) rfl (.cons (.tmp rfl) .nil) rfl ?_)))))))));exact fun _ _ u v=>⟨K0,Z0,-1,fA u v hF⟩
     clear hF;rintro _ _ ⟨V2,E1,K1,q⟩;refine jn (fun hF=>?_) _ _ q;replace J0:=J0.mono E1.1;replace t0:=t0.mono E1.1;replace a0:=a0.mono E1.1;replace s0:=s0.mono E1.1;replace hG0:=hG0.mono E1.1;refine av 2 [(4,.bool (decide (K1≥0)))] kr (aa (Ok.ret (bA (vs:=[.bool (decide (K1≥0))]) (.inl rfl) rfl (.cons (.tmp rfl) .nil) rfl (av 2 [(5,.bool (decide (K1≥0)))] kr (bV (Ok.t ?_))))));subst aoD;exact fun _ _ u v=>⟨V2,E1,decide (K1≥0),fA u v hF⟩
    clear hF;rintro _ _ ⟨n1,O0,E0,q⟩;refine jn (fun hF=>?_) _ _ q;replace J0:=J0.mono O0.1;replace t0:=t0.mono O0.1;replace a0:=a0.mono O0.1;replace s0:=s0.mono O0.1;replace hG0:=hG0.mono O0.1;refine Ok.ret (bA (vs:=[.bool E0]) (.inl rfl) rfl (.cons (.tmp rfl) .nil) rfl (aa (dW hF rfl (fun j3=>?_) (fun j3=>?_))))
    ·replace hF:=hF.1 j3;refine ae (av 2 [(4,iv x0)] kr (aa (Ok.ret (aV (aC (aC (aV (aC (bA (vs:=[iv x0]) (.inl rfl) rfl (.cons (.tmp rfl) .nil) rfl ?_)))))))));subst t3;exact fun _ _ u v=>⟨n1,y1.trans O0,x0,fA u v hF⟩
    replace hF:=hF.2 j3;refine Ok.k (bG (Ok.t (aR (av 2 [(0,.slice f0 q0.length g0),(1,.func (.func 68) #[] #[pv dD 0,pv iF 0,pv W0 0]),(7,iv (q0.length:Int)),(8,iv (w6 (x0+1)))] kr (bV (Ok.t ?_))))));subst t3;exact fun _ _ u v=>⟨XL,nl,n1,y1.trans O0,w6 (x0+1),fA u v hF⟩
   refine fw (ay (ay (aM (Ok.t (ae (av 1 [(4,iv (-1))] kr (aa (Ok.ret (bA (vs:=[iv (-1)]) (.inl rfl) rfl (.cons (.tmp rfl) .nil) rfl ?_)))))))));exact fun _ _ u v=>⟨P0,y1,-1,fA u v hF⟩
  clear hF;rintro _ _ ⟨O1,C1,u1,q⟩;refine jn (fun hF=>?_) _ _ q;replace J0:=J0.mono C1.1;replace t0:=t0.mono C1.1;replace a0:=a0.mono C1.1;replace s0:=s0.mono C1.1;replace hG0:=hG0.mono C1.1;refine ag 1 [0,1] [(5,iv u1)] ?_;refine aa (aF (ae (ag 2 [0,1,5] [(12,.bool (u1==(-1)))] ?_)));refine aa (aJ hF (fun v3 hF=>?_) (fun v3 hF=>?_))
  ·refine ae (av 2 [(4,.slice f0 q0.length g0)] kr (aa (Ok.ret (aC (bA (vs:=[.slice f0 q0.length g0]) (.inl rfl) rfl (.cons (.tmp rfl) .nil) rfl ?_)))));exact fun _ _ u v=>⟨O1,C1,f0,g0,q0,C0,J0,fA u v hF⟩
  refine Ok.k (Ok.t (aF (ae (ag 3 [0,1,5] [(6,iv (w6 (u1+1)))] ?_))));refine aa (Ok.block ?_);obtain ⟨k,hF⟩:=hF;refine fQ (fun k a W=>∃ j1:ak,bf w0 O1 j1∧∃ (u0:Int) (b0:Int) (c0:Option Addr) (d0:Nat) (v0:List Int) (Y0:List Value),aW j1 (.int .i64) Y0 v0∧fC 42 [(0,.slice c0 v0.length d0),(1,.func (.func 68) #[] #[pv dD 0,pv iF 0,pv W0 0]),(5,iv u0),(6,iv b0)] a∧dm w0 [.blk W0 (.cells #[iv z0] 3),.own (.slice c0 v0.length d0) 3 1 v0.length Y0,.blk iF (.cells #[.slice R0 xp.1.length T0,.slice L0 xp.2.length A0] 28),.blk dD (.cells (aD xd n0 o0) 24)] j1 W∧kK N xd xp K z0 (lJ N xd xp K k8) k u0 b0 v0) k ?_ ?_
  ·
   exact fun _ _ u v=>⟨O1,bu w0 O1,u1,w6 (u1+1),f0,g0,q0,C0,J0,fA u v hF⟩
  clear hF;rintro (_ | KM) _ _ ⟨j1,a1,u0,b0,c0,d0,v0,Y0,Q0,q⟩;exact (q.2.2:False).elim;refine jn (fun hF=>?_) _ _ q;replace t0:=t0.mono a1.1;replace a0:=a0.mono a1.1;replace s0:=s0.mono a1.1;replace hG0:=hG0.mono a1.1;refine aF (ae (ag 4 [0,1,5,6] [(19,.bool (decide (b0<(v0.length:Int))))] ?_));refine aa (aJ hF (fun apg hF=>?_) (fun apg hF=>?_))
  ·refine Ok.k (Ok.t (Ok.cut (fun a W=>∃ D1:ak,bf w0 j1 D1∧∃ (t1:Int) (o1:Option Addr) (r1:Nat) (S0:List Int) (g1:List Value),aW D1 (.int .i64) g1 S0∧fC 42 [(0,.slice o1 S0.length r1),(1,.func (.func 68) #[] #[pv dD 0,pv iF 0,pv W0 0]),(5,iv t1),(6,iv b0)] a∧dm w0 [.blk W0 (.cells #[iv z0] 3),.own (.slice o1 S0.length r1) 3 1 S0.length g1,.blk iF (.cells #[.slice R0 xp.1.length T0,.slice L0 xp.2.length A0] 28),.blk dD (.cells (aD xd n0 o0) 24)] D1 W∧zo t1 S0 b0 (kK N xd xp K z0 (lJ N xd xp K k8) KM)) ?_ ?_))
   ·
    refine Ok.block (ae (ag 2 [0,1,5,6] [(22,.slice c0 v0.length d0),(23,iv b0)] ?_));obtain ⟨DN,IG,hF⟩:=hF;have V3:=aT (l:=v0) default IG;generalize Q3:(v0.getD b0.toNat default)=e25 at V3 hF ⊢;refine ai (af.fZ (e:=.int .i64) 1 rfl Q0 rfl rfl underlying46 kr kr DN V3 rfl fun ak9 _ Us B2=>?_);obtain rfl:=Us;replace B2:∀ j v,([iv e25]:List Value)[j]? = some v→Y0[b0.toNat * 1+j]? = some v:=B2;refine ai (af.s (v:=iv e25) (dP 1 0 rfl B2 rfl underlying3 rfl kr) rfl rfl (ag 1 [0,1,5,6] [(7,iv e25)] ?_));refine aa (ae (ag 2 [0,1,5,6,7] [(26,.func (.func 68) #[] #[pv dD 0,pv iF 0,pv W0 0]),(27,iv e25)] ?_));refine ai (bO (args:=#[iv e25,pv dD 0,pv iF 0,pv W0 0]) 19 [(0,iv e25),(1,pv dD 0),(2,pv iF 0),(3,pv W0 0)] gU func68 rfl rfl rfl rfl (ae (ai (af.box (v:=iv e25) (cs:=#[iv e25]) rfl kr rfl fun X0=>?_))));refine av 1 [(1,pv dD 0),(2,pv iF 0),(3,pv W0 0),(4,pv X0 0)] kr (aa (Ok.cut (fun a W=>∃ Z1:ak,bf w0 j1 Z1∧∃ (I0:Bool),fC 19 [(5,.bool I0)] a∧dm w0 [.blk W0 (.cells #[iv z0] 3),.own (.slice c0 v0.length d0) 3 1 v0.length Y0,.blk iF (.cells #[.slice R0 xp.1.length T0,.slice L0 xp.2.length A0] 28),.blk dD (.cells (aD xd n0 o0) 24)] Z1 W∧l_ I0 u0 b0 v0 (kK N xd xp K z0 (lJ N xd xp K k8) KM)) ?_ ?_))
    ·
     refine aR ?_;obtain ⟨Ux,hF⟩:=hF;refine aj 5 [.e 4,.e 0,.k (Kl xd e25 s0 Ux)] [1,2,3,4] [(10,.bool (!(eU xd e25)))] ?_;refine bP 10 hF (fun hc32 hF=>?_) (fun hc32 hF=>?_)
     ·refine av 9 [(5,.bool true)] kr (bV (Ok.t ?_));exact fun _ _ u v=>⟨j1,bu w0 j1,true,fA u v hF⟩
     refine ag 1 [1,3,4] [(10,.bool false),(11,pv iF 0)] ?_;refine dZ (af.s (v:=.slice R0 xp.1.length T0) (aS 3 rfl rfl underlying25 rfl kr) rfl rfl (dZ (af.s (v:=iv z0) (aS 1 rfl rfl underlying3 rfl kr) rfl rfl ?_)));obtain ⟨aef,ad4,hF⟩:=hF;have K3:=aT (l:=xp.1) default ad4;generalize aoF:(xp.1.getD z0.toNat default)=e34 at K3 hF ⊢;refine dZ (af.aX (e:=.slice yS) rfl rfl underlying25 kr t0 aef K3 rfl fun q33 o33 arG _ aj8 acg=>?_);obtain ⟨W1,X1,rfl,o2⟩:=oS acg;refine aj 2 [.a 0 aj8] [10] [(15,.slice W1 e34.length X1),(16,.func (.func 71) #[] #[pv dD 0,pv X0 0])] ?_;refine dZ (bO (args:=#[.slice W1 e34.length X1,.func (.func 71) #[] #[pv dD 0,pv X0 0]]) 9 [(0,.slice W1 e34.length X1),(1,.func (.func 71) #[] #[pv dD 0,pv X0 0])] gU func70 rfl rfl rfl rfl (ae (av 1 [(0,.slice W1 e34.length X1),(1,.func (.func 71) #[] #[pv dD 0,pv X0 0])] kr (aa (ae (av 2 [(5,.slice W1 e34.length X1),(6,.func (.func 71) #[] #[pv dD 0,pv X0 0])] kr (ai (af.cut (fun a W=>∃ Q2:ak,bf w0 j1 Q2∧∃ (Q1:Int),fC 9 [(7,iv Q1)] a∧dm w0 [.blk W0 (.cells #[iv z0] 3),.own (.slice c0 v0.length d0) 3 1 v0.length Y0,.blk iF (.cells #[.slice R0 xp.1.length T0,.slice L0 xp.2.length A0] 28),.blk dD (.cells (aD xd n0 o0) 24)] Q2 W∧Hl u0 b0 v0 (kK N xd xp K z0 (lJ N xd xp K k8) KM) Q1) ?_ ?_))))))))
     ·
      refine bO (args:=#[.slice W1 e34.length X1,.func (.func 71) #[] #[pv dD 0,pv X0 0]]) 19 [(0,.slice W1 e34.length X1),(1,.func (.func 71) #[] #[pv dD 0,pv X0 0])] gU func111 rfl rfl rfl rfl (ae (av 1 [(0,.slice W1 e34.length X1),(1,.func (.func 71) #[] #[pv dD 0,pv X0 0])] kr (aa (aF (ae (ag 3 [0,1] [(7,iv (e34.length:Int)),(8,iv 0)] ?_))))));refine aa (Ok.block ?_);obtain ⟨k,hF⟩:=hF;refine fQ (fun k a W=>∃ D0:ak,bf w0 j1 D0∧∃ (j0:Int),fC 19 [(0,.slice W1 e34.length X1),(1,.func (.func 71) #[] #[pv dD 0,pv X0 0]),(7,iv (e34.length:Int)),(8,iv j0)] a∧dm w0 [.blk X0 (.cells #[iv e25] 3),.blk W0 (.cells #[iv z0] 3),.own (.slice c0 v0.length d0) 3 1 v0.length Y0,.blk iF (.cells #[.slice R0 xp.1.length T0,.slice L0 xp.2.length A0] 28),.blk dD (.cells (aD xd n0 o0) 24)] D0 W∧Bj N xd u0 b0 v0 e25 (kK N xd xp K z0 (lJ N xd xp K k8) KM) e34 k j0) k ?_ ?_
      ·
       exact fun _ _ u v=>⟨j1,bu w0 j1,0,fA u v hF⟩
      clear hF;rintro (_ | anN) _ _ ⟨D0,U0,j0,q⟩;exact (q.2.2:False).elim;refine jn (fun hF=>?_) _ _ q;replace o2:=o2.mono U0.1;replace Q0:=Q0.mono U0.1;replace a0:=a0.mono U0.1;replace s0:=s0.mono U0.1;replace hG0:=hG0.mono U0.1;refine ae (ag 1 [0,1,7,8] [(9,.bool (decide (j0<(e34.length:Int))))] ?_);refine aa (aF (aJ hF (fun apd hF=>?_) (fun apd hF=>?_)))
      ·refine Ok.k (Ok.t (aF (Ok.block (ae (ag 2 [0,1,7,8] [(5,iv j0)] ?_)))));refine aa (ae (ag 3 [0,1,5,7,8] [(11,.func (.func 71) #[] #[pv dD 0,pv X0 0]),(12,.slice W1 e34.length X1),(13,iv j0)] ?_));obtain ⟨aee,ad3,hF⟩:=hF;have Y3:=aT (l:=e34) default ad3;generalize U3:(e34.getD j0.toNat default)=e37 at Y3 hF ⊢;refine ai (af.aX (e:=yS) rfl rfl underlying54 kr o2 aee Y3 rfl fun q36 o36 avX _ D2 an9=>?_);have p2:=an9;replace p2:=bE.tst.1 p2;obtain ⟨_,_,rfl,⟨_,_,rfl,rfl,⟨_,_,rfl,rfl,⟨_,_,rfl,rfl,⟨_,_,rfl,rfl,⟨_,_,rfl,rfl,rfl⟩⟩⟩⟩⟩,⟨T1,L1,rfl,acK,acf⟩⟩:=p2;have ads:bE D0 (.slice yP) [.slice T1 e37.kids.length L1] e37.kids:=⟨T1,L1,rfl,acK,acf⟩;replace D2:At D0 q36 o36 (vL e37.lab T1 e37.kids.length L1):=D2;refine ai (af.s (v:=.agg (aL e37.lab T1 e37.kids.length L1)) (bL 0 7 (aL e37.lab T1 e37.kids.length L1) D2 kr underlying60 rfl kr kr kr) rfl rfl (ai (bO (args:=#[.agg (aL e37.lab T1 e37.kids.length L1),pv dD 0,pv X0 0]) 10 [(0,.agg (aL e37.lab T1 e37.kids.length L1)),(1,pv dD 0),(2,pv X0 0)] gU func71 rfl rfl rfl rfl (ae (ai (cO fun yR=>?_))))));refine av 1 [(1,pv dD 0),(2,pv X0 0),(3,pv yR 0)] kr (aa (aF (aR ?_)));obtain ⟨aop,hF⟩:=hF;refine aj 6 [.e 5,.e 1,.e 0,.k (Ii _ xd e25 e37 s0 ads hG0 aop)] [] [(4,.bool (!(AA xd e25 e37)))] ?_;refine aa (Ok.ret (bA (vs:=[.bool (!(AA xd e25 e37))]) (.inl rfl) rfl (.cons (.tmp rfl) .nil) rfl (aa (dW hF rfl (fun x3=>?_) (fun x3=>?_)))))
       ·replace hF:=hF.1 x3;refine ae (av 2 [(4,iv j0)] kr (aa (Ok.ret (aV (aC (aC (aV (aC (bA (vs:=[iv j0]) (.inl rfl) rfl (.cons (.tmp rfl) .nil) rfl ?_)))))))));subst U3;exact fun _ _ u v=>⟨D0,U0,j0,fA u v hF⟩
       replace hF:=hF.2 x3;refine Ok.k (bG (Ok.t (aR (av 2 [(0,.slice W1 e34.length X1),(1,.func (.func 71) #[] #[pv dD 0,pv X0 0]),(7,iv (e34.length:Int)),(8,iv (w6 (j0+1)))] kr (bV (Ok.t ?_))))));subst U3;exact fun _ _ u v=>⟨anN,nl,D0,U0,w6 (j0+1),fA u v hF⟩
      refine fw (ay (ay (aM (Ok.t (ae (av 1 [(4,iv (-1))] kr (aa (Ok.ret (bA (vs:=[iv (-1)]) (.inl rfl) rfl (.cons (.tmp rfl) .nil) rfl ?_)))))))));exact fun _ _ u v=>⟨D0,U0,-1,fA u v hF⟩
     clear hF;rintro _ _ ⟨Q2,F1,Q1,q⟩;refine jn (fun hF=>?_) _ _ q;replace Q0:=Q0.mono F1.1;replace a0:=a0.mono F1.1;replace s0:=s0.mono F1.1;refine av 2 [(4,.bool (decide (Q1≥0)))] kr (aa (Ok.ret (bA (vs:=[.bool (decide (Q1≥0))]) (.inl rfl) rfl (.cons (.tmp rfl) .nil) rfl (av 2 [(5,.bool (decide (Q1≥0)))] kr (bV (Ok.t ?_))))));subst aoF;exact fun _ _ u v=>⟨Q2,F1,decide (Q1≥0),fA u v hF⟩
    clear hF;rintro _ _ ⟨Z1,m1,I0,q⟩;refine jn (fun hF=>?_) _ _ q;replace Q0:=Q0.mono m1.1;replace a0:=a0.mono m1.1;replace s0:=s0.mono m1.1;refine Ok.ret (bA (vs:=[.bool I0]) (.inl rfl) rfl (.cons (.tmp rfl) .nil) rfl (av 1 [(0,.slice c0 v0.length d0),(1,.func (.func 68) #[] #[pv dD 0,pv iF 0,pv W0 0]),(5,iv u0),(6,iv b0),(7,iv e25),(29,.bool (!I0))] kr (aa (dW hF rfl (fun s3=>?_) (fun s3=>?_)))))
    ·replace hF:=hF.1 s3;refine ae (ag 3 [0,1,5,6] [(30,.slice c0 v0.length d0),(31,iv u0),(32,iv e25)] ?_);obtain ⟨Np,Nj,hF⟩:=hF;have J3:=aT (l:=v0) default Nj;generalize UG:(v0.getD u0.toNat default)=e29 at J3 hF ⊢;refine ai (af.fZ (e:=.int .i64) 1 rfl Q0 rfl rfl underlying46 kr kr Np J3 rfl fun ak8 _ Ur c3=>?_);obtain rfl:=Ur;replace c3:∀ j v,([iv e29]:List Value)[j]? = some v→Y0[u0.toNat * 1+j]? = some v:=c3;refine ai (ko (e:=.int .i64) (q:=u0.toNat) (cells:=[iv e29]) (vs:=[iv e25]) (xG:=e25) 1 0 1 rfl Q0 c3 kr rfl rfl rfl kr kr kr kr kr (show bE _ _ [iv e25] _ from rfl) fun am7 adJ=>?_);rw [show v0.length=(v0.set u0.toNat e25).length from (kP ..).symm];refine aa (aR (ag 3 [1,6] [(0,.slice c0 (v0.set u0.toNat e25).length d0),(5,iv (w6 (u0+1)))] ?_));refine bV (bG (Ok.t ?_));subst UG;subst Q3;exact fun _ _ u v=>⟨Z1,m1,w6 (u0+1),c0,d0,(v0.set u0.toNat (v0.getD b0.toNat default)),am7,adJ,fA u v hF⟩
    replace hF:=hF.2 s3;refine Ok.k (bG (Ok.t ?_));subst Q3;exact fun _ _ u v=>⟨Z1,m1,u0,c0,d0,v0,Y0,Q0,fA u v hF⟩
   clear hF;rintro _ _ ⟨D1,S1,t1,o1,r1,S0,g1,AO,q⟩;refine jn (fun hF=>?_) _ _ q;replace a0:=a0.mono S1.1;replace s0:=s0.mono S1.1;refine aR (ag 3 [0,1,5] [(6,iv (w6 (b0+1)))] ?_);refine bV (Ok.t ?_);exact fun _ _ u v=>⟨KM,nl,D1,a1.trans S1,t1,w6 (b0+1),o1,r1,S0,g1,AO,fA u v hF⟩
  refine fw (ay (ay (aM (Ok.t (ae (ag 2 [0,5] [(36,.slice c0 v0.length d0),(37,iv u0)] ?_))))));refine zZ 1 rfl fun aj3 as6=>?_;obtain ⟨aro,aq6,aqO,hF⟩:=hF;refine ai (af.s (v:=vw c0 1 d0 u0.toNat (Int.toNat (v0.length:Int))) (y_ (size:=1) (l:=u0) (h:=(v0.length:Int)) rfl underlying46 kr (.inl ⟨_,_,rfl,rfl⟩) (.inr ⟨rfl,rfl⟩) aro aq6 (Int.le_trans aqO (Int.ofNat_le.2 aj3))) rfl rfl ?_);obtain ⟨d3,hF⟩:=hF;refine ai (wF (e:=.int .i64) (l:=v0) (lo:=u0.toNat) (y:=(0:Int)) (z:=iv 0) 1 rfl rfl Q0 underlying46 kr dc rfl d3 (dR _) fun aus aqy=>?_);rw [yM v0 u0.toNat (0:Int) (by rw [dR] at d3; exact d3)];refine aa (ae (av 2 [(39,.slice c0 (BD v0 u0.toNat (0:Int)).length d0),(40,iv u0)] kr ?_));obtain ⟨U5,adS,hF⟩:=hF;refine ai (qf (e:=.int .i64) (h:=u0) 1 rfl rfl rfl aqy underlying46 kr U5 adS rfl fun am5 aqx=>?_);refine av 1 [(4,.slice c0 ((BD v0 u0.toNat (0:Int)).take u0.toNat).length d0)] kr (aa (Ok.ret (bA (vs:=[.slice c0 ((BD v0 u0.toNat (0:Int)).take u0.toNat).length d0]) (.inl rfl) rfl (.cons (.tmp rfl) .nil) rfl ?_)));exact fun _ _ u v=>⟨j1,C1.trans a1,c0,d0,((BD v0 u0.toNat (0:Int)).take u0.toNat),am5,aqx,fA u v hF⟩
 clear hF;rintro _ _ ⟨H1,G1,H0,M0,y0,f1,B0,q⟩;refine jn (fun hF=>?_) _ _ q;replace a0:=a0.mono G1.1;replace s0:=s0.mono G1.1;refine ag 1 [3,5,8] [(7,.slice H0 y0.length M0)] ?_;refine aa (aF (ae (aj 3 [.e 0] [3,5,7,8] [(25,.bool (z0==0))] ?_)));refine Ok.w 4 [(3,pv dD 0),(5,pv iF 0),(7,.slice H0 y0.length M0),(8,pv W0 0),(29,.bool ((z0==0)||((y0.length:Int)==0)))] (fun Bp=>?_) ?_
 ·refine Ok.a 25 (z0==0) rfl (fun hc6=>?_) (fun hc6=>?_)
  ·skip;refine ag 4 [3,5,7,8] [(29,.bool true)] ?_;refine aB 29 ((z0==0)||((y0.length:Int)==0)) (cK hc6) (ag 0 [3,5,7,8] [(29,.bool ((z0==0)||((y0.length:Int)==0)))] ?_);exact Bp
  skip;refine ag 4 [3,5,7,8] [(29,.bool ((y0.length:Int)==0))] ?_;refine aB 29 ((z0==0)||((y0.length:Int)==0)) (bN hc6) (ag 0 [3,5,7,8] [(29,.bool ((z0==0)||((y0.length:Int)==0)))] ?_);exact Bp
 refine aa (aJ hF (fun iB hF=>?_) (fun iB hF=>?_))
 ·refine ae (av 4 [(6,.bool (decide ((y0.length:Int)>0)))] kr (aa (Ok.ret (aC (aV (aC (aC (aV ?_))))))));exact jg (.bool (decide ((y0.length:Int)>0))) (K2.trans G1) ⟨_,rfl,rfl,hF⟩
 refine Ok.k (Ok.t (ae (ag 1 [3,5,7,8] [(9,.slice none 0 0)] ?_)));have ZQ:aW H1 (.int .i64) [] []:=rfl;refine fT 3 1 (aa (aF (ae (ag 3 [3,5,8] [(9,.slice none ([]:List Int).length 0),(33,.slice H0 y0.length M0),(34,iv (y0.length:Int)),(35,iv 0)] ?_))));refine aa (Ok.block ?_);obtain ⟨k,hF⟩:=hF;refine fQ (fun k a W=>∃ E2:ak,bf w0 H1 E2∧∃ (N0:Int) (F0:Option Addr) (G0:Nat) (e0:List Int) (Y1:List Value),aW E2 (.int .i64) Y1 e0∧fC 56 [(3,pv dD 0),(5,pv iF 0),(8,pv W0 0),(9,.slice F0 e0.length G0),(33,.slice H0 y0.length M0),(34,iv (y0.length:Int)),(35,iv N0)] a∧dm w0 [.own (.slice F0 e0.length G0) 3 1 e0.length Y1,.blk W0 (.cells #[iv z0] 3),.own (.slice H0 y0.length M0) 3 1 y0.length f1,.blk iF (.cells #[.slice R0 xp.1.length T0,.slice L0 xp.2.length A0] 28),.blk dD (.cells (aD xd n0 o0) 24)] E2 W∧He xd xp z0 (lJ N xd xp K k8) y0 k N0 e0) k ?_ ?_
 ·
  exact fun _ _ u v=>⟨H1,bu w0 H1,0,none,0,([]:List Int),[],ZQ,fA u v hF⟩
 clear hF;rintro (_ | k27) _ _ ⟨E2,A1,N0,F0,G0,e0,Y1,x1,q⟩;exact (q.2.2:False).elim;refine jn (fun hF=>?_) _ _ q;replace B0:=B0.mono A1.1;replace a0:=a0.mono A1.1;replace s0:=s0.mono A1.1;refine ae (ag 1 [3,5,8,9,33,34,35] [(36,.bool (decide (N0<(y0.length:Int))))] ?_);refine aa (aF (aJ hF (fun mq hF=>?_) (fun mq hF=>?_)))
 ·refine Ok.k (Ok.t (aF (Ok.block (aF (aR ?_)))));obtain ⟨Nu,DK,hF⟩:=hF;have W3:=aT (l:=y0) default DK;generalize Ip:(y0.getD (Int.toNat N0) default)=e11 at W3 hF ⊢;refine ai (af.fZ (e:=.int .i64) 2 rfl B0 rfl rfl underlying46 kr kr Nu W3 rfl fun Rb _ Ik s2=>?_);obtain rfl:=Ik;replace s2:∀ j v,([iv e11]:List Value)[j]? = some v→f1[Int.toNat N0 * 1+j]? = some v:=s2;refine ai (af.s (v:=iv e11) (dP 2 0 rfl s2 rfl underlying3 rfl kr) rfl rfl (ag 1 [3,5,8,9,33,34,35] [(11,iv e11)] ?_));refine aa (wH [] [] [0,1,1,1,1] [(0,true),(1,true),(2,true),(3,true),(4,true),(5,true),(6,true),(7,true),(8,false),(9,false),(10,false),(11,true)] ?_);refine iJ 1 [3,5,8,11,33,34,35] [(39,.slice F0 e0.length G0)] ?_;refine eH.hd (fK.s (v:=.agg (aD xd n0 o0)) (aZ 3 2 (aD xd n0 o0) rfl rfl underlying24 rfl kr kr kr) rfl rfl ?_);refine iJ 2 [3,5,8,33,34,35,39] [(40,.agg (aD xd n0 o0)),(41,iv e11),(42,pv iF 1)] ?_;refine eH.hd (fK.s (v:=.slice L0 xp.2.length A0) (aS 2 rfl rfl underlying26 rfl kr) rfl rfl ?_);refine eH.hd (fK.s (v:=iv z0) (aS 0 rfl rfl underlying3 rfl kr) rfl rfl ?_);refine iJ 1 [3,5,8,33,34,35,39,40,41] [(43,.slice L0 xp.2.length A0),(45,iv (w6 (z0 - 1)))] ?_;obtain ⟨Nt,IJ,hF⟩:=hF;have X3:=aT (l:=xp.2) default IJ;generalize UH:(xp.2.getD (Int.toNat (w6 (z0 - 1))) default)=e13 at X3 hF ⊢;refine eH.hd (fK.aX (e:=.int .u8) rfl rfl underlying26 kr a0 Nt X3 rfl fun q12 o12 alc _ F2 Uv=>?_);obtain rfl:=Uv;replace F2:At E2 q12 o12 [.int .u8 e13]:=F2;refine eH.t rfl rfl (af.s (v:=.int .u8 e13) (fe 0 F2 kr underlying5 rfl kr) rfl rfl (h_ (lG.refl _) ?_));obtain ⟨L2,hF⟩:=hF;refine eH.t rfl rfl (bS (aiD xd e11 e13 s0 L2) fun g15 _ _ y2 apQ=>?_);obtain ⟨aug,atJ,rfl,adF,rfl⟩:=apQ;replace x1:=x1.mono y2.1;refine h_ y2.1 ?_;obtain ⟨aps,hF⟩:=hF;refine eH.t rfl rfl (wG (e:=.int .i64) 8 17592186044416 0 rfl rfl rfl x1 adF underlying46 kr kr kr aps rfl fun a16 c16 anc adM=>?_);refine h_ y2.1 (iJ 1 [3,5,8,33,34,35] [(9,.slice a16 (e0++mnxS xd e11 e13).length c16)] ?_);refine eH.nil (bG (Ok.t (aR (ag 2 [3,5,8,9,33,34] [(35,iv (w6 (N0+1)))] ?_))));refine bV (Ok.t ?_);subst UH;subst Ip;exact fun _ _ u v=>⟨k27,nl,g15,A1.trans y2,w6 (N0+1),a16,c16,(e0++(mnxS xd (y0.getD (Int.toNat N0) default) (xp.2.getD (Int.toNat (w6 (z0 - 1))) default))),anc,adM,fA u v hF⟩
 refine fw (ay (ay (aM (Ok.t (ae (ag 1 [3,5,8,9] [(51,.slice F0 e0.length G0)] ?_))))));obtain ⟨A2,hF⟩:=hF;refine ai (bS (ag4 e0 x1 A2) fun g18 _ _ r2 UN=>?_);obtain ⟨RF,rfl,t2,rfl,u2⟩:=UN;refine gX 9 rfl (show (.slice F0 e0.length G0:Value)=.slice F0 (nT e0).length G0 from by rw [u2]) (gX 51 rfl (show (.slice F0 e0.length G0:Value)=.slice F0 (nT e0).length G0 from by rw [u2]) (aa (aR (ag 1 [3,5,8] [(53,.slice F0 (nT e0).length G0)] ?_))));obtain ⟨Y2,hF⟩:=hF;refine ai (bS (alh (nT e0) t2 Y2) fun g20 _ _ M1 I2=>?_);obtain ⟨a2,Z2,W2,rfl,X2,rfl⟩:=I2;refine ag 1 [3,5,8] [(7,.slice a2 (nO (nT e0)).length Z2)] ?_;refine bV (bG (Ok.t (aF (ae (ai (af.s (v:=iv z0) (aS 1 rfl rfl underlying3 rfl kr) rfl rfl (aa (aR (ai (af.a (z:=iv 0) (cs:=#[iv 0]) kr kr rfl fun pW=>?_))))))))));refine ai (dA 0 ?_);refine aa (aR (aj 2 [.e 0] [3,5,7] [(8,pv pW 0),(19,iv (w6 (z0 - 1)))] ?_));refine ai (dA 0 ?_);refine bV (Ok.t ?_);exact fun _ _ u v=>⟨k8,nl,g20,((((K2.trans G1).trans A1).trans r2).trans M1),pW,w6 (z0 - 1),a2,Z2,nO (nT e0),W2,X2,fA u v hF⟩
theorem aiJ (d:DC) (n:Int) (t:Ts):¬ QO 0 d n t:=fun h=>absurd h.1 (iN _)
theorem aiB (d:DC) (n:Int) (t:Ph):¬ QN 0 d n t:=fun h=>absurd h.1 (iN _)
theorem aiy (d:DC) (n:Int) (t:List Ph):¬ Ke 0 d n t:=fun h=>absurd h.1 (iN _)
theorem o_ {d:DC} {n:Int} (h:nu d n):n.toNat<d.1.length:=by have:=h.1; have:=h.2; omega
theorem IM {d:DC} (hG:gN d) {n:Int} (h:nu d n):mV (lI d n).2.2.1:=hG.vals _ (o_ h)
theorem ai8 {t:Ts}:t.lab.2.2.2.1.length≤bT t:=by have:=kE t; omega
theorem XK {d:DC} (hG:gN d) {n:Int} (hn:nu d n) (he:eU d n=true):0≤(cB d n).2∧(cB d n).2<((cB d n).1.length:Int)∧(cB d n).1.length≤200:=⟨(H9 hG hn he).1,(H9 hG hn he).2,yx hG hn⟩
theorem Pv {t:Ts} (h:∃ i,yh t i=true):rV t.kids=true:=by
 obtain ⟨i,h⟩:=h;rw [lW,aH] at h;have h:=h.2
 split at h
 ·unfold nV at h; rw [aH] at h; exact h.1
 have:t.kids=[]:=iO (by have:=eq_of_beq h; omega);rw [this]; rw [rV]
theorem Yd (d:DC) (t:Ts) (n:Int):EC d t n=KJ d t.lab n (xk d t.kids n):=by obtain ⟨x,l⟩:=t; rw [EC]; rfl
theorem aiI (N:Nat) (d:DC) (n:Int) (t:Ts) (h:QO (N+1) d n t):aiK N d n t (fun r=>r=AA d n t):=by
 obtain ⟨h1,h2,hG,hn,he,hk⟩:=h;have hA:=IM hG hn
 have hP:∀ w,QP (lI d n) w:=fun w=>by show (lI d n).2.2.1.length≤1000; have:=hA.1; omega
 have hM:Xw (lI d n) t:=⟨hA,by have:=ai8 (t:=t); omega⟩
 have hW:XR (jK (lI d n).2.2.1 oP).1 t.lab.2.1:=by show (jK (lI d n).2.2.1 oP).1.length≤1000; have:=BH hA.2 oP; omega
 have hS:Ke N d n t.kids:=⟨by have:=kE t; omega,by have:=kE t; omega,hG,hn,Pv hk⟩;obtain ⟨i0,i1,i2⟩:=XK hG hn he;have hr:AA d n t=KJ d t.lab n (xk d t.kids n):=Yd d t n;generalize AA d n t=r at hr;unfold KJ at hr
 have j49:(t.lab.1==2)=false→(t.lab.1==3)=false→(t.lab.1==4)=false→(t.lab.1==5)=false→(t.lab.1==6)=false→(t.lab.1==7)=false→Ht N d n t (fun a=>a=r):=by
  intro q2 q3 q4 q5 q6 q7;rw [aG q2,aG q3,aG q4,aG q5,aG q6,aG q7] at hr
  have j58:((t.lab.1==8)||(t.lab.1==9))=true→Hr d n t (fun a=>a=r):=by
   intro h89;show kD t.lab.2.2.2.2.1 t.lab.2.2.2.2.2 (w6 (tC d n t+1))=r
   cases h9:(t.lab.1==9) with
   | true =>
    have h8:(t.lab.1==8)=false:=by rw [eq_of_beq h9]; rfl
    rw [aG h8,aU h9,gu i0,fJ] at hr
    have e:tC d n t=((cB d n).1.length:Int) - 1 - (cB d n).2:=by
     unfold tC;rw [aU h9,fU (x:=((cB d n).1.length:Int) - 1) om,fU om]
    rw [hr,e,fU om,show ((cB d n).1.length:Int) - 1 - (cB d n).2+1=((cB d n).1.length:Int) - (cB d n).2 by omega]
   | false =>
    rw [h9,nD] at h89;rw [aU h89,gu i0,fJ] at hr
    have e:tC d n t=(cB d n).2:=by unfold tC; rw [aG h9]
    rw [hr,e,fU om]
  refine ⟨fun h=>⟨⟨hG,hn⟩,fun _=>j58 h,fun _=>j58 h⟩,fun h=>?_⟩;rw [dB] at h;rw [aG h.1,aG h.2] at hr;refine ⟨fun q=>⟨hS,?_⟩,fun q=>⟨fun q'=>⟨hS,?_⟩,fun q'=>?_⟩⟩
  ·rw [aU q] at hr; exact hr.symm
  ·rw [aG q,aU q'] at hr; exact hr.symm
  rw [aG q,aG q'] at hr; exact hr.symm
 refine ⟨hn.1,o_ hn,fun q2=>?_,fun q2=>⟨fun q3=>⟨hP _,fun _=>?_,fun _=>?_⟩,fun q3=>⟨fun q4=>⟨hP _,hW,?_⟩,fun q4=>⟨fun q5=>⟨hM,?_⟩,fun q5=>⟨fun q6=>?_,fun q6=>⟨fun q7=>⟨⟨hG,hn⟩,?_⟩,fun q7=>⟨fun _=>j49 q2 q3 q4 q5 q6 q7,fun _=>j49 q2 q3 q4 q5 q6 q7⟩⟩⟩⟩⟩⟩⟩
 ·rw [aU q2] at hr; exact hr.symm
 ·rw [aG q2,aU q3] at hr; exact hr.symm
 ·rw [aG q2,aU q3] at hr; exact hr.symm
 ·rw [aG q2,aG q3,aU q4] at hr; exact hr.symm
 ·rw [aG q2,aG q3,aG q4,aU q5] at hr; exact hr.symm
 ·rw [aG q2,aG q3,aG q4,aG q5,aU q6] at hr; exact hr.symm
 rw [aG q2,aG q3,aG q4,aG q5,aG q6,aU q7] at hr; exact hr.symm
theorem aix (N:Nat) (d:DC) (n:Int) (l:List Ph) (h:Ke (N+1) d n l):aiz N d n l (fun r=>r=tL d n l):=by
 obtain ⟨h1,h2,hG,hn,hk⟩:=h;rw [mO] at h1 h2
 have hl:l.length≤1048600:=by have:=qo l; omega
 have hP:∀ q ∈ l,QN N d n q:=fun q hq=>by
  have:=sW hq;have ho:=kI hk hq;exact ⟨om,om,hG,hn,ho.1.1,ho.1.2.1,ho.2,ho.1.2.2⟩
 have loop:∀ (k i:Nat),i+k=l.length→tL d n l=xk d (l.drop i) n→Bh N d n l (fun r=>r=tL d n l) (k+1) (i:Int):=by
  intro k
  induction k with
  | zero =>
   intro i h3 h4;rw [eD om,xk] at h4;exact ⟨fun hc=>od hc,fun _=>h4.symm⟩
  | succ k ih =>
   intro i h3 h4;rw [bX (l:=l) default om,FW] at h4;refine ⟨fun _=>⟨om,by rw [dR]; omega,hP _ (gM default (by rw [dR]; omega)),fun hc=>?_,fun hc=>?_⟩,fun hc=>oe hc⟩
   ·rw [dR] at hc;have hc:rch (mnxS d) (AQ d (l.getD i default).1).reverse (l.getD i default).2.reverse n=true:=hc;rw [hc,pM] at h4;show decide ((i:Int)≥0)=_;rw [h4,gu om]
   rw [dR] at hc;have hc:rch (mnxS d) (AQ d (l.getD i default).1).reverse (l.getD i default).2.reverse n=false:=hc;rw [hc,lC] at h4;rw [fU om];exact ih (i+1) om h4
 exact ⟨_,loop l.length 0 om rfl⟩
def fB (d:DC) (p:Ph) (a:Nat) (x:Int):Bool:=all1 d (p.1.getD a default) x
def FB (d:DC) (p:Ph) (a:Nat) (x:Int):Bool:=eU d x&&fB d p a x
def GB (d:DC) (p:Ph) (a:Nat) (x:Int):Bool:=rch (mnxS d) ((AQ d p.1).take (a+1)).reverse (p.2.take a).reverse x
theorem yG (d:DC) (p:List (List Ts)):(AQ d p).length=p.length:=by rw [Bq,iY]
theorem K7 (d:DC) (p:Ph) {a:Nat} (h:a<p.1.length):(AQ d p.1).getD a default=FB d p a:=by
 rw [Bq,gT,iZ];unfold FB fB;rw [gT,gH h];rfl
theorem Y_ (d:DC) (p:Ph) (h:0<p.1.length) (x:Int):GB d p 0 x=FB d p 0 x:=by
 unfold GB;rw [iD default (by rw [yG]; exact h),K7 d p h,List.take_zero,jV,List.reverse_singleton,rch,List.isEmpty_nil,pM,Bool.and_true]
theorem Za (d:DC) (p:Ph) {b:Nat} (h:b+1<p.1.length) (hj:b<p.2.length) (x:Int):GB d p (b+1) x=(FB d p (b+1) x&&(mnxS d x (p.2.getD b default)).any (GB d p b)):=by
 unfold GB
 rw [iD default (by rw [yG]; exact h),K7 d p h,List.reverse_append,List.reverse_singleton,List.singleton_append,iD default hj,List.reverse_append,List.reverse_singleton,List.singleton_append,JW (by
  intro e;have:=aA List.length e;rw [List.length_reverse,gG,yG,jW] at this
  omega)]
theorem Xv {d:DC} (hG:gN d) {n:Int} (hn:nu d n) (j:Int):(mnxS d n j).length≤200:=by
 have h1:(upS d n).length≤42:=P9 d.1 42 _;have h2:((cB d n).1).length≤200:=yx hG hn;unfold mnxS
 split
 ·split
  ·rw [gG]; omega
  omega
 split
 ·rw [gG,List.length_reverse,gG]; omega
 rw [List.length_reverse,gG]; omega
theorem EF {l m:List Int} {f:Int→Bool} (h:∀ x,x ∈ l↔x ∈ m):l.any f=m.any f:=by
 rw [uX,xC,xC];exact ⟨fun ⟨x,hx,e⟩=>⟨x,(h x).1 hx,e⟩,fun ⟨x,hx,e⟩=>⟨x,(h x).2 hx,e⟩⟩
theorem uL (l:List Int) (f g:Int→Bool):(l.any fun x=>f x&&g x)=(l.filter f).any g:=by
 induction l with
 | nil=>rfl
 | cons x l ih =>
  rw [jM,ih,List.filter_cons]
  cases hf:f x with
  | true=>rw [bB rfl,jM,fJ]
  | false=>rw [aQ dc,iw,lC]
theorem VM (l:List Int) (f:Int→List Int) (g:Int→Bool):(l.any fun x=>(f x).any g)=(l.flatMap f).any g:=by
 induction l with
 | nil=>rfl
 | cons x l ih=>rw [jM,ih,List.flatMap_cons,List.any_append]
theorem aiA (N:Nat) (d:DC) (n:Int) (p:Ph) (h:QN (N+1) d n p):aiC N d n p (fun r=>r=Ex d n p):=by
 obtain ⟨hw1,hw2,hG,hn,hp1,hp2,hp3,XT⟩:=h
 have hlen:p.1.length≤1048600:=by have:=rM p.1; omega
 have hpos:0<p.1.length:=List.length_pos_iff.2 hp1
 have hR:Ex d n p=[n].any (GB d p (p.1.length - 1)):=by
  rw [jM,xB,nD];unfold GB Ex;rw [show p.1.length - 1+1=p.1.length by omega,jU (by rw [yG]; exact fP _),jU om]
 generalize Ex d n p=r at hR
 have hT:∀ (a:Nat),a<p.1.length→∀ t ∈ p.1.getD a default,∀ x,nu d x→eU d x=true→QO N d x t:=fun a ha t ht x hx hm=>by
  have hs:p.1.getD a default ∈ p.1:=gM default ha;have h1:=xK ht;have h2:=tQ hs;obtain ⟨i,hi⟩:=rW hp3 hs;obtain ⟨k,hk⟩:=GR hi ht;exact ⟨om,om,hG,hx,hm,k,hk⟩
 have hS:∀ a,a<p.1.length→(p.1.getD a default).length≤1048600:=fun a ha=>by
  have h1:=rO (p.1.getD a default);have h2:=tQ (show p.1.getD a default ∈ p.1 from gM default ha);omega
 have in6:∀ (a:Nat) (ha:a<p.1.length) (x:Int),nu d x→eU d x=true→∀ (i:Int) (S:List Int) (C8:Int→List Int→Prop) (C7:Int→Prop),
   (fB d p a x=false→yo N d p (fun b=>b=r) (a:Int) S C8 i)→(fB d p a x=true→C7 (w6 (i+1))) →
   ∀ (k m:Nat),m+k=(p.1.getD a default).length→fB d p a x=all1 d ((p.1.getD a default).drop m) x→Bi N d p (fun b=>b=r) i (a:Int) S C8 x C7 (p.1.getD a default) (k+1) (m:Int):=by
  intro a ha x hx hm i S C8 C7 hA hB k;have hSa:=hS a ha
  induction k with
  | zero =>
   intro m h1 h2;rw [eD om,all1] at h2;exact ⟨fun hc=>od hc,fun _=>⟨fun h=>absurd h dc,fun _=>hB h2⟩⟩
  | succ k ih =>
   intro m h1 h2;rw [bX (l:=p.1.getD a default) default om,all1] at h2;refine ⟨fun _=>⟨om,by rw [dR]; omega,hT a ha _ (gM default (by rw [dR]; omega)) x hx hm,fun hc=>?_,fun hc=>?_⟩,fun hc=>oe hc⟩
   ·rw [dR] at hc
    have hc:EC d ((p.1.getD a default).getD m default) x=false:=by rw [dC] at hc; exact hc
    rw [hc,iw] at h2;exact ⟨fun _=>hA h2,fun hcc=>oe hcc⟩
   rw [dR] at hc
   have hc:EC d ((p.1.getD a default).getD m default) x=true:=by rw [eX] at hc; exact hc
   rw [hc,fJ] at h2;rw [fU om];exact ih (m+1) om h2
 have in4:∀ (a:Nat) (ha:a<p.1.length) (x:Int),nu d x→eU d x=true→∀ (i j:Int) (own:List Int) (C:Int→Int→List Int→Prop),
   l_ (!(fB d p a x)) i j own C →
   ∀ (k m:Nat),m+k=(p.1.getD a default).length→fB d p a x=all1 d ((p.1.getD a default).drop m) x→Bj N d i j own x C (p.1.getD a default) (k+1) (m:Int):=by
  intro a ha x hx hm i j own C hA k;have hSa:=hS a ha
  induction k with
  | zero =>
   intro m h1 h2;rw [eD om,all1] at h2;rw [h2] at hA;exact ⟨fun hc=>od hc,fun _=>hA⟩
  | succ k ih =>
   intro m h1 h2;rw [bX (l:=p.1.getD a default) default om,all1] at h2;refine ⟨fun _=>⟨om,by rw [dR]; omega,hT a ha _ (gM default (by rw [dR]; omega)) x hx hm,fun hc=>?_,fun hc=>?_⟩,fun hc=>oe hc⟩
   ·rw [dR] at hc
    have hc:EC d ((p.1.getD a default).getD m default) x=false:=by rw [dC] at hc; exact hc
    rw [hc,iw] at h2;rw [h2] at hA;show l_ (decide ((m:Int)≥0)) i j own C;rw [gu om];exact hA
   rw [dR] at hc
   have hc:EC d ((p.1.getD a default).getD m default) x=true:=by rw [eX] at hc; exact hc
   rw [hc,fJ] at h2;rw [fU om];exact ih (m+1) om h2
 have second:∀ (a:Nat) (ha:a<p.1.length) (S:List Int) (hin:∀ x ∈ S,nu d x) (hl:S.length≤200) (C8:Int→List Int→Prop),yt d p (fun b=>b=r) (a:Int) C8 (S.filter (FB d p a)) →
   ∀ (k i j:Nat) (own:List Int),j+k=S.length→vT S (FB d p a) i j own→kK N d p (fun b=>b=r) (a:Int) C8 (k+1) (i:Int) (j:Int) own:=by
  intro a ha S hin hl C8 hji k
  induction k with
  | zero =>
   intro i j own h hI;have hj:j=S.length:=om;subst hj;have hln:=hI.len;have hij:=hI.ij;have hfin:=hI.fin;have hcl:(BD own i (0:Int)).length=own.length:=(yM own i 0 om).symm;refine ⟨fun hc=>od hc,fun _=>⟨om,om,lv _,om,om,?_,?_⟩⟩
   ·rw [dR]; omega
   rw [dR,hfin];exact hji
  | succ k ih =>
   intro i j own h hI;have hln:=hI.len;have hij:=hI.ij;have hg:=hI.get;have hx:=hin (S.getD j default) (gM default om)
   have st:∀ b,b = !(FB d p a (S.getD j default))→l_ b (i:Int) (j:Int) own (kK N d p (fun b=>b=r) (a:Int) C8 (k+1)):=by
    intro b hb;refine ⟨fun hc=>⟨om,by rw [dR]; omega,?_⟩,fun hc=>?_⟩
    ·have hc':FB d p a (S.getD j default)=true:=by rw [hb,Bool.not_not] at hc; exact hc
     show kK N d p (fun b=>b=r) (a:Int) C8 (k+1) _ _ _;rw [dR,dR,fU om,fU om,show (i:Int)+1=((i+1:Nat):Int) by omega,show (j:Int)+1=((j+1:Nat):Int) by omega];exact ih (i+1) (j+1) _ om (hI.keep om hc')
    have hc':FB d p a (S.getD j default)=false:=by rw [hb,Bool.not_not] at hc; exact hc
    show kK N d p (fun b=>b=r) (a:Int) C8 (k+1) _ _ _;rw [fU om,show (j:Int)+1=((j+1:Nat):Int) by omega];exact ih i (j+1) own om (hI.skip om hc')
   refine ⟨fun _=>⟨om,by rw [dR]; omega,?_⟩,fun hc=>oe hc⟩;rw [dR,hg];refine ⟨⟨hx.1,o_ hx⟩,fun hc=>?_,fun hc=>⟨om,by rw [dR]; exact ha,?_⟩⟩
   ·have hc:eU d (S.getD j default)=false:=by rw [dC] at hc; exact hc
    exact st true (by unfold FB; rw [hc]; rfl)
   have hc:eU d (S.getD j default)=true:=by rw [eX] at hc; exact hc
   rw [dR];exact ⟨_,in4 a ha _ hx hc _ _ _ _ (st _ (by unfold FB; rw [hc,fJ])) (p.1.getD a default).length 0 om rfl⟩
 have first:∀ (a:Nat) (ha:a<p.1.length) (S:List Int) (hin:∀ x ∈ S,nu d x) (hl:S.length≤200) (C8:Int→List Int→Prop),yt d p (fun b=>b=r) (a:Int) C8 (S.filter (FB d p a)) →
   ∀ (k i:Nat),i+k=S.length→(S.take i).filter (FB d p a)=S.take i→rX N d p (fun b=>b=r) (a:Int) S C8 (k+1) (i:Int):=by
  intro a ha S hin hl C8 hji k
  induction k with
  | zero =>
   intro i h hf;refine ⟨fun hc=>od hc,fun _=>⟨fun _=>?_,fun hc=>absurd hc dc⟩⟩;rw [jU om] at hf;rw [hf] at hji;exact hji
  | succ k ih =>
   intro i h hf;have hx:=hin (S.getD i default) (gM default om)
   have no:FB d p a (S.getD i default)=false→yo N d p (fun b=>b=r) (a:Int) S C8 (i:Int):=fun hc=>by
    refine ⟨fun hc=>absurd (eq_of_beq hc) om,fun _=>?_⟩;rw [fU om,show (i:Int)+1=((i+1:Nat):Int) by omega];exact ⟨_,second a ha S hin hl C8 hji (S.length - (i+1)) i (i+1) S om (vT.start om hf hc)⟩
   refine ⟨fun _=>⟨om,by rw [dR]; omega,?_⟩,fun hc=>oe hc⟩;rw [dR];refine ⟨⟨hx.1,o_ hx⟩,fun hc=>?_,fun hc=>⟨om,by rw [dR]; exact ha,?_⟩⟩
   ·have hc:eU d (S.getD i default)=false:=by rw [dC] at hc; exact hc
    exact ⟨fun _=>no (by unfold FB; rw [hc]; rfl),(fun h=>by cases h)⟩
   have hc:eU d (S.getD i default)=true:=by rw [eX] at hc; exact hc
   rw [dR];refine ⟨_,in6 a ha _ hx hc _ _ _ _ (fun hf2=>no (by unfold FB; rw [hf2,uY])) (fun hf2=>?_) (p.1.getD a default).length 0 om rfl⟩;rw [fU om,show (i:Int)+1=((i+1:Nat):Int) by omega];exact ih (i+1) om (Lr om hf (by unfold FB; rw [hc,hf2]; rfl))
 have loop:∀ (a:Nat) (S:List Int),a<p.1.length→(∀ x ∈ S,nu d x)→S.length≤200→r=S.any (GB d p a)→lJ N d p (fun b=>b=r) (a+1) (a:Int) S:=by
  intro a
  induction a with
  | zero =>
   intro S ha hin hl hS;refine ⟨_,first 0 ha S hin hl _ ⟨fun _=>?_,fun hc=>absurd hc (by simp)⟩ S.length 0 om rfl⟩;rw [show S.any (GB d p 0)=S.any (FB d p 0) from aA S.any (funext (Y_ d p ha))] at hS;have e:(S.any fun x=>FB d p 0 x&&true)=(S.filter (FB d p 0)).any fun _=>true:=uL S (FB d p 0) fun _=>true;simp only [Bool.and_true] at e;rw [hS,show S.any (FB d p 0)=_ from e]
   cases S.filter (FB d p 0) with
   | nil=>rfl
   | cons x l=>rw [jM,pM]; exact gu (by rw [di]; omega)
  | succ b ih =>
   intro S ha hin hl hS;have hjb:b<p.2.length:=om;rw [show S.any (GB d p (b+1))=S.any (fun x=>FB d p (b+1) x&&(mnxS d x (p.2.getD b default)).any (GB d p b)) from aA S.any (funext (Za d p ha hjb)),uL,VM] at hS
   have hin':∀ x ∈ S.filter (FB d p (b+1)),nu d x∧eU d x=true:=fun x hx=>by
    have hx:=pK.1 hx;unfold FB at hx;rw [aH] at hx;exact ⟨hin x hx.1,hx.2.1⟩
   have hl':(S.filter (FB d p (b+1))).length≤200:=gQ (zT ..) hl;refine ⟨_,first (b+1) ha S hin hl _ ?_ S.length 0 om rfl⟩;generalize S.filter (FB d p (b+1))=S' at hin' hl' hS
   have e1:w6 (((b+1:Nat):Int) - 1)=(b:Int):=by rw [fU om]; omega
   refine ⟨fun hc=>?_,fun hc=>?_⟩
   ·have hc:S'=[]:=by
     rw [dY] at hc
     rcases hc with hc | hc
     ·have:=eq_of_beq hc; omega
     exact iO (by have:=eq_of_beq hc; omega)
    subst hc;exact hS.symm
   have l27:∀ (k i:Nat) (acc:List Int),i+k=S'.length→acc++(S'.drop i).flatMap (fun x=>mnxS d x (p.2.getD b default))=S'.flatMap (fun x=>mnxS d x (p.2.getD b default))→acc.length≤i * 200 →
     He d p ((b+1:Nat):Int) (lJ N d p (fun b=>b=r) (b+1)) S' (k+1) (i:Int) acc:=by
    intro k
    induction k with
    | zero =>
     intro i acc h1 h2 h3;rw [eD om,List.flatMap_nil,gK] at h2;have h5:acc.length≤40000:=om;refine ⟨fun hc=>od hc,fun _=>⟨by show acc.length≤1000000000000; omega,?_,?_⟩⟩
     ·show (nT acc).length≤1000000000000;unfold nT; rw [List.length_mergeSort]; omega
     rw [e1]
     have hm:∀ x,x ∈ nO (nT acc)↔x ∈ acc:=fun x=>by rw [YM,Wy]
     have hi2:∀ x ∈ nO (nT acc),nu d x:=fun x hx=>by
      have hx:=(hm x).1 hx;rw [h2,List.mem_flatMap] at hx;obtain ⟨y,hy,hx⟩:=hx;exact ME hG (hin' y hy).1 hx
     refine ih _ om hi2 (gQ (CW d.1.length _ (Re (Sd acc)) hi2) hG.few) ?_;rw [hS,← h2];exact (EF hm).symm
    | succ k ih2 =>
     intro i acc h1 h2 h3;have hx:=hin' (S'.getD i default) (gM default om);have hlm:=Xv hG hx.1 (p.2.getD b default);rw [bX (l:=S') default om,List.flatMap_cons,← dM] at h2;refine ⟨fun _=>?_,fun hc=>oe hc⟩;rw [e1,dR,dR];refine ⟨om,om,om,hjb,⟨hG,hx.1,hx.2⟩,by rw [bD]; omega,?_⟩;rw [fU om];exact ih2 (i+1) _ om h2 (by rw [bD]; omega)
   exact ⟨_,l27 S'.length 0 [] om rfl (ik _)⟩
 show ∃ k,lJ N d p (fun b=>b=r) k (w6 ((p.1.length:Int) - 1)) [n];rw [show w6 ((p.1.length:Int) - 1)=((p.1.length - 1:Nat):Int) by rw [fU om]; omega];exact ⟨_,loop (p.1.length - 1) [n] om (fun x hx=>by rw [il] at hx; subst hx; exact hn) (by simp) hR⟩
theorem Pj:∀ N,Pk N∧Pf N∧Pe N
 | 0=>⟨(by intro g n0 o0 xd xn b1 c1 xt s0 z1 hG0 hp; exact (aiJ xd xn xt hp).elim),(by intro g n0 o0 xd xn R0 T0 L0 A0 xp s0 t0 a0 hG0 hp; exact (aiB xd xn xp hp).elim),(by intro g n0 o0 xd xn v1 k1 xl s0 B1 hG0 hp; exact (aiy xd xn xl hp).elim)⟩
 | N+1 =>
  have ih:=Pj N
  ⟨(by intro g n0 o0 xd xn b1 c1 xt s0 z1 hG0 hp; exact (abP N ih.1 ih.2.1 ih.2.2 xd xn xt s0 z1 hG0 _ (aiI N xd xn xt hp)).gv),(by intro g n0 o0 xd xn R0 T0 L0 A0 xp s0 t0 a0 hG0 hp; exact (abK N ih.1 ih.2.1 ih.2.2 xd xn xp s0 t0 a0 hG0 _ (aiA N xd xn xp hp)).gv),(by intro g n0 o0 xd xn v1 k1 xl s0 B1 hG0 hp; exact (abH N ih.1 ih.2.1 ih.2.2 xd xn xl s0 B1 hG0 _ (aix N xd xn xl hp)).gv)⟩
def ZG (xd:Dc) (xn:Int) (xl:List PH):Prop:=∃ N,Ke N xd xn xl
theorem aiw {g:ak} {n0:Option Addr} {o0:Nat} (xd:Dc) (xn:Int) {v1:Option Addr} {k1:Nat} (xl:List PH) (s0:bE g qj [.slice n0 xd.1.length o0] xd.1) (B1:bE g (.slice yP) [.slice v1 xl.length k1] xl) (hG0:bR g 0)  (hp:ZG xd xn xl):bC prog 23 #[.agg (aD xd n0 o0),iv xn,.slice v1 xl.length k1] g (.bool (tL xd xn xl)):=by
 obtain ⟨N,hp⟩:=hp;exact (Pj N).2.2 _ xd xn xl s0 B1 hG0 hp
end
end Go.Proofs.YtdapgmigogpdcaaGreatDoor.Ma
namespace Go.Proofs.YtdapgmigogpdcaaGreatDoor.Ma
open Go Go.iT Go.RowKit Ti Do Se Sr tO
noncomputable section
def VX (l:List ND):Nat→Int→Int→Bool
 | 0,_,_=>false
 | k+1,p,a=>if decide (p≥0)=true then (if (p==a)=true then true else VX l k (par l p.toNat) a) else false
def VY (j b:Int):List Int→Bool→Bool
 | [],_=>false
 | x::l,f=>if (x==b&&(j==126||f))=true then true else VY j b l false
def sb1 (j a b:Int):List Int→Bool
 | []=>false
 | x::l=>if (x==a&&VY j b l true)=true then true else sb1 j a b l
def nJ (d:DC) (a b j:Int):Bool :=
 if (j==62)=true then par d.1 b.toNat==a else if (j==32)=true then VX d.1 42 (par d.1 b.toNat) a else sb1 j a b (d_ d b)
theorem aey {d:DC} (hG:gN d) {a:Int} (ha:nu d a) (he:eU d a=true):0<a:=by
 have h0:=ha.1;apply oh;intro hn;have:a=0:=om;subst this;have h1:=hG.kind 0 (by have:=hG.pos; omega);have h1:((d.1.getD 0 default).1==1)=true:=h1;have h2:((d.1.getD 0 default).1==2)=true:=he;have h1:=eq_of_beq h1;have h2:=eq_of_beq h2;omega
theorem P_ {l:List ND} (hr:par l 0 = -1) {a:Int} (ha:0<a):∀ (k:Nat) (p:Int),VX l k p a=true↔a ∈ ancN l k p
 | 0,p=>by simp [VX,ancN]
 | k+1,p=>by
  rw [VX,ancN]
  by_cases hp:p>0
  ·rw [bB (gu (om)),bB (gu hp),eO]
   by_cases hpa:p=a
   ·simp [hpa]
   rw [aQ (by simp [hpa]),P_ hr ha k];constructor
   ·exact .inr
   rintro (h | h)
   ·exact absurd h.symm hpa
   exact h
  rw [aQ (show ¬ decide (p>0)=true by simpa using hp)]
  by_cases h0:p=0
  ·subst h0;rw [bB (by decide),aQ (by simp; omega),show par l (0:Int).toNat = -1 from hr]
   cases k with
   | zero=>simp [VX]
   | succ k=>rw [VX,aQ (by decide)]; simp
  rw [aQ (by simp; omega)]; simp
theorem Cr {j b:Int}:∀ {l:List Int} {f:Bool},b ∉ l→VY j b l f=false
 | [],_,_=>rfl
 | x::l,f,h=>by
  have hx:¬ x=b:=fun e=>h (by rw [e]; exact cz ..);have hf:(x==b)=false:=dX.2 hx;rw [VY,hf,iw,aQ (by decide)];exact Cr fun hm=>h (dK _ hm)
theorem L9 {j a b:Int}:∀ {l:List Int},b ∉ l→sb1 j a b l=false
 | [],_=>rfl
 | x::l,h=>by
  have hm:b ∉ l:=fun hm=>h (dK _ hm);rw [sb1,Cr hm,uY,aQ (by decide)];exact L9 hm
theorem OL {j b:Int} {post:List Int} (hq:b ∉ post):∀ {pre:List Int} {f:Bool},b ∉ pre→VY j b (pre++b::post) f=(j==126||(f&&pre.isEmpty))
 | [],f,_=>by
  rw [jV,VY,uM,fJ,List.isEmpty_nil,Bool.and_true]
  cases h:(j==126||f) with
  | true=>rw [bB rfl]
  | false=>rw [aQ (by decide),Cr hq]
 | x::pre,f,h=>by
  have hx:¬ x=b:=fun e=>h (by rw [e]; exact cz ..);have hf:(x==b)=false:=dX.2 hx;rw [iP,VY,hf,iw,aQ (by decide),OL hq fun hm=>h (dK _ hm)];simp
theorem OM {j a b:Int} {post:List Int} (hq:b ∉ post):∀ {pre:List Int},b ∉ pre→(sb1 j a b (pre++b::post)=true↔if (j==126)=true then a ∈ pre else pre.getLast? = some a)
 | [],_=>by
  rw [jV,sb1,Cr hq,uY,aQ (by decide),L9 hq];simp
 | x::pre,h=>by
  have hm:b ∉ pre:=fun hm=>h (dK _ hm);rw [iP,sb1,OL hq hm,fJ];have ih:=OM (j:=j) (a:=a) hq hm
  by_cases hj:(j==126)=true
  ·rw [bB hj] at ih ⊢;rw [hj,pM,Bool.and_true,eO]
   by_cases hx:x=a
   ·simp [hx]
   rw [aQ (by simp [hx]),ih];constructor
   ·exact .inr
   rintro (h | h)
   ·exact absurd h.symm hx
   exact h
  rw [aQ hj] at ih ⊢;rw [Bool.eq_false_iff.2 hj,lC]
  cases pre with
  | nil =>
   rw [jV] at ih ⊢
   have hn:sb1 j a b (b::post)=false:=by
    rw [sb1,Cr hq,uY,aQ (by decide),L9 hq]
   rw [hn];simp
  | cons y pre =>
   rw [List.isEmpty_cons,uY,aQ (by decide),ih,List.getLast?_cons_cons]
theorem KO {b:Int} {post:List Int}:∀ {pre:List Int} (i:Nat),b ∉ pre→jZ (fun x=>b==x) (pre++b::post) i=((i+pre.length:Nat):Int)
 | [],i,_=>by rw [jV,jZ,bB (uM b)]; rfl
 | x::pre,i,h=>by
  have hx:¬ b=x:=fun e=>h (by rw [e]; exact cz ..);rw [iP,jZ,aQ (by simp [hx]),KO (i+1) fun hm=>h (dK _ hm),di];congr 1; omega
theorem QT {d:DC} (hG:gN d) {n:Int} (hn:nu d n):(d_ d n).Nodup:=by
 unfold d_
 split
 ·simp
 rename_i hc
 have hc:¬ par d.1 n.toNat<0:=by simpa using hc
 have hp:=CR hG hn hc;exact (hG.kids.nodup _ (by have:=hp.1; have:=hp.2; omega)).filter _
theorem QS {d:DC} (hG:gN d) {n:Int} (hn:nu d n) (he:eU d n=true):∃ pre post,d_ d n=pre++n::post∧n ∉ pre∧n ∉ post∧(cB d n).2=(pre.length:Int):=by
 have hm:=Pt hG hn he;have hd:=QT hG hn;obtain ⟨pre,post,e⟩:=List.append_of_mem hm;rw [e] at hd;have h1:=List.nodup_append.1 hd;have h2:n ∉ pre:=fun h=>h1.2.2 n h n (cz ..) rfl;have h3:n ∉ post:=(zS.1 h1.2.1).1;refine ⟨pre,post,e,h2,h3,?_⟩;show (if decide (par d.1 n.toNat<0)=true then (0:Int) else jZ (fun x=>n==x) (d_ d n) 0)=_
 split
 ·rename_i hc
  unfold d_ at e;rw [bB hc] at e
  cases pre with
  | nil=>rfl
  | cons x pre =>
   have:=aA List.length e;simp at this
 rw [e,KO 0 h2,sH]
theorem ab0 {j:Int} (h:zw j=true):j=32∨j=62∨j=43∨j=126:=by
 unfold zw DF at h;simp only [jM,xB,nD,dY,dJ] at h
 rcases h with h | h | h | h
 ·exact .inl (by rw [← h]; rfl)
 ·exact .inr (.inl (by rw [← h]; rfl))
 ·exact .inr (.inr (.inl (by rw [← h]; rfl)))
 exact .inr (.inr (.inr (by rw [← h]; rfl)))
theorem Fx {l:List Int} {a:Int}:a ∈ l.take 1↔l.head? = some a:=by
 cases l with
 | nil=>simp
 | cons x l=>simp [eq_comm]
theorem Aa {d:DC} (hG:gN d) {a b j:Int} (hb:nu d b) (M9:eU d b=true) (ha:nu d a) (hea:eU d a=true) (hj:zw j=true):nJ d a b j=true↔a ∈ mnxS d b j:=by
 have h0:=aey hG ha hea
 have ajt:∀ j:Int,(j==62)=false→(j==32)=false→(nJ d a b j=true↔if (j==126)=true then a ∈ (cB d b).1.take (cB d b).2.toNat else ((cB d b).1.take (cB d b).2.toNat).getLast? = some a):=by
  intro j h1 h2;unfold nJ;rw [aQ (by rw [h1]; decide),aQ (by rw [h2]; decide)];obtain ⟨pre,post,e,p1,p2,e2⟩:=QS hG hb M9;have e1:(cB d b).1=pre++b::post:=e;rw [e1,e2,e,dR,List.take_left',OM p2 p1];rfl
 rcases ab0 hj with rfl | rfl | rfl | rfl
 ·unfold nJ mnxS;rw [aQ (by decide),bB (by decide),bB (by decide),aQ (by decide)];exact P_ hG.kids.root h0 42 _
 ·unfold nJ mnxS;rw [bB (by decide),bB (by decide),bB (by decide),Fx,dJ];show _↔(ancN d.1 42 (par d.1 b.toNat)).head? = some a;rw [ancN]
  split
  ·rw [List.head?_cons,jB]
  rename_i hc
  have hc:¬ par d.1 b.toNat>0:=by simpa using hc
  constructor
  ·intro h; omega
  intro h; cases h
 ·rw [ajt 43 (by decide) (by decide),aQ (by decide)];unfold mnxS;rw [aQ (by decide),bB (by decide),Fx,List.head?_reverse]
 rw [ajt 126 (by decide) (by decide),bB (by decide)];unfold mnxS;rw [aQ (by decide),aQ (by decide),List.mem_reverse]
def A_ (d:DC):List Int:=(List.range d.1.length).map fun (i:Nat)=>(i:Int)
theorem OV {d:DC} {n:Int}:n ∈ A_ d↔nu d n:=by
 unfold A_ nu;rw [List.mem_map];constructor
 ·rintro ⟨i,hi,rfl⟩;have:=xu.1 hi;omega
 rintro ⟨h1,h2⟩;exact ⟨n.toNat,xu.2 (om),om⟩
def zm (d:DC):List (Int→Bool)→List Int→List Int→List Int
 | [],_,now=>now
 | f::fs,js,now=>zm d fs js.tail ((A_ d).filter fun i=>(now.any fun m=>nJ d m i (js.headD 0))&&f i)
theorem JV {nx:Int→Int→List Int} {d:DC} {fs:List (Int→Bool)} {js:List Int} {n:Int} (hf:∀ f ∈ fs,∀ n,f n=true→eU d n=true) (h:rch nx fs js n=true):eU d n=true:=by
 cases fs with
 | nil=>exact Bool.noConfusion h
 | cons f fs =>
  rw [rch,aH] at h;exact hf f (cz ..) n h.1
theorem O_ {d:DC} (hG:gN d):∀ (fs:List (Int→Bool)) (js:List Int) (now:List Int) (gs:List (Int→Bool)) (ks:List Int),fs.length=js.length→(∀ z ∈ js,zw z=true)→(∀ f ∈ fs,∀ n,f n=true→eU d n=true)→(∀ f ∈ gs,∀ n,f n=true→eU d n=true)→gs≠[] →
  (∀ x,x ∈ now↔nu d x∧rch (mnxS d) gs ks x=true)→∀ x,x ∈ zm d fs js now↔nu d x∧rch (mnxS d) (fs.reverse++gs) (js.reverse++ks) x=true
 | [],[],now,gs,ks,_,_,_,_,_,h,x=>by simpa [zm] using h x
 | [],_::_,_,_,_,hl,_,_,_,_,_,_=>by cases hl
 | _::_,[],_,_,_,hl,_,_,_,_,_,_=>by cases hl
 | f::fs,j::js,now,gs,ks,hl,hj,hf,hg,hne,h,x=>by
  have hgf:∀ f' ∈ f::gs,∀ n,f' n=true→eU d n=true:=by
   intro f' hf' n hn
   rcases eO.1 hf' with rfl | hf'
   ·exact hf _ (cz ..) n hn
   exact hg _ hf' n hn
  have:=O_ hG fs js ((A_ d).filter fun i=>(now.any fun m=>nJ d m i j)&&f i) (f::gs) (j::ks) (by simpa using hl) (fun z hz=>hj z (dK _ hz)) (fun g hg=>hf g (dK _ hg)) hgf (by simp) (fun x=>by
   rw [pK,OV,JW hne,aH,aH,xC,xC];constructor
   ·rintro ⟨hx,⟨m,hm,hs⟩,hfx⟩;have hm2:=(h m).1 hm;exact ⟨hx,hfx,m,(Aa hG hx (hf _ (cz ..) x hfx) hm2.1 (JV hg hm2.2) (hj j (cz ..))).1 hs,hm2.2⟩
   rintro ⟨hx,hfx,m,hm,hr⟩;have hmd:=ME hG hx hm
   exact ⟨hx,⟨m,(h m).2 ⟨hmd,hr⟩,(Aa hG hx (hf _ (cz ..) x hfx) hmd (JV hg hr) (hj j (cz ..))).2 hm⟩,hfx⟩) x
  rw [show zm d (f::fs) (j::js) now=zm d fs js ((A_ d).filter fun i=>(now.any fun m=>nJ d m i j)&&f i) from rfl,this];simp
def SF (d:DC) (fs:List (Int→Bool)) (js:List Int) (n:Int):Bool :=
 fs.getLastD (fun _=>false) n&&(zm d fs.tail js ((A_ d).filter (fs.headD fun _=>false))).any fun m=>m==n
theorem any_eq {l:List Int} {n:Int}:(l.any fun m=>m==n)=true↔n ∈ l:=by
 rw [xC];constructor
 ·rintro ⟨m,hm,h⟩;rw [← eq_of_beq h]; exact hm
 intro h;exact ⟨n,h,uM n⟩
theorem Mr {d:DC} (hG:gN d) {fs:List (Int→Bool)} {js:List Int} (hne:fs≠[]) (hl:js.length+1=fs.length) (hj:∀ z ∈ js,zw z=true) (hf:∀ f ∈ fs,∀ n,f n=true→eU d n=true) {n:Int} (hn:nu d n):SF d fs js n=rch (mnxS d) fs.reverse js.reverse n:=by
 cases fs with
 | nil=>exact absurd rfl hne
 | cons f fs =>
  have hl:fs.length=js.length:=by simp at hl; omega
  have key:=O_ hG fs js ((A_ d).filter f) [f] [] hl hj (fun g hg=>hf g (dK _ hg)) (fun g hg=>hf g (by rw [il] at hg; subst hg; exact cz ..)) (by simp) (fun x=>by
   rw [pK,OV,rch,List.isEmpty_nil,pM,Bool.and_true]) n
  rw [gK] at key
  have key:n ∈ zm d fs js ((A_ d).filter f)↔rch (mnxS d) (f::fs).reverse js.reverse n=true:=by
   rw [key,List.reverse_cons];exact ⟨fun h=>h.2,fun h=>⟨hn,h⟩⟩
  unfold SF;rw [uX,aH,any_eq];show _∧n ∈ zm d fs js ((A_ d).filter f)↔_;rw [key];constructor
  ·exact fun h=>h.2
  intro h;refine ⟨?_,h⟩
  have:(f::fs).getLastD (fun _=>false)=(f::fs).reverse.headD (fun _=>false):=by
   rw [List.getLastD_eq_getLast?,List.headD_eq_head?_getD,List.head?_reverse]
  rw [this]
  cases hr:(f::fs).reverse with
  | nil=>simp at hr
  | cons g gs =>
   rw [hr,rch,aH] at h;exact h.1
mutual
def Zp (d:DC):Ts→Int→Bool
 | .mk x l,n=>KJ d x n (Qy d l n)
def Qy (d:DC):List Ph→Int→Bool
 | [],_=>false
 | (p,js)::l,n=>SF d (Gz d p) js n||Qy d l n
def Gz (d:DC):List (List Ts)→List (Int→Bool)
 | []=>[]
 | s::p=>(fun n=>Rs d s n&&eU d n)::Gz d p
def Rs (d:DC):List Ts→Int→Bool
 | [],_=>true
 | t::s,n=>Zp d t n&&Rs d s n
end
def okK (t:Ts):Prop:=t.All fun _ l=>∀ q ∈ l,okQ q
def abx (l:List Ph):Prop:=∀ q ∈ l,okQ q∧∀ s ∈ q.1,∀ t ∈ s,okK t
theorem wT (d:DC):∀ p:List (List Ts),Gz d p=p.map fun s n=>Rs d s n&&eU d n
 | []=>rfl
 | s::p=>by rw [Gz,wT d p]; rfl
theorem Fe {d:DC} (hG:gN d):∀ {fs gs:List (Int→Bool)} {js:List Int} {n:Int},fs.length=gs.length→(∀ i (h:i<fs.length) (h':i<gs.length) n,nu d n→fs[i] n=gs[i] n)→nu d n→rch (mnxS d) fs js n=rch (mnxS d) gs js n
 | [],[],_,_,_,_,_=>rfl
 | [],_::_,_,_,h,_,_=>by cases h
 | _::_,[],_,_,h,_,_=>by cases h
 | f::fs,g::gs,js,n,hl,h,hn=>by
  have h0:=h 0 (by simp) (by simp) n hn;have h0:f n=g n:=h0;rw [rch,rch,h0]
  have hl:fs.length=gs.length:=by simpa using hl
  have he:fs.isEmpty=gs.isEmpty:=by cases fs <;> cases gs <;> first | rfl | cases hl
  rw [he];congr 2;have:∀ m ∈ mnxS d n (js.headD 0),rch (mnxS d) fs js.tail m=rch (mnxS d) gs js.tail m:=fun m hm=>Fe hG hl (fun i h1 h2 n hn=>h (i+1) (by simp; omega) (by simp; omega) n hn) (ME hG hn hm);generalize mnxS d n (js.headD 0)=l at this
  induction l with
  | nil=>rfl
  | cons x l ih=>rw [jM,jM,this x (cz ..),ih fun m hm=>this m (dK _ hm)]
def FaT (d:DC) (t:Ts):Prop:=okK t→∀ n,nu d n→Zp d t n=EC d t n
theorem Fa {d:DC}:∀ {s:List Ts},(∀ t ∈ s,FaT d t)→(∀ t ∈ s,okK t)→∀ n,nu d n→Rs d s n=all1 d s n
 | [],_,_,_,_=>by rw [Rs,all1]
 | t::s,h,hk,n,hn=>by
  rw [Rs,all1,h t (cz ..) (hk t (cz ..)) n hn,Fa (fun t ht=>h t (dK _ ht)) (fun t ht=>hk t (dK _ ht)) n hn]
theorem JQ {d:DC} (hG:gN d) {q:Ph} (h:∀ s ∈ q.1,∀ t ∈ s,FaT d t) (hk:okQ q∧∀ s ∈ q.1,∀ t ∈ s,okK t) {n:Int} (hn:nu d n):SF d (Gz d q.1) q.2 n=rch (mnxS d) (AQ d q.1).reverse q.2.reverse n:=by
 obtain ⟨⟨h1,h2,h3⟩,h4⟩:=hk
 rw [Mr hG (by rw [wT]; simpa using h1) (by rw [wT,iY]; exact h2) h3 (fun f hf n hn=>by
  rw [wT,List.mem_map] at hf;obtain ⟨s,-,rfl⟩:=hf
  exact (aH _ _ ▸ hn:_∧_).2) hn]
 rw [wT,Bq,← List.map_reverse,← List.map_reverse];refine Fe hG (by rw [iY,iY]) (fun i hi hi' n hn=>?_) hn;rw [List.getElem_map,List.getElem_map];have hm:q.1.reverse[i]'(by simpa using hi) ∈ q.1:=List.mem_reverse.1 (zU _);show (Rs d _ n&&eU d n)=(eU d n&&all1 d _ n);rw [Fa (h _ hm) (h4 _ hm) n hn,Bool.and_comm]
theorem E_ {d:DC} (hG:gN d):∀ {l:List Ph},(∀ q ∈ l,∀ s ∈ q.1,∀ t ∈ s,FaT d t)→abx l→∀ {n:Int},nu d n→Qy d l n=xk d l n
 | [],_,_,_,_=>by rw [Qy,xk]
 | (p,js)::l,h,hk,n,hn=>by
  rw [Qy,xk,E_ hG (fun q hq=>h q (dK _ hq)) (fun q hq=>hk q (dK _ hq)) hn];rw [JQ hG (q:=(p,js)) (h _ (cz ..)) (hk _ (cz ..)) hn]
theorem Q4 {d:DC} (hG:gN d):∀ t:Ts,FaT d t:=gL.ind fun x l ih hk n hn=>by
 have hk:=gL.all_mk.1 hk;rw [Zp,EC,E_ hG ih (fun q hq=>⟨hk.1 q hq,fun s hs t ht=>hk.2 q hq s hs t ht⟩) hn]
theorem QE {d:DC} (hG:gN d) {q:Ph} (hk:okQ q∧∀ s ∈ q.1,∀ t ∈ s,okK t) {n:Int} (hn:nu d n):SF d (Gz d q.1) q.2 n=Ex d n q:=JQ hG (fun _ _ t _=>Q4 hG t) hk hn
def OkT (t:Ts):Prop:=∀ i,yh t i=true→okK t
theorem O7 {l:List Ph} (h:∀ q ∈ l,∀ s ∈ q.1,∀ t ∈ s,OkT t) (ho:rV l=true):abx l:=fun q hq=>by
 have hh:=kI ho hq;refine ⟨hh.1,fun s hs t ht=>?_⟩;obtain ⟨i,hi⟩:=rW hh.2 hs;obtain ⟨k,hk⟩:=GR hi ht;exact h q hq s hs t ht k hk
theorem aim:∀ t:Ts,OkT t:=gL.ind fun x l ih i h=>by
 rw [lW,aH] at h;have h:(if ((x.1==10)||(x.1==11))=true then nV l else ((l.length:Int)==0))=true:=h.2
 have h3:rV l=true:=by
  split at h
  ·unfold nV at h; rw [aH] at h; exact h.1
  have:l=[]:=iO (by have:=eq_of_beq h; omega);rw [this]; rw [rV]
 have:=O7 ih h3;exact gL.all_mk.2 ⟨fun q hq=>(this q hq).1,fun q hq s hs t ht=>(this q hq).2 s hs t ht⟩
theorem aio {l:List Ph} (h:rV l=true):abx l:=O7 (fun _ _ _ _ t _=>aim t) h
end
end Go.Proofs.YtdapgmigogpdcaaGreatDoor.Ma
namespace Go.Proofs.YtdapgmigogpdcaaGreatDoor.Ma
open _root_.Go.Proofs.Tryz Go Go.iT Go.RowKit Ti Do Se Sr tO Tk
set_option maxHeartbeats 4000000
set_option maxRecDepth 100000
noncomputable section
def WY (xa:Int) (xb:Int) (xi:Int) (K:Bool→Prop) (m0:Int) (C15:Int→Prop):Prop :=
 (decide (m0≤1300)=true→(((w6 ((w6 (xa * m0))+xb))==xi)=true→K true)∧(((w6 ((w6 (xa * m0))+xb))==xi)=false→C15 (w6 (m0+1))))∧(decide (m0≤1300)=false→K false)
def Gy (xa:Int) (xb:Int) (xi:Int) (K:Bool→Prop):Nat→Int→Prop
 | 0,_=>False
 | k+1,m0=>WY xa xb xi K m0 (Gy xa xb xi K k)
def aa5 (xa:Int) (xb:Int) (xi:Int) (K:Bool→Prop):Prop :=
 (((((((decide (xa<(-1000)))||decide (xa>1000))||(decide (xb<(-1000))))||decide (xb>1000))||decide (xi<1))||decide (xi>200))=true→K false)∧(((((((decide (xa<(-1000)))||decide (xa>1000))||(decide (xb<(-1000))))||decide (xb>1000))||decide (xi<1))||decide (xi>200))=false→∃ k,Gy xa xb xi K k 0)
theorem aa4 {g:ak} (xa:Int) (xb:Int) (xi:Int) (K:Bool→Prop)
  (hF:aa5 xa xb xi K):az prog 79 #[iv xa,iv xb,iv xi] g [] (fun g' H' v=>∃ (r0:Bool),v=.bool r0∧H'=[]∧K r0):=by
 refine aP 41 func79 rfl fun w0=>?_;let F:=decide (xa<(-1000));refine ae (av 1 [(0,iv xa),(1,iv xb),(2,iv xi)] kr (aa (aF (ae (ag 3 [0,1,2] [(10,.bool F)] ?_)))));let C:=F||decide (xa>1000);refine Ok.w 3 [(0,iv xa),(1,iv xb),(2,iv xi),(13,.bool C)] (fun AL=>?_) ?_
 ·refine Ok.a 10 F rfl (fun hc2=>?_) (fun hc2=>?_)
  ·skip;refine ag 3 [0,1,2] [(13,.bool true)] ?_;refine aB 13 C (cK hc2) (ag 0 [0,1,2] [(13,.bool C)] ?_);exact AL
  skip;refine ag 3 [0,1,2] [(13,.bool (decide (xa>1000)))] ?_;refine aB 13 C (bN hc2) (ag 0 [0,1,2] [(13,.bool C)] ?_);exact AL
 refine ag 1 [0,1,2] [(14,.bool C)] ?_;let G:=decide (xb<(-1000));let A:=C||G;refine Ok.w 3 [(0,iv xa),(1,iv xb),(2,iv xi),(17,.bool A)] (fun Iu=>?_) ?_
 ·refine Ok.a 14 C rfl (fun hc4=>?_) (fun hc4=>?_)
  ·skip;refine ag 3 [0,1,2] [(17,.bool true)] ?_;refine aB 17 A (cK hc4) (ag 0 [0,1,2] [(17,.bool A)] ?_);exact Iu
  skip;refine ag 3 [0,1,2] [(17,.bool G)] ?_;refine aB 17 A (bN hc4) (ag 0 [0,1,2] [(17,.bool A)] ?_);exact Iu
 refine ag 1 [0,1,2] [(18,.bool A)] ?_;let D:=A||decide (xb>1000);refine Ok.w 3 [(0,iv xa),(1,iv xb),(2,iv xi),(21,.bool D)] (fun Bp=>?_) ?_
 ·refine Ok.a 18 A rfl (fun hc6=>?_) (fun hc6=>?_)
  ·skip;refine ag 3 [0,1,2] [(21,.bool true)] ?_;refine aB 21 D (cK hc6) (ag 0 [0,1,2] [(21,.bool D)] ?_);exact Bp
  skip;refine ag 3 [0,1,2] [(21,.bool (decide (xb>1000)))] ?_;refine aB 21 D (bN hc6) (ag 0 [0,1,2] [(21,.bool D)] ?_);exact Bp
 refine ag 1 [0,1,2] [(22,.bool D)] ?_;let B:=D||decide (xi<1);refine Ok.w 3 [(0,iv xa),(1,iv xb),(2,iv xi),(25,.bool B)] (fun hR7=>?_) ?_
 ·refine Ok.a 22 D rfl (fun hc8=>?_) (fun hc8=>?_)
  ·skip;refine ag 3 [0,1,2] [(25,.bool true)] ?_;refine aB 25 B (cK hc8) (ag 0 [0,1,2] [(25,.bool B)] ?_);exact hR7
  skip;refine ag 3 [0,1,2] [(25,.bool (decide (xi<1)))] ?_;refine aB 25 B (bN hc8) (ag 0 [0,1,2] [(25,.bool B)] ?_);exact hR7
 refine ag 1 [0,1,2] [(26,.bool B)] ?_;let E:=B||decide (xi>200);refine Ok.w 3 [(0,iv xa),(1,iv xb),(2,iv xi),(29,.bool E)] (fun hR9=>?_) ?_
 ·refine Ok.a 26 B rfl (fun k1=>?_) (fun k1=>?_)
  ·skip;refine ag 3 [0,1,2] [(29,.bool true)] ?_;refine aB 29 E (cK k1) (ag 0 [0,1,2] [(29,.bool E)] ?_);exact hR9
  skip;refine ag 3 [0,1,2] [(29,.bool (decide (xi>200)))] ?_;refine aB 29 E (bN k1) (ag 0 [0,1,2] [(29,.bool E)] ?_);exact hR9
 refine aa (aJ hF (fun y1 hF=>?_) (fun y1 hF=>?_))
 ·refine ae (av 1 [(6,.bool false)] kr (aa (Ok.ret (aC ?_))));exact dE false hF
 refine Ok.k (Ok.t (aF (ae (ag 1 [0,1,2] [(7,iv 0)] ?_))));refine aa (Ok.block ?_);obtain ⟨k,hF⟩:=hF;refine fQ (fun k a W=>∃ (m0:Int),fC 41 [(0,iv xa),(1,iv xb),(2,iv xi),(7,iv m0)] a∧dm w0 [] g W∧Gy xa xb xi K k m0) k ?_ ?_
 ·
  exact fun _ _ u v=>⟨0,fA u v hF⟩
 clear hF;rintro (_ | k15) _ _ ⟨m0,q⟩;exact (q.2.2:False).elim;refine jn (fun hF=>?_) _ _ q;refine aF (ae (ag 2 [0,1,2,7] [(31,.bool (decide (m0≤1300)))] ?_));refine aa (aJ hF (fun acU hF=>?_) (fun acU hF=>?_))
 ·refine Ok.k (Ok.t (aF (Ok.block (ae (ag 7 [0,1,2,7] [(40,.bool ((w6 ((w6 (xa * m0))+xb))==xi))] ?_)))));refine aa (aJ hF (fun UK hF=>?_) (fun UK hF=>?_))
  ·refine ae (av 1 [(6,.bool true)] kr (aa (Ok.ret (aV (aC (aC (aV (aC ?_))))))));exact dE true hF
  refine Ok.k (bG (Ok.t (aR (ag 3 [0,1,2] [(7,iv (w6 (m0+1)))] ?_))));refine bV (Ok.t ?_);exact fun _ _ u v=>⟨k15,nl,w6 (m0+1),fA u v hF⟩
 refine fw (ay (ay (aM (Ok.t (ae (av 1 [(6,.bool false)] kr (aa (Ok.ret ?_))))))));exact dE false hF
theorem abG (a k:Int) (ha : -1000≤a) (ha':a≤1000) (hk:0≤k) (hk':k≤1300) : -1300000≤a * k∧a * k≤1300000:=by
 have h1:=Int.mul_le_mul_of_nonneg_right ha hk;have h2:=Int.mul_le_mul_of_nonneg_right ha' hk;omega
theorem Xm {a b i:Int} (k:Nat) (h:a * k+b=i):nX a b i=true:=by
 unfold nX
 by_cases h0:a=0
 ·subst h0;rw [bB rfl,dJ]; omega
 rw [aQ h0];have e:i - b=a * k:=om;rw [e,Int.mul_tmod_right,Int.mul_tdiv_cancel_left _ h0,uM,fJ,dI];omega
theorem Tj {a b i:Int} (hb : -1000≤b∧b≤1000) (hi:1≤i∧i≤200) (h:∀ j:Nat,j<1301→¬ a * j+b=i):nX a b i=false:=by
 unfold nX
 by_cases h0:a=0
 ·subst h0;rw [bB rfl,dX];intro e;exact h 0 om om
 rw [aQ h0];obtain ⟨d1,d2⟩:=Oz (i - b) a 1200 om om;have hq:=Int.mul_tdiv_add_tmod (i - b) a;rw [Bool.eq_false_iff];intro hm;rw [aH,dJ,dI] at hm;exact h ((i - b).tdiv a).toNat om (by rw [Int.toNat_of_nonneg hm.2]; omega)
theorem ahI (a b i:Int):aa5 a b i (fun r=>r=kD a b i):=by
 have e:(((((decide (a<(-1000))||decide (a>1000))||decide (b<(-1000)))||decide (b>1000))||decide (i<1))||decide (i>200))=Ms a b i:=by
  unfold Ms;rw [uX];simp only [dY,dI];omega
 unfold aa5;rw [e];refine ⟨fun h=>by unfold kD; rw [aU h],fun h=>?_⟩
 have hb : -1000≤a∧a≤1000∧-1000≤b∧b≤1000∧1≤i∧i≤200:=by
  unfold Ms at h;simp only [dB,eP] at h;omega
 have hn:kD a b i=nX a b i:=by unfold kD; rw [aG h]
 rw [hn]
 have loop:∀ (k m:Nat),m+k=1301→(∀ j:Nat,j<m→¬ a * j+b=i)→Gy a b i (fun r=>r=nX a b i) (k+1) (m:Int):=by
  intro k
  induction k with
  | zero =>
   intro m hm hno;exact ⟨fun hc=>od hc,fun _=>(Tj ⟨om,om⟩ ⟨om,om⟩ (by rw [show (1301:Nat)=m by omega]; exact hno)).symm⟩
  | succ k ih =>
   intro m hm hno;obtain ⟨b1,b2⟩:=abG a m om om om om;refine ⟨fun _=>?_,fun hc=>oe hc⟩;rw [fU (x:=a * (m:Int)) om,fU (x:=a * (m:Int)+b) om,fU om];refine ⟨fun hc=>(Xm m (eq_of_beq hc)).symm,fun hc=>ih (m+1) om fun j hj=>?_⟩
   by_cases hjm:j<m
   ·exact hno j hjm
   obtain rfl:j=m:=om;simpa using hc
 exact ⟨_,loop 1301 0 om (fun j hj=>absurd hj (iN _))⟩
theorem Zt {g:ak} (xa:Int) (xb:Int) (xi:Int)  : bC prog 79 #[iv xa,iv xb,iv xi] g (.bool (kD xa xb xi)) :=
 (aa4 xa xb xi _ (ahI xa xb xi)).gv
def qV (xd:Dc) (e8:Nd) (k0:Int) (z0:List Int):List Int :=
 (if ((xd.1.getD (Int.toNat (e8.2.2.2.2.2.getD k0.toNat default)) default).1==2)=true then (z0++([e8.2.2.2.2.2.getD k0.toNat default]:List Int)) else z0)
def CJ (xd:Dc) (e3:Nd) (k0:Int) (z0:List Int) (Z8:Int→List Int→Prop):Prop :=
 Z8 (w6 (k0+1)) (qV xd (xd.1.getD (Int.toNat e3.2.2.2.2.1) default) k0 z0)
def GH (xd:Dc) (K:(List Int)→Prop) (e3:Nd) (k0:Int) (z0:List Int) (Z8:Int→List Int→Prop):Prop :=
 0≤e3.2.2.2.2.1∧Int.toNat e3.2.2.2.2.1<xd.1.length∧((decide (k0<((xd.1.getD (Int.toNat e3.2.2.2.2.1) default).2.2.2.2.2.length:Int)))=true→0≤k0∧k0.toNat<(xd.1.getD (Int.toNat e3.2.2.2.2.1) default).2.2.2.2.2.length∧0≤((xd.1.getD (Int.toNat e3.2.2.2.2.1) default).2.2.2.2.2.getD k0.toNat default)∧Int.toNat ((xd.1.getD (Int.toNat e3.2.2.2.2.1) default).2.2.2.2.2.getD k0.toNat default)<xd.1.length∧(((xd.1.getD (Int.toNat ((xd.1.getD (Int.toNat e3.2.2.2.2.1) default).2.2.2.2.2.getD k0.toNat default)) default).1==2)=true→(z0++([((xd.1.getD (Int.toNat e3.2.2.2.2.1) default).2.2.2.2.2.getD k0.toNat default)]:List Int)).length≤17592186044416∧CJ xd e3 k0 z0 Z8)∧(((xd.1.getD (Int.toNat ((xd.1.getD (Int.toNat e3.2.2.2.2.1) default).2.2.2.2.2.getD k0.toNat default)) default).1==2)=false→CJ xd e3 k0 z0 Z8))∧((decide (k0<((xd.1.getD (Int.toNat e3.2.2.2.2.1) default).2.2.2.2.2.length:Int)))=false→K z0)
def uh (xd:Dc) (K:(List Int)→Prop) (e3:Nd):Nat→Int→List Int→Prop
 | 0,_,_=>False
 | k+1,k0,z0=>GH xd K e3 k0 z0 (uh xd K e3 k)
def ahX (xd:Dc) (xn:Int) (K:(List Int)→Prop):Prop :=
 0≤xn∧xn.toNat<xd.1.length∧((decide ((xd.1.getD xn.toNat default).2.2.2.2.1<0))=true→K ([xn]:List Int))∧((decide ((xd.1.getD xn.toNat default).2.2.2.2.1<0))=false→∃ k,uh xd K (xd.1.getD xn.toNat default) k 0 ([]:List Int))
theorem abe {g:ak} {u0:Option Addr} {j0:Nat} (xd:Dc) (xn:Int) (c0:bE g qj [.slice u0 xd.1.length j0] xd.1) (K:(List Int)→Prop)
  (hF:ahX xd xn K):az prog 45 #[.agg (aD xd u0 j0),iv xn] g [] (fun g' H' v=>∃ (r0:List Int),∃ (Av:Option Addr) (Au:Nat) (S0:List Value),v=.slice Av r0.length Au∧aW g' (.int .i64) S0 r0∧H'=[.own (.slice Av r0.length Au) 3 1 r0.length S0]∧K r0):=by
 refine aP 53 func45 rfl fun w0=>?_;refine ae (ai (cO fun eT=>?_));refine av 1 [(1,iv xn),(2,pv eT 0)] kr (aa (ae (aj 3 [.e 0] [1,2] [(9,.slice u0 xd.1.length j0),(10,iv xn)] ?_)));obtain ⟨DL,DJ,hF⟩:=hF;have wu:=aT (l:=xd.1) default DJ;generalize hg3:(xd.1.getD xn.toNat default)=e3 at wu hF ⊢;refine ai (af.aX (e:=yN) rfl rfl underlying22 kr c0 DL wu rfl fun q2 o2 cs2 _ u1 hr2=>?_);obtain ⟨D0,E0,asa,arZ,rfl,F0,akI⟩:=oN hr2;refine aj 3 [.a 4 u1] [1,2] [(5,iv e3.2.2.2.2.1)] ?_;refine aa (aF (ae (ag 2 [1,2,5] [(15,.bool (decide (e3.2.2.2.2.1<0)))] ?_)));refine aa (aJ hF (fun hc4 hF=>?_) (fun hc4 hF=>?_))
 ·refine ae (av 1 [(16,iv xn)] kr ?_);have hL5:aW g (.int .i64) ([iv xn]:List Value) ([xn]:List Int):=(dx (c:=[iv xn]) rfl rfl);refine ai (gz hL5 fun b5=>?_);refine av 1 [(4,.slice (some ⟨b5,0,none⟩) ([xn]:List Int).length 1)] kr (aa (Ok.ret (aC ?_)));exact Qd [0] (bu w0 g) ⟨([xn]:List Int),(some ⟨b5,0,none⟩),1,([iv xn]:List Value),rfl,hL5,rfl,hF⟩
 refine Ok.k (Ok.t (ae (ag 1 [2,5] [(6,.slice none 0 0)] ?_)));have hL6:aW g (.int .i64) [] []:=rfl;refine fT 3 1 (aa (aF (ae (ag 1 [2,5] [(6,.slice none ([]:List Int).length 0),(7,iv 0)] ?_))));refine aa (Ok.block ?_);obtain ⟨k,hF⟩:=hF;refine fQ (fun k a W=>∃ a0:ak,bf w0 g a0∧∃ (k0:Int) (s0:Option Addr) (b0:Nat) (z0:List Int) (e0:List Value),aW a0 (.int .i64) e0 z0∧fC 53 [(2,pv eT 0),(5,iv e3.2.2.2.2.1),(6,.slice s0 z0.length b0),(7,iv k0)] a∧dm w0 [.own (.slice s0 z0.length b0) 3 1 z0.length e0,.blk eT (.cells (aD xd u0 j0) 24)] a0 W∧uh xd K e3 k k0 z0) k ?_ ?_
 ·
  exact fun _ _ u v=>⟨g,bu w0 g,0,none,0,([]:List Int),[],hL6,fA u v hF⟩
 clear hF;rintro (_ | k19) _ _ ⟨a0,K0,k0,s0,b0,z0,e0,i0,q⟩;exact (q.2.2:False).elim;refine jn (fun hF=>?_) _ _ q;replace c0:=c0.mono K0.1;refine aF (ae (aj 4 [.e 1] [2,5,6,7] [(18,iv k0),(20,.slice u0 xd.1.length j0),(21,iv e3.2.2.2.2.1)] ?_));obtain ⟨IK,h18,hF⟩:=hF;have EA:=aT (l:=xd.1) default h18;generalize Ru:(xd.1.getD (Int.toNat e3.2.2.2.2.1) default)=e8 at EA hF ⊢;refine ai (af.aX (e:=yN) rfl rfl underlying22 kr c0 IK EA rfl fun q7 o7 cs7 _ ac5 MX=>?_);obtain ⟨awq,av6,awp,av5,rfl,atd,atc⟩:=oN MX;refine aj 4 [.a 5 ac5] [2,5,6,7] [(26,.bool (decide (k0<(e8.2.2.2.2.2.length:Int))))] ?_;refine aa (dW hF rfl (fun mq=>?_) (fun mq=>?_))
 ·replace hF:=hF.1 mq;refine Ok.k (Ok.t (Ok.cut (fun a W=>∃ G0:ak,bf w0 a0 G0∧∃ (o0:Option Addr) (t0:Nat) (g0:List Value),aW G0 (.int .i64) g0 (qV xd e8 k0 z0)∧fC 53 [(2,pv eT 0),(5,iv e3.2.2.2.2.1),(6,.slice o0 (qV xd e8 k0 z0).length t0),(7,iv k0)] a∧dm w0 [.own (.slice o0 (qV xd e8 k0 z0).length t0) 3 1 (qV xd e8 k0 z0).length g0,.blk eT (.cells (aD xd u0 j0) 24)] G0 W∧CJ xd e3 k0 z0 (uh xd K e3 k19)) ?_ ?_))
  ·
   refine Ok.block (aF (wH [] [] [1,1] [(0,true),(1,true),(2,true),(3,true),(4,true),(5,true),(7,true),(6,false),(8,true),(9,false),(10,false)] ?_));refine eH.hd (fK.s (v:=.agg (aD xd u0 j0)) (aZ 1 2 (aD xd u0 j0) rfl rfl underlying24 rfl kr kr kr) rfl rfl ?_);refine iJ 1 [2,5,6,7] [(29,.agg (aD xd u0 j0)),(30,pv eT 0)] ?_;refine eH.hd (fK.s (v:=.slice u0 xd.1.length j0) (aS 1 rfl rfl underlying22 rfl kr) rfl rfl ?_);refine iJ 1 [2,5,6,7,29] [(31,.slice u0 xd.1.length j0),(32,iv e3.2.2.2.2.1)] ?_;refine eH.hd (fK.aX (e:=yN) rfl rfl underlying22 kr c0 IK EA rfl fun q10 o10 Rb _ H0 j1=>?_);obtain ⟨Qa,P8,A0,I0,rfl,Iw,M0⟩:=oN j1;refine iJ 2 [2,5,6,7,29] [(34,.pointer (some ⟨q10,o10+5,none⟩)),(36,iv k0)] ?_;refine eH.t rfl rfl (af.s (v:=.slice A0 e8.2.2.2.2.2.length I0) (fe 5 H0 kr underlying46 rfl kr) rfl rfl (h_ (lG.refl _) ?_));obtain ⟨V1,h112,hF⟩:=hF;have x1:=aT (l:=e8.2.2.2.2.2) default h112;generalize Q1:(e8.2.2.2.2.2.getD k0.toNat default)=e12 at x1 hF ⊢;refine eH.hd (fK.aX (e:=.int .i64) rfl rfl underlying46 kr M0 V1 x1 rfl fun q11 o11 ae8 _ N0 acv=>?_);obtain rfl:=acv;replace N0:At a0 q11 o11 [iv e12]:=N0;refine eH.t rfl rfl (af.s (v:=iv e12) (fe 0 N0 kr underlying3 rfl kr) rfl rfl (h_ (lG.refl _) (eH.t rfl rfl (bO (args:=#[.agg (aD xd u0 j0),iv e12]) 12 [(0,.agg (aD xd u0 j0)),(1,iv e12)] gU func44 rfl rfl rfl rfl (ae (ai (cO fun afv=>?_)))))));refine av 1 [(1,iv e12),(2,pv afv 0)] kr (aa (ae (aj 3 [.e 0] [] [(6,.slice u0 xd.1.length j0),(7,iv e12)] ?_)));obtain ⟨IL,Nl,hF⟩:=hF;have K1:=aT (l:=xd.1) default Nl;generalize Y1:(xd.1.getD e12.toNat default)=e15 at K1 hF ⊢;refine ai (af.aX (e:=yN) rfl rfl underlying22 kr c0 IL K1 rfl fun q14 o14 av2 _ aki aoe=>?_);obtain ⟨auj,atL,aui,atK,rfl,aqp,aqo⟩:=oN aoe;refine aj 4 [.a 0 aki] [] [(4,.bool (e15.1==2))] ?_;refine aa (Ok.ret (bA (vs:=[.bool (e15.1==2)]) (.inl rfl) rfl (.cons (.tmp rfl) .nil) rfl (h_ (lG.refl _) (eH.nil (Ok.t (dW hF rfl (fun W0=>?_) (fun W0=>?_)))))))
   ·replace hF:=hF.1 W0;refine aR (aj 4 [.e 2] [] [(2,pv eT 0),(5,iv e3.2.2.2.2.1),(7,iv k0),(40,.slice s0 z0.length b0),(42,.slice u0 xd.1.length j0),(43,iv e3.2.2.2.2.1)] ?_);refine ai (af.aX (e:=yN) rfl rfl underlying22 kr c0 IK EA rfl fun q17 o17 alb _ akg Uu=>?_);obtain ⟨ZZ,ZY,amr,alL,rfl,UW,adC⟩:=oN Uu;refine aj 3 [.a 5 akg] [2,5,7,40] [(46,.slice amr e8.2.2.2.2.2.length alL),(47,iv k0)] ?_;refine ai (af.aX (e:=.int .i64) rfl rfl underlying46 kr adC V1 x1 rfl fun q18 o18 arN _ O0 aco=>?_);obtain rfl:=aco;replace O0:At a0 q18 o18 [iv e12]:=O0;refine ai (af.s (v:=iv e12) (fe 0 O0 kr underlying3 rfl kr) rfl rfl ?_);have U1:aW a0 (.int .i64) ([iv e12]:List Value) ([e12]:List Int):=(dx (c:=[iv e12]) rfl rfl);refine ai (gz U1 fun b19=>?_);obtain ⟨apq,hF⟩:=hF;refine ai (fu (e:=.int .i64) 8 17592186044416 2 0 rfl rfl rfl rfl i0 U1 underlying46 kr kr kr apq rfl fun a20 c20 T0 aqE=>?_);refine ag 1 [2,5,7] [(6,.slice a20 (z0++([e12]:List Int)).length c20)] ?_;refine bV (bG (Ok.t ?_));subst Y1;subst Q1;refine gX 6 rfl (show (.slice a20 (z0++([e8.2.2.2.2.2.getD k0.toNat default]:List Int)).length c20:Value)=.slice a20 (qV xd e8 k0 z0).length c20 from aA (fun l:List Int=>Value.slice a20 l.length c20) ((aU W0).symm)) ?_;refine kg (E':=.own (.slice a20 (qV xd e8 k0 z0).length c20) 3 1 (qV xd e8 k0 z0).length T0) 2 (aA (fun l:List Int=>cu.own (.slice a20 l.length c20) 3 1 l.length T0) ((aU W0).symm)) ?_;exact fun _ _ u v=>⟨a0,bu w0 a0,a20,c20,T0,(Eq.mp (aA (fun l:List Int=>aW a0 (.int .i64) T0 l) ((aU W0).symm)) aqE),fA u v hF⟩
   replace hF:=hF.2 W0;refine Ok.k (bG (Ok.t ?_));subst Y1;subst Q1;refine gX 6 rfl (show (.slice s0 z0.length b0:Value)=.slice s0 (qV xd e8 k0 z0).length b0 from aA (fun l:List Int=>Value.slice s0 l.length b0) ((aG W0).symm)) ?_;refine kg (E':=.own (.slice s0 (qV xd e8 k0 z0).length b0) 3 1 (qV xd e8 k0 z0).length e0) 1 (aA (fun l:List Int=>cu.own (.slice s0 l.length b0) 3 1 l.length e0) ((aG W0).symm)) ?_;exact fun _ _ u v=>⟨a0,bu w0 a0,s0,b0,e0,(Eq.mp (aA (fun l:List Int=>aW a0 (.int .i64) e0 l) ((aG W0).symm)) i0),fA u v hF⟩
  clear hF;rintro _ _ ⟨G0,z1,o0,t0,g0,IA,q⟩;refine jn (fun hF=>?_) _ _ q;refine aR (ag 3 [2,5,6] [(7,iv (w6 (k0+1)))] ?_);refine bV (Ok.t ?_);subst Ru;exact fun _ _ u v=>⟨k19,nl,G0,K0.trans z1,w6 (k0+1),o0,t0,(qV xd (xd.1.getD (Int.toNat e3.2.2.2.2.1) default) k0 z0),g0,IA,fA u v hF⟩
 replace hF:=hF.2 mq;refine fw (ay (ay (aM (Ok.t (ae (av 2 [(4,.slice s0 z0.length b0)] kr (aa (Ok.ret ?_))))))));exact Qd [0] K0 ⟨z0,s0,b0,e0,rfl,i0,rfl,hF⟩
theorem ahW (d:DC) (n:Int) (hp:Dp d n):ahX d n (fun r=>r=d_ d n):=by
 obtain ⟨hG,hn⟩:=hp;refine ⟨hn.1,o_ hn,fun hc=>?_,fun hc=>?_⟩
 ·have hc:decide (par d.1 n.toNat<0)=true:=hc;unfold d_; rw [aU hc]
 have hc:decide (par d.1 n.toNat<0)=false:=hc;have hp:=CR hG hn (fq hc)
 have hr:d_ d n=(fo d.1 (par d.1 n.toNat).toNat).filter (eU d):=by unfold d_; rw [aG hc]
 have hkl:=uy hG (o_ hp);have hin:=fun x hx=>hG.kids.kid (par d.1 n.toNat).toNat (o_ hp) x hx;generalize d_ d n=r at hr;have he:(d.1.getD (Int.toNat (d.1.getD n.toNat default).2.2.2.2.1) default).2.2.2.2.2=fo d.1 (par d.1 n.toNat).toNat:=rfl;have p0:(0:Int)≤(d.1.getD n.toNat default).2.2.2.2.1:=hp.1;have p1:Int.toNat (d.1.getD n.toNat default).2.2.2.2.1<d.1.length:=o_ hp;generalize fo d.1 (par d.1 n.toNat).toNat=l at hkl hin hr he
 have loop:∀ (k i:Nat),i+k=l.length→uh d (fun a=>a=r) (d.1.getD n.toNat default) (k+1) (i:Int) ((l.take i).filter (eU d)):=by
  intro k
  induction k with
  | zero =>
   intro i h;rw [uh];unfold GH;rw [he];refine ⟨p0,p1,fun hc=>od hc,fun _=>?_⟩;rw [jU om,hr]
  | succ k ih =>
   intro i h;have hx:=hin (l.getD i default) (gM default om);have hln:((l.take i).filter (eU d)).length≤200:=gQ (zT ..) (by rw [gG]; omega)
   have j26:CJ d (d.1.getD n.toNat default) (i:Int) ((l.take i).filter (eU d)) (uh d (fun a=>a=r) (d.1.getD n.toNat default) (k+1)):=by
    unfold CJ qV;rw [he,dR,fU om,show (i:Int)+1=((i+1:Nat):Int) by omega]
    have e:(if ((d.1.getD (Int.toNat (l.getD i default)) default).1==2)=true then ((l.take i).filter (eU d)++[l.getD i default]) else (l.take i).filter (eU d))=(l.take (i+1)).filter (eU d):=by
     rw [iD default om,zW]
     cases hm:eU d (l.getD i default) with
     | true =>
      rw [List.filter_cons_of_pos hm,uV];exact aU hm
     | false =>
      rw [List.filter_cons_of_neg (by rw [hm]; decide),uV,gK];exact aG hm
    rw [e];exact ih (i+1) om
   rw [uh];unfold GH;rw [he];refine ⟨p0,p1,fun _=>?_,fun hc=>oe hc⟩;rw [dR];exact ⟨om,om,hx.1,om,fun _=>⟨by rw [bD,mQ]; omega,j26⟩,fun _=>j26⟩
 exact ⟨_,loop l.length 0 om⟩
theorem Zy {g:ak} {u0:Option Addr} {j0:Nat} (xd:Dc) (xn:Int) (c0:bE g qj [.slice u0 xd.1.length j0] xd.1)  (hp:Dp xd xn):az prog 45 #[.agg (aD xd u0 j0),iv xn] g [] (fun g' H' v=>∃ (Av:Option Addr) (Au:Nat) (S0:List Value),v=.slice Av (d_ xd xn).length Au∧aW g' (.int .i64) S0 (d_ xd xn)∧H'=[.own (.slice Av (d_ xd xn).length Au) 3 1 (d_ xd xn).length S0]) :=
 (abe xd xn c0 _ (ahW xd xn hp)).mono (by rintro g' H' v _ ⟨r0,Av,Au,S0,rfl,aqw,rfl,hK⟩; subst hK; exact ⟨Av,Au,S0,rfl,aqw,rfl⟩)
def abb (dn:Bs) (K:Bs→Bool→Prop) (e3:Nd) (n0:Int) (C9:Int→Prop):Prop :=
 ((decide (n0<(e3.2.2.1.length:Int)))=true→0≤n0∧n0.toNat<e3.2.2.1.length∧(((e3.2.2.1.getD n0.toNat default).1==dn)=true→K (e3.2.2.1.getD n0.toNat default).2 true)∧(((e3.2.2.1.getD n0.toNat default).1==dn)=false→C9 (w6 (n0+1))))∧((decide (n0<(e3.2.2.1.length:Int)))=false→K ([]:Bs) false)
def JX (dn:Bs) (K:Bs→Bool→Prop) (e3:Nd):Nat→Int→Prop
 | 0,_=>False
 | k+1,n0=>abb dn K e3 n0 (JX dn K e3 k)
def ahV (xd:Dc) (xn:Int) (dn:Bs) (K:Bs→Bool→Prop):Prop :=
 0≤xn∧xn.toNat<xd.1.length∧∃ k,JX dn K (xd.1.getD xn.toNat default) k 0
theorem abd {g:ak} {u0:Option Addr} {j0:Nat} (xd:Dc) (xn:Int) (dn:Bs) (c0:bE g qj [.slice u0 xd.1.length j0] xd.1) (K:Bs→Bool→Prop)
  (hF:ahV xd xn dn K):az prog 76 #[.agg (aD xd u0 j0),iv xn,sv dn] g [] (fun g' H' v=>∃ (r0:Bs),∃ (r1:Bool),v=.tuple #[sv r0,.bool r1]∧H'=[]∧K r0 r1):=by
 refine aP 34 func76 rfl fun w0=>?_;refine ae (ai (cO fun dD=>?_));refine av 2 [(1,iv xn),(2,sv dn),(3,pv dD 0)] kr (aa (ae (aj 3 [.e 0] [2] [(11,.slice u0 xd.1.length j0),(12,iv xn)] ?_)));obtain ⟨DL,DJ,hF⟩:=hF;have wu:=aT (l:=xd.1) default DJ;generalize hg3:(xd.1.getD xn.toNat default)=e3 at wu hF ⊢;refine ai (af.aX (e:=yN) rfl rfl underlying22 kr c0 DL wu rfl fun q2 o2 cs2 _ u1 hr2=>?_);obtain ⟨D0,E0,asa,arZ,rfl,F0,akI⟩:=oN hr2;refine aj 3 [.a 2 u1] [2] [(8,.slice D0 e3.2.2.1.length E0)] ?_;refine aa (aF (ae (ag 1 [2,8] [(9,iv 0)] ?_)));refine aa (Ok.block ?_);obtain ⟨k,hF⟩:=hF;refine fQ (fun k a W=>∃ (n0:Int),fC 34 [(2,sv dn),(8,.slice D0 e3.2.2.1.length E0),(9,iv n0)] a∧dm w0 [] g W∧JX dn K e3 k n0) k ?_ ?_
 ·
  exact fun _ _ u v=>⟨0,fA u v hF⟩
 clear hF;rintro (_ | k9) _ _ ⟨n0,q⟩;exact (q.2.2:False).elim;refine jn (fun hF=>?_) _ _ q;refine aF (ae (ag 4 [2,8,9] [(19,.bool (decide (n0<(e3.2.2.1.length:Int))))] ?_));refine aa (aJ hF (fun hc4 hF=>?_) (fun hc4 hF=>?_))
 ·refine Ok.k (Ok.t (aF (Ok.block (ae (ag 2 [2,8,9] [(22,.slice D0 e3.2.2.1.length E0),(23,iv n0)] ?_)))));obtain ⟨uA,h16,hF⟩:=hF;have uz:=aT (l:=e3.2.2.1) default h16;generalize zH:(e3.2.2.1.getD n0.toNat default)=e6 at uz hF ⊢;refine ai (af.aX (e:=.pair (.str) (.str)) rfl rfl underlying45 kr F0 uA uz rfl fun q5 o5 cs5 _ c1 MZ=>?_);obtain ⟨_,_,rfl,rfl,rfl⟩:=MZ;replace c1:At g q5 o5 [sv e6.1,sv e6.2]:=c1;refine aj 3 [.a 0 c1] [2,8,9] [(26,sv e6.1),(27,sv dn)] ?_;refine ai (af.s (v:=.bool (e6.1==dn)) (iG (f:=.eql) (a:=e6.1) (b:=dn) kr kr rfl) rfl rfl (aa (dW hF rfl (fun iB=>?_) (fun iB=>?_))))
  ·replace hF:=hF.1 iB;refine ae (av 2 [(29,.slice D0 e3.2.2.1.length E0),(30,iv n0)] kr (ai (af.aX (e:=.pair (.str) (.str)) rfl rfl underlying45 kr F0 uA uz rfl fun q8 o8 cs8 _ e1 hr8=>?_)));obtain ⟨_,_,rfl,rfl,rfl⟩:=hr8;replace e1:At g q8 o8 [sv e6.1,sv e6.2]:=e1;refine aj 4 [.a 1 e1] [] [(6,sv e6.2),(7,.bool true)] ?_;refine aa (Ok.ret (aV (aC (aC (aV (aC ?_))))));exact gZ (vs:=[sv e6.2,.bool true]) (.inl rfl) rfl (.cons (.tmp rfl) (.cons (.tmp rfl) .nil)) (bu w0 g) ⟨e6.2,true,rfl,rfl,hF⟩
  replace hF:=hF.2 iB;refine Ok.k (bG (Ok.t (aR (ag 3 [2,8] [(9,iv (w6 (n0+1)))] ?_))));refine bV (Ok.t ?_);subst zH;exact fun _ _ u v=>⟨k9,nl,w6 (n0+1),fA u v hF⟩
 refine fw (ay (ay (aM (Ok.t (ae (av 2 [(6,sv ([]:Bs)),(7,.bool false)] kr (aa (Ok.ret ?_))))))));exact gZ (vs:=[sv ([]:Bs),.bool false]) (.inl rfl) rfl (.cons (.tmp rfl) (.cons (.tmp rfl) .nil)) (bu w0 g) ⟨([]:Bs),false,rfl,rfl,hF⟩
def jY (d:DC) (n:Int) (w:Bs):Bs×Bool:=jK (lI d n).2.2.1 w
def QA (d:DC) (n:Int) (_:Bs):Prop:=gN d∧nu d n
theorem ahU (d:DC) (n:Int) (w:Bs) (hp:QA d n w):ahV d n w (fun a b=>(a,b)=jY d n w):=by
 obtain ⟨hG,hn⟩:=hp;have hl:(lI d n).2.2.1.length≤12:=(IM hG hn).1;refine ⟨hn.1,o_ hn,?_⟩;show ∃ k,JX w (fun a b=>(a,b)=jY d n w) (lI d n) k 0;have hr:jY d n w=jK (lI d n).2.2.1 w:=rfl;generalize jY d n w=r at hr;generalize lI d n=x at hl hr
 have loop:∀ (k i:Nat),i+k=x.2.2.1.length→r=jK (x.2.2.1.drop i) w→JX w (fun a b=>(a,b)=r) x (k+1) (i:Int):=by
  intro k
  induction k with
  | zero =>
   intro i h h2;rw [eD om,jK] at h2;exact ⟨fun hc=>od hc,fun _=>h2.symm⟩
  | succ k ih =>
   intro i h h2;rw [bX (l:=x.2.2.1) default om,jK] at h2;refine ⟨fun _=>?_,fun hc=>oe hc⟩;rw [dR];refine ⟨om,om,fun hc=>?_,fun hc=>?_⟩
   ·rw [aU hc] at h2; exact h2.symm
   rw [aG hc] at h2;rw [fU om];exact ih (i+1) om h2
 exact ⟨_,loop x.2.2.1.length 0 om hr⟩
theorem SN {g:ak} {u0:Option Addr} {j0:Nat} (xd:Dc) (xn:Int) (dn:Bs) (c0:bE g qj [.slice u0 xd.1.length j0] xd.1)  (hp:QA xd xn dn):bC prog 76 #[.agg (aD xd u0 j0),iv xn,sv dn] g (.tuple #[sv ((jY xd xn dn).1),.bool (jY xd xn dn).2]) :=
 (abd xd xn dn c0 _ (ahU xd xn dn hp)).gives (by rintro g' H' v _ ⟨r0,r1,rfl,rfl,hK⟩; obtain ⟨rfl,rfl⟩:r0=(jY xd xn dn).1∧r1=(jY xd xn dn).2:=⟨aA (fun z=>z.1) hK,aA (fun z=>z.2) hK⟩; rfl)
def vY (xs:Bs) (y0:Int):Bool :=
 ((decide (y0<(xs.length:Int)))&&(!(sG ((xs.getD y0.toNat 0).toNat:Int))))
def x9 (xs:Bs) (xw:Bs) (d0:Int) (y0:Int):Bool :=
 (decide (y0>d0)&&(((xs.take y0.toNat).drop d0.toNat)==xw))
def x8 (xs:Bs) (d0:Int) (y0:Int):Int :=
 (if (vY xs y0)=true then d0 else w6 (y0+1))
def zh (xs:Bs) (d0:Int) (y0:Int) (C9:Int→Int→Prop):Prop :=
 C9 (x8 xs d0 y0) (w6 (y0+1))
def wR (xs:Bs) (xw:Bs) (K:Bool→Prop) (d0:Int) (y0:Int) (C9:Int→Int→Prop):Prop :=
 (x9 xs xw d0 y0=true→K true)∧(x9 xs xw d0 y0=false→zh xs d0 y0 C9)
def wS (xs:Bs) (xw:Bs) (K:Bool→Prop) (d0:Int) (y0:Int) (C9:Int→Int→Prop):Prop :=
 (vY xs y0=true→zh xs d0 y0 C9)∧(vY xs y0=false→(decide (y0>d0)=true→0≤d0∧(d0:Int)≤y0∧y0≤(xs.length:Int)∧wR xs xw K d0 y0 C9)∧(decide (y0>d0)=false→wR xs xw K d0 y0 C9))
def aa8 (xs:Bs) (xw:Bs) (K:Bool→Prop) (d0:Int) (y0:Int) (C9:Int→Int→Prop):Prop :=
 ((decide (y0≤(xs.length:Int)))=true→((decide (y0<(xs.length:Int)))=true→0≤y0∧y0.toNat<xs.length∧wS xs xw K d0 y0 C9)∧((decide (y0<(xs.length:Int)))=false→wS xs xw K d0 y0 C9))∧((decide (y0≤(xs.length:Int)))=false→K false)
def qR (xs:Bs) (xw:Bs) (K:Bool→Prop):Nat→Int→Int→Prop
 | 0,_,_=>False
 | k+1,d0,y0=>aa8 xs xw K d0 y0 (qR xs xw K k)
def ahM (xs:Bs) (xw:Bs) (K:Bool→Prop):Prop :=
 ∃ k,qR xs xw K k 0 0
theorem aa9 {g:ak} (xs:Bs) (xw:Bs) (K:Bool→Prop)
  (hF:ahM xs xw K):az prog 77 #[sv xs,sv xw] g [] (fun g' H' v=>∃ (r0:Bool),v=.bool r0∧H'=[]∧K r0):=by
 refine aP 37 func77 rfl fun w0=>?_;refine ae (av 1 [(0,sv xs),(1,sv xw)] kr (aa (ae (ag 1 [0,1] [(5,iv 0)] ?_))));refine aa (aF (ae (ag 1 [0,1,5] [(6,iv 0)] ?_)));refine aa (Ok.block ?_);obtain ⟨k,hF⟩:=hF;refine fQ (fun k a W=>∃ (d0:Int) (y0:Int),fC 37 [(0,sv xs),(1,sv xw),(5,iv d0),(6,iv y0)] a∧dm w0 [] g W∧qR xs xw K k d0 y0) k ?_ ?_
 ·
  exact fun _ _ u v=>⟨0,0,fA u v hF⟩
 clear hF;rintro (_ | k9) _ _ ⟨d0,y0,q⟩;exact (q.2.2:False).elim;refine jn (fun hF=>?_) _ _ q;refine aF (ae (ag 4 [0,1,5,6] [(10,.bool (decide (y0≤(xs.length:Int))))] ?_));refine aa (aJ hF (fun hc1 hF=>?_) (fun hc1 hF=>?_))
 ·refine Ok.k (Ok.t (gB [(0,sv xs),(1,sv xw),(5,iv (x8 xs d0 y0)),(6,iv y0)] [] (zh xs d0 y0 (qR xs xw K k9)) ?_ (fun hF=>?_)))
  ·
   refine Ok.block (aF (gB [(0,sv xs),(1,sv xw),(5,iv d0),(6,iv y0),(23,.bool (vY xs y0))] [] (wS xs xw K d0 y0 (qR xs xw K k9)) ?_ (fun hF=>?_)))
   ·
    refine aR (ag 5 [0,1,5,6] [(17,.bool (decide (y0<(xs.length:Int))))] ?_);refine bP 17 hF (fun hc6 hF=>?_) (fun hc6 hF=>?_)
    ·refine ag 2 [0,1,5,6] [(17,.bool true),(18,sv xs),(19,iv y0)] ?_;obtain ⟨PG,QY,hF⟩:=hF;have Jn:=aT (l:=xs) (0:UInt8) QY;generalize V4:(xs.getD y0.toNat 0)=e7 at Jn hF ⊢;let A:=(e7.toNat:Int);refine dZ (af.s (v:=.int .u8 A) (dQ (k:=.i64) (i:=y0) (s:=xs) (b:=e7) kr kr underlying9 PG Jn) rfl rfl (aj 3 [.k (YU A)] [0,1,5,6] [(23,.bool (!(sG A)))] ?_));refine bV (Ok.t ?_);subst V4;refine aB 23 (vY xs y0) (bn hc6) ?_;exact fz hF
    refine ag 6 [0,1,5,6] [(23,.bool false)] ?_;refine aa (aB 23 (vY xs y0) (bZ hc6) ?_);exact fz hF
   refine aJ hF (fun hc2 hF=>?_) (fun hc2 hF=>?_)
   ·refine fw (ay (aM (Ok.t (gX 5 rfl (show (iv d0:Value)=iv (x8 xs d0 y0) from aA (Value.int .i64) ((aU hc2).symm)) ?_))));exact fz hF
   refine Ok.k (Ok.t (aF (gB [(0,sv xs),(1,sv xw),(6,iv y0),(34,.bool (x9 xs xw d0 y0))] [] (wR xs xw K d0 y0 (qR xs xw K k9)) ?_ (fun hF=>?_))))
   ·
    refine aR (ag 4 [0,1,5,6] [(27,.bool (decide (y0>d0)))] ?_);refine bP 27 hF (fun hc4 hF=>?_) (fun hc4 hF=>?_)
    ·refine ag 3 [0,1,6] [(27,.bool true),(28,sv xs),(29,iv d0),(30,iv y0)] ?_;obtain ⟨Ep,IE,h25,hF⟩:=hF;refine dZ (af.s (b_ (s:=xs) (l:=d0) (h:=y0) kr underlying9 (.inl ⟨_,_,rfl,rfl⟩) (.inl ⟨_,_,rfl,rfl⟩) Ep IE h25 ((xs.take y0.toNat).drop d0.toNat) rfl) rfl rfl (aj 3 [] [0,1,6] [(34,.bool (((xs.take y0.toNat).drop d0.toNat)==xw))] ?_));refine aa (aB 34 (x9 xs xw d0 y0) (bn hc4) ?_);exact fz hF
    refine ag 7 [0,1,6] [(34,.bool false)] ?_;refine aa (aB 34 (x9 xs xw d0 y0) (bZ hc4) ?_);exact fz hF
   refine aJ hF (fun hc3 hF=>?_) (fun hc3 hF=>?_)
   ·refine ae (av 1 [(4,.bool true)] kr (aa (Ok.ret (aC (aV (aC (aC (aV (aC ?_)))))))));exact dE true hF
   refine Ok.k (Ok.t (aR (ag 3 [0,1,6] [(5,iv (w6 (y0+1)))] ?_)));refine bV (bG (Ok.t (gX 5 rfl (show (iv (w6 (y0+1)):Value)=iv (x8 xs d0 y0) from aA (Value.int .i64) ((aG hc2).symm)) ?_)));exact fz hF
  refine aR (ag 3 [0,1,5] [(6,iv (w6 (y0+1)))] ?_);refine bV (Ok.t ?_);exact fun _ _ u v=>⟨k9,nl,x8 xs d0 y0,w6 (y0+1),fA u v hF⟩
 refine fw (ay (ay (aM (Ok.t (ae (av 1 [(4,.bool false)] kr (aa (Ok.ret ?_))))))));exact dE false hF
theorem afG (c:UInt8):sG (c.toNat:Int)=lq c.toNat:=by
 have:=uJ (p:=fun c=>sG (c.toNat:Int)==lq c.toNat) dk c;simpa using this
theorem ahL (s w:Bs) (hp:XR s w):ahM s w (fun r=>r=Dx s w):=by
 have hl:s.length≤1000:=hp
 have hr:Dx s w=(wrdG [] s).any fun x=>w==x:=by rw [← Nw]; rfl
 generalize Dx s w=r at hr
 have L0:∀ (f i:Nat),f≤i→i≤s.length→((((s.take i).drop f)==([]:Bs))=true↔f=i):=fun f i h1 h2=>by
  rw [dJ,← List.length_eq_zero_iff,gJ,gG]; omega
 have loop:∀ (k f i:Nat),i+k=s.length→f≤i→r=(wrdG ((s.take i).drop f) (s.drop i)).any (fun x=>w==x)→qR s w (fun a=>a=r) (k+2) (f:Int) (i:Int):=by
  intro k
  induction k with
  | zero =>
   intro f i h hf h2;have hi:i=s.length:=om
   have hV1:vY s (i:Int)=false:=by unfold vY; rw [l6 om,iw]
   have hV2:x9 s w (f:Int) (i:Int)=r:=by
    rw [h2,eD (show s.length≤i by omega),wrdG];unfold x9;rw [dR,dR]
    by_cases hfi:f=i
    ·rw [bB ((L0 f i hf om).2 hfi),l6 om]; rfl
    rw [aQ (fun h=>hfi ((L0 f i hf om).1 h)),gu om,fJ,jM,xB,nD,uX,dJ,dJ];exact eq_comm
   have MM:r=false→zh s (f:Int) (i:Int) (qR s w (fun a=>a=r) 1):=fun h0=>by
    refine ⟨fun hc=>?_,fun _=>h0.symm⟩;have:=df hc;rw [fU om] at this;omega
   have j25:wR s w (fun a=>a=r) (f:Int) (i:Int) (qR s w (fun a=>a=r) 1):=by
    unfold wR;rw [hV2];exact ⟨fun h=>h.symm,fun h=>MM h⟩
   have ZL:wS s w (fun a=>a=r) (f:Int) (i:Int) (qR s w (fun a=>a=r) 1):=by
    unfold wS;rw [hV1];exact ⟨(fun h=>by cases h),fun _=>⟨fun _=>⟨om,om,om,j25⟩,fun _=>j25⟩⟩
   exact ⟨fun _=>⟨fun _=>⟨om,by rw [dR]; have:=hi; rename_i hc; have:=df hc; omega,ZL⟩,fun _=>ZL⟩,fun hc=>oe hc⟩
  | succ k ih =>
   intro f i h hf h2;have hi:i<s.length:=om;have hd:s.drop i=s.getD i 0::s.drop (i+1):=bX 0 hi
   have ht:(s.take (i+1)).drop f=(s.take i).drop f++[s.getD i 0]:=by
    rw [iD 0 hi,Jg (by rw [gG]; omega)]
   rw [hd] at h2
   have hw2:∀ cur,wrdG cur (s.getD i 0::s.drop (i+1))=if lq (s.getD i 0).toNat=true then (if (cur==[])=true then wrdG [] (s.drop (i+1)) else cur::wrdG [] (s.drop (i+1))) else wrdG (cur++[s.getD i 0]) (s.drop (i+1)):=fun cur=>by rw [wrdG]
   rw [hw2] at h2
   have hV1:vY s (i:Int) = !(lq (s.getD i 0).toNat):=by
    unfold vY; rw [gu om,fJ,dR,afG]
   have hV2:x9 s w (f:Int) (i:Int)=(decide ((i:Int)>(f:Int))&&(((s.take i).drop f)==w)):=by
    unfold x9; rw [dR,dR]
   have MM:∀ g:Nat,g≤i+1→x8 s (f:Int) (i:Int)=(g:Int)→r=(wrdG ((s.take (i+1)).drop g) (s.drop (i+1))).any (fun x=>w==x)→zh s (f:Int) (i:Int) (qR s w (fun a=>a=r) (k+2)):=fun g hg h3 h4=>by
    unfold zh;rw [h3,fU om,show (i:Int)+1=((i+1:Nat):Int) by omega];exact ih g (i+1) om hg h4
   have ZL:wS s w (fun a=>a=r) (f:Int) (i:Int) (qR s w (fun a=>a=r) (k+2)):=by
    unfold wS;rw [hV1];refine ⟨fun hc=>?_,fun hc=>?_⟩
    ·have hb:lq (s.getD i 0).toNat=false:=by rw [dC] at hc; exact hc
     rw [aQ (by rw [hb]; decide),← ht] at h2;exact MM f om (by unfold x8; rw [hV1,aU hc]) h2
    have hb:lq (s.getD i 0).toNat=true:=by rw [eX] at hc; exact hc
    rw [bB hb] at h2;have hnew:(s.take (i+1)).drop (i+1)=[]:=eD (by rw [gG]; omega)
    have Rw:x8 s (f:Int) (i:Int)=((i+1:Nat):Int):=by unfold x8; rw [hV1,aG hc,fU om]; omega
    have j25:wR s w (fun a=>a=r) (f:Int) (i:Int) (qR s w (fun a=>a=r) (k+2)):=by
     unfold wR;rw [hV2]
     by_cases hfi:f=i
     ·rw [bB ((L0 f i hf om).2 hfi)] at h2;rw [l6 om,iw];exact ⟨(fun h=>by cases h),fun _=>MM (i+1) om Rw (by rw [hnew]; exact h2)⟩
     rw [aQ (fun h=>hfi ((L0 f i hf om).1 h)),jM] at h2;rw [gu om,fJ];refine ⟨fun hh=>?_,fun hh=>MM (i+1) om Rw ?_⟩
     ·rw [h2,eq_of_beq hh,uM,pM]
     rw [hnew,h2]
     have:(w==(s.take i).drop f)=false:=by
      rw [dX] at hh ⊢;exact fun e=>hh e.symm
     rw [this,lC]
    exact ⟨fun _=>⟨om,om,om,j25⟩,fun _=>j25⟩
   exact ⟨fun _=>⟨fun _=>⟨om,by rw [dR]; omega,ZL⟩,fun _=>ZL⟩,fun hc=>oe hc⟩
 exact ⟨_,loop s.length 0 0 om (fP _) (by rw [List.take_zero,List.drop_nil,gm]; exact hr)⟩
theorem Zx {g:ak} (xs:Bs) (xw:Bs)  (hp:XR xs xw):bC prog 77 #[sv xs,sv xw] g (.bool (Dx xs xw)) :=
 (aa9 xs xw _ (ahL xs xw hp)).gv
def CB (xs:Bs) (xw:Bs) (x0:Int):Bool :=
 (decide (x0≥0)&&(((xs.take (Int.toNat (w6 (x0+(xw.length:Int))))).drop x0.toNat)==xw))
def Cz (xs:Bs) (xw:Bs) (K:Bool→Prop) (x0:Int) (C7:Int→Prop):Prop :=
 (CB xs xw x0=true→K true)∧(CB xs xw x0=false→C7 (w6 (x0+1)))
def aa6 (xs:Bs) (xw:Bs) (xH:Int) (K:Bool→Prop) (x0:Int) (C7:Int→Prop):Prop :=
 ((decide (x0≤xH)&&(decide ((w6 (x0+(xw.length:Int)))≤(xs.length:Int))))=true→(decide (x0≥0)=true→0≤x0∧(x0:Int)≤(w6 (x0+(xw.length:Int)))∧(w6 (x0+(xw.length:Int)))≤(xs.length:Int)∧Cz xs xw K x0 C7)∧(decide (x0≥0)=false→Cz xs xw K x0 C7))∧((decide (x0≤xH)&&(decide ((w6 (x0+(xw.length:Int)))≤(xs.length:Int))))=false→K false)
def Fb (xs:Bs) (xw:Bs) (xH:Int) (K:Bool→Prop):Nat→Int→Prop
 | 0,_=>False
 | k+1,x0=>aa6 xs xw xH K x0 (Fb xs xw xH K k)
def ahK (xs:Bs) (xw:Bs) (qK:Int) (xH:Int) (K:Bool→Prop):Prop :=
 ∃ k,Fb xs xw xH K k qK
theorem aa7 {g:ak} (xs:Bs) (xw:Bs) (qK:Int) (xH:Int) (K:Bool→Prop)
  (hF:ahK xs xw qK xH K):az prog 122 #[sv xs,sv xw,iv qK,iv xH] g [] (fun g' H' v=>∃ (r0:Bool),v=.bool r0∧H'=[]∧K r0):=by
 refine aP 38 func122 rfl fun w0=>?_;refine ae (av 1 [(0,sv xs),(1,sv xw),(2,iv qK),(3,iv xH)] kr (aa (aF (ae (ag 2 [0,1,3] [(9,iv qK)] ?_)))));refine aa (Ok.block ?_);obtain ⟨k,hF⟩:=hF;refine fQ (fun k a W=>∃ (x0:Int),fC 38 [(0,sv xs),(1,sv xw),(3,iv xH),(9,iv x0)] a∧dm w0 [] g W∧Fb xs xw xH K k x0) k ?_ ?_
 ·
  exact fun _ _ u v=>⟨qK,fA u v hF⟩
 clear hF;rintro (_ | k7) _ _ ⟨x0,q⟩;exact (q.2.2:False).elim;refine jn (fun hF=>?_) _ _ q;refine aF (ae (ag 4 [0,1,3,9] [(14,.bool (decide (x0≤xH)))] ?_));let B:=w6 (x0+(xw.length:Int));let D:=decide (B≤(xs.length:Int));let A:=decide (x0≤xH)&&D;refine Ok.w 8 [(0,sv xs),(1,sv xw),(3,iv xH),(9,iv x0),(22,.bool A)] (fun AL=>?_) ?_
 ·refine Ok.a 14 (decide (x0≤xH)) rfl (fun hc2=>?_) (fun hc2=>?_)
  ·skip;refine ag 8 [0,1,3,9] [(22,.bool D)] ?_;refine aB 22 A (bn hc2) (ag 0 [0,1,3,9] [(22,.bool A)] ?_);exact AL
  skip;refine ag 8 [0,1,3,9] [(22,.bool false)] ?_;refine aB 22 A (bZ hc2) (ag 0 [0,1,3,9] [(22,.bool A)] ?_);exact AL
 refine aa (aJ hF (fun hc3 hF=>?_) (fun hc3 hF=>?_))
 ·refine Ok.k (Ok.t (aF (Ok.block (gB [(0,sv xs),(1,sv xw),(3,iv xH),(9,iv x0),(37,.bool (CB xs xw x0))] [] (Cz xs xw K x0 (Fb xs xw xH K k7)) ?_ (fun hF=>?_)))))
  ·
   refine aR (ag 3 [0,1,3,9] [(27,.bool (decide (x0≥0)))] ?_);refine bP 27 hF (fun jy hF=>?_) (fun jy hF=>?_)
   ·refine ag 6 [0,1,3,9] [(27,.bool true),(28,sv xs),(29,iv x0),(33,iv B)] ?_;obtain ⟨uA,h16,X9,hF⟩:=hF;let C:=(xs.take (Int.toNat B)).drop x0.toNat;refine dZ (af.s (b_ (s:=xs) (l:=x0) (h:=B) kr underlying9 (.inl ⟨_,_,rfl,rfl⟩) (.inl ⟨_,_,rfl,rfl⟩) uA h16 X9 C rfl) rfl rfl (aj 3 [] [0,1,3,9] [(37,.bool (C==xw))] ?_));refine aa (aB 37 (CB xs xw x0) (bn jy) ?_);exact fz hF
   refine ag 10 [0,1,3,9] [(37,.bool false)] ?_;refine aa (aB 37 (CB xs xw x0) (bZ jy) ?_);exact fz hF
  refine aJ hF (fun hc4 hF=>?_) (fun hc4 hF=>?_)
  ·refine ae (av 1 [(8,.bool true)] kr (aa (Ok.ret (aV (aC (aC (aV (aC ?_))))))));exact dE true hF
  refine Ok.k (bG (Ok.t (aR (ag 3 [0,1,3] [(9,iv (w6 (x0+1)))] ?_))));refine bV (Ok.t ?_);exact fun _ _ u v=>⟨k7,nl,w6 (x0+1),fA u v hF⟩
 refine fw (ay (ay (aM (Ok.t (ae (av 1 [(8,.bool false)] kr (aa (Ok.ret ?_))))))));exact dE false hF
def xZ (s w:Bs) (b:Int):Nat→Int→Bool
 | 0,_=>false
 | k+1,i=>if (decide (i≤b)&&decide (i+(w.length:Int)≤(s.length:Int)))=true then (if (decide (i≥0)&&((s.drop i.toNat).take w.length==w))=true then true else xZ s w b k (i+1)) else false
def qQ (s w:Bs) (a b:Int):Bool:=xZ s w b (s.length+2) a
def Qz (s w:Bs) (a b:Int):Prop:=s.length≤1000∧w.length≤4000000∧0≤a+(w.length:Int)∧a≤1000∧b≤1000
theorem ahJ (s w:Bs) (a b:Int) (hp:Qz s w a b):ahK s w a b (fun r=>r=qQ s w a b):=by
 obtain ⟨h1,h2,h3,h4,h5⟩:=hp;have hr:qQ s w a b=xZ s w b (s.length+2) a:=rfl;generalize qQ s w a b=r at hr
 have loop:∀ (k:Nat) (i:Int),0≤i+(w.length:Int)→i≤1001→(s.length:Int)+1≤i+(w.length:Int)+k→r=xZ s w b (k+1) i→Fb s w b (fun a=>a=r) (k+1) i:=by
  intro k
  induction k with
  | zero =>
   intro i q1 q2 q3 q4;refine ⟨fun hc=>?_,fun hc=>?_⟩
   ·rw [fU om,aH] at hc;have:=df hc.2;omega
   rw [fU om] at hc;rw [xZ,aG hc] at q4;exact q4.symm
  | succ k ih =>
   intro i q1 q2 q3 q4;rw [xZ] at q4;refine ⟨fun hc=>?_,fun hc=>?_⟩
   ·rw [fU om] at hc;rw [aU hc] at q4;rw [aH] at hc;have hc1:=df hc.1;have hc2:=df hc.2
    have hV:CB s w i=(decide (i≥0)&&((s.drop i.toNat).take w.length==w)):=by
     unfold CB
     by_cases hi:i≥0
     ·rw [fU om,List.drop_take,show Int.toNat (i+(w.length:Int)) - i.toNat=w.length by omega]
     rw [l6 hi,iw,iw]
    have MM:Cz s w (fun a=>a=r) i (Fb s w b (fun a=>a=r) (k+1)):=by
     unfold Cz;rw [hV];refine ⟨fun h=>?_,fun h=>?_⟩
     ·rw [aU h] at q4; exact q4.symm
     rw [aG h] at q4;rw [fU om];exact ih (i+1) om om om q4
    rw [fU om];refine ⟨fun hi=>⟨df hi,od hi,hc2,MM⟩,fun _=>MM⟩
   rw [fU om] at hc;rw [aG hc] at q4;exact q4.symm
 exact ⟨_,loop (s.length+1) a h3 om om hr⟩
theorem OY {g:ak} (xs:Bs) (xw:Bs) (qK:Int) (xH:Int)  (hp:Qz xs xw qK xH):bC prog 122 #[sv xs,sv xw,iv qK,iv xH] g (.bool (qQ xs xw qK xH)) :=
 (aa7 xs xw qK xH _ (ahJ xs xw qK xH hp)).gv
theorem OX (s w:Bs):qQ s w 0 0=preB s w:=by
 unfold qQ preB;rw [xZ]
 by_cases h:w.length≤s.length
 ·rw [bB (by rw [aH]; exact ⟨by decide,gu om⟩)];rw [show (0:Int).toNat=0 from rfl,gm];rw [gu (show (0:Int)≥0 from lv _),fJ,gu (show (s.length:Int)≥(w.length:Int) by omega),fJ]
  cases hc:(s.take w.length==w) with
  | true=>rfl
  | false=>rw [aQ dc,xZ,aQ (by simp)]
 rw [aQ (by rw [aH]; intro h2; have:=df h2.2; omega),l6 om,iw]
theorem WZ (s w:Bs):qQ s w ((s.length:Int) - (w.length:Int)) (s.length:Int)=R5 s w:=by
 unfold qQ R5;rw [xZ,bB (by rw [aH]; exact ⟨gu om,gu om⟩)]
 have last:xZ s w (s.length:Int) (s.length+1) ((s.length:Int) - (w.length:Int)+1)=false:=by
  rw [xZ,aQ (by rw [aH]; intro h2; have:=df h2.2; omega)]
 rw [last]
 by_cases h:w.length≤s.length
 ·rw [gu (show (s.length:Int) - (w.length:Int)≥0 by omega),gu (show (s.length:Int)≥(w.length:Int) by omega),fJ,fJ];rw [show ((s.length:Int) - (w.length:Int)).toNat=s.length - w.length by omega,jU (by rw [gJ]; omega)]
  cases (s.drop (s.length - w.length)==w) <;> rfl
 rw [l6 (show ¬ (s.length:Int) - (w.length:Int)≥0 by omega),l6 (show ¬ (s.length:Int)≥(w.length:Int) by omega)]; rfl
theorem abz (s w:Bs) (i:Nat):Lib.occAt s w i=((s.drop i).take w.length==w):=by
 unfold Lib.occAt;rw [uX,List.isPrefixOf_iff_prefix,dJ,List.prefix_iff_eq_take];exact eq_comm
theorem W9 (s w:Bs):qQ s w 0 (s.length:Int)=decide (mX s w≥0):=by
 have key:∀ (k i:Nat),(s.length:Int)+1≤(i:Int)+k→Lib.NoOcc s w i→xZ s w (s.length:Int) (k+1) (i:Int)=decide (mX s w≥0):=by
  have stop:∀ i:Nat,Lib.NoOcc s w i→¬ ((i:Int)+(w.length:Int)≤(s.length:Int))→decide (mX s w≥0)=false:=fun i hN h=>by
   rw [eP];intro hi;unfold mX at hi
   rcases Lib.index_spec s w with ⟨he,-⟩ | ⟨j,he,hj,ho,-⟩
   ·rw [he] at hi; exact absurd hi dc
   have hroom:=Lib.index_room s w hi;rw [he] at hroom;rw [hN j om] at ho;cases ho
  intro k
  induction k with
  | zero =>
   intro i h hN;rw [xZ,aQ (by rw [aH]; intro h2; have:=df h2.1; omega)];exact (stop i hN om).symm
  | succ k ih =>
   intro i h hN;rw [xZ]
   by_cases hc:(i:Int)+(w.length:Int)≤(s.length:Int)
   ·rw [bB (by rw [aH]; exact ⟨gu om,gu hc⟩),dR,gu (show (i:Int)≥0 by omega),fJ,← abz]
    cases ho:Lib.occAt s w i with
    | true =>
     rw [bB rfl];have:=Lib.index_hit hN om ho;unfold mX;rw [this,gu om]
    | false =>
     rw [aQ dc];refine ih (i+1) om fun j hj=>?_
     by_cases hji:j<i
     ·exact hN j hji
     obtain rfl:j=i:=om;exact ho
   rw [aQ (by rw [aH]; intro h2; exact hc (df h2.2))];exact (stop i hN hc).symm
 exact key (s.length+1) 0 om (Lib.NoOcc.zero s w)
def Fh (xv:Bs) (xt:TS):Bool :=
 ((xv==xt.lab.2.2.2.1)||(qQ xv (xt.lab.2.2.2.1++([45]:Bs)) 0 0))
def GJ (xv:Bs) (xt:TS) (K:Bool→Prop):Prop :=
 K (Fh xv xt)
def abj (xv:Bs) (xt:TS) (K:Bool→Prop):Prop :=
 ((xt.lab.2.2.1==61)=true→K (xv==xt.lab.2.2.2.1))∧((xt.lab.2.2.1==61)=false→((xt.lab.2.2.1==124)=true→((xv==xt.lab.2.2.2.1)=true→GJ xv xt K)∧((xv==xt.lab.2.2.2.1)=false→xt.lab.2.2.2.1.length+([45]:Bs).length≤maxLen∧Qz xv (xt.lab.2.2.2.1++([45]:Bs)) 0 0∧GJ xv xt K))∧((xt.lab.2.2.1==124)=false→((xt.lab.2.2.2.1==([]:Bs))=true→K false)∧((xt.lab.2.2.2.1==([]:Bs))=false→((xt.lab.2.2.1==126)=true→XR xv xt.lab.2.2.2.1∧K (Dx xv xt.lab.2.2.2.1))∧((xt.lab.2.2.1==126)=false→((xt.lab.2.2.1==94)=true→Qz xv xt.lab.2.2.2.1 0 0∧K (qQ xv xt.lab.2.2.2.1 0 0))∧((xt.lab.2.2.1==94)=false→((xt.lab.2.2.1==36)=true→Qz xv xt.lab.2.2.2.1 (w6 ((xv.length:Int) - (xt.lab.2.2.2.1.length:Int))) (xv.length:Int)∧K (qQ xv xt.lab.2.2.2.1 (w6 ((xv.length:Int) - (xt.lab.2.2.2.1.length:Int))) (xv.length:Int)))∧((xt.lab.2.2.1==36)=false→Qz xv xt.lab.2.2.2.1 0 (xv.length:Int)∧K (qQ xv xt.lab.2.2.2.1 0 (xv.length:Int))))))))
theorem abh {g:ak} (xv:Bs) {U0:Option Addr} {J0:Nat} (xt:TS) (P0:bE g (.slice yP) [.slice U0 xt.kids.length J0] xt.kids) (K:Bool→Prop)
  (hF:abj xv xt K):az prog 78 #[sv xv,.agg (aL xt.lab U0 xt.kids.length J0)] g [] (fun g' H' v=>∃ (r0:Bool),v=.bool r0∧H'=[]∧K r0):=by
 refine aP 64 func78 rfl fun w0=>?_;refine ae (ai (cO fun dD=>?_));refine av 1 [(0,sv xv),(3,pv dD 0)] kr (aa (aF (ae (aj 3 [.e 0] [0,3] [(7,.bool (xt.lab.2.2.1==61))] ?_))));refine aa (aJ hF (fun hc2 hF=>?_) (fun hc2 hF=>?_))
 ·refine ae (aj 5 [.e 0] [] [(4,.bool (xv==xt.lab.2.2.2.1))] ?_);refine aa (Ok.ret (aC ?_));exact dE (xv==xt.lab.2.2.2.1) hF
 refine Ok.k (Ok.t (aF (ae (aj 3 [.e 0] [0,3] [(14,.bool (xt.lab.2.2.1==124))] ?_))));refine aa (aJ hF (fun hc3 hF=>?_) (fun hc3 hF=>?_))
 ·refine gB [(4,.bool (Fh xv xt))] [] (GJ xv xt K) ?_ (fun hF=>?_)
  ·
   refine aR (aj 5 [.e 0] [0,3] [(19,.bool (xv==xt.lab.2.2.2.1))] ?_);refine bP 19 hF (fun hc4 hF=>?_) (fun hc4 hF=>?_)
   ·refine av 7 [(4,.bool true)] kr (aa (aB 4 (Fh xv xt) (cK hc4) ?_));exact fz hF
   refine av 2 [(19,.bool false),(20,sv xv),(21,pv dD 3)] kr (dZ (af.s (v:=sv xt.lab.2.2.2.1) (aS 0 rfl rfl underlying9 rfl kr) rfl rfl ?_));obtain ⟨hv,hF⟩:=hF;let B:=xt.lab.2.2.2.1++([45]:Bs);refine dZ (af.s (v:=sv B) (dz rfl rfl hv) rfl rfl ?_);obtain ⟨M3,hF⟩:=hF;refine aj 3 [.k (OY xv B 0 0 M3)] [] [(4,.bool (qQ xv B 0 0))] ?_;refine aa (aB 4 (Fh xv xt) (bN hc4) ?_);exact fz hF
  refine Ok.ret (aC ?_);exact dE (Fh xv xt) hF
 refine Ok.k (Ok.t (aF (ae (ag 1 [0,3] [(26,pv dD 3)] ?_))));refine ai (af.s (v:=sv xt.lab.2.2.2.1) (aS 0 rfl rfl underlying9 rfl kr) rfl rfl (ai (af.s (v:=.bool (xt.lab.2.2.2.1==([]:Bs))) (iG (f:=.eql) (a:=xt.lab.2.2.2.1) (b:=([]:Bs)) kr kr rfl) rfl rfl (aa (aJ hF (fun hc6 hF=>?_) (fun hc6 hF=>?_))))))
 ·refine ae (av 1 [(4,.bool false)] kr (aa (Ok.ret (aC ?_))));exact dE false hF
 refine Ok.k (Ok.t (aF (ae (aj 3 [.e 0] [0,3] [(31,.bool (xt.lab.2.2.1==126))] ?_))));refine aa (aJ hF (fun iB hF=>?_) (fun iB hF=>?_))
 ·refine aF (aR ?_);obtain ⟨KV,hF⟩:=hF;let G:=Dx xv xt.lab.2.2.2.1;refine aj 5 [.e 0,.k (Zx xv xt.lab.2.2.2.1 KV)] [] [(4,.bool G)] ?_;refine aa (Ok.ret (aC ?_));exact dE G hF
 refine Ok.k (Ok.t (aF (ae (aj 3 [.e 0] [0,3] [(38,.bool (xt.lab.2.2.1==94))] ?_))));refine aa (aJ hF (fun mq hF=>?_) (fun mq hF=>?_))
 ·refine aF (aR ?_);obtain ⟨Dy,hF⟩:=hF;let E:=qQ xv xt.lab.2.2.2.1 0 0;refine aj 5 [.e 0,.k (OY xv xt.lab.2.2.2.1 0 0 Dy)] [] [(4,.bool E)] ?_;refine aa (Ok.ret (aC ?_));exact dE E hF
 refine Ok.k (Ok.t (aF (ae (aj 3 [.e 0] [0,3] [(45,.bool (xt.lab.2.2.1==36))] ?_))));refine aa (aJ hF (fun y1 hF=>?_) (fun y1 hF=>?_))
 ·refine aF (aR ?_);obtain ⟨f1,hF⟩:=hF;let C:=(xv.length:Int);let A:=w6 (C - (xt.lab.2.2.2.1.length:Int));let F:=qQ xv xt.lab.2.2.2.1 A C;refine aj 13 [.e 0,.e 0,.k (OY xv xt.lab.2.2.2.1 A C f1)] [] [(4,.bool F)] ?_;refine aa (Ok.ret (aC ?_));exact dE F hF
 refine Ok.k (Ok.t (aF (aR ?_)));obtain ⟨zD,hF⟩:=hF;let D:=qQ xv xt.lab.2.2.2.1 0 (xv.length:Int);refine aj 7 [.e 0,.k (OY xv xt.lab.2.2.2.1 0 (xv.length:Int) zD)] [] [(4,.bool D)] ?_;refine aa (Ok.ret ?_);exact dE D hF
def QB (v:Bs) (t:Ts):Bool:=u_ v t.lab
def Xc (v:Bs) (t:Ts):Prop:=v.length≤400∧t.lab.2.2.2.1.length≤2000000
theorem ahZ (v:Bs) (t:Ts) (hp:Xc v t):abj v t (fun r=>r=QB v t):=by
 obtain ⟨h1,h2⟩:=hp;have hr:QB v t=u_ v t.lab:=rfl;generalize QB v t=r at hr;unfold u_ at hr;have hw:w6 ((v.length:Int) - (t.lab.2.2.2.1.length:Int))=(v.length:Int) - (t.lab.2.2.2.1.length:Int):=fU om;unfold abj GJ Fh;rw [hw,OX,OX,WZ,W9]
 have hlen:((t.lab.2.2.2.1++([45]:Bs)).length:Int)=(t.lab.2.2.2.1.length:Int)+1:=by rw [bD]; rfl
 refine ⟨fun q1=>?_,fun q1=>⟨fun q2=>⟨fun _=>?_,fun _=>⟨?_,⟨om,om,om,om,om⟩,?_⟩⟩,fun q2=>⟨fun q3=>?_,fun q3=>⟨fun q4=>⟨?_,?_⟩,fun q4=>⟨fun q5=>⟨⟨om,om,om,om,om⟩,?_⟩,fun q5=>⟨fun q6=>⟨⟨om,om,om,om,om⟩,?_⟩,fun q6=>⟨⟨om,om,om,om,om⟩,?_⟩⟩⟩⟩⟩⟩⟩
 ·rw [aU q1] at hr; exact hr.symm
 ·rw [aG q1,aU q2] at hr; exact hr.symm
 ·show t.lab.2.2.2.1.length+1≤maxLen
  have:(2000001:Nat)≤maxLen:=by decide
  omega
 ·rw [aG q1,aU q2] at hr; exact hr.symm
 ·rw [aG q1,aG q2,aU q3] at hr; exact hr.symm
 ·show v.length≤1000; omega
 ·rw [aG q1,aG q2,aG q3,aU q4] at hr; exact hr.symm
 ·rw [aG q1,aG q2,aG q3,aG q4,aU q5] at hr; exact hr.symm
 ·rw [aG q1,aG q2,aG q3,aG q4,aG q5,aU q6] at hr; exact hr.symm
 rw [aG q1,aG q2,aG q3,aG q4,aG q5,aG q6] at hr; exact hr.symm
theorem ahY {g:ak} (xv:Bs) {U0:Option Addr} {J0:Nat} (xt:TS) (P0:bE g (.slice yP) [.slice U0 xt.kids.length J0] xt.kids)  (hp:Xc xv xt):bC prog 78 #[sv xv,.agg (aL xt.lab U0 xt.kids.length J0)] g (.bool (QB xv xt)) :=
 (abh xv xt P0 _ (ahZ xv xt hp)).gv
def WO (xd:Dc) (xa:Int) (K:Bool→Prop) (f0:Int) (Z8:Int→Prop):Prop :=
 (decide (f0≥0)=true→((f0==xa)=true→K true)∧((f0==xa)=false→0≤f0∧f0.toNat<xd.1.length∧Z8 (xd.1.getD f0.toNat default).2.2.2.2.1))∧(decide (f0≥0)=false→K false)
def Gs (xd:Dc) (xa:Int) (K:Bool→Prop):Nat→Int→Prop
 | 0,_=>False
 | k+1,f0=>WO xd xa K f0 (Gs xd xa K k)
def Cv (v0:Int) (Zb:Int→Prop):Prop :=
 Zb (w6 (v0+1))
def Gq (xd:Dc) (xb:Int) (bY:Int) (K:Bool→Prop) (v0:Int) (Zb:Int→Prop) (q0:Int) (C64:Int→Prop):Prop :=
 ((decide (q0<((d_ xd xb).length:Int)))=true→0≤q0∧q0.toNat<(d_ xd xb).length∧(((((d_ xd xb).getD q0.toNat default)==xb)&&((bY==126)||(q0==w6 (v0+1))))=true→K true)∧(((((d_ xd xb).getD q0.toNat default)==xb)&&((bY==126)||(q0==w6 (v0+1))))=false→C64 (w6 (q0+1))))∧((decide (q0<((d_ xd xb).length:Int)))=false→Cv v0 Zb)
def zb (xd:Dc) (xb:Int) (bY:Int) (K:Bool→Prop) (v0:Int) (Zb:Int→Prop):Nat→Int→Prop
 | 0,_=>False
 | k+1,q0=>Gq xd xb bY K v0 Zb q0 (zb xd xb bY K v0 Zb k)
def Gr (xd:Dc) (xa:Int) (xb:Int) (bY:Int) (K:Bool→Prop) (v0:Int) (Zb:Int→Prop):Prop :=
 ((decide (v0<((d_ xd xb).length:Int)))=true→0≤v0∧v0.toNat<(d_ xd xb).length∧((((d_ xd xb).getD v0.toNat default) != xa)=true→Cv v0 Zb)∧((((d_ xd xb).getD v0.toNat default) != xa)=false→∃ k,zb xd xb bY K v0 Zb k (w6 (v0+1))))∧((decide (v0<((d_ xd xb).length:Int)))=false→K false)
def qp (xd:Dc) (xa:Int) (xb:Int) (bY:Int) (K:Bool→Prop):Nat→Int→Prop
 | 0,_=>False
 | k+1,v0=>Gr xd xa xb bY K v0 (qp xd xa xb bY K k)
def ahq (xd:Dc) (xa:Int) (xb:Int) (bY:Int) (K:Bool→Prop):Prop :=
 ((bY==62)=true→0≤xb∧xb.toNat<xd.1.length∧K ((xd.1.getD xb.toNat default).2.2.2.2.1==xa))∧((bY==62)=false→((bY==32)=true→0≤xb∧xb.toNat<xd.1.length∧∃ k,Gs xd xa K k (xd.1.getD xb.toNat default).2.2.2.2.1)∧((bY==32)=false→Dp xd xb∧∃ k,qp xd xa xb bY K k 0))
theorem aaV {g:ak} {u0:Option Addr} {j0:Nat} (xd:Dc) (xa:Int) (xb:Int) (bY:Int) (c0:bE g qj [.slice u0 xd.1.length j0] xd.1) (K:Bool→Prop)
  (hF:ahq xd xa xb bY K):az prog 25 #[.agg (aD xd u0 j0),iv xa,iv xb,.int .u8 bY] g [] (fun g' H' v=>∃ (r0:Bool),v=.bool r0∧H'=[]∧K r0):=by
 refine aP 81 func25 rfl fun w0=>?_;refine ae (ai (cO fun ll=>?_));refine av 1 [(1,iv xa),(2,iv xb),(3,.int .u8 bY),(4,pv ll 0)] kr (aa (aF (ae (ag 2 [1,2,3,4] [(14,.bool (bY==62))] ?_))));refine aa (aJ hF (fun hc2 hF=>?_) (fun hc2 hF=>?_))
 ·refine ae (aj 3 [.e 0] [1] [(16,.slice u0 xd.1.length j0),(17,iv xb)] ?_);obtain ⟨oo,pg,hF⟩:=hF;have ny:=aT (l:=xd.1) default pg;generalize hg4:(xd.1.getD xb.toNat default)=e4 at ny hF ⊢;refine ai (af.aX (e:=yN) rfl rfl underlying22 kr c0 oo ny rfl fun q3 o3 Rz _ UL hr3=>?_);obtain ⟨afN,afg,ar9,arY,rfl,UT,akF⟩:=oN hr3;refine aj 5 [.a 4 UL] [] [(8,.bool (e4.2.2.2.2.1==xa))] ?_;refine aa (Ok.ret (aC ?_));exact dE (e4.2.2.2.2.1==xa) hF
 refine Ok.k (Ok.t (aF (ae (ag 2 [1,2,3,4] [(24,.bool (bY==32))] ?_))));refine aa (aJ hF (fun jy hF=>?_) (fun jy hF=>?_))
 ·refine aF (ae (aj 3 [.e 0] [1,4] [(26,.slice u0 xd.1.length j0),(27,iv xb)] ?_));obtain ⟨PG,QY,hF⟩:=hF;have Jn:=aT (l:=xd.1) default QY;generalize V4:(xd.1.getD xb.toNat default)=e7 at Jn hF ⊢;refine ai (af.aX (e:=yN) rfl rfl underlying22 kr c0 PG Jn rfl fun q6 o6 cs6 _ ac6 QV=>?_);obtain ⟨ar8,arX,al4,alm,rfl,akA,ate⟩:=oN QV;refine aj 3 [.a 4 ac6] [1,4] [(9,iv e7.2.2.2.2.1)] ?_;refine aa (Ok.block ?_);obtain ⟨k,hF⟩:=hF;refine fQ (fun k a W=>∃ a0:ak,bf w0 g a0∧∃ (f0:Int),fC 81 [(1,iv xa),(4,pv ll 0),(9,iv f0)] a∧dm w0 [.blk ll (.cells (aD xd u0 j0) 24)] a0 W∧Gs xd xa K k f0) k ?_ ?_
  ·
   exact fun _ _ u v=>⟨g,bu w0 g,e7.2.2.2.2.1,fA u v hF⟩
  clear hF;rintro (_ | k19) _ _ ⟨a0,K0,f0,q⟩;exact (q.2.2:False).elim;refine jn (fun hF=>?_) _ _ q;replace c0:=c0.mono K0.1;refine aF (ae (ag 2 [1,4,9] [(32,.bool (decide (f0≥0)))] ?_));refine aa (aJ hF (fun hc8 hF=>?_) (fun hc8 hF=>?_))
  ·refine Ok.k (Ok.t (aF (Ok.block (ae (ag 3 [1,4,9] [(41,.bool (f0==xa))] ?_)))));refine aa (aJ hF (fun mq hF=>?_) (fun mq hF=>?_))
   ·refine ae (av 1 [(8,.bool true)] kr (aa (Ok.ret (aV (aC (aC (aV (aC (aC ?_)))))))));exact jg (.bool true) K0 ⟨_,rfl,rfl,hF⟩
   refine Ok.k (bG (Ok.t (aR (aj 3 [.e 0] [1,4] [(34,.slice u0 xd.1.length j0),(35,iv f0)] ?_))));obtain ⟨Nu,DK,hF⟩:=hF;have J1:=aT (l:=xd.1) default DK;generalize Ip:(xd.1.getD f0.toNat default)=e11 at J1 hF ⊢;refine ai (af.aX (e:=yN) rfl rfl underlying22 kr c0 Nu J1 rfl fun q10 o10 Rb _ H0 j1=>?_);obtain ⟨Qa,P8,A0,I0,rfl,Iw,M0⟩:=oN j1;refine aj 3 [.a 4 H0] [1,4] [(9,iv e11.2.2.2.2.1)] ?_;refine bV (Ok.t ?_);subst Ip;exact fun _ _ u v=>⟨k19,nl,a0,K0,(xd.1.getD f0.toNat default).2.2.2.2.1,fA u v hF⟩
  refine fw (ay (ay (aM (Ok.t (ae (av 1 [(8,.bool false)] kr (aa (Ok.ret (aC ?_)))))))));exact jg (.bool false) K0 ⟨_,rfl,rfl,hF⟩
 refine Ok.k (Ok.t (ae (aj 2 [.e 0] [1,2,3] [(42,.agg (aD xd u0 j0)),(43,iv xb)] ?_)));obtain ⟨f1,hF⟩:=hF;refine ai (bS (Zy xd xb c0 f1) fun g13 _ _ g1 apR=>?_);obtain ⟨Z0,V0,Y0,rfl,Q0,rfl⟩:=apR;refine ag 1 [1,2,3] [(10,.slice Z0 (d_ xd xb).length V0)] ?_;refine aa (aF (ae (ag 1 [1,2,3,10] [(11,iv 0)] ?_)));refine aa (Ok.block ?_);obtain ⟨k,hF⟩:=hF;refine fQ (fun k a W=>∃ X0:ak,bf w0 g13 X0∧∃ (v0:Int),fC 81 [(1,iv xa),(2,iv xb),(3,.int .u8 bY),(10,.slice Z0 (d_ xd xb).length V0),(11,iv v0)] a∧dm w0 [.own (.slice Z0 (d_ xd xb).length V0) 3 1 (d_ xd xb).length Y0] X0 W∧qp xd xa xb bY K k v0) k ?_ ?_
 ·
  exact fun _ _ u v=>⟨g13,bu w0 g13,0,fA u v hF⟩
 clear hF;rintro (_ | k46) _ _ ⟨X0,B0,v0,q⟩;exact (q.2.2:False).elim;refine jn (fun hF=>?_) _ _ q;replace Q0:=Q0.mono B0.1;refine aF (ae (ag 4 [1,2,3,10,11] [(48,.bool (decide (v0<((d_ xd xb).length:Int))))] ?_));refine aa (aJ hF (fun Nb hF=>?_) (fun Nb hF=>?_))
 ·refine Ok.k (Ok.t (iK X0 [(1,iv xa),(2,iv xb),(3,.int .u8 bY),(10,.slice Z0 (d_ xd xb).length V0),(11,iv v0)] [.own (.slice Z0 (d_ xd xb).length V0) 3 1 (d_ xd xb).length Y0] (Cv v0 (qp xd xa xb bY K k46)) ?_ (fun arx v1 hF=>?_)))
  ·
   refine Ok.block (aF (ae (ag 2 [1,2,3,10,11] [(51,.slice Z0 (d_ xd xb).length V0),(52,iv v0)] ?_)));obtain ⟨Ns,h116,hF⟩:=hF;have W1:=aT (l:=d_ xd xb) default h116;generalize X1:((d_ xd xb).getD v0.toNat default)=e16 at W1 hF ⊢;refine ai (af.fZ (e:=.int .i64) 0 rfl Q0 rfl rfl underlying46 kr kr Ns W1 rfl fun arP _ acr m1=>?_);obtain rfl:=acr;replace m1:∀ j v,([iv e16]:List Value)[j]? = some v→Y0[v0.toNat * 1+j]? = some v:=m1;refine ai (af.s (v:=iv e16) (dP 0 0 rfl m1 rfl underlying3 rfl kr) rfl rfl (ag 2 [1,2,3,10,11] [(56,.bool (e16 != xa))] ?_));refine aa (dW hF rfl (fun n1=>?_) (fun n1=>?_))
   ·replace hF:=hF.1 n1;refine fw (ay (aM (Ok.t ?_)));subst X1;exact fg hF
   replace hF:=hF.2 n1;refine Ok.k (Ok.t (ae (ag 3 [1,2,3,10,11] [(12,iv (w6 (v0+1)))] ?_)));refine aa (Ok.block ?_);obtain ⟨k,hF⟩:=hF;refine fQ (fun k a W=>∃ R0:ak,bf w0 X0 R0∧∃ (q0:Int),fC 81 [(1,iv xa),(2,iv xb),(3,.int .u8 bY),(10,.slice Z0 (d_ xd xb).length V0),(11,iv v0),(12,iv q0)] a∧dm w0 [.own (.slice Z0 (d_ xd xb).length V0) 3 1 (d_ xd xb).length Y0] R0 W∧zb xd xb bY K v0 (qp xd xa xb bY K k46) k q0) k ?_ ?_
   ·
    exact fun _ _ u v=>⟨X0,bu w0 X0,w6 (v0+1),fA u v hF⟩
   clear hF;rintro (_ | k64) _ _ ⟨R0,C0,q0,q⟩;exact (q.2.2:False).elim;refine jn (fun hF=>?_) _ _ q;replace Q0:=Q0.mono C0.1;refine aF (ae (ag 4 [1,2,3,10,11,12] [(62,.bool (decide (q0<((d_ xd xb).length:Int))))] ?_));refine aa (dW hF rfl (fun o1=>?_) (fun o1=>?_))
   ·replace hF:=hF.1 o1;refine Ok.k (Ok.t (aF (Ok.block (ae (ag 2 [1,2,3,10,11,12] [(65,.slice Z0 (d_ xd xb).length V0),(66,iv q0)] ?_)))));obtain ⟨aek,aea,hF⟩:=hF;have S1:=aT (l:=d_ xd xb) default aea;generalize aj1:((d_ xd xb).getD q0.toNat default)=e20 at S1 hF ⊢;refine ai (af.fZ (e:=.int .i64) 0 rfl Q0 rfl rfl underlying46 kr kr aek S1 rfl fun arM _ acn t1=>?_);obtain rfl:=acn;replace t1:∀ j v,([iv e20]:List Value)[j]? = some v→Y0[q0.toNat * 1+j]? = some v:=t1;refine ai (af.s (v:=iv e20) (dP 0 0 rfl t1 rfl underlying3 rfl kr) rfl rfl (ag 3 [1,2,3,10,11,12] [(71,.bool (e20==xb))] ?_));let A:=(bY==126)||(q0==w6 (v0+1));let B:=(e20==xb)&&A;refine Ok.w 9 [(1,iv xa),(2,iv xb),(3,.int .u8 bY),(10,.slice Z0 (d_ xd xb).length V0),(11,iv v0),(12,iv q0),(80,.bool B)] (fun B1=>?_) ?_
    ·refine Ok.a 71 (e20==xb) rfl (fun a1=>?_) (fun a1=>?_)
     ·skip;refine ag 3 [1,2,3,10,11,12] [(71,.bool true),(74,.bool (bY==126))] ?_;refine Ok.w 5 [(1,iv xa),(2,iv xb),(3,.int .u8 bY),(10,.slice Z0 (d_ xd xb).length V0),(11,iv v0),(12,iv q0),(71,.bool true),(79,.bool A)] (fun C1=>?_) ?_
      ·refine Ok.a 74 (bY==126) rfl (fun i1=>?_) (fun i1=>?_)
       ·skip;refine ag 5 [1,2,3,10,11,12,71] [(79,.bool true)] ?_;refine aB 79 A (cK i1) (ag 0 [1,2,3,10,11,12,71] [(79,.bool A)] ?_);exact C1
       skip;refine ag 5 [1,2,3,10,11,12,71] [(79,.bool (q0==w6 (v0+1)))] ?_;refine aB 79 A (bN i1) (ag 0 [1,2,3,10,11,12,71] [(79,.bool A)] ?_);exact C1
      refine ag 1 [1,2,3,10,11,12] [(80,.bool A)] ?_;refine aB 80 B (bn a1) (ag 0 [1,2,3,10,11,12] [(80,.bool B)] ?_);exact B1
     skip;refine ag 9 [1,2,3,10,11,12] [(80,.bool false)] ?_;refine aB 80 B (bZ a1) (ag 0 [1,2,3,10,11,12] [(80,.bool B)] ?_);exact B1
    refine aa (dW hF rfl (fun Z1=>?_) (fun Z1=>?_))
    ·replace hF:=hF.1 Z1;refine ae (av 1 [(8,.bool true)] kr (aa (Ok.ret (aV (aC (aC (aV (aV (aC (aC (aV (aC ?_))))))))))));exact jg (.bool true) ((g1.trans B0).trans C0) ⟨_,rfl,rfl,hF⟩
    replace hF:=hF.2 Z1;refine Ok.k (bG (Ok.t (aR (ag 3 [1,2,3,10,11] [(12,iv (w6 (q0+1)))] ?_))));refine bV (Ok.t ?_);subst aj1;exact fun _ _ u v=>⟨k64,nl,R0,C0,w6 (q0+1),fA u v hF⟩
   replace hF:=hF.2 o1;refine fw (ay (ay (aM (bG (Ok.t ?_)))));subst X1;exact fun _ _ u v=>⟨R0,C0,fA u v hF⟩
  refine aR (ag 3 [1,2,3,10] [(11,iv (w6 (v0+1)))] ?_);refine bV (Ok.t ?_);exact fun _ _ u v=>⟨k46,nl,arx,B0.trans v1,w6 (v0+1),fA u v hF⟩
 refine fw (ay (ay (aM (Ok.t (ae (av 1 [(8,.bool false)] kr (aa (Ok.ret ?_))))))));exact jg (.bool false) (g1.trans B0) ⟨_,rfl,rfl,hF⟩
def aaW (d:DC) (a b _:Int):Prop:=gN d∧nu d b
theorem ahp (d:DC) (a b j:Int) (hp:aaW d a b j):ahq d a b j (fun r=>r=nJ d a b j):=by
 obtain ⟨hG,hb⟩:=hp
 have hr:nJ d a b j=if (j==62)=true then par d.1 b.toNat==a else if (j==32)=true then VX d.1 42 (par d.1 b.toNat) a else sb1 j a b (d_ d b):=rfl
 generalize nJ d a b j=r at hr;have hE:=Od hG hb;have hkl:=yx hG hb;refine ⟨fun q1=>⟨hb.1,o_ hb,?_⟩,fun q1=>⟨fun q2=>⟨hb.1,o_ hb,?_⟩,fun q2=>⟨⟨hG,hb⟩,?_⟩⟩⟩
 ·rw [aU q1] at hr; exact hr.symm
 ·rw [aG q1,aU q2] at hr
  have loop:∀ (k:Nat) (p:Int),Ends d.1 k p→r=VX d.1 k p a→Gs d a (fun x=>x=r) (k+1) p:=by
   intro k
   induction k with
   | zero =>
    intro p h h2;have h:p<0:=h;exact ⟨fun hc=>od hc,fun _=>h2.symm⟩
   | succ k ih =>
    intro p h h2;rw [VX] at h2;refine ⟨fun hc=>?_,fun hc=>?_⟩
    ·rw [aU hc] at h2;have hc:=df hc;have hi:=IX h hc;refine ⟨fun h3=>?_,fun h3=>⟨hc,om,ih _ ?_ ?_⟩⟩
     ·rw [aU h3] at h2; exact h2.symm
     ·rcases h with h | h
      ·omega
      exact h.2
     rw [aG h3] at h2; exact h2
    rw [aG hc] at h2; exact h2.symm
  exact ⟨_,loop 42 _ hE hr⟩
 rw [aG q1,aG q2] at hr;generalize hL:d_ d b=l at hr hkl
 have outer:∀ (k i:Nat),i+k=l.length→r=sb1 j a b (l.drop i)→qp d a b j (fun x=>x=r) (k+1) (i:Int):=by
  intro k
  induction k with
  | zero =>
   intro i h h2;rw [qp];unfold Gr;rw [hL];rw [eD om,sb1] at h2;exact ⟨fun hc=>od hc,fun _=>h2.symm⟩
  | succ k ih =>
   intro i h h2;rw [bX (l:=l) default om,sb1] at h2
   have next:r=sb1 j a b (l.drop (i+1))→Cv (i:Int) (qp d a b j (fun x=>x=r) (k+1)):=fun h3=>by
    unfold Cv;rw [fU om];exact ih (i+1) om h3
   rw [qp];unfold Gr;rw [hL];refine ⟨fun _=>?_,fun hc=>oe hc⟩;rw [dR];refine ⟨om,om,fun hc=>?_,fun hc=>?_⟩
   ·have hc:(l.getD i default==a)=false:=by
     rw [dX]; rw [bne_iff_ne] at hc; exact hc
    rw [hc,iw,aQ dc] at h2
    exact next h2
   have hc:(l.getD i default==a)=true:=by
    rw [bne_eq_false_iff_eq] at hc; rw [dJ]; exact hc
   rw [hc,fJ] at h2
   have inner:∀ (k2 m:Nat),m+k2=l.length→i+1≤m→(r=if VY j b (l.drop m) (decide (m=i+1))=true then true else sb1 j a b (l.drop (i+1)))→zb d b j (fun x=>x=r) (i:Int) (qp d a b j (fun x=>x=r) (k+1)) (k2+1) (m:Int):=by
    intro k2
    induction k2 with
    | zero =>
     intro m h3 h4 h5;rw [eD om,VY,aQ dc] at h5;rw [zb];unfold Gq;rw [hL];exact ⟨fun hc=>od hc,fun _=>next h5⟩
    | succ k2 ih2 =>
     intro m h3 h4 h5;rw [bX (l:=l) default om,VY] at h5;rw [zb];unfold Gq;rw [hL];refine ⟨fun _=>?_,fun hc=>oe hc⟩;rw [dR,fU (x:=(i:Int)+1) om]
     have e:((m:Int)==(i:Int)+1)=decide (m=i+1):=by
      rw [uX,dJ,dI]; omega
     rw [e];refine ⟨om,om,fun hh=>?_,fun hh=>?_⟩
     ·rw [aU hh,bB rfl] at h5; exact h5.symm
     rw [aG hh] at h5;rw [fU om];refine ih2 (m+1) om om ?_;rw [l6 (show ¬ m+1=i+1 by omega)];exact h5
   rw [fU om,show (i:Int)+1=((i+1:Nat):Int) by omega];exact ⟨_,inner (l.length - (i+1)) (i+1) om (fP _) (by rw [gu rfl]; exact h2)⟩
 exact ⟨_,outer l.length 0 om hr⟩
theorem aho {g:ak} {u0:Option Addr} {j0:Nat} (xd:Dc) (xa:Int) (xb:Int) (bY:Int) (c0:bE g qj [.slice u0 xd.1.length j0] xd.1)  (hp:aaW xd xa xb bY):bC prog 25 #[.agg (aD xd u0 j0),iv xa,iv xb,.int .u8 bY] g (.bool (nJ xd xa xb bY)) :=
 (aaV xd xa xb bY c0 _ (ahp xd xa xb bY hp)).gv
end
end Go.Proofs.YtdapgmigogpdcaaGreatDoor.Ma
