/- match: fits, path, Some. -/
import Derived.Test.YtdapgmigogpdcaaGreatDoorMac
import Derived.Test.YtdapgmigogpdcaaGreatDoorSrt
namespace Go.Proofs.YtdapgmigogpdcaaGreatDoor.Ma
open _root_.Go.Proofs.Tryz Go Go.iQ Go.RowKit Go.Shelf Go.Proofs Go.Sort Ti Do Se Sr tF
set_option linter.unusedVariables false
set_option linter.unusedSimpArgs false
set_option maxHeartbeats 4000000
set_option maxRecDepth 100000
noncomputable section
def preB (v w:Bs):Bool:=decide ((v.length:Int)≥(w.length:Int))&&(v.take w.length==w)
def QZ (v w:Bs):Bool:=decide ((v.length:Int)≥(w.length:Int))&&(v.drop (v.length - w.length)==w)
def uW (v:Bs) (x:Lb):Bool :=
 if (x.2.2.1==61)=true then v==x.2.2.2.1 else if (x.2.2.1==124)=true then (v==x.2.2.2.1||preB v (x.2.2.2.1++[45])) else if (x.2.2.2.1==[])=true then false
 else if (x.2.2.1==126)=true then Dv v x.2.2.2.1 else if (x.2.2.1==94)=true then preB v x.2.2.2.1 else if (x.2.2.1==36)=true then QZ v x.2.2.2.1 else decide (mV v x.2.2.2.1≥0)
def GR (x:ND) (t:Ts):Bool:=(jI x.2.2.1 t.lab.2.1).2&&(t.lab.2.2.1==0||uW (jI x.2.2.1 t.lab.2.1).1 t.lab)
def Wt (x:ND) (t:Ts):Prop:=mQ x.2.2.1∧t.lab.2.2.2.1.length≤2000000
def qZ (xx:Nd) (xt:TS):Bool :=
 ((decide (((cB xx xt.lab.2.1).1.length:Int)≥((xt.lab.2.2.2.1++([45]:Bs)).length:Int)))&&(((cB xx xt.lab.2.1).1.take (Int.toNat ((xt.lab.2.2.2.1++([45]:Bs)).length:Int)))==(xt.lab.2.2.2.1++([45]:Bs))))
def vV (xx:Nd) (xt:TS):Bool :=
 ((decide (((cB xx xt.lab.2.1).1.length:Int)≥(xt.lab.2.2.2.1.length:Int)))&&(((cB xx xt.lab.2.1).1.take (Int.toNat (xt.lab.2.2.2.1.length:Int)))==xt.lab.2.2.2.1))
def uh (xx:Nd) (xt:TS):Bool :=
 ((decide (((cB xx xt.lab.2.1).1.length:Int)≥(xt.lab.2.2.2.1.length:Int)))&&(((cB xx xt.lab.2.1).1.drop (Int.toNat (w6 (((cB xx xt.lab.2.1).1.length:Int) - (xt.lab.2.2.2.1.length:Int)))))==xt.lab.2.2.2.1))
def CX (xx:Nd) (xt:TS) (K:Bool→Prop):Prop :=
 K (((cB xx xt.lab.2.1).1==xt.lab.2.2.2.1)||qZ xx xt)
def rV (xx:Nd) (xt:TS) (K:Bool→Prop):Prop :=
 CX xx xt K
def rU (xx:Nd) (xt:TS) (K:Bool→Prop):Prop :=
 K (vV xx xt)
def rT (xx:Nd) (xt:TS) (K:Bool→Prop):Prop :=
 K (uh xx xt)
def JM (xx:Nd) (xt:TS) (K:Bool→Prop):Prop :=
 (((!(cB xx xt.lab.2.1).2)||(xt.lab.2.2.1==0))=true→K (cB xx xt.lab.2.1).2)∧(((!(cB xx xt.lab.2.1).2)||(xt.lab.2.2.1==0))=false→((xt.lab.2.2.1==61)=true→K ((cB xx xt.lab.2.1).1==xt.lab.2.2.2.1))∧((xt.lab.2.2.1==61)=false→((xt.lab.2.2.1==124)=true→(((cB xx xt.lab.2.1).1==xt.lab.2.2.2.1)=true→CX xx xt K)∧(((cB xx xt.lab.2.1).1==xt.lab.2.2.2.1)=false→xt.lab.2.2.2.1.length+([45]:Bs).length≤maxLen∧((decide (((cB xx xt.lab.2.1).1.length:Int)≥((xt.lab.2.2.2.1++([45]:Bs)).length:Int)))=true→(0:Int)≤0∧0≤((xt.lab.2.2.2.1++([45]:Bs)).length:Int)∧((xt.lab.2.2.2.1++([45]:Bs)).length:Int)≤((cB xx xt.lab.2.1).1.length:Int)∧rV xx xt K)∧((decide (((cB xx xt.lab.2.1).1.length:Int)≥((xt.lab.2.2.2.1++([45]:Bs)).length:Int)))=false→rV xx xt K)))∧((xt.lab.2.2.1==124)=false→((xt.lab.2.2.2.1==([]:Bs))=true→K false)∧((xt.lab.2.2.2.1==([]:Bs))=false→((xt.lab.2.2.1==126)=true→WQ (cB xx xt.lab.2.1).1 xt.lab.2.2.2.1∧K (Dv (cB xx xt.lab.2.1).1 xt.lab.2.2.2.1))∧((xt.lab.2.2.1==126)=false→((xt.lab.2.2.1==94)=true→((decide (((cB xx xt.lab.2.1).1.length:Int)≥(xt.lab.2.2.2.1.length:Int)))=true→(0:Int)≤0∧0≤(xt.lab.2.2.2.1.length:Int)∧(xt.lab.2.2.2.1.length:Int)≤((cB xx xt.lab.2.1).1.length:Int)∧rU xx xt K)∧((decide (((cB xx xt.lab.2.1).1.length:Int)≥(xt.lab.2.2.2.1.length:Int)))=false→rU xx xt K))∧((xt.lab.2.2.1==94)=false→((xt.lab.2.2.1==36)=true→((decide (((cB xx xt.lab.2.1).1.length:Int)≥(xt.lab.2.2.2.1.length:Int)))=true→0≤(w6 (((cB xx xt.lab.2.1).1.length:Int) - (xt.lab.2.2.2.1.length:Int)))∧((w6 (((cB xx xt.lab.2.1).1.length:Int) - (xt.lab.2.2.2.1.length:Int))):Int)≤((cB xx xt.lab.2.1).1.length:Int)∧((cB xx xt.lab.2.1).1.length:Int)≤((cB xx xt.lab.2.1).1.length:Int)∧rT xx xt K)∧((decide (((cB xx xt.lab.2.1).1.length:Int)≥(xt.lab.2.2.2.1.length:Int)))=false→rT xx xt K))∧((xt.lab.2.2.1==36)=false→WM (cB xx xt.lab.2.1).1 xt.lab.2.2.2.1∧K (decide (mV (cB xx xt.lab.2.1).1 xt.lab.2.2.2.1≥0)))))))))
def ahk (xx:Nd) (xt:TS) (K:Bool→Prop):Prop :=
 PX xx xt.lab.2.1∧((!(cB xx xt.lab.2.1).2)=true→JM xx xt K)∧((!(cB xx xt.lab.2.1).2)=false→JM xx xt K)
theorem aaO {g:ak} {I1:Option Addr} {z2:Nat} {v2:Option Addr} {k2:Nat} (xx:Nd) {b1:Option Addr} {c1:Nat} (xt:TS) (j2:bG g (.slice yA) [.slice I1 xx.2.2.1.length z2] xx.2.2.1) (x2:bG g (.slice (.int .i64)) [.slice v2 xx.2.2.2.2.2.length k2] xx.2.2.2.2.2) (z1:bG g (.slice yP) [.slice b1 xt.kids.length c1] xt.kids) (hG0:bP g 0) (K:Bool→Prop)
  (hF:ahk xx xt K):az prog 114 #[.agg (aN xx I1 z2 v2 k2),.agg (aL xt.lab b1 xt.kids.length c1)] g [] (fun g' H' v=>∃ (r0:Bool),v=.bool r0∧H'=[]∧K r0):=by
 refine aP 78 func114 rfl fun w0=>?_
 refine ae (ai (di fun eO=>?_))
 refine ai (di fun dK=>?_)
 refine av 1 [(2,pv eO 0),(3,pv dK 0)] kr (aa (aH (aS ?_)))
 obtain ⟨hp3,hF⟩:=hF
 refine aj 9 [.e 1,.e 0,.k (Sd xx xt.lab.2.1 j2 x2 hp3)] [3] [(5,sv ((cB xx xt.lab.2.1).1)),(6,.bool (cB xx xt.lab.2.1).2)] ?_
 refine aa (aH (Ok.block (gD [(3,pv dK 0),(5,sv ((cB xx xt.lab.2.1).1)),(6,.bool (cB xx xt.lab.2.1).2),(14,.bool ((!(cB xx xt.lab.2.1).2)||(xt.lab.2.2.1==0)))] [.blk dK (.cells (aL xt.lab b1 xt.kids.length c1) 60)] (JM xx xt K) ?_ (fun hF=>?_))))
 ·
  refine aS (ag 3 [3,5,6] [(17,.bool (!(cB xx xt.lab.2.1).2))] ?_)
  refine bN 17 hF (fun M2 hF=>?_) (fun M2 hF=>?_)
  ·refine ag 5 [3,5,6] [(14,.bool true)] ?_
   refine aa (aB 14 ((!(cB xx xt.lab.2.1).2)||(xt.lab.2.2.1==0)) (df M2) ?_)
   exact fz hF
  refine aj 5 [.e 0] [3,5,6] [(14,.bool (xt.lab.2.2.1==0))] ?_
  refine aa (aB 14 ((!(cB xx xt.lab.2.1).2)||(xt.lab.2.2.1==0)) (bR M2) ?_)
  exact fz hF
 refine aM hF (fun hc4 hF=>?_) (fun hc4 hF=>?_)
 ·refine ae (av 2 [(4,.bool (cB xx xt.lab.2.1).2)] kr (aa (Ok.ret (aU (aC ?_)))))
  exact dD ((cB xx xt.lab.2.1).2) hF
 refine ae (aj 4 [.e 0] [3,5] [(23,.bool (xt.lab.2.2.1==61))] ?_)
 refine aa (aM hF (fun j4 hF=>?_) (fun j4 hF=>?_))
 ·refine ae (aj 5 [.e 0] [] [(4,.bool ((cB xx xt.lab.2.1).1==xt.lab.2.2.2.1))] ?_)
  refine aa (Ok.ret (aU (aC ?_)))
  exact dD ((cB xx xt.lab.2.1).1==xt.lab.2.2.2.1) hF
 refine ae (aj 4 [.e 0] [3,5] [(31,.bool (xt.lab.2.2.1==124))] ?_)
 refine aa (aM hF (fun hc6 hF=>?_) (fun hc6 hF=>?_))
 ·refine gD [(4,.bool (((cB xx xt.lab.2.1).1==xt.lab.2.2.2.1)||qZ xx xt))] [] (CX xx xt K) ?_ (fun hF=>?_)
  ·
   refine aS (aj 5 [.e 0] [3,5] [(39,.bool ((cB xx xt.lab.2.1).1==xt.lab.2.2.2.1))] ?_)
   refine bN 39 hF (fun iC hF=>?_) (fun iC hF=>?_)
   ·refine av 7 [(4,.bool true)] kr (aa (aB 4 (((cB xx xt.lab.2.1).1==xt.lab.2.2.2.1)||qZ xx xt) (df iC) ?_))
    exact fz hF
   refine av 2 [(39,.bool false),(40,sv ((cB xx xt.lab.2.1).1)),(41,pv dK 3)] kr (dW (af.s (v:=sv xt.lab.2.2.2.1) (aR 0 rfl rfl underlying9 rfl kr) rfl rfl ?_))
   obtain ⟨hv,hF⟩:=hF
   refine dW (af.s (v:=sv (xt.lab.2.2.2.1++([45]:Bs))) (dx rfl rfl hv) rfl rfl (dW (bM (args:=#[sv ((cB xx xt.lab.2.1).1),sv (xt.lab.2.2.2.1++([45]:Bs))]) 8 [(0,sv ((cB xx xt.lab.2.1).1)),(1,sv (xt.lab.2.2.2.1++([45]:Bs)))] gT func97 rfl rfl rfl rfl (ae (av 1 [(0,sv ((cB xx xt.lab.2.1).1)),(1,sv (xt.lab.2.2.2.1++([45]:Bs)))] kr (aa (ae (av 2 [(5,sv ((cB xx xt.lab.2.1).1)),(6,sv (xt.lab.2.2.2.1++([45]:Bs)))] kr (ai (bM (args:=#[sv ((cB xx xt.lab.2.1).1),sv (xt.lab.2.2.2.1++([45]:Bs))]) 18 [(0,sv ((cB xx xt.lab.2.1).1)),(1,sv (xt.lab.2.2.2.1++([45]:Bs)))] gT func142 rfl rfl rfl rfl (ae (av 1 [(0,sv ((cB xx xt.lab.2.1).1)),(1,sv (xt.lab.2.2.2.1++([45]:Bs)))] kr (aa (gD [(4,.bool (qZ xx xt))] [] (rV xx xt K) ?_ (fun hF=>?_)))))))))))))))
   ·
    refine aS (ag 6 [0,1] [(10,.bool (decide (((cB xx xt.lab.2.1).1.length:Int)≥((xt.lab.2.2.2.1++([45]:Bs)).length:Int))))] ?_)
    refine bN 10 hF (fun hc8 hF=>?_) (fun hc8 hF=>?_)
    ·refine ag 3 [1] [(10,.bool true),(11,sv ((cB xx xt.lab.2.1).1)),(13,iv ((xt.lab.2.2.2.1++([45]:Bs)).length:Int))] ?_
     obtain ⟨Eh,h19,P_,hF⟩:=hF
     refine dW (af.s (bZ (s:=(cB xx xt.lab.2.1).1) (l:=0) (h:=((xt.lab.2.2.2.1++([45]:Bs)).length:Int)) kr underlying9 (.inr ⟨rfl,rfl⟩) (.inl ⟨_,_,rfl,rfl⟩) Eh h19 P_ ((cB xx xt.lab.2.1).1.take (Int.toNat ((xt.lab.2.2.2.1++([45]:Bs)).length:Int))) (by simp)) rfl rfl (aj 4 [] [] [(4,.bool (((cB xx xt.lab.2.1).1.take (Int.toNat ((xt.lab.2.2.2.1++([45]:Bs)).length:Int)))==(xt.lab.2.2.2.1++([45]:Bs))))] ?_))
     refine aa (aB 4 (qZ xx xt) (aZ hc8) ?_)
     exact fz hF
    refine av 8 [(4,.bool false)] kr (aa (aB 4 (qZ xx xt) (bW hc8) ?_))
    exact fz hF
   refine Ok.ret (bu (vs:=[.bool (qZ xx xt)]) (.inl rfl) rfl (.cons (.tmp rfl) .nil) rfl (av 1 [(4,.bool (qZ xx xt))] kr (aa (Ok.ret (bu (vs:=[.bool (qZ xx xt)]) (.inl rfl) rfl (.cons (.tmp rfl) .nil) rfl (av 2 [(4,.bool (qZ xx xt))] kr (aa (aB 4 (((cB xx xt.lab.2.1).1==xt.lab.2.2.2.1)||qZ xx xt) (bR iC) ?_))))))))
   exact fz hF
  refine Ok.ret (aU (aC ?_))
  exact dD (((cB xx xt.lab.2.1).1==xt.lab.2.2.2.1)||qZ xx xt) hF
 refine ae (aj 4 [.e 0] [3,5] [(46,.bool (xt.lab.2.2.2.1==([]:Bs)))] ?_)
 refine aa (aM hF (fun s2 hF=>?_) (fun s2 hF=>?_))
 ·refine ae (av 1 [(4,.bool false)] kr (aa (Ok.ret (aU (aC ?_)))))
  exact dD false hF
 refine ae (aj 4 [.e 0] [3,5] [(50,.bool (xt.lab.2.2.1==126))] ?_)
 refine aa (aM hF (fun abR hF=>?_) (fun abR hF=>?_))
 ·refine aH (aS ?_)
  obtain ⟨N2,hF⟩:=hF
  refine aj 5 [.e 0,.k (ahX (cB xx xt.lab.2.1).1 xt.lab.2.2.2.1 N2)] [] [(4,.bool (Dv (cB xx xt.lab.2.1).1 xt.lab.2.2.2.1))] ?_
  refine aa (Ok.ret (aU (aC ?_)))
  exact dD (Dv (cB xx xt.lab.2.1).1 xt.lab.2.2.2.1) hF
 refine ae (aj 4 [.e 0] [3,5] [(58,.bool (xt.lab.2.2.1==94))] ?_)
 refine aa (aM hF (fun O2 hF=>?_) (fun O2 hF=>?_))
 ·refine ae (av 2 [(62,sv ((cB xx xt.lab.2.1).1)),(63,pv dK 3)] kr (ai (af.s (v:=sv xt.lab.2.2.2.1) (aR 0 rfl rfl underlying9 rfl kr) rfl rfl (ai (bM (args:=#[sv ((cB xx xt.lab.2.1).1),sv xt.lab.2.2.2.1]) 8 [(0,sv ((cB xx xt.lab.2.1).1)),(1,sv xt.lab.2.2.2.1)] gT func97 rfl rfl rfl rfl (ae (av 1 [(0,sv ((cB xx xt.lab.2.1).1)),(1,sv xt.lab.2.2.2.1)] kr (aa (ae (av 2 [(5,sv ((cB xx xt.lab.2.1).1)),(6,sv xt.lab.2.2.2.1)] kr (ai (bM (args:=#[sv ((cB xx xt.lab.2.1).1),sv xt.lab.2.2.2.1]) 18 [(0,sv ((cB xx xt.lab.2.1).1)),(1,sv xt.lab.2.2.2.1)] gT func142 rfl rfl rfl rfl (ae (av 1 [(0,sv ((cB xx xt.lab.2.1).1)),(1,sv xt.lab.2.2.2.1)] kr (aa (gD [(4,.bool (vV xx xt))] [] (rU xx xt K) ?_ (fun hF=>?_)))))))))))))))))
  ·
   refine aS (ag 6 [0,1] [(10,.bool (decide (((cB xx xt.lab.2.1).1.length:Int)≥(xt.lab.2.2.2.1.length:Int))))] ?_)
   refine bN 10 hF (fun P2 hF=>?_) (fun P2 hF=>?_)
   ·refine ag 3 [1] [(10,.bool true),(11,sv ((cB xx xt.lab.2.1).1)),(13,iv (xt.lab.2.2.2.1.length:Int))] ?_
    obtain ⟨Ie,ME,Mx,hF⟩:=hF
    refine dW (af.s (bZ (s:=(cB xx xt.lab.2.1).1) (l:=0) (h:=(xt.lab.2.2.2.1.length:Int)) kr underlying9 (.inr ⟨rfl,rfl⟩) (.inl ⟨_,_,rfl,rfl⟩) Ie ME Mx ((cB xx xt.lab.2.1).1.take (Int.toNat (xt.lab.2.2.2.1.length:Int))) (by simp)) rfl rfl (aj 4 [] [] [(4,.bool (((cB xx xt.lab.2.1).1.take (Int.toNat (xt.lab.2.2.2.1.length:Int)))==xt.lab.2.2.2.1))] ?_))
    refine aa (aB 4 (vV xx xt) (aZ P2) ?_)
    exact fz hF
   refine av 8 [(4,.bool false)] kr (aa (aB 4 (vV xx xt) (bW P2) ?_))
   exact fz hF
  refine Ok.ret (bu (vs:=[.bool (vV xx xt)]) (.inl rfl) rfl (.cons (.tmp rfl) .nil) rfl (av 1 [(4,.bool (vV xx xt))] kr (aa (Ok.ret (bu (vs:=[.bool (vV xx xt)]) (.inl rfl) rfl (.cons (.tmp rfl) .nil) rfl (av 1 [(4,.bool (vV xx xt))] kr (aa (Ok.ret (aU (aC ?_))))))))))
  exact dD (vV xx xt) hF
 refine ae (aj 4 [.e 0] [3,5] [(66,.bool (xt.lab.2.2.1==36))] ?_)
 refine aa (aM hF (fun R2 hF=>?_) (fun R2 hF=>?_))
 ·refine ae (av 2 [(70,sv ((cB xx xt.lab.2.1).1)),(71,pv dK 3)] kr (ai (af.s (v:=sv xt.lab.2.2.2.1) (aR 0 rfl rfl underlying9 rfl kr) rfl rfl (ai (bM (args:=#[sv ((cB xx xt.lab.2.1).1),sv xt.lab.2.2.2.1]) 8 [(0,sv ((cB xx xt.lab.2.1).1)),(1,sv xt.lab.2.2.2.1)] gT func154 rfl rfl rfl rfl (ae (av 1 [(0,sv ((cB xx xt.lab.2.1).1)),(1,sv xt.lab.2.2.2.1)] kr (aa (ae (av 2 [(5,sv ((cB xx xt.lab.2.1).1)),(6,sv xt.lab.2.2.2.1)] kr (ai (bM (args:=#[sv ((cB xx xt.lab.2.1).1),sv xt.lab.2.2.2.1]) 21 [(0,sv ((cB xx xt.lab.2.1).1)),(1,sv xt.lab.2.2.2.1)] gT func172 rfl rfl rfl rfl (ae (av 1 [(0,sv ((cB xx xt.lab.2.1).1)),(1,sv xt.lab.2.2.2.1)] kr (aa (gD [(4,.bool (uh xx xt))] [] (rT xx xt K) ?_ (fun hF=>?_)))))))))))))))))
  ·
   refine aS (ag 6 [0,1] [(10,.bool (decide (((cB xx xt.lab.2.1).1.length:Int)≥(xt.lab.2.2.2.1.length:Int))))] ?_)
   refine bN 10 hF (fun T2 hF=>?_) (fun T2 hF=>?_)
   ·refine ag 6 [1] [(10,.bool true),(11,sv ((cB xx xt.lab.2.1).1)),(16,iv (w6 (((cB xx xt.lab.2.1).1.length:Int) - (xt.lab.2.2.2.1.length:Int))))] ?_
    obtain ⟨MJ,MC,acV,hF⟩:=hF
    refine dW (af.s (bZ (s:=(cB xx xt.lab.2.1).1) (l:=(w6 (((cB xx xt.lab.2.1).1.length:Int) - (xt.lab.2.2.2.1.length:Int)))) (h:=((cB xx xt.lab.2.1).1.length:Int)) kr underlying9 (.inl ⟨_,_,rfl,rfl⟩) (.inr ⟨rfl,rfl⟩) MJ MC acV ((cB xx xt.lab.2.1).1.drop (Int.toNat (w6 (((cB xx xt.lab.2.1).1.length:Int) - (xt.lab.2.2.2.1.length:Int))))) (by rw [show ((cB xx xt.lab.2.1).1.length:Int).toNat=(cB xx xt.lab.2.1).1.length from eB _,iV])) rfl rfl (aj 4 [] [] [(4,.bool (((cB xx xt.lab.2.1).1.drop (Int.toNat (w6 (((cB xx xt.lab.2.1).1.length:Int) - (xt.lab.2.2.2.1.length:Int)))))==xt.lab.2.2.2.1))] ?_))
    refine aa (aB 4 (uh xx xt) (aZ T2) ?_)
    exact fz hF
   refine av 11 [(4,.bool false)] kr (aa (aB 4 (uh xx xt) (bW T2) ?_))
   exact fz hF
  refine Ok.ret (bu (vs:=[.bool (uh xx xt)]) (.inl rfl) rfl (.cons (.tmp rfl) .nil) rfl (av 1 [(4,.bool (uh xx xt))] kr (aa (Ok.ret (bu (vs:=[.bool (uh xx xt)]) (.inl rfl) rfl (.cons (.tmp rfl) .nil) rfl (av 1 [(4,.bool (uh xx xt))] kr (aa (Ok.ret (aU (aC ?_))))))))))
  exact dD (uh xx xt) hF
 refine Ok.k (bJ (Ok.t (ae (av 2 [(74,sv ((cB xx xt.lab.2.1).1)),(75,pv dK 3)] kr (ai (af.s (v:=sv xt.lab.2.2.2.1) (aR 0 rfl rfl underlying9 rfl kr) rfl rfl (ai (bM (args:=#[sv ((cB xx xt.lab.2.1).1),sv xt.lab.2.2.2.1]) 9 [(0,sv ((cB xx xt.lab.2.1).1)),(1,sv xt.lab.2.2.2.1)] gT func155 rfl rfl rfl rfl (ae (av 1 [(0,sv ((cB xx xt.lab.2.1).1)),(1,sv xt.lab.2.2.2.1)] kr (aa (aH (aS ?_)))))))))))))
 obtain ⟨Y2,hF⟩:=hF
 refine aj 5 [.k (YN (cB xx xt.lab.2.1).1 xt.lab.2.2.2.1 hG0 Y2)] [] [(4,.bool (decide (mV (cB xx xt.lab.2.1).1 xt.lab.2.2.2.1≥0)))] ?_
 refine aa (Ok.ret (bu (vs:=[.bool (decide (mV (cB xx xt.lab.2.1).1 xt.lab.2.2.2.1≥0))]) (.inl rfl) rfl (.cons (.tmp rfl) .nil) rfl (av 1 [(4,.bool (decide (mV (cB xx xt.lab.2.1).1 xt.lab.2.2.2.1≥0)))] kr (aa (Ok.ret ?_)))))
 exact dD (decide (mV (cB xx xt.lab.2.1).1 xt.lab.2.2.2.1≥0)) hF
theorem BD {l:List (Bs×Bs)} (h:∀ a ∈ l,a.2.length≤400) (n:Bs):(jI l n).1.length≤400:=by
 induction l with
 | nil=>exact ik _
 | cons a l ih =>
  rw [jI]
  split
  ·exact h a (cO ..)
  exact ih fun b hb=>h b (dS _ hb)
theorem ahj (x:ND) (t:Ts) (hp:Wt x t):ahk x t (fun a=>a=GR x t):=by
 obtain ⟨hA,hv⟩:=hp
 have hl:=BD hA.2 t.lab.2.1
 have j7:JM x t (fun a=>a=GR x t):=by
  have e1:qZ x t=preB (jI x.2.2.1 t.lab.2.1).1 (t.lab.2.2.2.1++[45]):=rfl
  have e2:vV x t=preB (jI x.2.2.1 t.lab.2.1).1 t.lab.2.2.2.1:=rfl
  have e3:decide (((jI x.2.2.1 t.lab.2.1).1.length:Int)≥(t.lab.2.2.2.1.length:Int))=true→uh x t=QZ (jI x.2.2.1 t.lab.2.1).1 t.lab.2.2.2.1:=fun h=>by
   have h:=dn h
   show (decide _&&(((jI x.2.2.1 t.lab.2.1).1.drop (Int.toNat (w6 (((jI x.2.2.1 t.lab.2.1).1.length:Int) - (t.lab.2.2.2.1.length:Int)))))==t.lab.2.2.2.1))=_
   rw [gp om,show Int.toNat (((jI x.2.2.1 t.lab.2.1).1.length:Int) - (t.lab.2.2.2.1.length:Int))=(jI x.2.2.1 t.lab.2.1).1.length - t.lab.2.2.2.1.length by omega]
   rfl
  have e4:decide (((jI x.2.2.1 t.lab.2.1).1.length:Int)≥(t.lab.2.2.2.1.length:Int))=false→uh x t=QZ (jI x.2.2.1 t.lab.2.1).1 t.lab.2.2.2.1:=fun h=>by
   show (decide _&&_)=(decide _&&_)
   rw [show decide (((cB x t.lab.2.1).1.length:Int)≥(t.lab.2.2.2.1.length:Int))=false from h,h]; rfl
  have hS:GR x t=((jI x.2.2.1 t.lab.2.1).2&&(t.lab.2.2.1==0||uW (jI x.2.2.1 t.lab.2.1).1 t.lab)):=rfl
  generalize hr:GR x t=r at hS
  unfold JM CX rV rU rT CX
  rw [e1,e2,show cB x t.lab.2.1=jI x.2.2.1 t.lab.2.1 from rfl]
  generalize jI x.2.2.1 t.lab.2.1=a at hl e3 e4 hS
  have go:∀ {b:Bool},(!a.2||t.lab.2.2.1==0)=false→b=uW a.1 t.lab→b=r:=fun h hb=>by
   rw [dC,eT] at h
   rw [hS,h.1,h.2,hb]; rfl
  have hlen:((t.lab.2.2.2.1++([45]:Bs)).length:Int)=(t.lab.2.2.2.1.length:Int)+1:=by rw [bC]; rfl
  refine ⟨fun h0=>?_,fun h0=>⟨fun h1=>go h0 ?_,fun h1=>⟨fun h2=>⟨fun h=>go h0 ?_,fun h=>⟨?_,fun hh=>⟨ll _,om,dn hh,go h0 ?_⟩,fun hh=>go h0 ?_⟩⟩,fun h2=>⟨fun h3=>go h0 ?_,fun h3=>⟨fun h4=>⟨?_,go h0 ?_⟩,fun h4=>⟨fun h5=>⟨fun hh=>⟨ll _,om,dn hh,go h0 ?_⟩,fun hh=>go h0 ?_⟩,fun h5=>⟨fun h6=>⟨fun hh=>⟨?_,?_,ll _,go h0 ?_⟩,fun hh=>go h0 ?_⟩,fun h6=>⟨?_,go h0 ?_⟩⟩⟩⟩⟩⟩⟩⟩
  ·rw [hS]
   cases ha:a.2 with
   | false=>rfl
   | true =>
    rw [ha,Bool.not_true,lq] at h0
    rw [h0]; rfl
  ·unfold uW; rw [aT h1]
  ·unfold uW; rw [aF h1,aT h2]
  ·show t.lab.2.2.2.1.length+1≤maxLen
   have:(2000001:Nat)≤maxLen:=by decide
   omega
  ·unfold uW; rw [aF h1,aT h2]
  ·unfold uW; rw [aF h1,aT h2]
  ·unfold uW; rw [aF h1,aF h2,aT h3]
  ·show a.1.length≤1000; omega
  ·unfold uW; rw [aF h1,aF h2,aF h3,aT h4]
  ·unfold uW; rw [aF h1,aF h2,aF h3,aF h4,aT h5]
  ·unfold uW; rw [aF h1,aF h2,aF h3,aF h4,aT h5]
  ·have:=dn hh; rw [gp om]; omega
  ·have:=dn hh; rw [gp om]; omega
  ·unfold uW; rw [aF h1,aF h2,aF h3,aF h4,aF h5,aT h6]; exact e3 hh
  ·unfold uW; rw [aF h1,aF h2,aF h3,aF h4,aF h5,aT h6]; exact e4 hh
  ·show a.1.length<4294967281; omega
  unfold uW; rw [aF h1,aF h2,aF h3,aF h4,aF h5,aF h6]
 exact ⟨by show x.2.2.1.length≤1000; have:=hA.1; omega,fun _=>j7,fun _=>j7⟩
theorem ahi {g:ak} {I1:Option Addr} {z2:Nat} {v2:Option Addr} {k2:Nat} (xx:Nd) {b1:Option Addr} {c1:Nat} (xt:TS) (j2:bG g (.slice yA) [.slice I1 xx.2.2.1.length z2] xx.2.2.1) (x2:bG g (.slice (.int .i64)) [.slice v2 xx.2.2.2.2.2.length k2] xx.2.2.2.2.2) (z1:bG g (.slice yP) [.slice b1 xt.kids.length c1] xt.kids) (hG0:bP g 0)  (hp:Wt xx xt):bE prog 114 #[.agg (aN xx I1 z2 v2 k2),.agg (aL xt.lab b1 xt.kids.length c1)] g (.bool (GR xx xt)) :=
 (aaO xx xt j2 x2 z1 hG0 _ (ahj xx xt hp)).gv
def nX (a b i:Int):Bool:=if a=0 then i==b else ((i - b).tmod a==0)&&decide (0≤(i - b).tdiv a)
def LA (a b i:Int):Bool:=decide (a < -1000)||(decide (b < -1000)||(decide (1000<a)||(decide (1000<b)||(decide (i<1)||decide (200<i)))))
def kz (a b i:Int):Bool:=if LA a b i=true then false else nX a b i
def CW (xa:Int) (xb:Int) (xi:Int):Bool :=
 (((Int.tmod (w6 (xi - xb)) xa)==0)&&(decide ((w6 (Int.tdiv (w6 (xi - xb)) xa))≥0)))
def GL (xa:Int) (xb:Int) (xi:Int) (K:Bool→Prop):Prop :=
 K (CW xa xb xi)
def aaL (xa:Int) (xb:Int) (xi:Int) (K:Bool→Prop):Prop :=
 (((((decide ((if xb<xa then xb else xa)<(-1000)))||(decide ((if xa<xb then xb else xa)>1000)))||decide (xi<1))||decide (xi>200))=true→K false)∧(((((decide ((if xb<xa then xb else xa)<(-1000)))||(decide ((if xa<xb then xb else xa)>1000)))||decide (xi<1))||decide (xi>200))=false→((xa==0)=true→K (xi==xb))∧((xa==0)=false→xa≠0∧(((Int.tmod (w6 (xi - xb)) xa)==0)=true→xa≠0∧GL xa xb xi K)∧(((Int.tmod (w6 (xi - xb)) xa)==0)=false→GL xa xb xi K)))
abbrev GM (xa xb:Int):Bool:=(decide ((if xb<xa then xb else xa)<(-1000)))||(decide ((if xa<xb then xb else xa)>1000))
theorem aaK {g:ak} (xa:Int) (xb:Int) (xi:Int) (K:Bool→Prop)
  (hF:aaL xa xb xi K):az prog 117 #[iv xa,iv xb,iv xi] g [] (fun g' H' v=>∃ (r0:Bool),v=.bool r0∧H'=[]∧K r0):=by
 refine aP 44 func117 rfl fun w0=>?_
 let D:=decide ((if xb<xa then xb else xa)<(-1000))
 refine ae (av 1 [(0,iv xa),(1,iv xb),(2,iv xi)] kr (aa (aH (ae (ag 5 [0,1,2] [(11,.bool D)] ?_)))))
 refine Ok.w 5 [(0,iv xa),(1,iv xb),(2,iv xi),(16,.bool (GM xa xb))] (fun AA=>?_) ?_
 ·refine Ok.a 11 D rfl (fun hc2=>?_) (fun hc2=>?_)
  ·skip
   refine ag 5 [0,1,2] [(16,.bool true)] ?_
   refine aB 16 (GM xa xb) (df hc2) (ag 0 [0,1,2] [(16,.bool (GM xa xb))] ?_)
   exact AA
  skip
  refine ag 5 [0,1,2] [(16,.bool (decide ((if xa<xb then xb else xa)>1000)))] ?_
  refine aB 16 (GM xa xb) (bR hc2) (ag 0 [0,1,2] [(16,.bool (GM xa xb))] ?_)
  exact AA
 refine ag 1 [0,1,2] [(17,.bool (GM xa xb))] ?_
 let A:=GM xa xb||decide (xi<1)
 refine Ok.w 3 [(0,iv xa),(1,iv xb),(2,iv xi),(20,.bool A)] (fun HY=>?_) ?_
 ·refine Ok.a 17 (GM xa xb) rfl (fun hc4=>?_) (fun hc4=>?_)
  ·skip
   refine ag 3 [0,1,2] [(20,.bool true)] ?_
   refine aB 20 A (df hc4) (ag 0 [0,1,2] [(20,.bool A)] ?_)
   exact HY
  skip
  refine ag 3 [0,1,2] [(20,.bool (decide (xi<1)))] ?_
  refine aB 20 A (bR hc4) (ag 0 [0,1,2] [(20,.bool A)] ?_)
  exact HY
 refine ag 1 [0,1,2] [(21,.bool A)] ?_
 let B:=A||decide (xi>200)
 refine Ok.w 3 [(0,iv xa),(1,iv xb),(2,iv xi),(24,.bool B)] (fun Bl=>?_) ?_
 ·refine Ok.a 21 A rfl (fun hc6=>?_) (fun hc6=>?_)
  ·skip
   refine ag 3 [0,1,2] [(24,.bool true)] ?_
   refine aB 24 B (df hc6) (ag 0 [0,1,2] [(24,.bool B)] ?_)
   exact Bl
  skip
  refine ag 3 [0,1,2] [(24,.bool (decide (xi>200)))] ?_
  refine aB 24 B (bR hc6) (ag 0 [0,1,2] [(24,.bool B)] ?_)
  exact Bl
 refine aa (aM hF (fun iC hF=>?_) (fun iC hF=>?_))
 ·refine ae (av 1 [(6,.bool false)] kr (aa (Ok.ret (aC ?_))))
  exact dD false hF
 refine Ok.k (Ok.t (aH (ae (ag 2 [0,1,2] [(26,.bool (xa==0))] ?_))))
 refine aa (aM hF (fun hc8 hF=>?_) (fun hc8 hF=>?_))
 ·refine ae (av 4 [(6,.bool (xi==xb))] kr (aa (Ok.ret (aC ?_))))
  exact dD (xi==xb) hF
 refine Ok.k (Ok.t (gD [(6,.bool (CW xa xb xi))] [] (GL xa xb xi K) ?_ (fun hF=>?_)))
 ·
  let C:=w6 (xi - xb)
  refine aS (ag 4 [0,1,2] [(32,iv C),(33,iv xa)] ?_)
  obtain ⟨hv,hF⟩:=hF
  refine ai (af.s (v:=iv (Int.tmod C xa)) (Yields.rem rfl rfl hv) rfl rfl (ag 2 [0,1,2] [(36,.bool ((Int.tmod C xa)==0))] ?_))
  refine bN 36 hF (fun mW hF=>?_) (fun mW hF=>?_)
  ·refine av 4 [(36,.bool true),(39,iv C),(40,iv xa)] kr ?_
   obtain ⟨hv,hF⟩:=hF
   refine dW (af.s (v:=iv (w6 (Int.tdiv C xa))) (Yields.quo rfl rfl hv) rfl rfl (av 3 [(6,.bool (decide ((w6 (Int.tdiv C xa))≥0)))] kr (aa (aB 6 (CW xa xb xi) (aZ mW) ?_))))
   exact fz hF
  refine av 8 [(6,.bool false)] kr (aa (aB 6 (CW xa xb xi) (bW mW) ?_))
  exact fz hF
 refine Ok.ret ?_
 exact dD (CW xa xb xi) hF
theorem NI (x a:Int) (n:Nat) (h : -n≤x) (h':x≤n) : -(n:Int)≤x.tdiv a∧x.tdiv a≤n:=by
 have h1:=Int.natAbs_tdiv x a
 have h2:=Nat.div_le_self x.natAbs a.natAbs
 have h3:x.natAbs.div a.natAbs=x.natAbs / a.natAbs:=rfl
 omega
theorem ahb (a b i:Int):aaL a b i (fun r=>r=kz a b i):=by
 have e:(((decide ((if b<a then b else a)<(-1000))||decide ((if a<b then b else a)>1000))||decide (i<1))||decide (i>200))=LA a b i:=by
  unfold LA
  rw [uR]
  simp only [dU,dH]
  omega
 unfold aaL GL
 rw [e]
 refine ⟨fun h=>by unfold kz; rw [aT h],fun h=>?_⟩
 have hb : -1000≤a∧a≤1000∧-1000≤b∧b≤1000∧1≤i∧i≤200:=by
  unfold LA at h
  simp only [dC,eQ] at h
  omega
 have hn:kz a b i=nX a b i:=by unfold kz; rw [aF h]
 rw [hn]
 refine ⟨fun h0=>?_,fun h0=>?_⟩
 ·unfold nX; rw [bn (eq_of_beq h0)]
 have h0:¬ a=0:=by simpa using h0
 have hv:CW a b i=nX a b i:=by
  unfold CW nX
  rw [aQ h0]
  obtain ⟨d1,d2⟩:=NI (i - b) a 2000 om om
  rw [gp (x:=i - b) om,gp (x:=(i - b).tdiv a) om]
 rw [hv]
 exact ⟨h0,fun _=>⟨h0,rfl⟩,fun _=>rfl⟩
theorem aha {g:ak} (xa:Int) (xb:Int) (xi:Int)  : bE prog 117 #[iv xa,iv xb,iv xi] g (.bool (kz xa xb xi)) :=
 (aaK xa xb xi _ (ahb xa xb xi)).gv
def lF (d:DC) (n:Int):ND:=d.1.getD n.toNat default
def wId:Bs:=[105,100]
def oO:Bs:=[99,108,97,115,115]
def rch (nx:Int→Int→List Int):List (Int→Bool)→List Int→Int→Bool
 | [],_,_=>false
 | f::fs,js,n=>f n&&(fs.isEmpty||(nx n (js.headD 0)).any fun m=>rch nx fs js.tail m)
def Ka (d:DC) (x:Lb) (n:Int) (v:Bool):Bool :=
 if (x.1==2)=true then (lF d n).2.1==x.2.1
 else if (x.1==3)=true then (jI (lF d n).2.2.1 wId).2&&((jI (lF d n).2.2.1 wId).1==x.2.1)
 else if (x.1==4)=true then Dv (jI (lF d n).2.2.1 oO).1 x.2.1
 else if (x.1==5)=true then GR (lF d n) (.mk x [])
 else if (x.1==6)=true then par d.1 n.toNat==0
 else if (x.1==7)=true then LQ d n
 else if (x.1==8)=true then (decide (0≤(cu d n).2)&&kz x.2.2.2.2.1 x.2.2.2.2.2 ((cu d n).2+1))
 else if (x.1==9)=true then (decide (0≤(cu d n).2)&&kz x.2.2.2.2.1 x.2.2.2.2.2 (((cu d n).1.length:Int) - (cu d n).2))
 else if (x.1==10)=true then !v else if (x.1==11)=true then v else true
mutual
def Ev (d:DC):Ts→Int→Bool
 | .mk x l,n=>Ka d x n (yJ d l n)
def yJ (d:DC):List Ph→Int→Bool
 | [],_=>false
 | (p,js)::l,n=>rch (mnxS d) (AL d p).reverse js.reverse n||yJ d l n
def AL (d:DC):List (List Ts)→List (Int→Bool)
 | []=>[]
 | s::p=>(fun n=>eP d n&&all1 d s n)::AL d p
def all1 (d:DC):List Ts→Int→Bool
 | [],_=>true
 | t::s,n=>Ev d t n&&all1 d s n
end
def Aw (d:DC) (n:Int) (t:Ts):Bool:=Ev d t n
def GJ (d:DC) (n:Int) (p:Ph):Bool:=rch (mnxS d) (AL d p.1).reverse p.2.reverse n
def ug (d:DC) (n:Int) (l:List Ph):Bool:=yJ d l n
def PW (N:Nat) (d:DC) (n:Int) (t:Ts):Prop:=bT t<N∧bT t≤1048600∧gP d∧nC d n∧eP d n=true∧∃ i,xZ t i=true
def alY (p:Ph):Prop:=p.1≠[]∧p.2.length+1=p.1.length∧t_ p.1=true∧∀ z ∈ p.2,zn z=true
def PV (N:Nat) (d:DC) (n:Int) (p:Ph):Prop:=w2 p.1+1<N∧w2 p.1≤1048600∧gP d∧nC d n∧alY p
def JH (N:Nat) (d:DC) (n:Int) (l:List Ph):Prop:=b3 l<N∧b3 l≤1048600∧gP d∧nC d n∧tZ l=true
theorem Gn {t:Ts}:∀ {s:List Ts} {i:Int},ok1 s i=true→t ∈ s→∃ i,xZ t i=true
 | [],_,_,h=>by cases h
 | u::s,i,h,ht=>by
  rw [ok1,aG] at h
  rcases eG.1 ht with rfl | ht
  ·exact ⟨_,h.1⟩
  exact Gn h.2 ht
theorem rQ {s:List Ts}:∀ {p:List (List Ts)},t_ p=true→s ∈ p→∃ i,ok1 s i=true
 | [],_,h=>by cases h
 | u::p,h,hs=>by
  rw [t_,aG,aG] at h
  rcases eG.1 hs with rfl | hs
  ·exact ⟨_,h.1⟩
  exact rQ h.2.2 hs
def okQ (q:Ph):Prop:=q.1≠[]∧q.2.length+1=q.1.length∧∀ z ∈ q.2,zn z=true
theorem kV {q:Ph}:∀ {l:List Ph},tZ l=true→q ∈ l→okQ q∧t_ q.1=true
 | [],_,h=>by cases h
 | u::l,h,hq=>by
  rw [mE,aG,aG,aG] at h
  rcases eG.1 hq with rfl | hq
  ·obtain ⟨h1,h2,h3,h4⟩:=h
   rw [dA,dC] at h1
   have h5:¬ ((q.1.length:Int)=0):=by simpa using h1.1
   have h6:(q.2.length:Int)=(q.1.length:Int) - 1:=by simpa using h1.2
   exact ⟨⟨fun e=>h5 (by rw [e]; rfl),om,fun z hz=>(l5.1 h3) z hz⟩,h2⟩
  exact kV h.2.2.2 hq
theorem Qq (d:DC) (q:Ph) (l:List Ph) (n:Int):yJ d (q::l) n=(rch (mnxS d) (AL d q.1).reverse q.2.reverse n||yJ d l n):=by obtain ⟨p,js⟩:=q; rw [yJ]
theorem Js {nx:Int→Int→List Int} {f:Int→Bool} {fs:List (Int→Bool)} {j:Int} {js:List Int} (h:fs≠[]) (n:Int):rch nx (f::fs) (j::js) n=(f n&&(nx n j).any fun m=>rch nx fs js m):=by
 rw [rch]
 cases fs with
 | nil=>exact absurd rfl h
 | cons g fs=>rfl
theorem Bn (d:DC):∀ p:List (List Ts),AL d p=p.map fun s n=>eP d n&&all1 d s n
 | []=>rfl
 | s::p=>by rw [AL,Bn d p]; rfl
theorem aaX {d:DC} (hG:gP d) {n m:Int} (hn:nC d n) (h:m ∈ dY d n):nC d m:=by
 unfold dY at h
 split at h
 ·rw [il] at h; subst h; exact hn
 rename_i hc
 have hc:¬ par d.1 n.toNat<0:=by simpa using hc
 have hp:=CL hG hn hc
 have:=hG.kids.kid _ (by have:=hp.1; have:=hp.2; omega) m (pG.1 h).1
 exact ⟨this.1,this.2.1⟩
theorem UR {d:DC} {m:Int}:∀ {k:Nat} {p:Int},Ends d.1 k p→m ∈ ancN d.1 k p→nC d m
 | 0,p,_,h=>by cases h
 | k+1,p,hE,h=>by
  rw [ancN] at h
  split at h
  ·rename_i hc
   have hc:=dn hc
   rcases eG.1 h with h | h
   ·subst h; exact ⟨om,Im hE om⟩
   rcases hE with hE | hE
   ·omega
   exact UR hE.2 h
  cases h
theorem Np {d:DC} (hG:gP d) {n:Int} (hn:nC d n):Ends d.1 42 (par d.1 n.toNat):=by
 have h2:=OQ hG (n:=n.toNat) (by have:=hn.1; have:=hn.2; omega)
 rw [show ((n.toNat:Nat):Int)=n by have:=hn.1; omega] at h2
 exact (OP (k:=40) h2 hn.1).mono om
theorem LK {d:DC} (hG:gP d) {n j m:Int} (hn:nC d n) (h:m ∈ mnxS d n j):nC d m:=by
 unfold mnxS at h
 have hu:∀ {m},m ∈ upS d n→nC d m:=fun h=>UR (Np hG hn) h
 have hk:∀ {m},m ∈ ((cu d n).1.take (cu d n).2.toNat).reverse→nC d m:=fun h=>aaX hG hn (D9 (List.mem_reverse.1 h))
 split at h
 ·split at h
  ·exact hu (D9 h)
  exact hu h
 split at h
 ·exact hk (D9 h)
 exact hk h
def nN (l:List Int):List Int:=Lib.compact l
def aeb (l:List Int):Prop:=l.length≤1000000000000
theorem aea {d:Array Int} {j:Nat} (h:Lib.keeps d j=true):j=0∨d[j]!≠d[j - 1]!:=dn h
theorem XT (l:List Int) (x:Int):x ∈ nN l↔x ∈ l:=by
 unfold nN Lib.compact Lib.compactUpTo
 rw [List.mem_map]
 constructor
 ·rintro ⟨j,hj,rfl⟩
  have hj:=w_.1 (pG.1 hj).1
  have e:l.toArray[j]! = l[j]:=by simp [hj]
  rw [e]; exact zN hj
 intro h
 obtain ⟨i,hi,e⟩:=List.getElem_of_mem h
 have key:∀ i (hi:i<l.length),l[i]=x→∃ a,a ∈ (List.range l.length).filter (Lib.keeps l.toArray)∧l.toArray[a]! = x:=by
  intro i
  induction i with
  | zero =>
   intro hi e
   exact ⟨0,pG.2 ⟨w_.2 hi,by simp [Lib.keeps]⟩,by simp [hi,e]⟩
  | succ i ih =>
   intro hi e
   by_cases hk:l.toArray[i+1]! = l.toArray[i]!
   ·refine ih om ?_
    have e2:l.toArray[i]! = l[i]:=by simp [show i<l.length by omega]
    have e1:l.toArray[i+1]! = l[i+1]:=by simp [hi]
    rw [← e2,← hk,e1,e]
   exact ⟨i+1,pG.2 ⟨w_.2 hi,by simp only [Lib.keeps,dH]; exact .inr hk⟩,by simp [hi,e]⟩
 exact key i hi e
theorem Ql {l:List Int} (h:l.Pairwise fun x y=>x≤y):(nN l).Nodup:=by
 unfold nN Lib.compact Lib.compactUpTo
 have hg:=List.pairwise_iff_getElem.1 h
 have h1:((List.range l.length).filter (Lib.keeps l.toArray)).Pairwise fun a b=>l.toArray[a]!≠l.toArray[b]!:=by
  refine List.Pairwise.imp_of_mem ?_ ((List.pairwise_lt_range (n:=l.length)).filter _)
  intro a b ha hb hab
  have ha':=w_.1 (pG.1 ha).1
  have hb':=w_.1 (pG.1 hb).1
  have hk:=aea (pG.1 hb).2
  have e:∀ j (hj:j<l.length),l.toArray[j]! = l[j]:=fun j hj=>by simp [hj]
  rcases hk with hk | hk
  ·omega
  rw [e b hb',e (b - 1) om] at hk
  rw [e a ha',e b hb']
  have q1:=hg (b - 1) b om hb' om
  by_cases anW:a=b - 1
  ·subst anW; exact fun h=>hk h.symm
  have q2:=hg a (b - 1) ha' om om
  intro he; apply hk; omega
 exact List.pairwise_map.2 h1
theorem Rb (l:List Int):(nS l).Pairwise fun x y=>x≤y:=by
 have:=List.pairwise_mergeSort (le:=fun x y:Int=>decide (x≤y)) (fun a b c h1 h2=>by simp only [dH] at *; omega) (fun a b=>by simp only [dU,dH]; omega) l
 exact this.imp fun h=>dn h
theorem Vw (l:List Int) (x:Int):x ∈ nS l↔x ∈ l:=List.mem_mergeSort
theorem ajG {g:ak} {a:Option Addr} {c:Nat} {xs:List Value} (l:List Int) (hL:aW g (.int .i64) xs l) (hp:aeb l):az prog 75 #[.slice a l.length c] g [.own (.slice a l.length c) 3 1 l.length xs] (fun g' H' v=>∃ (Ap:Option Addr) (Ao:Nat) (f3:List Value),v=.slice Ap (nN l).length Ao∧aW g' (.int .i64) f3 (nN l)∧H'=[.own (.slice Ap (nN l).length Ao) 3 1 (nN l).length f3]):=by
 intro W hW
 unfold aeb at hp
 have hx:=kM hL
 subst hx
 have hle:(nN l).length≤l.length:=by
  unfold nN Lib.compact Lib.compactUpTo
  rw [iW]
  exact gV (zM ..) (by rw [List.length_range]; exact fK _)
 have hok:W.ownsRow 0 3 1 (.slice a l.length c) l.length (l.map (Value.int .i64)):=hW.fT _ (il.2 rfl)
 rcases hok.2 with ⟨hv,hn⟩ | ⟨q,cap,cur,hv,hb,hh,h1,h2,h3,h4⟩
 ·obtain rfl:l=[]:=iL hn
  refine (Tryz.slices_Compact_int_empty a c W).mono fun e W' ⟨he,hw⟩=>?_
  subst hw
  exact ⟨_,g,_,he,⟨a,c,[],rfl,rfl,rfl⟩,bq _ _,hW⟩
 obtain ⟨rfl,rfl⟩:a=some ⟨q,0,none⟩∧c=cap:=by cases hv; exact ⟨rfl,rfl⟩
 have hH:=holds_of_block_i hh (by rw [Nat.mul_one] at h4; exact h4)
 refine (Tryz.slices_Compact_int q 0 c l W hH om h1).mono fun e W' ⟨he,n,hw⟩=>?_
 have hlt:(nN l++List.replicate (l.length - (nN l).length) 0).length=l.length:=by rw [bC,List.length_replicate]; omega
 have hw:W'=grow (putRow encZ (Sort.ahead W n) q 0 (nN l++List.replicate (l.length - (nN l).length) 0).toArray) #[]:=by rw [hw,grow_empty]; rfl
 subst hw
 have ho:=ownsRow_sorted_i (w:=W) (base:=0) (n:=n) (os:=#[]) hlt (ik _) hh h1 h2 h3
 refine ⟨_,g,_,he,⟨some ⟨q,0,none⟩,c,(nN l).map (Value.int .i64),rfl,Cx _,rfl⟩,bq _ _,?_⟩
 have:=hW.grown (i:=0) rfl (grownBy_sorted_i (n:=n) (os:=#[]) (nN l++List.replicate (l.length - (nN l).length) 0).toArray) (e':=.own (.slice (some ⟨q,0,none⟩) (nN l).length c) 3 1 (nN l).length ((nN l).map (Value.int .i64))) (by
  refine ⟨by simp,?_⟩
  rcases ho.2 with ⟨hv,-⟩ | ⟨q',cap',cur',hv',hb',hh',h1',h2',h3',h4'⟩
  ·cases hv
  obtain ⟨rfl,rfl⟩:q=q'∧c=cap':=by cases hv'; exact ⟨rfl,rfl⟩
  refine .inr ⟨q,c,cur',rfl,hb',hh',om,h2',h3',?_⟩
  rw [Nat.mul_one] at h4' ⊢
  have:=ay (List.take (nN l).length) h4'
  rw [w9,og hle,uN,List.take_left' (by rw [iW])] at this
  exact this) (.inl rfl)
 exact this
def Ov (N:Nat):Prop:=∀ (g:ak) {n0:Option Addr} {o0:Nat} (xd:Dc) (xn:Int) {b1:Option Addr} {c1:Nat} (xt:TS) (s0:bG g qh [.slice n0 xd.1.length o0] xd.1) (z1:bG g (.slice yP) [.slice b1 xt.kids.length c1] xt.kids) (hG0:bP g 0)  (hp:PW N xd xn xt),bE prog 72 #[.agg (aD xd n0 o0),iv xn,.agg (aL xt.lab b1 xt.kids.length c1)] g (.bool (Aw xd xn xt))
def Oq (N:Nat):Prop:=∀ (g:ak) {n0:Option Addr} {o0:Nat} (xd:Dc) (xn:Int) {R0:Option Addr} {T0:Nat} {L0:Option Addr} {A0:Nat} (xp:PH) (s0:bG g qh [.slice n0 xd.1.length o0] xd.1) (t0:bG g (.slice (.slice yS)) [.slice R0 xp.1.length T0] xp.1) (a0:bG g (.slice yb) [.slice L0 xp.2.length A0] xp.2) (hG0:bP g 0)  (hp:PV N xd xn xp),bE prog 42 #[.agg (aD xd n0 o0),iv xn,.agg #[.slice R0 xp.1.length T0,.slice L0 xp.2.length A0]] g (.bool (GJ xd xn xp))
def Oo (N:Nat):Prop:=∀ (g:ak) {n0:Option Addr} {o0:Nat} (xd:Dc) (xn:Int) {v1:Option Addr} {k1:Nat} (xl:List PH) (s0:bG g qh [.slice n0 xd.1.length o0] xd.1) (B1:bG g (.slice yP) [.slice v1 xl.length k1] xl) (hG0:bP g 0)  (hp:JH N xd xn xl),bE prog 23 #[.agg (aD xd n0 o0),iv xn,.slice v1 xl.length k1] g (.bool (ug xd xn xl))
def JL (xt:TS) (e4:Nd):Bool :=
 ((cB e4 ([105,100]:Bs)).2&&((cB e4 ([105,100]:Bs)).1==xt.lab.2.1))
def sV (xd:Dc) (xn:Int) (xt:TS):Int :=
 (if (xt.lab.1==9)=true then w6 ((w6 (((cu xd xn).1.length:Int) - 1)) - (cu xd xn).2) else (cu xd xn).2)
def LP (xt:TS) (K:Bool→Prop) (e4:Nd):Prop :=
 K (JL xt e4)
def GN (xd:Dc) (xn:Int) (xt:TS) (K:Bool→Prop):Prop :=
 K (kz xt.lab.2.2.2.2.1 xt.lab.2.2.2.2.2 (w6 ((sV xd xn xt)+1)))
def GQ (N:Nat) (xd:Dc) (xn:Int) (xt:TS) (K:Bool→Prop):Prop :=
 (((xt.lab.1==8)||(xt.lab.1==9))=true→Dm xd xn∧((xt.lab.1==9)=true→GN xd xn xt K)∧((xt.lab.1==9)=false→GN xd xn xt K))∧(((xt.lab.1==8)||(xt.lab.1==9))=false→((xt.lab.1==10)=true→JH N xd xn xt.kids∧K (!(ug xd xn xt.kids)))∧((xt.lab.1==10)=false→((xt.lab.1==11)=true→JH N xd xn xt.kids∧K (ug xd xn xt.kids))∧((xt.lab.1==11)=false→K true)))
def ahh (N:Nat) (xd:Dc) (xn:Int) (xt:TS) (K:Bool→Prop):Prop :=
 0≤xn∧xn.toNat<xd.1.length∧((xt.lab.1==2)=true→K ((xd.1.getD xn.toNat default).2.1==xt.lab.2.1))∧((xt.lab.1==2)=false→((xt.lab.1==3)=true→PX (xd.1.getD xn.toNat default) ([105,100]:Bs)∧((cB (xd.1.getD xn.toNat default) ([105,100]:Bs)).2=true→LP xt K (xd.1.getD xn.toNat default))∧((cB (xd.1.getD xn.toNat default) ([105,100]:Bs)).2=false→LP xt K (xd.1.getD xn.toNat default)))∧((xt.lab.1==3)=false→((xt.lab.1==4)=true→PX (xd.1.getD xn.toNat default) ([99,108,97,115,115]:Bs)∧WQ (cB (xd.1.getD xn.toNat default) ([99,108,97,115,115]:Bs)).1 xt.lab.2.1∧K (Dv (cB (xd.1.getD xn.toNat default) ([99,108,97,115,115]:Bs)).1 xt.lab.2.1))∧((xt.lab.1==4)=false→((xt.lab.1==5)=true→Wt (xd.1.getD xn.toNat default) xt∧K (GR (xd.1.getD xn.toNat default) xt))∧((xt.lab.1==5)=false→((xt.lab.1==6)=true→K ((xd.1.getD xn.toNat default).2.2.2.2.1==0))∧((xt.lab.1==6)=false→((xt.lab.1==7)=true→Dm xd xn∧K (LQ xd xn))∧((xt.lab.1==7)=false→((xt.lab.1==8)=true→GQ N xd xn xt K)∧((xt.lab.1==8)=false→GQ N xd xn xt K)))))))
theorem aaN {g:ak} (N:Nat) (Hr:Ov N) (L_:Oq N) (Hq:Oo N) {n0:Option Addr} {o0:Nat} (xd:Dc) (xn:Int) {b1:Option Addr} {c1:Nat} (xt:TS) (s0:bG g qh [.slice n0 xd.1.length o0] xd.1) (z1:bG g (.slice yP) [.slice b1 xt.kids.length c1] xt.kids) (hG0:bP g 0) (K:Bool→Prop)
  (hF:ahh N xd xn xt K):az prog 72 #[.agg (aD xd n0 o0),iv xn,.agg (aL xt.lab b1 xt.kids.length c1)] g [] (fun g' H' v=>∃ (r0:Bool),v=.bool r0∧H'=[]∧K r0):=by
 refine aP 107 func72 rfl fun w0=>?_
 refine ae (ai (di fun dK=>?_))
 refine ai (di fun iD=>?_)
 refine av 1 [(1,iv xn),(3,pv dK 0),(5,pv iD 0)] kr (aa (ae (aj 3 [.e 1] [1,3,5] [(15,.slice n0 xd.1.length o0),(16,iv xn)] ?_)))
 obtain ⟨qA,ru,hF⟩:=hF
 have pR:=aV (l:=xd.1) default ru
 generalize hg4:(xd.1.getD xn.toNat default)=e4 at pR hF ⊢
 refine ai (af.bf (e:=yN) rfl rfl underlying22 kr s0 qA pR rfl fun q3 o3 XQ _ TH hr3=>?_)
 obtain ⟨g3,m3,n3,p3,rfl,U2,J2⟩:=oN hr3
 refine ai (af.s (v:=.agg (aN e4 g3 m3 n3 p3)) (bU 0 6 (aN e4 g3 m3 n3 p3) TH kr underlying48 rfl kr kr kr) rfl rfl (ai (bK #[iv 0,sv ([]:Bs),.slice none 0 0,sv ([]:Bs),iv 0,.slice none 0 0] fun M6=>?_)))
 refine ai (af.w 0 ?_)
 refine aa (aH (ae (ag 1 [1,3,5] [(7,pv M6 0),(19,pv iD 0)] ?_)))
 refine ai (af.s (v:=iv xt.lab.1) (aR 1 rfl rfl underlying3 rfl kr) rfl rfl (aa (Ok.block (ae (ag 2 [1,3,5,7] [(20,iv xt.lab.1),(21,.bool (xt.lab.1==2))] ?_)))))
 refine aa (aM hF (fun hc6 hF=>?_) (fun hc6 hF=>?_))
 ·refine ae (aj 6 [.e 0,.e 1] [] [(6,.bool (e4.2.1==xt.lab.2.1))] ?_)
  refine aa (Ok.ret (aU (aC ?_)))
  exact dD (e4.2.1==xt.lab.2.1) hF
 refine ae (ag 2 [1,3,5,7,20] [(28,.bool (xt.lab.1==3))] ?_)
 refine aa (aM hF (fun iC hF=>?_) (fun iC hF=>?_))
 ·refine aH (aS ?_)
  obtain ⟨Mc,hF⟩:=hF
  let B:=cB e4 ([105,100]:Bs)
  refine aj 7 [.e 0,.k (Sd e4 ([105,100]:Bs) U2 J2 Mc)] [5] [(8,sv (B.1)),(9,.bool B.2)] ?_
  refine aa (iO g [(6,.bool (JL xt e4))] [] (LP xt K e4) ?_ (fun atT H2 hF=>?_))
  ·
   refine aS (ag 2 [5,8] [(36,.bool B.2)] ?_)
   refine bN 36 hF (fun mW hF=>?_) (fun mW hF=>?_)
   ·refine aj 6 [.e 1] [] [(6,.bool (B.1==xt.lab.2.1))] ?_
    refine aa (aB 6 (JL xt e4) (aZ mW) ?_)
    exact fg hF
   refine av 6 [(6,.bool false)] kr (aa (aB 6 (JL xt e4) (bW mW) ?_))
   exact fg hF
  replace hG0:=hG0.mono H2.1
  refine Ok.ret (aU (aC ?_))
  exact qd (.bool (JL xt e4)) H2 ⟨_,rfl,rfl,hF⟩
 refine ae (ag 2 [1,3,5,7,20] [(42,.bool (xt.lab.1==4))] ?_)
 refine aa (aM hF (fun s2 hF=>?_) (fun s2 hF=>?_))
 ·refine aH (aS ?_)
  obtain ⟨Mh,hF⟩:=hF
  let G:=([99,108,97,115,115]:Bs)
  let A:=cB e4 G
  refine aj 7 [.e 0,.k (Sd e4 G U2 J2 Mh)] [5] [(10,sv (A.1))] ?_
  refine aa (aH (aS ?_))
  obtain ⟨N2,hF⟩:=hF
  refine aj 5 [.e 1,.k (ahX A.1 xt.lab.2.1 N2)] [] [(6,.bool (Dv A.1 xt.lab.2.1))] ?_
  refine aa (Ok.ret (aU (aC ?_)))
  exact dD (Dv A.1 xt.lab.2.1) hF
 refine ae (ag 2 [1,3,5,7,20] [(53,.bool (xt.lab.1==5))] ?_)
 refine aa (aM hF (fun O2 hF=>?_) (fun O2 hF=>?_))
 ·refine aH (aS ?_)
  obtain ⟨L2,hF⟩:=hF
  refine aj 4 [.e 0,.e 1,.k (ahi e4 xt U2 J2 z1 hG0 L2)] [] [(6,.bool (GR e4 xt))] ?_
  refine aa (Ok.ret (aU (aC ?_)))
  exact dD (GR e4 xt) hF
 refine ae (ag 2 [1,3,5,7,20] [(58,.bool (xt.lab.1==6))] ?_)
 refine aa (aM hF (fun HV hF=>?_) (fun HV hF=>?_))
 ·refine ae (aj 4 [.e 0] [] [(6,.bool (e4.2.2.2.2.1==0))] ?_)
  refine aa (Ok.ret (aU (aC ?_)))
  exact dD (e4.2.2.2.2.1==0) hF
 refine ae (ag 2 [1,3,5,20] [(63,.bool (xt.lab.1==7))] ?_)
 refine aa (aM hF (fun R2 hF=>?_) (fun R2 hF=>?_))
 ·refine aH (aS ?_)
  obtain ⟨A2,hF⟩:=hF
  refine aj 4 [.e 2,.k (ahl xd xn s0 A2)] [] [(6,.bool (LQ xd xn))] ?_
  refine aa (Ok.ret (aU (aC ?_)))
  exact dD (LQ xd xn) hF
 let D:=(xt.lab.1==8)||(xt.lab.1==9)
 let F:=(.cells (aL xt.lab b1 xt.kids.length c1) 60:Obj)
 refine iO g [(1,iv xn),(3,pv dK 0),(5,pv iD 0),(20,iv xt.lab.1),(68,.bool D)] [.blk iD F,.blk dK (.cells (aD xd n0 o0) 24)] (GQ N xd xn xt K) ?_ (fun atO N1 hF=>?_)
 ·
  refine ae (ag 2 [1,3,5,20] [(68,.bool (xt.lab.1==8))] ?_)
  refine aa (aM hF (fun G2 hF=>?_) (fun G2 hF=>?_))
  ·refine Ok.k (Ok.t (aB 68 D (au (G2) (df G2)) ?_))
   exact fg hF
  refine aS (ag 2 [1,3,5,20] [(68,.bool (xt.lab.1==9))] ?_)
  refine aa (aB 68 D (bR G2) ?_)
  exact fg hF
 replace z1:=z1.mono N1.1
 replace s0:=s0.mono N1.1
 replace hG0:=hG0.mono N1.1
 refine aM hF (fun hc18 hF=>?_) (fun hc18 hF=>?_)
 ·refine ae (aj 2 [.e 1] [5] [(72,.agg (aD xd n0 o0)),(73,iv xn)] ?_)
  obtain ⟨Y2,hF⟩:=hF
  refine ai (bQ (YJ xd xn s0 Y2) fun g20 _ _ M1 I2=>?_)
  obtain ⟨a2,Z2,W2,rfl,X2,rfl⟩:=I2
  replace s0:=s0.mono M1.1
  replace z1:=z1.mono M1.1
  replace hG0:=hG0.mono M1.1
  refine ag 5 [5] [(12,.slice a2 (cu xd xn).1.length Z2),(13,iv (cu xd xn).2)] ?_
  refine aa (iO g20 [(5,pv iD 0),(13,iv (sV xd xn xt))] [.blk iD F] (GN xd xn xt K) ?_ (fun atN S2 hF=>?_))
  ·
   refine ae (aj 3 [.e 1] [5,12,13] [(79,.bool (xt.lab.1==9))] ?_)
   refine aa (aM hF (fun z3 hF=>?_) (fun z3 hF=>?_))
   ·let E:=w6 ((w6 (((cu xd xn).1.length:Int) - 1)) - (cu xd xn).2)
    refine aS (ag 6 [5] [(13,iv E)] ?_)
    refine aa (gW 13 rfl (show (iv E:Value)=iv (sV xd xn xt) from ay (Value.int .i64) ((aT z3).symm)) ?_)
    exact fg hF
   refine Ok.k (Ok.t (gW 13 rfl (show (iv (cu xd xn).2:Value)=iv (sV xd xn xt) from ay (Value.int .i64) ((aF z3).symm)) ?_))
   exact fg hF
  replace z1:=z1.mono S2.1
  replace hG0:=hG0.mono S2.1
  let H:=w6 ((sV xd xn xt)+1)
  let C:=kz xt.lab.2.2.2.2.1 xt.lab.2.2.2.2.2 H
  refine ae (aj 8 [.e 0,.e 0,.k (aha xt.lab.2.2.2.2.1 xt.lab.2.2.2.2.2 H)] [] [(6,.bool C)] ?_)
  refine aa (Ok.ret (aU (aC ?_)))
  exact jd (.bool C) ((N1.trans M1).trans S2) ⟨_,rfl,rfl,hF⟩
 refine ae (ag 2 [1,3,5,20] [(92,.bool (xt.lab.1==10))] ?_)
 refine aa (aM hF (fun v3 hF=>?_) (fun v3 hF=>?_))
 ·refine aH (aS ?_)
  obtain ⟨Tt,hF⟩:=hF
  refine aj 7 [.e 1,.e 0,.k (Hq _ xd xn xt.kids s0 z1 hG0 Tt)] [] [(6,.bool (!(ug xd xn xt.kids)))] ?_
  refine aa (Ok.ret (aU (aC ?_)))
  exact jd (.bool (!(ug xd xn xt.kids))) N1 ⟨_,rfl,rfl,hF⟩
 refine ae (ag 2 [1,3,5] [(100,.bool (xt.lab.1==11))] ?_)
 refine aa (aM hF (fun B2 hF=>?_) (fun B2 hF=>?_))
 ·refine aH (aS ?_)
  obtain ⟨Mf,hF⟩:=hF
  refine aj 6 [.e 1,.e 0,.k (Hq _ xd xn xt.kids s0 z1 hG0 Mf)] [] [(6,.bool (ug xd xn xt.kids))] ?_
  refine aa (Ok.ret (aU (aC ?_)))
  exact jd (.bool (ug xd xn xt.kids)) N1 ⟨_,rfl,rfl,hF⟩
 refine Ok.k (bJ (Ok.t (ae (av 1 [(6,.bool true)] kr (aa (Ok.ret ?_))))))
 exact jd (.bool true) N1 ⟨_,rfl,rfl,hF⟩
def GA (K:Bool→Prop) (V1:Int):Prop :=
 K (decide (V1≥0))
def R7 (N:Nat) (xd:Dc) (xn:Int) (xl:List PH) (K:Bool→Prop) (V0:Int) (Eg:Int→Prop):Prop :=
 ((decide (V0<(xl.length:Int)))=true→(0:Int)≤V0∧Int.toNat V0<xl.length∧PV N xd xn (xl.getD (Int.toNat V0) default)∧((GJ xd xn (xl.getD (Int.toNat V0) default))=true→GA K V0)∧((GJ xd xn (xl.getD (Int.toNat V0) default))=false→Eg (w6 (V0+1))))∧((decide (V0<(xl.length:Int)))=false→GA K (-1))
def Bd (N:Nat) (xd:Dc) (xn:Int) (xl:List PH) (K:Bool→Prop):Nat→Int→Prop
 | 0,_=>False
 | k+1,V0=>R7 N xd xn xl K V0 (Bd N xd xn xl K k)
def ag0 (N:Nat) (xd:Dc) (xn:Int) (xl:List PH) (K:Bool→Prop):Prop :=
 ∃ k,Bd N xd xn xl K k 0
theorem aaE {g:ak} (N:Nat) (Hr:Ov N) (L_:Oq N) (Hq:Oo N) {n0:Option Addr} {o0:Nat} (xd:Dc) (xn:Int) {v1:Option Addr} {k1:Nat} (xl:List PH) (s0:bG g qh [.slice n0 xd.1.length o0] xd.1) (B1:bG g (.slice yP) [.slice v1 xl.length k1] xl) (hG0:bP g 0) (K:Bool→Prop)
  (hF:ag0 N xd xn xl K):az prog 23 #[.agg (aD xd n0 o0),iv xn,.slice v1 xl.length k1] g [] (fun g' H' v=>∃ (r0:Bool),v=.bool r0∧H'=[]∧K r0):=by
 refine aP 10 func23 rfl fun w0=>?_
 refine ae (ai (di fun dK=>?_))
 refine ai (af.box (v:=iv xn) (cs:=#[iv xn]) rfl kr rfl fun kZ=>?_)
 let A:=(#[pv dK 0,pv kZ 0]:Array Value)
 refine av 1 [(2,.slice v1 xl.length k1),(3,pv dK 0),(4,pv kZ 0)] kr (aa (ae (av 2 [(7,.slice v1 xl.length k1),(8,.func (.func 41) #[] A)] kr (ai (bM (args:=#[.slice v1 xl.length k1,.func (.func 41) #[] A]) 9 [(0,.slice v1 xl.length k1),(1,.func (.func 41) #[] A)] gT func40 rfl rfl rfl rfl (ae (av 1 [(0,.slice v1 xl.length k1),(1,.func (.func 41) #[] A)] kr (aa (ae (av 2 [(5,.slice v1 xl.length k1),(6,.func (.func 41) #[] A)] kr (ai (af.cut (fun a W=>∃ (V1:Int),fJ 9 [(7,iv V1)] a∧dh w0 [] g W∧GA K V1) ?_ ?_))))))))))))
 ·
  refine bM (args:=#[.slice v1 xl.length k1,.func (.func 41) #[] A]) 19 [(0,.slice v1 xl.length k1),(1,.func (.func 41) #[] A)] gT func66 rfl rfl rfl rfl (ae (av 1 [(0,.slice v1 xl.length k1),(1,.func (.func 41) #[] A)] kr (aa (aH (ae (ag 3 [0,1] [(7,iv (xl.length:Int)),(8,iv 0)] ?_))))))
  refine aa (Ok.block ?_)
  obtain ⟨k,hF⟩:=hF
  refine gF (fun k a W=>∃ (V0:Int),fJ 19 [(0,.slice v1 xl.length k1),(1,.func (.func 41) #[] A),(7,iv (xl.length:Int)),(8,iv V0)] a∧dh w0 [.blk kZ (.cells #[iv xn] 3),.blk dK (.cells (aD xd n0 o0) 24)] g W∧Bd N xd xn xl K k V0) k ?_ ?_
  ·
   exact fun _ _ u v=>⟨0,fA u v hF⟩
  clear hF
  rintro (_ | Kb) _ _ ⟨V0,q⟩
  exact (q.2.2:False).elim
  refine jn (fun hF=>?_) _ _ q
  refine ae (ag 1 [0,1,7,8] [(9,.bool (decide (V0<(xl.length:Int))))] ?_)
  refine aa (aH (aM hF (fun hc3 hF=>?_) (fun hc3 hF=>?_)))
  ·refine Ok.k (Ok.t (aH (Ok.block (ae (ag 2 [0,1,7,8] [(5,iv V0)] ?_)))))
   refine aa (ae (ag 3 [0,1,5,7,8] [(11,.func (.func 41) #[] A),(12,.slice v1 xl.length k1),(13,iv V0)] ?_))
   obtain ⟨Ei,H_,hF⟩:=hF
   have Dx:=aV (l:=xl) default H_
   generalize hg5:(xl.getD (Int.toNat V0) default)=e5 at Dx hF ⊢
   refine ai (af.bf (e:=yP) rfl rfl underlying33 kr B1 Ei Dx rfl fun q4 o4 cs4 _ k3 hr4=>?_)
   obtain ⟨_,_,rfl,⟨b2,c2,rfl,ain,ah7⟩,⟨f2,g2,rfl,aim,ah6⟩⟩:=hr4
   have TM:bG g (.slice (.slice yS)) [.slice b2 e5.1.length c2] e5.1:=⟨b2,c2,rfl,ain,ah7⟩
   have ai2:bG g (.slice yb) [.slice f2 e5.2.length g2] e5.2:=⟨f2,g2,rfl,aim,ah6⟩
   replace k3:At g q4 o4 [.slice b2 e5.1.length c2,.slice f2 e5.2.length g2]:=k3
   let B:=(#[.slice b2 e5.1.length c2,.slice f2 e5.2.length g2]:Array Value)
   refine ai (af.s (v:=.agg B) (bU 0 2 B k3 kr underlying28 rfl kr kr kr) rfl rfl (ai (bM (args:=#[.agg B,pv dK 0,pv kZ 0]) 9 [(0,.agg B),(1,pv dK 0),(2,pv kZ 0)] gT func41 rfl rfl rfl rfl (ae (ai (di fun M7=>?_))))))
   refine av 1 [(1,pv dK 0),(2,pv kZ 0),(3,pv M7 0)] kr (aa (aH (aS ?_)))
   obtain ⟨Md,hF⟩:=hF
   refine aj 5 [.e 2,.e 1,.e 0,.k (L_ _ xd xn e5 s0 TM ai2 hG0 Md)] [] [(4,.bool (GJ xd xn e5))] ?_
   refine aa (Ok.ret (bu (vs:=[.bool (GJ xd xn e5)]) (.inl rfl) rfl (.cons (.tmp rfl) .nil) rfl (aa (ed hF rfl (fun hc8=>?_) (fun hc8=>?_)))))
   ·replace hF:=hF.1 hc8
    refine ae (av 2 [(4,iv V0)] kr (aa (Ok.ret (aU (aC (aC (aU (aC (bu (vs:=[iv V0]) (.inl rfl) rfl (.cons (.tmp rfl) .nil) rfl ?_)))))))))
    subst hg5
    exact fun _ _ u v=>⟨V0,fA u v hF⟩
   replace hF:=hF.2 hc8
   refine Ok.k (bJ (Ok.t (aS (av 2 [(0,.slice v1 xl.length k1),(1,.func (.func 41) #[] A),(7,iv (xl.length:Int)),(8,iv (w6 (V0+1)))] kr (bY (Ok.t ?_))))))
   subst hg5
   exact fun _ _ u v=>⟨Kb,nl,w6 (V0+1),fA u v hF⟩
  refine fU (aA (aA (aO (Ok.t (ae (av 1 [(4,iv (-1))] kr (aa (Ok.ret (bu (vs:=[iv (-1)]) (.inl rfl) rfl (.cons (.tmp rfl) .nil) rfl ?_)))))))))
  exact fun _ _ u v=>⟨-1,fA u v hF⟩
 clear hF
 rintro _ _ ⟨V1,q⟩
 refine jn (fun hF=>?_) _ _ q
 let C:=decide (V1≥0)
 refine av 2 [(4,.bool C)] kr (aa (Ok.ret (bu (vs:=[.bool C]) (.inl rfl) rfl (.cons (.tmp rfl) .nil) rfl (av 1 [(6,.bool C)] kr (aa (Ok.ret ?_))))))
 exact dD C hF
def Wp (xd:Dc) (xp:PH) (z0:Int) (C8:Int→List Int→Prop) (y0:List Int) (N0:Int) (e0:List Int) (C27:Int→List Int→Prop):Prop :=
 ((decide (N0<(y0.length:Int)))=true→(0:Int)≤N0∧Int.toNat N0<y0.length∧0≤w6 (z0 - 1)∧Int.toNat (w6 (z0 - 1))<xp.2.length∧aaJ xd (y0.getD (Int.toNat N0) default) (xp.2.getD (Int.toNat (w6 (z0 - 1))) default)∧(e0++(mnxS xd (y0.getD (Int.toNat N0) default) (xp.2.getD (Int.toNat (w6 (z0 - 1))) default))).length≤17592186044416∧C27 (w6 (N0+1)) (e0++(mnxS xd (y0.getD (Int.toNat N0) default) (xp.2.getD (Int.toNat (w6 (z0 - 1))) default))))∧((decide (N0<(y0.length:Int)))=false→ZB e0∧aeb (nS e0)∧C8 (w6 (z0 - 1)) (nN (nS e0)))
def GG (xd:Dc) (xp:PH) (z0:Int) (C8:Int→List Int→Prop) (y0:List Int):Nat→Int→List Int→Prop
 | 0,_,_=>False
 | k+1,N0,e0=>Wp xd xp z0 C8 y0 N0 e0 (GG xd xp z0 C8 y0 k)
def yg (xd:Dc) (xp:PH) (K:Bool→Prop) (z0:Int) (C8:Int→List Int→Prop) (y0:List Int):Prop :=
 (((z0==0)||((y0.length:Int)==0))=true→K (decide ((y0.length:Int)>0)))∧(((z0==0)||((y0.length:Int)==0))=false→∃ k,GG xd xp z0 C8 y0 k 0 ([]:List Int))
def zk (t1:Int) (S0:List Int) (b0:Int) (pK:Int→Int→List Int→Prop):Prop :=
 pK t1 (w6 (b0+1)) S0
def l8 (I0:Bool) (u0:Int) (b0:Int) (v0:List Int) (pK:Int→Int→List Int→Prop):Prop :=
 ((!I0)=true→0≤u0∧u0.toNat<v0.length∧zk (w6 (u0+1)) (v0.set u0.toNat (v0.getD b0.toNat default)) b0 pK)∧((!I0)=false→zk u0 v0 b0 pK)
def GI (u0:Int) (b0:Int) (v0:List Int) (pK:Int→Int→List Int→Prop) (Q1:Int):Prop :=
 l8 (decide (Q1≥0)) u0 b0 v0 pK
def Sa (N:Nat) (xd:Dc) (u0:Int) (b0:Int) (v0:List Int) (e25:Int) (pK:Int→Int→List Int→Prop) (e34:List TS) (j0:Int) (aqA:Int→Prop):Prop :=
 ((decide (j0<(e34.length:Int)))=true→0≤j0∧j0.toNat<e34.length∧PW N xd e25 (e34.getD j0.toNat default)∧((!(Aw xd e25 (e34.getD j0.toNat default)))=true→GI u0 b0 v0 pK j0)∧((!(Aw xd e25 (e34.getD j0.toNat default)))=false→aqA (w6 (j0+1))))∧((decide (j0<(e34.length:Int)))=false→GI u0 b0 v0 pK (-1))
def Bf (N:Nat) (xd:Dc) (u0:Int) (b0:Int) (v0:List Int) (e25:Int) (pK:Int→Int→List Int→Prop) (e34:List TS):Nat→Int→Prop
 | 0,_=>False
 | k+1,j0=>Sa N xd u0 b0 v0 e25 pK e34 j0 (Bf N xd u0 b0 v0 e25 pK e34 k)
def PU (N:Nat) (xd:Dc) (xp:PH) (K:Bool→Prop) (z0:Int) (C8:Int→List Int→Prop) (u0:Int) (b0:Int) (v0:List Int) (pK:Int→Int→List Int→Prop):Prop :=
 ((decide (b0<(v0.length:Int)))=true→0≤b0∧b0.toNat<v0.length∧LU xd (v0.getD b0.toNat default)∧((!(eP xd (v0.getD b0.toNat default)))=true→l8 true u0 b0 v0 pK)∧((!(eP xd (v0.getD b0.toNat default)))=false→0≤z0∧z0.toNat<xp.1.length∧∃ k,Bf N xd u0 b0 v0 (v0.getD b0.toNat default) pK (xp.1.getD z0.toNat default) k 0))∧((decide (b0<(v0.length:Int)))=false→0≤u0∧(u0:Int)≤(v0.length:Int)∧(v0.length:Int)≤(v0.length:Int)∧u0.toNat≤Int.toNat (v0.length:Int)∧0≤u0∧u0≤((BA v0 u0.toNat (0:Int)).length:Int)∧yg xd xp K z0 C8 ((BA v0 u0.toNat (0:Int)).take u0.toNat))
def kF (N:Nat) (xd:Dc) (xp:PH) (K:Bool→Prop) (z0:Int) (C8:Int→List Int→Prop):Nat→Int→Int→List Int→Prop
 | 0,_,_,_=>False
 | k+1,u0,b0,v0=>PU N xd xp K z0 C8 u0 b0 v0 (kF N xd xp K z0 C8 k)
def yf (N:Nat) (xd:Dc) (xp:PH) (K:Bool→Prop) (z0:Int) (q0:List Int) (C8:Int→List Int→Prop) (u1:Int):Prop :=
 ((u1==(-1))=true→yg xd xp K z0 C8 q0)∧((u1==(-1))=false→∃ k,kF N xd xp K z0 C8 k u1 (w6 (u1+1)) q0)
def oV (N:Nat) (xd:Dc) (xp:PH) (K:Bool→Prop) (E0:Bool) (x0:Int) (z0:Int) (q0:List Int) (C8:Int→List Int→Prop) (AO:Int→Prop):Prop :=
 (E0=true→yf N xd xp K z0 q0 C8 x0)∧(E0=false→AO (w6 (x0+1)))
def GH (N:Nat) (xd:Dc) (xp:PH) (K:Bool→Prop) (x0:Int) (z0:Int) (q0:List Int) (C8:Int→List Int→Prop) (AO:Int→Prop) (K1:Int):Prop :=
 oV N xd xp K (decide (K1≥0)) x0 z0 q0 C8 AO
def R9 (N:Nat) (xd:Dc) (xp:PH) (K:Bool→Prop) (x0:Int) (z0:Int) (q0:List Int) (C8:Int→List Int→Prop) (e46:Int) (AO:Int→Prop) (e52:List TS) (k0:Int) (aqz:Int→Prop):Prop :=
 ((decide (k0<(e52.length:Int)))=true→0≤k0∧k0.toNat<e52.length∧PW N xd e46 (e52.getD k0.toNat default)∧((!(Aw xd e46 (e52.getD k0.toNat default)))=true→GH N xd xp K x0 z0 q0 C8 AO k0)∧((!(Aw xd e46 (e52.getD k0.toNat default)))=false→aqz (w6 (k0+1))))∧((decide (k0<(e52.length:Int)))=false→GH N xd xp K x0 z0 q0 C8 AO (-1))
def Be (N:Nat) (xd:Dc) (xp:PH) (K:Bool→Prop) (x0:Int) (z0:Int) (q0:List Int) (C8:Int→List Int→Prop) (e46:Int) (AO:Int→Prop) (e52:List TS):Nat→Int→Prop
 | 0,_=>False
 | k+1,k0=>R9 N xd xp K x0 z0 q0 C8 e46 AO e52 k0 (Be N xd xp K x0 z0 q0 C8 e46 AO e52 k)
def R_ (N:Nat) (xd:Dc) (xp:PH) (K:Bool→Prop) (z0:Int) (q0:List Int) (C8:Int→List Int→Prop) (x0:Int) (AO:Int→Prop):Prop :=
 ((decide (x0<(q0.length:Int)))=true→0≤x0∧x0.toNat<q0.length∧LU xd (q0.getD x0.toNat default)∧((!(eP xd (q0.getD x0.toNat default)))=true→oV N xd xp K true x0 z0 q0 C8 AO)∧((!(eP xd (q0.getD x0.toNat default)))=false→0≤z0∧z0.toNat<xp.1.length∧∃ k,Be N xd xp K x0 z0 q0 C8 (q0.getD x0.toNat default) AO (xp.1.getD z0.toNat default) k 0))∧((decide (x0<(q0.length:Int)))=false→yf N xd xp K z0 q0 C8 (-1))
def rR (N:Nat) (xd:Dc) (xp:PH) (K:Bool→Prop) (z0:Int) (q0:List Int) (C8:Int→List Int→Prop):Nat→Int→Prop
 | 0,_=>False
 | k+1,x0=>R_ N xd xp K z0 q0 C8 x0 (rR N xd xp K z0 q0 C8 k)
def aaG (N:Nat) (xd:Dc) (xp:PH) (K:Bool→Prop) (z0:Int) (q0:List Int) (C8:Int→List Int→Prop):Prop :=
 ∃ k,rR N xd xp K z0 q0 C8 k 0
def lG (N:Nat) (xd:Dc) (xp:PH) (K:Bool→Prop):Nat→Int→List Int→Prop
 | 0,_,_=>False
 | k+1,z0,q0=>aaG N xd xp K z0 q0 (lG N xd xp K k)
def ag6 (N:Nat) (xd:Dc) (xn:Int) (xp:PH) (K:Bool→Prop):Prop :=
 ∃ k,lG N xd xp K k (w6 ((xp.1.length:Int) - 1)) ([xn]:List Int)
theorem aaH {g:ak} (N:Nat) (Hr:Ov N) (L_:Oq N) (Hq:Oo N) {n0:Option Addr} {o0:Nat} (xd:Dc) (xn:Int) {R0:Option Addr} {T0:Nat} {L0:Option Addr} {A0:Nat} (xp:PH) (s0:bG g qh [.slice n0 xd.1.length o0] xd.1) (t0:bG g (.slice (.slice yS)) [.slice R0 xp.1.length T0] xp.1) (a0:bG g (.slice yb) [.slice L0 xp.2.length A0] xp.2) (hG0:bP g 0) (K:Bool→Prop)
  (hF:ag6 N xd xn xp K):az prog 42 #[.agg (aD xd n0 o0),iv xn,.agg #[.slice R0 xp.1.length T0,.slice L0 xp.2.length A0]] g [] (fun g' H' v=>∃ (r0:Bool),v=.bool r0∧H'=[]∧K r0):=by
 refine aP 56 func42 rfl fun w0=>?_
 refine ae (ai (di fun dK=>?_))
 refine ai (di fun iD=>?_)
 refine av 1 [(1,iv xn),(3,pv dK 0),(5,pv iD 0)] kr (aa (ae (ag 1 [3,5] [(12,iv xn)] ?_)))
 have hL3:aW g (.int .i64) ([iv xn]:List Value) ([xn]:List Int):=(dB (c:=[iv xn]) rfl rfl)
 refine ai (gG hL3 fun b3=>?_)
 refine ag 1 [3,5] [(7,.slice (some ⟨b3,0,none⟩) ([xn]:List Int).length 1)] ?_
 refine aa (ae (aj 4 [.e 1] [3,5,7] [(17,iv (w6 ((xp.1.length:Int) - 1)))] ?_))
 refine ai (af.a (z:=iv 0) (cs:=#[iv 0]) kr kr rfl fun pQ=>?_)
 refine ai (dz 0 ?_)
 refine aa (Ok.block ?_)
 obtain ⟨k,hF⟩:=hF
 refine gF (fun k a W=>∃ Xe:ak,aY w0 g Xe∧∃ (W0:Nat) (z0:Int) (f0:Option Addr) (g0:Nat) (q0:List Int) (C0:List Value),aW Xe (.int .i64) C0 q0∧fJ 56 [(3,pv dK 0),(5,pv iD 0),(7,.slice f0 q0.length g0),(8,pv W0 0)] a∧dh w0 [.blk W0 (.cells #[iv z0] 3),.own (.slice f0 q0.length g0) 3 1 q0.length C0,.blk iD (.cells #[.slice R0 xp.1.length T0,.slice L0 xp.2.length A0] 28),.blk dK (.cells (aD xd n0 o0) 24)] Xe W∧lG N xd xp K k z0 q0) k ?_ ?_
 ·
  exact fun _ _ u v=>⟨g,bq w0 g,pQ,w6 ((xp.1.length:Int) - 1),(some ⟨b3,0,none⟩),1,([xn]:List Int),([iv xn]:List Value),hL3,fA u v hF⟩
 clear hF
 rintro (_ | k8) _ _ ⟨Xe,K2,W0,z0,f0,g0,q0,C0,J0,q⟩
 exact (q.2.2:False).elim
 refine jn (fun hF=>?_) _ _ q
 replace t0:=t0.mono K2.1
 replace a0:=a0.mono K2.1
 replace s0:=s0.mono K2.1
 replace hG0:=hG0.mono K2.1
 refine aH (Ok.block (ae (ag 2 [3,5,8] [(20,.slice f0 q0.length g0),(21,.func (.func 68) #[] #[pv dK 0,pv iD 0,pv W0 0])] ?_)))
 refine ai (af.cut (fun a W=>∃ H1:ak,aY w0 Xe H1∧∃ (H0:Option Addr) (M0:Nat) (y0:List Int) (f1:List Value),aW H1 (.int .i64) f1 y0∧fJ 56 [(3,pv dK 0),(5,pv iD 0),(8,pv W0 0),(22,.slice H0 y0.length M0)] a∧dh w0 [.blk W0 (.cells #[iv z0] 3),.own (.slice H0 y0.length M0) 3 1 y0.length f1,.blk iD (.cells #[.slice R0 xp.1.length T0,.slice L0 xp.2.length A0] 28),.blk dK (.cells (aD xd n0 o0) 24)] H1 W∧yg xd xp K z0 (lG N xd xp K k8) y0) ?_ ?_)
 ·
  refine bM (args:=#[.slice f0 q0.length g0,.func (.func 68) #[] #[pv dK 0,pv iD 0,pv W0 0]]) 42 [(0,.slice f0 q0.length g0),(1,.func (.func 68) #[] #[pv dK 0,pv iD 0,pv W0 0])] gT func67 rfl rfl rfl rfl (ae (av 1 [(0,.slice f0 q0.length g0),(1,.func (.func 68) #[] #[pv dK 0,pv iD 0,pv W0 0])] kr (aa (ae (ag 2 [0,1] [(8,.slice f0 q0.length g0),(9,.func (.func 68) #[] #[pv dK 0,pv iD 0,pv W0 0])] ?_)))))
  refine ai (af.cut (fun a W=>∃ O1:ak,aY w0 Xe O1∧∃ (u1:Int),fJ 42 [(0,.slice f0 q0.length g0),(1,.func (.func 68) #[] #[pv dK 0,pv iD 0,pv W0 0]),(10,iv u1)] a∧dh w0 [.blk W0 (.cells #[iv z0] 3),.own (.slice f0 q0.length g0) 3 1 q0.length C0,.blk iD (.cells #[.slice R0 xp.1.length T0,.slice L0 xp.2.length A0] 28),.blk dK (.cells (aD xd n0 o0) 24)] O1 W∧yf N xd xp K z0 q0 (lG N xd xp K k8) u1) ?_ ?_)
  ·
   refine bM (args:=#[.slice f0 q0.length g0,.func (.func 68) #[] #[pv dK 0,pv iD 0,pv W0 0]]) 19 [(0,.slice f0 q0.length g0),(1,.func (.func 68) #[] #[pv dK 0,pv iD 0,pv W0 0])] gT func110 rfl rfl rfl rfl (ae (av 1 [(0,.slice f0 q0.length g0),(1,.func (.func 68) #[] #[pv dK 0,pv iD 0,pv W0 0])] kr (aa (aH (ae (ag 3 [0,1] [(7,iv (q0.length:Int)),(8,iv 0)] ?_))))))
   refine aa (Ok.block ?_)
   obtain ⟨k,hF⟩:=hF
   refine gF (fun k a W=>∃ P0:ak,aY w0 Xe P0∧∃ (x0:Int),fJ 19 [(0,.slice f0 q0.length g0),(1,.func (.func 68) #[] #[pv dK 0,pv iD 0,pv W0 0]),(7,iv (q0.length:Int)),(8,iv x0)] a∧dh w0 [.blk W0 (.cells #[iv z0] 3),.own (.slice f0 q0.length g0) 3 1 q0.length C0,.blk iD (.cells #[.slice R0 xp.1.length T0,.slice L0 xp.2.length A0] 28),.blk dK (.cells (aD xd n0 o0) 24)] P0 W∧rR N xd xp K z0 q0 (lG N xd xp K k8) k x0) k ?_ ?_
   ·
    exact fun _ _ u v=>⟨Xe,bq w0 Xe,0,fA u v hF⟩
   clear hF
   rintro (_ | WJ) _ _ ⟨P0,y1,x0,q⟩
   exact (q.2.2:False).elim
   refine jn (fun hF=>?_) _ _ q
   replace J0:=J0.mono y1.1
   replace t0:=t0.mono y1.1
   replace a0:=a0.mono y1.1
   replace s0:=s0.mono y1.1
   replace hG0:=hG0.mono y1.1
   refine ae (ag 1 [0,1,7,8] [(9,.bool (decide (x0<(q0.length:Int))))] ?_)
   refine aa (aH (aM hF (fun anC hF=>?_) (fun anC hF=>?_)))
   ·refine Ok.k (Ok.t (aH (Ok.block (ae (ag 2 [0,1,7,8] [(5,iv x0)] ?_)))))
    refine aa (ae (ag 3 [0,1,5,7,8] [(11,.func (.func 68) #[] #[pv dK 0,pv iD 0,pv W0 0]),(12,.slice f0 q0.length g0),(13,iv x0)] ?_))
    obtain ⟨apJ,apu,hF⟩:=hF
    have r3:=aV (l:=q0) default apu
    generalize t3:(q0.getD x0.toNat default)=e46 at r3 hF ⊢
    refine ai (af.fQ (e:=.int .i64) 1 rfl J0 rfl rfl underlying46 kr kr apJ r3 rfl fun auh _ amr y3=>?_)
    obtain rfl:=amr
    replace y3:∀ j v,([iv e46]:List Value)[j]? = some v→C0[x0.toNat * 1+j]? = some v:=y3
    refine ai (af.s (v:=iv e46) (dN 1 0 rfl y3 rfl underlying3 rfl kr) rfl rfl (ai (bM (args:=#[iv e46,pv dK 0,pv iD 0,pv W0 0]) 19 [(0,iv e46),(1,pv dK 0),(2,pv iD 0),(3,pv W0 0)] gT func68 rfl rfl rfl rfl (ae (ai (af.box (v:=iv e46) (cs:=#[iv e46]) rfl kr rfl fun m0=>?_))))))
    refine av 1 [(1,pv dK 0),(2,pv iD 0),(3,pv W0 0),(4,pv m0 0)] kr (aa (Ok.cut (fun a W=>∃ n1:ak,aY w0 P0 n1∧∃ (E0:Bool),fJ 19 [(5,.bool E0)] a∧dh w0 [.blk W0 (.cells #[iv z0] 3),.own (.slice f0 q0.length g0) 3 1 q0.length C0,.blk iD (.cells #[.slice R0 xp.1.length T0,.slice L0 xp.2.length A0] 28),.blk dK (.cells (aD xd n0 o0) 24)] n1 W∧oV N xd xp K E0 x0 z0 q0 (lG N xd xp K k8) (rR N xd xp K z0 q0 (lG N xd xp K k8) WJ)) ?_ ?_))
    ·
     refine aS ?_
     obtain ⟨amI,hF⟩:=hF
     refine aj 5 [.e 4,.e 0,.k (JN xd e46 s0 amI)] [1,2,3,4] [(10,.bool (!(eP xd e46)))] ?_
     refine bN 10 hF (fun anx hF=>?_) (fun anx hF=>?_)
     ·refine av 9 [(5,.bool true)] kr (bY (Ok.t ?_))
      exact fun _ _ u v=>⟨P0,bq w0 P0,true,fA u v hF⟩
     refine ag 1 [1,3,4] [(10,.bool false),(11,pv iD 0)] ?_
     refine dW (af.s (v:=.slice R0 xp.1.length T0) (aR 3 rfl rfl underlying25 rfl kr) rfl rfl (dW (af.s (v:=iv z0) (aR 1 rfl rfl underlying3 rfl kr) rfl rfl ?_)))
     obtain ⟨apG,apr,hF⟩:=hF
     have a3:=aV (l:=xp.1) default apr
     generalize am1:(xp.1.getD z0.toNat default)=e52 at a3 hF ⊢
     refine dW (af.bf (e:=.slice yS) rfl rfl underlying25 kr t0 apG a3 rfl fun q51 o51 aug _ aiz amq=>?_)
     obtain ⟨U1,J1,rfl,m2⟩:=oS amq
     refine aj 2 [.a 0 aiz] [10] [(15,.slice U1 e52.length J1),(16,.func (.func 71) #[] #[pv dK 0,pv m0 0])] ?_
     refine dW (bM (args:=#[.slice U1 e52.length J1,.func (.func 71) #[] #[pv dK 0,pv m0 0]]) 9 [(0,.slice U1 e52.length J1),(1,.func (.func 71) #[] #[pv dK 0,pv m0 0])] gT func70 rfl rfl rfl rfl (ae (av 1 [(0,.slice U1 e52.length J1),(1,.func (.func 71) #[] #[pv dK 0,pv m0 0])] kr (aa (ae (av 2 [(5,.slice U1 e52.length J1),(6,.func (.func 71) #[] #[pv dK 0,pv m0 0])] kr (ai (af.cut (fun a W=>∃ V2:ak,aY w0 P0 V2∧∃ (K1:Int),fJ 9 [(7,iv K1)] a∧dh w0 [.blk W0 (.cells #[iv z0] 3),.own (.slice f0 q0.length g0) 3 1 q0.length C0,.blk iD (.cells #[.slice R0 xp.1.length T0,.slice L0 xp.2.length A0] 28),.blk dK (.cells (aD xd n0 o0) 24)] V2 W∧GH N xd xp K x0 z0 q0 (lG N xd xp K k8) (rR N xd xp K z0 q0 (lG N xd xp K k8) WJ) K1) ?_ ?_))))))))
     ·
      refine bM (args:=#[.slice U1 e52.length J1,.func (.func 71) #[] #[pv dK 0,pv m0 0]]) 19 [(0,.slice U1 e52.length J1),(1,.func (.func 71) #[] #[pv dK 0,pv m0 0])] gT func111 rfl rfl rfl rfl (ae (av 1 [(0,.slice U1 e52.length J1),(1,.func (.func 71) #[] #[pv dK 0,pv m0 0])] kr (aa (aH (ae (ag 3 [0,1] [(7,iv (e52.length:Int)),(8,iv 0)] ?_))))))
      refine aa (Ok.block ?_)
      obtain ⟨k,hF⟩:=hF
      refine gF (fun k a W=>∃ K0:ak,aY w0 P0 K0∧∃ (k0:Int),fJ 19 [(0,.slice U1 e52.length J1),(1,.func (.func 71) #[] #[pv dK 0,pv m0 0]),(7,iv (e52.length:Int)),(8,iv k0)] a∧dh w0 [.blk m0 (.cells #[iv e46] 3),.blk W0 (.cells #[iv z0] 3),.own (.slice f0 q0.length g0) 3 1 q0.length C0,.blk iD (.cells #[.slice R0 xp.1.length T0,.slice L0 xp.2.length A0] 28),.blk dK (.cells (aD xd n0 o0) 24)] K0 W∧Be N xd xp K x0 z0 q0 (lG N xd xp K k8) e46 (rR N xd xp K z0 q0 (lG N xd xp K k8) WJ) e52 k k0) k ?_ ?_
      ·
       exact fun _ _ u v=>⟨P0,bq w0 P0,0,fA u v hF⟩
      clear hF
      rintro (_ | al7) _ _ ⟨K0,Z0,k0,q⟩
      exact (q.2.2:False).elim
      refine jn (fun hF=>?_) _ _ q
      replace m2:=m2.mono Z0.1
      replace J0:=J0.mono Z0.1
      replace t0:=t0.mono Z0.1
      replace a0:=a0.mono Z0.1
      replace s0:=s0.mono Z0.1
      replace hG0:=hG0.mono Z0.1
      refine ae (ag 1 [0,1,7,8] [(9,.bool (decide (k0<(e52.length:Int))))] ?_)
      refine aa (aH (aM hF (fun abN hF=>?_) (fun abN hF=>?_)))
      ·refine Ok.k (Ok.t (aH (Ok.block (ae (ag 2 [0,1,7,8] [(5,iv k0)] ?_)))))
       refine aa (ae (ag 3 [0,1,5,7,8] [(11,.func (.func 71) #[] #[pv dK 0,pv m0 0]),(12,.slice U1 e52.length J1),(13,iv k0)] ?_))
       obtain ⟨apE,apo,hF⟩:=hF
       have i3:=aV (l:=e52) default apo
       generalize Z3:(e52.getD k0.toNat default)=e55 at i3 hF ⊢
       refine ai (af.bf (e:=yS) rfl rfl underlying54 kr m2 apE i3 rfl fun q54 o54 auf _ C2 amo=>?_)
       have n2:=amo
       replace n2:=bG.tst.1 n2
       obtain ⟨_,_,rfl,⟨_,_,rfl,rfl,⟨_,_,rfl,rfl,⟨_,_,rfl,rfl,⟨_,_,rfl,rfl,⟨_,_,rfl,rfl,rfl⟩⟩⟩⟩⟩,⟨P1,R1,rfl,abF,abb⟩⟩:=n2
       have aci:bG K0 (.slice yP) [.slice P1 e55.kids.length R1] e55.kids:=⟨P1,R1,rfl,abF,abb⟩
       replace C2:At K0 q54 o54 (vL e55.lab P1 e55.kids.length R1):=C2
       refine ai (af.s (v:=.agg (aL e55.lab P1 e55.kids.length R1)) (bU 0 7 (aL e55.lab P1 e55.kids.length R1) C2 kr underlying60 rfl kr kr kr) rfl rfl (ai (bM (args:=#[.agg (aL e55.lab P1 e55.kids.length R1),pv dK 0,pv m0 0]) 10 [(0,.agg (aL e55.lab P1 e55.kids.length R1)),(1,pv dK 0),(2,pv m0 0)] gT func71 rfl rfl rfl rfl (ae (ai (di fun uD=>?_))))))
       refine av 1 [(1,pv dK 0),(2,pv m0 0),(3,pv uD 0)] kr (aa (aH (aS ?_)))
       obtain ⟨amG,hF⟩:=hF
       refine aj 6 [.e 5,.e 1,.e 0,.k (Hr _ xd e46 e55 s0 aci hG0 amG)] [] [(4,.bool (!(Aw xd e46 e55)))] ?_
       refine aa (Ok.ret (bu (vs:=[.bool (!(Aw xd e46 e55))]) (.inl rfl) rfl (.cons (.tmp rfl) .nil) rfl (aa (ed hF rfl (fun u3=>?_) (fun u3=>?_)))))
       ·replace hF:=hF.1 u3
        refine ae (av 2 [(4,iv k0)] kr (aa (Ok.ret (aU (aC (aC (aU (aC (bu (vs:=[iv k0]) (.inl rfl) rfl (.cons (.tmp rfl) .nil) rfl ?_)))))))))
        subst Z3
        exact fun _ _ u v=>⟨K0,Z0,k0,fA u v hF⟩
       replace hF:=hF.2 u3
       refine Ok.k (bJ (Ok.t (aS (av 2 [(0,.slice U1 e52.length J1),(1,.func (.func 71) #[] #[pv dK 0,pv m0 0]),(7,iv (e52.length:Int)),(8,iv (w6 (k0+1)))] kr (bY (Ok.t ?_))))))
       subst Z3
       exact fun _ _ u v=>⟨al7,nl,K0,Z0,w6 (k0+1),fA u v hF⟩
      refine fU (aA (aA (aO (Ok.t (ae (av 1 [(4,iv (-1))] kr (aa (Ok.ret (bu (vs:=[iv (-1)]) (.inl rfl) rfl (.cons (.tmp rfl) .nil) rfl ?_)))))))))
      exact fun _ _ u v=>⟨K0,Z0,-1,fA u v hF⟩
     clear hF
     rintro _ _ ⟨V2,E1,K1,q⟩
     refine jn (fun hF=>?_) _ _ q
     replace J0:=J0.mono E1.1
     replace t0:=t0.mono E1.1
     replace a0:=a0.mono E1.1
     replace s0:=s0.mono E1.1
     replace hG0:=hG0.mono E1.1
     refine av 2 [(4,.bool (decide (K1≥0)))] kr (aa (Ok.ret (bu (vs:=[.bool (decide (K1≥0))]) (.inl rfl) rfl (.cons (.tmp rfl) .nil) rfl (av 2 [(5,.bool (decide (K1≥0)))] kr (bY (Ok.t ?_))))))
     subst am1
     exact fun _ _ u v=>⟨V2,E1,decide (K1≥0),fA u v hF⟩
    clear hF
    rintro _ _ ⟨n1,O0,E0,q⟩
    refine jn (fun hF=>?_) _ _ q
    replace J0:=J0.mono O0.1
    replace t0:=t0.mono O0.1
    replace a0:=a0.mono O0.1
    replace s0:=s0.mono O0.1
    replace hG0:=hG0.mono O0.1
    refine Ok.ret (bu (vs:=[.bool E0]) (.inl rfl) rfl (.cons (.tmp rfl) .nil) rfl (aa (ed hF rfl (fun j3=>?_) (fun j3=>?_))))
    ·replace hF:=hF.1 j3
     refine ae (av 2 [(4,iv x0)] kr (aa (Ok.ret (aU (aC (aC (aU (aC (bu (vs:=[iv x0]) (.inl rfl) rfl (.cons (.tmp rfl) .nil) rfl ?_)))))))))
     subst t3
     exact fun _ _ u v=>⟨n1,y1.trans O0,x0,fA u v hF⟩
    replace hF:=hF.2 j3
    refine Ok.k (bJ (Ok.t (aS (av 2 [(0,.slice f0 q0.length g0),(1,.func (.func 68) #[] #[pv dK 0,pv iD 0,pv W0 0]),(7,iv (q0.length:Int)),(8,iv (w6 (x0+1)))] kr (bY (Ok.t ?_))))))
    subst t3
    exact fun _ _ u v=>⟨WJ,nl,n1,y1.trans O0,w6 (x0+1),fA u v hF⟩
   refine fU (aA (aA (aO (Ok.t (ae (av 1 [(4,iv (-1))] kr (aa (Ok.ret (bu (vs:=[iv (-1)]) (.inl rfl) rfl (.cons (.tmp rfl) .nil) rfl ?_)))))))))
   exact fun _ _ u v=>⟨P0,y1,-1,fA u v hF⟩
  clear hF
  rintro _ _ ⟨O1,C1,u1,q⟩
  refine jn (fun hF=>?_) _ _ q
  replace J0:=J0.mono C1.1
  replace t0:=t0.mono C1.1
  replace a0:=a0.mono C1.1
  replace s0:=s0.mono C1.1
  replace hG0:=hG0.mono C1.1
  refine ag 1 [0,1] [(5,iv u1)] ?_
  refine aa (aH (ae (ag 2 [0,1,5] [(12,.bool (u1==(-1)))] ?_)))
  refine aa (aM hF (fun v3 hF=>?_) (fun v3 hF=>?_))
  ·refine ae (av 2 [(4,.slice f0 q0.length g0)] kr (aa (Ok.ret (aC (bu (vs:=[.slice f0 q0.length g0]) (.inl rfl) rfl (.cons (.tmp rfl) .nil) rfl ?_)))))
   exact fun _ _ u v=>⟨O1,C1,f0,g0,q0,C0,J0,fA u v hF⟩
  refine Ok.k (Ok.t (aH (ae (ag 3 [0,1,5] [(6,iv (w6 (u1+1)))] ?_))))
  refine aa (Ok.block ?_)
  obtain ⟨k,hF⟩:=hF
  refine gF (fun k a W=>∃ j1:ak,aY w0 O1 j1∧∃ (u0:Int) (b0:Int) (c0:Option Addr) (d0:Nat) (v0:List Int) (Y0:List Value),aW j1 (.int .i64) Y0 v0∧fJ 42 [(0,.slice c0 v0.length d0),(1,.func (.func 68) #[] #[pv dK 0,pv iD 0,pv W0 0]),(5,iv u0),(6,iv b0)] a∧dh w0 [.blk W0 (.cells #[iv z0] 3),.own (.slice c0 v0.length d0) 3 1 v0.length Y0,.blk iD (.cells #[.slice R0 xp.1.length T0,.slice L0 xp.2.length A0] 28),.blk dK (.cells (aD xd n0 o0) 24)] j1 W∧kF N xd xp K z0 (lG N xd xp K k8) k u0 b0 v0) k ?_ ?_
  ·
   exact fun _ _ u v=>⟨O1,bq w0 O1,u1,w6 (u1+1),f0,g0,q0,C0,J0,fA u v hF⟩
  clear hF
  rintro (_ | Kc) _ _ ⟨j1,a1,u0,b0,c0,d0,v0,Y0,Q0,q⟩
  exact (q.2.2:False).elim
  refine jn (fun hF=>?_) _ _ q
  replace t0:=t0.mono a1.1
  replace a0:=a0.mono a1.1
  replace s0:=s0.mono a1.1
  replace hG0:=hG0.mono a1.1
  refine aH (ae (ag 4 [0,1,5,6] [(19,.bool (decide (b0<(v0.length:Int))))] ?_))
  refine aa (aM hF (fun anH hF=>?_) (fun anH hF=>?_))
  ·refine Ok.k (Ok.t (Ok.cut (fun a W=>∃ D1:ak,aY w0 j1 D1∧∃ (t1:Int) (o1:Option Addr) (r1:Nat) (S0:List Int) (g1:List Value),aW D1 (.int .i64) g1 S0∧fJ 42 [(0,.slice o1 S0.length r1),(1,.func (.func 68) #[] #[pv dK 0,pv iD 0,pv W0 0]),(5,iv t1),(6,iv b0)] a∧dh w0 [.blk W0 (.cells #[iv z0] 3),.own (.slice o1 S0.length r1) 3 1 S0.length g1,.blk iD (.cells #[.slice R0 xp.1.length T0,.slice L0 xp.2.length A0] 28),.blk dK (.cells (aD xd n0 o0) 24)] D1 W∧zk t1 S0 b0 (kF N xd xp K z0 (lG N xd xp K k8) Kc)) ?_ ?_))
   ·
    refine Ok.block (ae (ag 2 [0,1,5,6] [(22,.slice c0 v0.length d0),(23,iv b0)] ?_))
    obtain ⟨DD,Ia,hF⟩:=hF
    have V3:=aV (l:=v0) default Ia
    generalize Q3:(v0.getD b0.toNat default)=e25 at V3 hF ⊢
    refine ai (af.fQ (e:=.int .i64) 1 rfl Q0 rfl rfl underlying46 kr kr DD V3 rfl fun ajy _ Te B2=>?_)
    obtain rfl:=Te
    replace B2:∀ j v,([iv e25]:List Value)[j]? = some v→Y0[b0.toNat * 1+j]? = some v:=B2
    refine ai (af.s (v:=iv e25) (dN 1 0 rfl B2 rfl underlying3 rfl kr) rfl rfl (ag 1 [0,1,5,6] [(7,iv e25)] ?_))
    refine aa (ae (ag 2 [0,1,5,6,7] [(26,.func (.func 68) #[] #[pv dK 0,pv iD 0,pv W0 0]),(27,iv e25)] ?_))
    refine ai (bM (args:=#[iv e25,pv dK 0,pv iD 0,pv W0 0]) 19 [(0,iv e25),(1,pv dK 0),(2,pv iD 0),(3,pv W0 0)] gT func68 rfl rfl rfl rfl (ae (ai (af.box (v:=iv e25) (cs:=#[iv e25]) rfl kr rfl fun X0=>?_))))
    refine av 1 [(1,pv dK 0),(2,pv iD 0),(3,pv W0 0),(4,pv X0 0)] kr (aa (Ok.cut (fun a W=>∃ Z1:ak,aY w0 j1 Z1∧∃ (I0:Bool),fJ 19 [(5,.bool I0)] a∧dh w0 [.blk W0 (.cells #[iv z0] 3),.own (.slice c0 v0.length d0) 3 1 v0.length Y0,.blk iD (.cells #[.slice R0 xp.1.length T0,.slice L0 xp.2.length A0] 28),.blk dK (.cells (aD xd n0 o0) 24)] Z1 W∧l8 I0 u0 b0 v0 (kF N xd xp K z0 (lG N xd xp K k8) Kc)) ?_ ?_))
    ·
     refine aS ?_
     obtain ⟨Tq,hF⟩:=hF
     refine aj 5 [.e 4,.e 0,.k (JN xd e25 s0 Tq)] [1,2,3,4] [(10,.bool (!(eP xd e25)))] ?_
     refine bN 10 hF (fun hc32 hF=>?_) (fun hc32 hF=>?_)
     ·refine av 9 [(5,.bool true)] kr (bY (Ok.t ?_))
      exact fun _ _ u v=>⟨j1,bq w0 j1,true,fA u v hF⟩
     refine ag 1 [1,3,4] [(10,.bool false),(11,pv iD 0)] ?_
     refine dW (af.s (v:=.slice R0 xp.1.length T0) (aR 3 rfl rfl underlying25 rfl kr) rfl rfl (dW (af.s (v:=iv z0) (aR 1 rfl rfl underlying3 rfl kr) rfl rfl ?_)))
     obtain ⟨adb,ac1,hF⟩:=hF
     have K3:=aV (l:=xp.1) default ac1
     generalize am3:(xp.1.getD z0.toNat default)=e34 at K3 hF ⊢
     refine dW (af.bf (e:=.slice yS) rfl rfl underlying25 kr t0 adb K3 rfl fun q33 o33 ap1 _ aiB abe=>?_)
     obtain ⟨W1,X1,rfl,o2⟩:=oS abe
     refine aj 2 [.a 0 aiB] [10] [(15,.slice W1 e34.length X1),(16,.func (.func 71) #[] #[pv dK 0,pv X0 0])] ?_
     refine dW (bM (args:=#[.slice W1 e34.length X1,.func (.func 71) #[] #[pv dK 0,pv X0 0]]) 9 [(0,.slice W1 e34.length X1),(1,.func (.func 71) #[] #[pv dK 0,pv X0 0])] gT func70 rfl rfl rfl rfl (ae (av 1 [(0,.slice W1 e34.length X1),(1,.func (.func 71) #[] #[pv dK 0,pv X0 0])] kr (aa (ae (av 2 [(5,.slice W1 e34.length X1),(6,.func (.func 71) #[] #[pv dK 0,pv X0 0])] kr (ai (af.cut (fun a W=>∃ Q2:ak,aY w0 j1 Q2∧∃ (Q1:Int),fJ 9 [(7,iv Q1)] a∧dh w0 [.blk W0 (.cells #[iv z0] 3),.own (.slice c0 v0.length d0) 3 1 v0.length Y0,.blk iD (.cells #[.slice R0 xp.1.length T0,.slice L0 xp.2.length A0] 28),.blk dK (.cells (aD xd n0 o0) 24)] Q2 W∧GI u0 b0 v0 (kF N xd xp K z0 (lG N xd xp K k8) Kc) Q1) ?_ ?_))))))))
     ·
      refine bM (args:=#[.slice W1 e34.length X1,.func (.func 71) #[] #[pv dK 0,pv X0 0]]) 19 [(0,.slice W1 e34.length X1),(1,.func (.func 71) #[] #[pv dK 0,pv X0 0])] gT func111 rfl rfl rfl rfl (ae (av 1 [(0,.slice W1 e34.length X1),(1,.func (.func 71) #[] #[pv dK 0,pv X0 0])] kr (aa (aH (ae (ag 3 [0,1] [(7,iv (e34.length:Int)),(8,iv 0)] ?_))))))
      refine aa (Ok.block ?_)
      obtain ⟨k,hF⟩:=hF
      refine gF (fun k a W=>∃ D0:ak,aY w0 j1 D0∧∃ (j0:Int),fJ 19 [(0,.slice W1 e34.length X1),(1,.func (.func 71) #[] #[pv dK 0,pv X0 0]),(7,iv (e34.length:Int)),(8,iv j0)] a∧dh w0 [.blk X0 (.cells #[iv e25] 3),.blk W0 (.cells #[iv z0] 3),.own (.slice c0 v0.length d0) 3 1 v0.length Y0,.blk iD (.cells #[.slice R0 xp.1.length T0,.slice L0 xp.2.length A0] 28),.blk dK (.cells (aD xd n0 o0) 24)] D0 W∧Bf N xd u0 b0 v0 e25 (kF N xd xp K z0 (lG N xd xp K k8) Kc) e34 k j0) k ?_ ?_
      ·
       exact fun _ _ u v=>⟨j1,bq w0 j1,0,fA u v hF⟩
      clear hF
      rintro (_ | al8) _ _ ⟨D0,U0,j0,q⟩
      exact (q.2.2:False).elim
      refine jn (fun hF=>?_) _ _ q
      replace o2:=o2.mono U0.1
      replace Q0:=Q0.mono U0.1
      replace a0:=a0.mono U0.1
      replace s0:=s0.mono U0.1
      replace hG0:=hG0.mono U0.1
      refine ae (ag 1 [0,1,7,8] [(9,.bool (decide (j0<(e34.length:Int))))] ?_)
      refine aa (aH (aM hF (fun anE hF=>?_) (fun anE hF=>?_)))
      ·refine Ok.k (Ok.t (aH (Ok.block (ae (ag 2 [0,1,7,8] [(5,iv j0)] ?_)))))
       refine aa (ae (ag 3 [0,1,5,7,8] [(11,.func (.func 71) #[] #[pv dK 0,pv X0 0]),(12,.slice W1 e34.length X1),(13,iv j0)] ?_))
       obtain ⟨ada,ac0,hF⟩:=hF
       have Y3:=aV (l:=e34) default ac0
       generalize U3:(e34.getD j0.toNat default)=e37 at Y3 hF ⊢
       refine ai (af.bf (e:=yS) rfl rfl underlying54 kr o2 ada Y3 rfl fun q36 o36 aum _ D2 amw=>?_)
       have p2:=amw
       replace p2:=bG.tst.1 p2
       obtain ⟨_,_,rfl,⟨_,_,rfl,rfl,⟨_,_,rfl,rfl,⟨_,_,rfl,rfl,⟨_,_,rfl,rfl,⟨_,_,rfl,rfl,rfl⟩⟩⟩⟩⟩,⟨T1,L1,rfl,abG,abd⟩⟩:=p2
       have aco:bG D0 (.slice yP) [.slice T1 e37.kids.length L1] e37.kids:=⟨T1,L1,rfl,abG,abd⟩
       replace D2:At D0 q36 o36 (vL e37.lab T1 e37.kids.length L1):=D2
       refine ai (af.s (v:=.agg (aL e37.lab T1 e37.kids.length L1)) (bU 0 7 (aL e37.lab T1 e37.kids.length L1) D2 kr underlying60 rfl kr kr kr) rfl rfl (ai (bM (args:=#[.agg (aL e37.lab T1 e37.kids.length L1),pv dK 0,pv X0 0]) 10 [(0,.agg (aL e37.lab T1 e37.kids.length L1)),(1,pv dK 0),(2,pv X0 0)] gT func71 rfl rfl rfl rfl (ae (ai (di fun yH=>?_))))))
       refine av 1 [(1,pv dK 0),(2,pv X0 0),(3,pv yH 0)] kr (aa (aH (aS ?_)))
       obtain ⟨amN,hF⟩:=hF
       refine aj 6 [.e 5,.e 1,.e 0,.k (Hr _ xd e25 e37 s0 aco hG0 amN)] [] [(4,.bool (!(Aw xd e25 e37)))] ?_
       refine aa (Ok.ret (bu (vs:=[.bool (!(Aw xd e25 e37))]) (.inl rfl) rfl (.cons (.tmp rfl) .nil) rfl (aa (ed hF rfl (fun x3=>?_) (fun x3=>?_)))))
       ·replace hF:=hF.1 x3
        refine ae (av 2 [(4,iv j0)] kr (aa (Ok.ret (aU (aC (aC (aU (aC (bu (vs:=[iv j0]) (.inl rfl) rfl (.cons (.tmp rfl) .nil) rfl ?_)))))))))
        subst U3
        exact fun _ _ u v=>⟨D0,U0,j0,fA u v hF⟩
       replace hF:=hF.2 x3
       refine Ok.k (bJ (Ok.t (aS (av 2 [(0,.slice W1 e34.length X1),(1,.func (.func 71) #[] #[pv dK 0,pv X0 0]),(7,iv (e34.length:Int)),(8,iv (w6 (j0+1)))] kr (bY (Ok.t ?_))))))
       subst U3
       exact fun _ _ u v=>⟨al8,nl,D0,U0,w6 (j0+1),fA u v hF⟩
      refine fU (aA (aA (aO (Ok.t (ae (av 1 [(4,iv (-1))] kr (aa (Ok.ret (bu (vs:=[iv (-1)]) (.inl rfl) rfl (.cons (.tmp rfl) .nil) rfl ?_)))))))))
      exact fun _ _ u v=>⟨D0,U0,-1,fA u v hF⟩
     clear hF
     rintro _ _ ⟨Q2,F1,Q1,q⟩
     refine jn (fun hF=>?_) _ _ q
     replace Q0:=Q0.mono F1.1
     replace a0:=a0.mono F1.1
     replace s0:=s0.mono F1.1
     refine av 2 [(4,.bool (decide (Q1≥0)))] kr (aa (Ok.ret (bu (vs:=[.bool (decide (Q1≥0))]) (.inl rfl) rfl (.cons (.tmp rfl) .nil) rfl (av 2 [(5,.bool (decide (Q1≥0)))] kr (bY (Ok.t ?_))))))
     subst am3
     exact fun _ _ u v=>⟨Q2,F1,decide (Q1≥0),fA u v hF⟩
    clear hF
    rintro _ _ ⟨Z1,m1,I0,q⟩
    refine jn (fun hF=>?_) _ _ q
    replace Q0:=Q0.mono m1.1
    replace a0:=a0.mono m1.1
    replace s0:=s0.mono m1.1
    refine Ok.ret (bu (vs:=[.bool I0]) (.inl rfl) rfl (.cons (.tmp rfl) .nil) rfl (av 1 [(0,.slice c0 v0.length d0),(1,.func (.func 68) #[] #[pv dK 0,pv iD 0,pv W0 0]),(5,iv u0),(6,iv b0),(7,iv e25),(29,.bool (!I0))] kr (aa (ed hF rfl (fun s3=>?_) (fun s3=>?_)))))
    ·replace hF:=hF.1 s3
     refine ae (ag 3 [0,1,5,6] [(30,.slice c0 v0.length d0),(31,iv u0),(32,iv e25)] ?_)
     obtain ⟨MH,MB,hF⟩:=hF
     have J3:=aV (l:=v0) default MB
     generalize TC:(v0.getD u0.toNat default)=e29 at J3 hF ⊢
     refine ai (af.fQ (e:=.int .i64) 1 rfl Q0 rfl rfl underlying46 kr kr MH J3 rfl fun ajx _ Td c3=>?_)
     obtain rfl:=Td
     replace c3:∀ j v,([iv e29]:List Value)[j]? = some v→Y0[u0.toNat * 1+j]? = some v:=c3
     refine ai (j_ (e:=.int .i64) (q:=u0.toNat) (cells:=[iv e29]) (vs:=[iv e25]) (xy:=e25) 1 0 1 rfl Q0 c3 kr rfl rfl rfl kr kr kr kr kr (show bG _ _ [iv e25] _ from rfl) fun alu acH=>?_)
     rw [show v0.length=(v0.set u0.toNat e25).length from (kK ..).symm]
     refine aa (aS (ag 3 [1,6] [(0,.slice c0 (v0.set u0.toNat e25).length d0),(5,iv (w6 (u0+1)))] ?_))
     refine bY (bJ (Ok.t ?_))
     subst TC
     subst Q3
     exact fun _ _ u v=>⟨Z1,m1,w6 (u0+1),c0,d0,(v0.set u0.toNat (v0.getD b0.toNat default)),alu,acH,fA u v hF⟩
    replace hF:=hF.2 s3
    refine Ok.k (bJ (Ok.t ?_))
    subst Q3
    exact fun _ _ u v=>⟨Z1,m1,u0,c0,d0,v0,Y0,Q0,fA u v hF⟩
   clear hF
   rintro _ _ ⟨D1,S1,t1,o1,r1,S0,g1,AB,q⟩
   refine jn (fun hF=>?_) _ _ q
   replace a0:=a0.mono S1.1
   replace s0:=s0.mono S1.1
   refine aS (ag 3 [0,1,5] [(6,iv (w6 (b0+1)))] ?_)
   refine bY (Ok.t ?_)
   exact fun _ _ u v=>⟨Kc,nl,D1,a1.trans S1,t1,w6 (b0+1),o1,r1,S0,g1,AB,fA u v hF⟩
  refine fU (aA (aA (aO (Ok.t (ae (ag 2 [0,5] [(36,.slice c0 v0.length d0),(37,iv u0)] ?_))))))
  refine zT 1 rfl fun aiw arq=>?_
  obtain ⟨apL,apw,apd,hF⟩:=hF
  refine ai (af.s (v:=vw c0 1 d0 u0.toNat (Int.toNat (v0.length:Int))) (yZ (size:=1) (l:=u0) (h:=(v0.length:Int)) rfl underlying46 kr (.inl ⟨_,_,rfl,rfl⟩) (.inr ⟨rfl,rfl⟩) apL apw (Int.le_trans apd (Int.ofNat_le.2 aiw))) rfl rfl ?_)
  obtain ⟨d3,hF⟩:=hF
  refine ai (wu (e:=.int .i64) (l:=v0) (lo:=u0.toNat) (y:=(0:Int)) (z:=iv 0) 1 rfl rfl Q0 underlying46 kr dc rfl d3 (eB _) fun asI aoX=>?_)
  rw [yE v0 u0.toNat (0:Int) (by rw [eB] at d3; exact d3)]
  refine aa (ae (av 2 [(39,.slice c0 (BA v0 u0.toNat (0:Int)).length d0),(40,iv u0)] kr ?_))
  obtain ⟨TY,acQ,hF⟩:=hF
  refine ai (qc (e:=.int .i64) (h:=u0) 1 rfl rfl rfl aoX underlying46 kr TY acQ rfl fun alr aoW=>?_)
  refine av 1 [(4,.slice c0 ((BA v0 u0.toNat (0:Int)).take u0.toNat).length d0)] kr (aa (Ok.ret (bu (vs:=[.slice c0 ((BA v0 u0.toNat (0:Int)).take u0.toNat).length d0]) (.inl rfl) rfl (.cons (.tmp rfl) .nil) rfl ?_)))
  exact fun _ _ u v=>⟨j1,C1.trans a1,c0,d0,((BA v0 u0.toNat (0:Int)).take u0.toNat),alr,aoW,fA u v hF⟩
 clear hF
 rintro _ _ ⟨H1,G1,H0,M0,y0,f1,B0,q⟩
 refine jn (fun hF=>?_) _ _ q
 replace a0:=a0.mono G1.1
 replace s0:=s0.mono G1.1
 refine ag 1 [3,5,8] [(7,.slice H0 y0.length M0)] ?_
 refine aa (aH (ae (aj 3 [.e 0] [3,5,7,8] [(25,.bool (z0==0))] ?_)))
 refine Ok.w 4 [(3,pv dK 0),(5,pv iD 0),(7,.slice H0 y0.length M0),(8,pv W0 0),(29,.bool ((z0==0)||((y0.length:Int)==0)))] (fun Bl=>?_) ?_
 ·refine Ok.a 25 (z0==0) rfl (fun hc6=>?_) (fun hc6=>?_)
  ·skip
   refine ag 4 [3,5,7,8] [(29,.bool true)] ?_
   refine aB 29 ((z0==0)||((y0.length:Int)==0)) (df hc6) (ag 0 [3,5,7,8] [(29,.bool ((z0==0)||((y0.length:Int)==0)))] ?_)
   exact Bl
  skip
  refine ag 4 [3,5,7,8] [(29,.bool ((y0.length:Int)==0))] ?_
  refine aB 29 ((z0==0)||((y0.length:Int)==0)) (bR hc6) (ag 0 [3,5,7,8] [(29,.bool ((z0==0)||((y0.length:Int)==0)))] ?_)
  exact Bl
 refine aa (aM hF (fun iC hF=>?_) (fun iC hF=>?_))
 ·refine ae (av 4 [(6,.bool (decide ((y0.length:Int)>0)))] kr (aa (Ok.ret (aC (aU (aC (aC (aU ?_))))))))
  exact jd (.bool (decide ((y0.length:Int)>0))) (K2.trans G1) ⟨_,rfl,rfl,hF⟩
 refine Ok.k (Ok.t (ae (ag 1 [3,5,7,8] [(9,.slice none 0 0)] ?_)))
 have YV:aW H1 (.int .i64) [] []:=rfl
 refine fO 3 1 (aa (aH (ae (ag 3 [3,5,8] [(9,.slice none ([]:List Int).length 0),(33,.slice H0 y0.length M0),(34,iv (y0.length:Int)),(35,iv 0)] ?_))))
 refine aa (Ok.block ?_)
 obtain ⟨k,hF⟩:=hF
 refine gF (fun k a W=>∃ E2:ak,aY w0 H1 E2∧∃ (N0:Int) (F0:Option Addr) (G0:Nat) (e0:List Int) (Y1:List Value),aW E2 (.int .i64) Y1 e0∧fJ 56 [(3,pv dK 0),(5,pv iD 0),(8,pv W0 0),(9,.slice F0 e0.length G0),(33,.slice H0 y0.length M0),(34,iv (y0.length:Int)),(35,iv N0)] a∧dh w0 [.own (.slice F0 e0.length G0) 3 1 e0.length Y1,.blk W0 (.cells #[iv z0] 3),.own (.slice H0 y0.length M0) 3 1 y0.length f1,.blk iD (.cells #[.slice R0 xp.1.length T0,.slice L0 xp.2.length A0] 28),.blk dK (.cells (aD xd n0 o0) 24)] E2 W∧GG xd xp z0 (lG N xd xp K k8) y0 k N0 e0) k ?_ ?_
 ·
  exact fun _ _ u v=>⟨H1,bq w0 H1,0,none,0,([]:List Int),[],YV,fA u v hF⟩
 clear hF
 rintro (_ | k27) _ _ ⟨E2,A1,N0,F0,G0,e0,Y1,x1,q⟩
 exact (q.2.2:False).elim
 refine jn (fun hF=>?_) _ _ q
 replace B0:=B0.mono A1.1
 replace a0:=a0.mono A1.1
 replace s0:=s0.mono A1.1
 refine ae (ag 1 [3,5,8,9,33,34,35] [(36,.bool (decide (N0<(y0.length:Int))))] ?_)
 refine aa (aH (aM hF (fun mW hF=>?_) (fun mW hF=>?_)))
 ·refine Ok.k (Ok.t (aH (Ok.block (aH (aS ?_)))))
  obtain ⟨MM,Dz,hF⟩:=hF
  have W3:=aV (l:=y0) default Dz
  generalize Hy:(y0.getD (Int.toNat N0) default)=e11 at W3 hF ⊢
  refine ai (af.fQ (e:=.int .i64) 2 rfl B0 rfl rfl underlying46 kr kr MM W3 rfl fun Qj _ Hu s2=>?_)
  obtain rfl:=Hu
  replace s2:∀ j v,([iv e11]:List Value)[j]? = some v→f1[Int.toNat N0 * 1+j]? = some v:=s2
  refine ai (af.s (v:=iv e11) (dN 2 0 rfl s2 rfl underlying3 rfl kr) rfl rfl (ag 1 [3,5,8,9,33,34,35] [(11,iv e11)] ?_))
  refine aa (wz [] [] [0,1,1,1,1] [(0,true),(1,true),(2,true),(3,true),(4,true),(5,true),(6,true),(7,true),(8,false),(9,false),(10,false),(11,true)] ?_)
  refine iI 1 [3,5,8,11,33,34,35] [(39,.slice F0 e0.length G0)] ?_
  refine eF.hd (fM.s (v:=.agg (aD xd n0 o0)) (a_ 3 2 (aD xd n0 o0) rfl rfl underlying24 rfl kr kr kr) rfl rfl ?_)
  refine iI 2 [3,5,8,33,34,35,39] [(40,.agg (aD xd n0 o0)),(41,iv e11),(42,pv iD 1)] ?_
  refine eF.hd (fM.s (v:=.slice L0 xp.2.length A0) (aR 2 rfl rfl underlying26 rfl kr) rfl rfl ?_)
  refine eF.hd (fM.s (v:=iv z0) (aR 0 rfl rfl underlying3 rfl kr) rfl rfl ?_)
  refine iI 1 [3,5,8,33,34,35,39,40,41] [(43,.slice L0 xp.2.length A0),(45,iv (w6 (z0 - 1)))] ?_
  obtain ⟨ML,Ic,hF⟩:=hF
  have X3:=aV (l:=xp.2) default Ic
  generalize TD:(xp.2.getD (Int.toNat (w6 (z0 - 1))) default)=e13 at X3 hF ⊢
  refine eF.hd (fM.bf (e:=.int .u8) rfl rfl underlying26 kr a0 ML X3 rfl fun q12 o12 ajB _ F2 Tj=>?_)
  obtain rfl:=Tj
  replace F2:At E2 q12 o12 [.int .u8 e13]:=F2
  refine eF.t rfl rfl (af.s (v:=.int .u8 e13) (eX 0 F2 kr underlying5 rfl kr) rfl rfl (g_ (lC.refl _) ?_))
  obtain ⟨L2,hF⟩:=hF
  refine eF.t rfl rfl (bQ (ag7 xd e11 e13 s0 L2) fun g15 _ _ y2 aog=>?_)
  obtain ⟨asw,ar2,rfl,acD,rfl⟩:=aog
  replace x1:=x1.mono y2.1
  refine g_ y2.1 ?_
  obtain ⟨anS,hF⟩:=hF
  refine eF.t rfl rfl (wy (e:=.int .i64) 8 17592186044416 0 rfl rfl rfl x1 acD underlying46 kr kr kr anS rfl fun a16 c16 alA acK=>?_)
  refine g_ y2.1 (iI 1 [3,5,8,33,34,35] [(9,.slice a16 (e0++mnxS xd e11 e13).length c16)] ?_)
  refine eF.nil (bJ (Ok.t (aS (ag 2 [3,5,8,9,33,34] [(35,iv (w6 (N0+1)))] ?_))))
  refine bY (Ok.t ?_)
  subst TD
  subst Hy
  exact fun _ _ u v=>⟨k27,nl,g15,A1.trans y2,w6 (N0+1),a16,c16,(e0++(mnxS xd (y0.getD (Int.toNat N0) default) (xp.2.getD (Int.toNat (w6 (z0 - 1))) default))),alA,acK,fA u v hF⟩
 refine fU (aA (aA (aO (Ok.t (ae (ag 1 [3,5,8,9] [(51,.slice F0 e0.length G0)] ?_))))))
 obtain ⟨A2,hF⟩:=hF
 refine ai (bQ (afE e0 x1 A2) fun g18 _ _ r2 TJ=>?_)
 obtain ⟨QK,rfl,t2,rfl,u2⟩:=TJ
 refine gW 9 rfl (show (.slice F0 e0.length G0:Value)=.slice F0 (nS e0).length G0 from by rw [u2]) (gW 51 rfl (show (.slice F0 e0.length G0:Value)=.slice F0 (nS e0).length G0 from by rw [u2]) (aa (aS (ag 1 [3,5,8] [(53,.slice F0 (nS e0).length G0)] ?_))))
 obtain ⟨Y2,hF⟩:=hF
 refine ai (bQ (ajG (nS e0) t2 Y2) fun g20 _ _ M1 I2=>?_)
 obtain ⟨a2,Z2,W2,rfl,X2,rfl⟩:=I2
 refine ag 1 [3,5,8] [(7,.slice a2 (nN (nS e0)).length Z2)] ?_
 refine bY (bJ (Ok.t (aH (ae (ai (af.s (v:=iv z0) (aR 1 rfl rfl underlying3 rfl kr) rfl rfl (aa (aS (ai (af.a (z:=iv 0) (cs:=#[iv 0]) kr kr rfl fun pQ=>?_))))))))))
 refine ai (dz 0 ?_)
 refine aa (aS (aj 2 [.e 0] [3,5,7] [(8,pv pQ 0),(19,iv (w6 (z0 - 1)))] ?_))
 refine ai (dz 0 ?_)
 refine bY (Ok.t ?_)
 exact fun _ _ u v=>⟨k8,nl,g20,((((K2.trans G1).trans A1).trans r2).trans M1),pQ,w6 (z0 - 1),a2,Z2,nN (nS e0),W2,X2,fA u v hF⟩
theorem ahg (d:DC) (n:Int) (t:Ts):¬ PW 0 d n t:=fun h=>absurd h.1 (jQ _)
theorem ag5 (d:DC) (n:Int) (t:Ph):¬ PV 0 d n t:=fun h=>absurd h.1 (jQ _)
theorem agZ (d:DC) (n:Int) (t:List Ph):¬ JH 0 d n t:=fun h=>absurd h.1 (jQ _)
theorem oW {d:DC} {n:Int} (h:nC d n):n.toNat<d.1.length:=by have:=h.1; have:=h.2; omega
theorem Ig {d:DC} (hG:gP d) {n:Int} (h:nC d n):mQ (lF d n).2.2.1:=hG.vals _ (oW h)
theorem ahF {t:Ts}:t.lab.2.2.2.1.length≤bT t:=by have:=lQ t; omega
theorem WI {d:DC} (hG:gP d) {n:Int} (hn:nC d n) (he:eP d n=true):0≤(cu d n).2∧(cu d n).2<((cu d n).1.length:Int)∧(cu d n).1.length≤200:=⟨(Ha hG hn he).1,(Ha hG hn he).2,yl hG hn⟩
theorem OD {t:Ts} (h:∃ i,xZ t i=true):tZ t.kids=true:=by
 obtain ⟨i,h⟩:=h
 rw [lU,aG] at h
 have h:=h.2
 split at h
 ·unfold nV at h; rw [aG] at h; exact h.1
 have:t.kids=[]:=iL (by have:=eq_of_beq h; omega)
 rw [this]; rw [tZ]
theorem Xi (d:DC) (t:Ts) (n:Int):Ev d t n=Ka d t.lab n (yJ d t.kids n):=by obtain ⟨x,l⟩:=t; rw [Ev]; rfl
theorem ahf (N:Nat) (d:DC) (n:Int) (t:Ts) (h:PW (N+1) d n t):ahh N d n t (fun r=>r=Aw d n t):=by
 obtain ⟨h1,h2,hG,hn,he,hk⟩:=h
 have hA:=Ig hG hn
 have hP:∀ w,PX (lF d n) w:=fun w=>by show (lF d n).2.2.1.length≤1000; have:=hA.1; omega
 have hM:Wt (lF d n) t:=⟨hA,by have:=ahF (t:=t); omega⟩
 have hW:WQ (jI (lF d n).2.2.1 oO).1 t.lab.2.1:=by show (jI (lF d n).2.2.1 oO).1.length≤1000; have:=BD hA.2 oO; omega
 have hS:JH N d n t.kids:=⟨by have:=lQ t; omega,by have:=lQ t; omega,hG,hn,OD hk⟩
 obtain ⟨i0,i1,i2⟩:=WI hG hn he
 have hr:Aw d n t=Ka d t.lab n (yJ d t.kids n):=Xi d t n
 generalize Aw d n t=r at hr
 unfold Ka at hr
 have j49:(t.lab.1==2)=false→(t.lab.1==3)=false→(t.lab.1==4)=false→(t.lab.1==5)=false→(t.lab.1==6)=false→(t.lab.1==7)=false→GQ N d n t (fun a=>a=r):=by
  intro q2 q3 q4 q5 q6 q7
  rw [aF q2,aF q3,aF q4,aF q5,aF q6,aF q7] at hr
  have j58:((t.lab.1==8)||(t.lab.1==9))=true→GN d n t (fun a=>a=r):=by
   intro h89
   show kz t.lab.2.2.2.2.1 t.lab.2.2.2.2.2 (w6 (sV d n t+1))=r
   cases h9:(t.lab.1==9) with
   | true =>
    have h8:(t.lab.1==8)=false:=by rw [eq_of_beq h9]; rfl
    rw [aF h8,aT h9,f_ i0,fu] at hr
    have e:sV d n t=((cu d n).1.length:Int) - 1 - (cu d n).2:=by
     unfold sV
     rw [aT h9,gp (x:=((cu d n).1.length:Int) - 1) om,gp om]
    rw [hr,e,gp om,show ((cu d n).1.length:Int) - 1 - (cu d n).2+1=((cu d n).1.length:Int) - (cu d n).2 by omega]
   | false =>
    rw [h9,oo] at h89
    rw [aT h89,f_ i0,fu] at hr
    have e:sV d n t=(cu d n).2:=by unfold sV; rw [aF h9]
    rw [hr,e,gp om]
  refine ⟨fun h=>⟨⟨hG,hn⟩,fun _=>j58 h,fun _=>j58 h⟩,fun h=>?_⟩
  rw [dC] at h
  rw [aF h.1,aF h.2] at hr
  refine ⟨fun q=>⟨hS,?_⟩,fun q=>⟨fun q'=>⟨hS,?_⟩,fun q'=>?_⟩⟩
  ·rw [aT q] at hr; exact hr.symm
  ·rw [aF q,aT q'] at hr; exact hr.symm
  rw [aF q,aF q'] at hr; exact hr.symm
 refine ⟨hn.1,oW hn,fun q2=>?_,fun q2=>⟨fun q3=>⟨hP _,fun _=>?_,fun _=>?_⟩,fun q3=>⟨fun q4=>⟨hP _,hW,?_⟩,fun q4=>⟨fun q5=>⟨hM,?_⟩,fun q5=>⟨fun q6=>?_,fun q6=>⟨fun q7=>⟨⟨hG,hn⟩,?_⟩,fun q7=>⟨fun _=>j49 q2 q3 q4 q5 q6 q7,fun _=>j49 q2 q3 q4 q5 q6 q7⟩⟩⟩⟩⟩⟩⟩
 ·rw [aT q2] at hr; exact hr.symm
 ·rw [aF q2,aT q3] at hr; exact hr.symm
 ·rw [aF q2,aT q3] at hr; exact hr.symm
 ·rw [aF q2,aF q3,aT q4] at hr; exact hr.symm
 ·rw [aF q2,aF q3,aF q4,aT q5] at hr; exact hr.symm
 ·rw [aF q2,aF q3,aF q4,aF q5,aT q6] at hr; exact hr.symm
 rw [aF q2,aF q3,aF q4,aF q5,aF q6,aT q7] at hr; exact hr.symm
theorem agY (N:Nat) (d:DC) (n:Int) (l:List Ph) (h:JH (N+1) d n l):ag0 N d n l (fun r=>r=ug d n l):=by
 obtain ⟨h1,h2,hG,hn,hk⟩:=h
 rw [uE] at h1 h2
 have hl:l.length≤1048600:=by have:=yU l; omega
 have hP:∀ q ∈ l,PV N d n q:=fun q hq=>by
  have:=zU hq
  have ho:=kV hk hq
  exact ⟨om,om,hG,hn,ho.1.1,ho.1.2.1,ho.2,ho.1.2.2⟩
 have loop:∀ (k i:Nat),i+k=l.length→ug d n l=yJ d (l.drop i) n→Bd N d n l (fun r=>r=ug d n l) (k+1) (i:Int):=by
  intro k
  induction k with
  | zero =>
   intro i h3 h4
   rw [fF om,yJ] at h4
   exact ⟨fun hc=>od hc,fun _=>h4.symm⟩
  | succ k ih =>
   intro i h3 h4
   rw [dm (l:=l) default om,Qq] at h4
   refine ⟨fun _=>⟨om,by rw [eB]; omega,hP _ (h_ default (by rw [eB]; omega)),fun hc=>?_,fun hc=>?_⟩,fun hc=>oe hc⟩
   ·rw [eB] at hc
    have hc:rch (mnxS d) (AL d (l.getD i default).1).reverse (l.getD i default).2.reverse n=true:=hc
    rw [hc,pI] at h4
    show decide ((i:Int)≥0)=_
    rw [h4,f_ om]
   rw [eB] at hc
   have hc:rch (mnxS d) (AL d (l.getD i default).1).reverse (l.getD i default).2.reverse n=false:=hc
   rw [hc,lq] at h4
   rw [gp om]
   exact ih (i+1) om h4
 exact ⟨_,loop l.length 0 om rfl⟩
def fB (d:DC) (p:Ph) (a:Nat) (x:Int):Bool:=all1 d (p.1.getD a default) x
def FB (d:DC) (p:Ph) (a:Nat) (x:Int):Bool:=eP d x&&fB d p a x
def GB (d:DC) (p:Ph) (a:Nat) (x:Int):Bool:=rch (mnxS d) ((AL d p.1).take (a+1)).reverse (p.2.take a).reverse x
theorem yz (d:DC) (p:List (List Ts)):(AL d p).length=p.length:=by rw [Bn,iW]
theorem Kq (d:DC) (p:Ph) {a:Nat} (h:a<p.1.length):(AL d p.1).getD a default=FB d p a:=by
 rw [Bn,gN,iX]
 unfold FB fB
 rw [gN,gB h]
 rfl
theorem Yg (d:DC) (p:Ph) (h:0<p.1.length) (x:Int):GB d p 0 x=FB d p 0 x:=by
 unfold GB
 rw [iA default (by rw [yz]; exact h),Kq d p h,List.take_zero,jS,List.reverse_singleton,rch,List.isEmpty_nil,pI,Bool.and_true]
theorem Yh (d:DC) (p:Ph) {b:Nat} (h:b+1<p.1.length) (hj:b<p.2.length) (x:Int):GB d p (b+1) x=(FB d p (b+1) x&&(mnxS d x (p.2.getD b default)).any (GB d p b)):=by
 unfold GB
 rw [iA default (by rw [yz]; exact h),Kq d p h,List.reverse_append,List.reverse_singleton,List.singleton_append,iA default hj,List.reverse_append,List.reverse_singleton,List.singleton_append,Js (by
  intro e
  have:=ay List.length e
  rw [List.length_reverse,gz,yz,jT] at this
  omega)]
theorem Ws {d:DC} (hG:gP d) {n:Int} (hn:nC d n) (j:Int):(mnxS d n j).length≤200:=by
 have h1:(upS d n).length≤42:=Pb d.1 42 _
 have h2:((cu d n).1).length≤200:=yl hG hn
 unfold mnxS
 split
 ·split
  ·rw [gz]; omega
  omega
 split
 ·rw [gz,List.length_reverse,gz]; omega
 rw [List.length_reverse,gz]; omega
theorem Ey {l m:List Int} {f:Int→Bool} (h:∀ x,x ∈ l↔x ∈ m):l.any f=m.any f:=by
 rw [uR,xm,xm]
 exact ⟨fun ⟨x,hx,e⟩=>⟨x,(h x).1 hx,e⟩,fun ⟨x,hx,e⟩=>⟨x,(h x).2 hx,e⟩⟩
theorem uF (l:List Int) (f g:Int→Bool):(l.any fun x=>f x&&g x)=(l.filter f).any g:=by
 induction l with
 | nil=>rfl
 | cons x l ih =>
  rw [jK,ih,List.filter_cons]
  cases hf:f x with
  | true=>rw [bn rfl,jK,fu]
  | false=>rw [aQ dc,gZ,lq]
theorem UQ (l:List Int) (f:Int→List Int) (g:Int→Bool):(l.any fun x=>(f x).any g)=(l.flatMap f).any g:=by
 induction l with
 | nil=>rfl
 | cons x l ih=>rw [jK,ih,List.flatMap_cons,List.any_append]
theorem ag4 (N:Nat) (d:DC) (n:Int) (p:Ph) (h:PV (N+1) d n p):ag6 N d n p (fun r=>r=GJ d n p):=by
 obtain ⟨hw1,hw2,hG,hn,hp1,hp2,hp3,Tp⟩:=h
 have hlen:p.1.length≤1048600:=by have:=wB p.1; omega
 have hpos:0<p.1.length:=List.length_pos_iff.2 hp1
 have hR:GJ d n p=[n].any (GB d p (p.1.length - 1)):=by
  rw [jK,xk,oo]
  unfold GB GJ
  rw [show p.1.length - 1+1=p.1.length by omega,jR (by rw [yz]; exact fK _),jR om]
 generalize GJ d n p=r at hR
 have hT:∀ (a:Nat),a<p.1.length→∀ t ∈ p.1.getD a default,∀ x,nC d x→eP d x=true→PW N d x t:=fun a ha t ht x hx hm=>by
  have hs:p.1.getD a default ∈ p.1:=h_ default ha
  have h1:=IY ht
  have h2:=xC hs
  obtain ⟨i,hi⟩:=rQ hp3 hs
  obtain ⟨k,hk⟩:=Gn hi ht
  exact ⟨om,om,hG,hx,hm,k,hk⟩
 have hS:∀ a,a<p.1.length→(p.1.getD a default).length≤1048600:=fun a ha=>by
  have h1:=wC (p.1.getD a default)
  have h2:=xC (show p.1.getD a default ∈ p.1 from h_ default ha)
  omega
 have in6:∀ (a:Nat) (ha:a<p.1.length) (x:Int),nC d x→eP d x=true→∀ (i:Int) (S:List Int) (C8:Int→List Int→Prop) (C7:Int→Prop),
   (fB d p a x=false→yf N d p (fun b=>b=r) (a:Int) S C8 i)→(fB d p a x=true→C7 (w6 (i+1))) →
   ∀ (k m:Nat),m+k=(p.1.getD a default).length→fB d p a x=all1 d ((p.1.getD a default).drop m) x→Be N d p (fun b=>b=r) i (a:Int) S C8 x C7 (p.1.getD a default) (k+1) (m:Int):=by
  intro a ha x hx hm i S C8 C7 hA hB k
  have hSa:=hS a ha
  induction k with
  | zero =>
   intro m h1 h2
   rw [fF om,all1] at h2
   exact ⟨fun hc=>od hc,fun _=>⟨fun h=>absurd h dc,fun _=>hB h2⟩⟩
  | succ k ih =>
   intro m h1 h2
   rw [dm (l:=p.1.getD a default) default om,all1] at h2
   refine ⟨fun _=>⟨om,by rw [eB]; omega,hT a ha _ (h_ default (by rw [eB]; omega)) x hx hm,fun hc=>?_,fun hc=>?_⟩,fun hc=>oe hc⟩
   ·rw [eB] at hc
    have hc:Ev d ((p.1.getD a default).getD m default) x=false:=by rw [dA] at hc; exact hc
    rw [hc,gZ] at h2
    exact ⟨fun _=>hA h2,fun hcc=>oe hcc⟩
   rw [eB] at hc
   have hc:Ev d ((p.1.getD a default).getD m default) x=true:=by rw [eT] at hc; exact hc
   rw [hc,fu] at h2
   rw [gp om]
   exact ih (m+1) om h2
 have in4:∀ (a:Nat) (ha:a<p.1.length) (x:Int),nC d x→eP d x=true→∀ (i j:Int) (own:List Int) (C:Int→Int→List Int→Prop),
   l8 (!(fB d p a x)) i j own C →
   ∀ (k m:Nat),m+k=(p.1.getD a default).length→fB d p a x=all1 d ((p.1.getD a default).drop m) x→Bf N d i j own x C (p.1.getD a default) (k+1) (m:Int):=by
  intro a ha x hx hm i j own C hA k
  have hSa:=hS a ha
  induction k with
  | zero =>
   intro m h1 h2
   rw [fF om,all1] at h2
   rw [h2] at hA
   exact ⟨fun hc=>od hc,fun _=>hA⟩
  | succ k ih =>
   intro m h1 h2
   rw [dm (l:=p.1.getD a default) default om,all1] at h2
   refine ⟨fun _=>⟨om,by rw [eB]; omega,hT a ha _ (h_ default (by rw [eB]; omega)) x hx hm,fun hc=>?_,fun hc=>?_⟩,fun hc=>oe hc⟩
   ·rw [eB] at hc
    have hc:Ev d ((p.1.getD a default).getD m default) x=false:=by rw [dA] at hc; exact hc
    rw [hc,gZ] at h2
    rw [h2] at hA
    show l8 (decide ((m:Int)≥0)) i j own C
    rw [f_ om]
    exact hA
   rw [eB] at hc
   have hc:Ev d ((p.1.getD a default).getD m default) x=true:=by rw [eT] at hc; exact hc
   rw [hc,fu] at h2
   rw [gp om]
   exact ih (m+1) om h2
 have second:∀ (a:Nat) (ha:a<p.1.length) (S:List Int) (hin:∀ x ∈ S,nC d x) (hl:S.length≤200) (C8:Int→List Int→Prop),yg d p (fun b=>b=r) (a:Int) C8 (S.filter (FB d p a)) →
   ∀ (k i j:Nat) (own:List Int),j+k=S.length→vM S (FB d p a) i j own→kF N d p (fun b=>b=r) (a:Int) C8 (k+1) (i:Int) (j:Int) own:=by
  intro a ha S hin hl C8 hji k
  induction k with
  | zero =>
   intro i j own h hI
   have hj:j=S.length:=om
   subst hj
   have hln:=hI.len
   have hij:=hI.ij
   have hfin:=hI.fin
   have hcl:(BA own i (0:Int)).length=own.length:=(yE own i 0 om).symm
   refine ⟨fun hc=>od hc,fun _=>⟨om,om,ll _,om,om,?_,?_⟩⟩
   ·rw [eB]; omega
   rw [eB,hfin]
   exact hji
  | succ k ih =>
   intro i j own h hI
   have hln:=hI.len
   have hij:=hI.ij
   have hg:=hI.get
   have hx:=hin (S.getD j default) (h_ default om)
   have st:∀ b,b = !(FB d p a (S.getD j default))→l8 b (i:Int) (j:Int) own (kF N d p (fun b=>b=r) (a:Int) C8 (k+1)):=by
    intro b hb
    refine ⟨fun hc=>⟨om,by rw [eB]; omega,?_⟩,fun hc=>?_⟩
    ·have hc':FB d p a (S.getD j default)=true:=by rw [hb,Bool.not_not] at hc; exact hc
     show kF N d p (fun b=>b=r) (a:Int) C8 (k+1) _ _ _
     rw [eB,eB,gp om,gp om,show (i:Int)+1=((i+1:Nat):Int) by omega,show (j:Int)+1=((j+1:Nat):Int) by omega]
     exact ih (i+1) (j+1) _ om (hI.keep om hc')
    have hc':FB d p a (S.getD j default)=false:=by rw [hb,Bool.not_not] at hc; exact hc
    show kF N d p (fun b=>b=r) (a:Int) C8 (k+1) _ _ _
    rw [gp om,show (j:Int)+1=((j+1:Nat):Int) by omega]
    exact ih i (j+1) own om (hI.skip om hc')
   refine ⟨fun _=>⟨om,by rw [eB]; omega,?_⟩,fun hc=>oe hc⟩
   rw [eB,hg]
   refine ⟨⟨hx.1,oW hx⟩,fun hc=>?_,fun hc=>⟨om,by rw [eB]; exact ha,?_⟩⟩
   ·have hc:eP d (S.getD j default)=false:=by rw [dA] at hc; exact hc
    exact st true (by unfold FB; rw [hc]; rfl)
   have hc:eP d (S.getD j default)=true:=by rw [eT] at hc; exact hc
   rw [eB]
   exact ⟨_,in4 a ha _ hx hc _ _ _ _ (st _ (by unfold FB; rw [hc,fu])) (p.1.getD a default).length 0 om rfl⟩
 have first:∀ (a:Nat) (ha:a<p.1.length) (S:List Int) (hin:∀ x ∈ S,nC d x) (hl:S.length≤200) (C8:Int→List Int→Prop),yg d p (fun b=>b=r) (a:Int) C8 (S.filter (FB d p a)) →
   ∀ (k i:Nat),i+k=S.length→(S.take i).filter (FB d p a)=S.take i→rR N d p (fun b=>b=r) (a:Int) S C8 (k+1) (i:Int):=by
  intro a ha S hin hl C8 hji k
  induction k with
  | zero =>
   intro i h hf
   refine ⟨fun hc=>od hc,fun _=>⟨fun _=>?_,fun hc=>absurd hc dc⟩⟩
   rw [jR om] at hf
   rw [hf] at hji
   exact hji
  | succ k ih =>
   intro i h hf
   have hx:=hin (S.getD i default) (h_ default om)
   have no:FB d p a (S.getD i default)=false→yf N d p (fun b=>b=r) (a:Int) S C8 (i:Int):=fun hc=>by
    refine ⟨fun hc=>absurd (eq_of_beq hc) om,fun _=>?_⟩
    rw [gp om,show (i:Int)+1=((i+1:Nat):Int) by omega]
    exact ⟨_,second a ha S hin hl C8 hji (S.length - (i+1)) i (i+1) S om (vM.start om hf hc)⟩
   refine ⟨fun _=>⟨om,by rw [eB]; omega,?_⟩,fun hc=>oe hc⟩
   rw [eB]
   refine ⟨⟨hx.1,oW hx⟩,fun hc=>?_,fun hc=>⟨om,by rw [eB]; exact ha,?_⟩⟩
   ·have hc:eP d (S.getD i default)=false:=by rw [dA] at hc; exact hc
    exact ⟨fun _=>no (by unfold FB; rw [hc]; rfl),(fun h=>by cases h)⟩
   have hc:eP d (S.getD i default)=true:=by rw [eT] at hc; exact hc
   rw [eB]
   refine ⟨_,in6 a ha _ hx hc _ _ _ _ (fun hf2=>no (by unfold FB; rw [hf2,uS])) (fun hf2=>?_) (p.1.getD a default).length 0 om rfl⟩
   rw [gp om,show (i:Int)+1=((i+1:Nat):Int) by omega]
   exact ih (i+1) om (KJ om hf (by unfold FB; rw [hc,hf2]; rfl))
 have loop:∀ (a:Nat) (S:List Int),a<p.1.length→(∀ x ∈ S,nC d x)→S.length≤200→r=S.any (GB d p a)→lG N d p (fun b=>b=r) (a+1) (a:Int) S:=by
  intro a
  induction a with
  | zero =>
   intro S ha hin hl hS
   refine ⟨_,first 0 ha S hin hl _ ⟨fun _=>?_,fun hc=>absurd hc (by simp)⟩ S.length 0 om rfl⟩
   rw [show S.any (GB d p 0)=S.any (FB d p 0) from ay S.any (funext (Yg d p ha))] at hS
   have e:(S.any fun x=>FB d p 0 x&&true)=(S.filter (FB d p 0)).any fun _=>true:=uF S (FB d p 0) fun _=>true
   simp only [Bool.and_true] at e
   rw [hS,show S.any (FB d p 0)=_ from e]
   cases S.filter (FB d p 0) with
   | nil=>rfl
   | cons x l=>rw [jK,pI]; exact f_ (by rw [cK]; omega)
  | succ b ih =>
   intro S ha hin hl hS
   have hjb:b<p.2.length:=om
   rw [show S.any (GB d p (b+1))=S.any (fun x=>FB d p (b+1) x&&(mnxS d x (p.2.getD b default)).any (GB d p b)) from ay S.any (funext (Yh d p ha hjb)),uF,UQ] at hS
   have hin':∀ x ∈ S.filter (FB d p (b+1)),nC d x∧eP d x=true:=fun x hx=>by
    have hx:=pG.1 hx
    unfold FB at hx
    rw [aG] at hx
    exact ⟨hin x hx.1,hx.2.1⟩
   have hl':(S.filter (FB d p (b+1))).length≤200:=gV (zM ..) hl
   refine ⟨_,first (b+1) ha S hin hl _ ?_ S.length 0 om rfl⟩
   generalize S.filter (FB d p (b+1))=S' at hin' hl' hS
   have e1:w6 (((b+1:Nat):Int) - 1)=(b:Int):=by rw [gp om]; omega
   refine ⟨fun hc=>?_,fun hc=>?_⟩
   ·have hc:S'=[]:=by
     rw [dU] at hc
     rcases hc with hc | hc
     ·have:=eq_of_beq hc; omega
     exact iL (by have:=eq_of_beq hc; omega)
    subst hc
    exact hS.symm
   have l27:∀ (k i:Nat) (acc:List Int),i+k=S'.length→acc++(S'.drop i).flatMap (fun x=>mnxS d x (p.2.getD b default))=S'.flatMap (fun x=>mnxS d x (p.2.getD b default))→acc.length≤i * 200 →
     GG d p ((b+1:Nat):Int) (lG N d p (fun b=>b=r) (b+1)) S' (k+1) (i:Int) acc:=by
    intro k
    induction k with
    | zero =>
     intro i acc h1 h2 h3
     rw [fF om,List.flatMap_nil,gK] at h2
     have h5:acc.length≤40000:=om
     refine ⟨fun hc=>od hc,fun _=>⟨by show acc.length≤1000000000000; omega,?_,?_⟩⟩
     ·show (nS acc).length≤1000000000000
      unfold nS; rw [List.length_mergeSort]; omega
     rw [e1]
     have hm:∀ x,x ∈ nN (nS acc)↔x ∈ acc:=fun x=>by rw [XT,Vw]
     have hi2:∀ x ∈ nN (nS acc),nC d x:=fun x hx=>by
      have hx:=(hm x).1 hx
      rw [h2,List.mem_flatMap] at hx
      obtain ⟨y,hy,hx⟩:=hx
      exact LK hG (hin' y hy).1 hx
     refine ih _ om hi2 (gV (CS d.1.length _ (Ql (Rb acc)) hi2) hG.few) ?_
     rw [hS,← h2]
     exact (Ey hm).symm
    | succ k ih2 =>
     intro i acc h1 h2 h3
     have hx:=hin' (S'.getD i default) (h_ default om)
     have hlm:=Ws hG hx.1 (p.2.getD b default)
     rw [dm (l:=S') default om,List.flatMap_cons,← dL] at h2
     refine ⟨fun _=>?_,fun hc=>oe hc⟩
     rw [e1,eB,eB]
     refine ⟨om,om,om,hjb,⟨hG,hx.1,hx.2⟩,by rw [bC]; omega,?_⟩
     rw [gp om]
     exact ih2 (i+1) _ om h2 (by rw [bC]; omega)
   exact ⟨_,l27 S'.length 0 [] om rfl (ik _)⟩
 show ∃ k,lG N d p (fun b=>b=r) k (w6 ((p.1.length:Int) - 1)) [n]
 rw [show w6 ((p.1.length:Int) - 1)=((p.1.length - 1:Nat):Int) by rw [gp om]; omega]
 exact ⟨_,loop (p.1.length - 1) [n] om (fun x hx=>by rw [il] at hx; subst hx; exact hn) (by simp) hR⟩
theorem Ou:∀ N,Ov N∧Oq N∧Oo N
 | 0=>⟨(by intro g n0 o0 xd xn b1 c1 xt s0 z1 hG0 hp; exact (ahg xd xn xt hp).elim),(by intro g n0 o0 xd xn R0 T0 L0 A0 xp s0 t0 a0 hG0 hp; exact (ag5 xd xn xp hp).elim),(by intro g n0 o0 xd xn v1 k1 xl s0 B1 hG0 hp; exact (agZ xd xn xl hp).elim)⟩
 | N+1 =>
  have ih:=Ou N
  ⟨(by intro g n0 o0 xd xn b1 c1 xt s0 z1 hG0 hp; exact (aaN N ih.1 ih.2.1 ih.2.2 xd xn xt s0 z1 hG0 _ (ahf N xd xn xt hp)).gv),(by intro g n0 o0 xd xn R0 T0 L0 A0 xp s0 t0 a0 hG0 hp; exact (aaH N ih.1 ih.2.1 ih.2.2 xd xn xp s0 t0 a0 hG0 _ (ag4 N xd xn xp hp)).gv),(by intro g n0 o0 xd xn v1 k1 xl s0 B1 hG0 hp; exact (aaE N ih.1 ih.2.1 ih.2.2 xd xn xl s0 B1 hG0 _ (agY N xd xn xl hp)).gv)⟩
def R8 (xd:Dc) (xn:Int) (xl:List PH):Prop:=∃ N,JH N xd xn xl
theorem agX {g:ak} {n0:Option Addr} {o0:Nat} (xd:Dc) (xn:Int) {v1:Option Addr} {k1:Nat} (xl:List PH) (s0:bG g qh [.slice n0 xd.1.length o0] xd.1) (B1:bG g (.slice yP) [.slice v1 xl.length k1] xl) (hG0:bP g 0)  (hp:R8 xd xn xl):bE prog 23 #[.agg (aD xd n0 o0),iv xn,.slice v1 xl.length k1] g (.bool (ug xd xn xl)):=by
 obtain ⟨N,hp⟩:=hp
 exact (Ou N).2.2 _ xd xn xl s0 B1 hG0 hp
end
end Go.Proofs.YtdapgmigogpdcaaGreatDoor.Ma
namespace Go.Proofs.YtdapgmigogpdcaaGreatDoor.Ma
open Go Go.iQ Go.RowKit Ti Do Se Sr tF
set_option linter.unusedVariables false
noncomputable section
def U9 (l:List ND):Nat→Int→Int→Bool
 | 0,_,_=>false
 | k+1,p,a=>if decide (p≥0)=true then (if (p==a)=true then true else U9 l k (par l p.toNat) a) else false
def U_ (j b:Int):List Int→Bool→Bool
 | [],_=>false
 | x::l,f=>if (x==b&&(j==126||f))=true then true else U_ j b l false
def sb1 (j a b:Int):List Int→Bool
 | []=>false
 | x::l=>if (x==a&&U_ j b l true)=true then true else sb1 j a b l
def nH (d:DC) (a b j:Int):Bool :=
 if (j==62)=true then par d.1 b.toNat==a else if (j==32)=true then U9 d.1 42 (par d.1 b.toNat) a else sb1 j a b (dY d b)
theorem adw {d:DC} (hG:gP d) {a:Int} (ha:nC d a) (he:eP d a=true):0<a:=by
 have h0:=ha.1
 apply oh
 intro hn
 have:a=0:=om
 subst this
 have h1:=hG.kind 0 (by have:=hG.pos; omega)
 have h1:((d.1.getD 0 default).1==1)=true:=h1
 have h2:((d.1.getD 0 default).1==2)=true:=he
 have h1:=eq_of_beq h1
 have h2:=eq_of_beq h2
 omega
theorem Pd {l:List ND} (hr:par l 0 = -1) {a:Int} (ha:0<a):∀ (k:Nat) (p:Int),U9 l k p a=true↔a ∈ ancN l k p
 | 0,p=>by simp [U9,ancN]
 | k+1,p=>by
  rw [U9,ancN]
  by_cases hp:p>0
  ·rw [bn (f_ (om)),bn (f_ hp),eG]
   by_cases hpa:p=a
   ·simp [hpa]
   rw [aQ (by simp [hpa]),Pd hr ha k]
   constructor
   ·exact .inr
   rintro (h | h)
   ·exact absurd h.symm hpa
   exact h
  rw [aQ (show ¬ decide (p>0)=true by simpa using hp)]
  by_cases h0:p=0
  ·subst h0
   rw [bn (by decide),aQ (by simp; omega),show par l (0:Int).toNat = -1 from hr]
   cases k with
   | zero=>simp [U9]
   | succ k=>rw [U9,aQ (by decide)]; simp
  rw [aQ (by simp; omega)]; simp
theorem Ck {j b:Int}:∀ {l:List Int} {f:Bool},b ∉ l→U_ j b l f=false
 | [],_,_=>rfl
 | x::l,f,h=>by
  have hx:¬ x=b:=fun e=>h (by rw [e]; exact cO ..)
  have hf:(x==b)=false:=dR.2 hx
  rw [U_,hf,gZ,aQ (by decide)]
  exact Ck fun hm=>h (dS _ hm)
theorem Ld {j a b:Int}:∀ {l:List Int},b ∉ l→sb1 j a b l=false
 | [],_=>rfl
 | x::l,h=>by
  have hm:b ∉ l:=fun hm=>h (dS _ hm)
  rw [sb1,Ck hm,uS,aQ (by decide)]
  exact Ld hm
theorem NT {j b:Int} {post:List Int} (hq:b ∉ post):∀ {pre:List Int} {f:Bool},b ∉ pre→U_ j b (pre++b::post) f=(j==126||(f&&pre.isEmpty))
 | [],f,_=>by
  rw [jS,U_,uG,fu,List.isEmpty_nil,Bool.and_true]
  cases h:(j==126||f) with
  | true=>rw [bn rfl]
  | false=>rw [aQ (by decide),Ck hq]
 | x::pre,f,h=>by
  have hx:¬ x=b:=fun e=>h (by rw [e]; exact cO ..)
  have hf:(x==b)=false:=dR.2 hx
  rw [iM,U_,hf,gZ,aQ (by decide),NT hq fun hm=>h (dS _ hm)]
  simp
theorem NU {j a b:Int} {post:List Int} (hq:b ∉ post):∀ {pre:List Int},b ∉ pre→(sb1 j a b (pre++b::post)=true↔if (j==126)=true then a ∈ pre else pre.getLast? = some a)
 | [],_=>by
  rw [jS,sb1,Ck hq,uS,aQ (by decide),Ld hq]
  simp
 | x::pre,h=>by
  have hm:b ∉ pre:=fun hm=>h (dS _ hm)
  rw [iM,sb1,NT hq hm,fu]
  have ih:=NU (j:=j) (a:=a) hq hm
  by_cases hj:(j==126)=true
  ·rw [bn hj] at ih ⊢
   rw [hj,pI,Bool.and_true,eG]
   by_cases hx:x=a
   ·simp [hx]
   rw [aQ (by simp [hx]),ih]
   constructor
   ·exact .inr
   rintro (h | h)
   ·exact absurd h.symm hx
   exact h
  rw [aQ hj] at ih ⊢
  rw [Bool.eq_false_iff.2 hj,lq]
  cases pre with
  | nil =>
   rw [jS] at ih ⊢
   have hn:sb1 j a b (b::post)=false:=by
    rw [sb1,Ck hq,uS,aQ (by decide),Ld hq]
   rw [hn]
   simp
  | cons y pre =>
   rw [List.isEmpty_cons,uS,aQ (by decide),ih,List.getLast?_cons_cons]
theorem Kg {b:Int} {post:List Int}:∀ {pre:List Int} (i:Nat),b ∉ pre→jW (fun x=>b==x) (pre++b::post) i=((i+pre.length:Nat):Int)
 | [],i,_=>by rw [jS,jW,bn (uG b)]; rfl
 | x::pre,i,h=>by
  have hx:¬ b=x:=fun e=>h (by rw [e]; exact cO ..)
  rw [iM,jW,aQ (by simp [hx]),Kg (i+1) fun hm=>h (dS _ hm),cK]
  congr 1; omega
theorem P6 {d:DC} (hG:gP d) {n:Int} (hn:nC d n):(dY d n).Nodup:=by
 unfold dY
 split
 ·simp
 rename_i hc
 have hc:¬ par d.1 n.toNat<0:=by simpa using hc
 have hp:=CL hG hn hc
 exact (hG.kids.nodup _ (by have:=hp.1; have:=hp.2; omega)).filter _
theorem P5 {d:DC} (hG:gP d) {n:Int} (hn:nC d n) (he:eP d n=true):∃ pre post,dY d n=pre++n::post∧n ∉ pre∧n ∉ post∧(cu d n).2=(pre.length:Int):=by
 have hm:=OC hG hn he
 have hd:=P6 hG hn
 obtain ⟨pre,post,e⟩:=List.append_of_mem hm
 rw [e] at hd
 have h1:=List.nodup_append.1 hd
 have h2:n ∉ pre:=fun h=>h1.2.2 n h n (cO ..) rfl
 have h3:n ∉ post:=(zL.1 h1.2.1).1
 refine ⟨pre,post,e,h2,h3,?_⟩
 show (if decide (par d.1 n.toNat<0)=true then (0:Int) else jW (fun x=>n==x) (dY d n) 0)=_
 split
 ·rename_i hc
  unfold dY at e
  rw [bn hc] at e
  cases pre with
  | nil=>rfl
  | cons x pre =>
   have:=ay List.length e
   simp at this
 rw [e,Kg 0 h2,su]
theorem aaY {j:Int} (h:zn j=true):j=32∨j=62∨j=43∨j=126:=by
 unfold zn Dy at h
 simp only [jK,xk,oo,dU,dI] at h
 rcases h with h | h | h | h
 ·exact .inl (by rw [← h]; rfl)
 ·exact .inr (.inl (by rw [← h]; rfl))
 ·exact .inr (.inr (.inl (by rw [← h]; rfl)))
 exact .inr (.inr (.inr (by rw [← h]; rfl)))
theorem Fb {l:List Int} {a:Int}:a ∈ l.take 1↔l.head? = some a:=by
 cases l with
 | nil=>simp
 | cons x l=>simp [eq_comm]
theorem zX {d:DC} (hG:gP d) {a b j:Int} (hb:nC d b) (Mk:eP d b=true) (ha:nC d a) (hea:eP d a=true) (hj:zn j=true):nH d a b j=true↔a ∈ mnxS d b j:=by
 have h0:=adw hG ha hea
 have ah0:∀ j:Int,(j==62)=false→(j==32)=false→(nH d a b j=true↔if (j==126)=true then a ∈ (cu d b).1.take (cu d b).2.toNat else ((cu d b).1.take (cu d b).2.toNat).getLast? = some a):=by
  intro j h1 h2
  unfold nH
  rw [aQ (by rw [h1]; decide),aQ (by rw [h2]; decide)]
  obtain ⟨pre,post,e,p1,p2,e2⟩:=P5 hG hb Mk
  have e1:(cu d b).1=pre++b::post:=e
  rw [e1,e2,e,eB,List.take_left',NU p2 p1]
  rfl
 rcases aaY hj with rfl | rfl | rfl | rfl
 ·unfold nH mnxS
  rw [aQ (by decide),bn (by decide),bn (by decide),aQ (by decide)]
  exact Pd hG.kids.root h0 42 _
 ·unfold nH mnxS
  rw [bn (by decide),bn (by decide),bn (by decide),Fb,dI]
  show _↔(ancN d.1 42 (par d.1 b.toNat)).head? = some a
  rw [ancN]
  split
  ·rw [List.head?_cons,jy]
  rename_i hc
  have hc:¬ par d.1 b.toNat>0:=by simpa using hc
  constructor
  ·intro h; omega
  intro h; cases h
 ·rw [ah0 43 (by decide) (by decide),aQ (by decide)]
  unfold mnxS
  rw [aQ (by decide),bn (by decide),Fb,List.head?_reverse]
 rw [ah0 126 (by decide) (by decide),bn (by decide)]
 unfold mnxS
 rw [aQ (by decide),aQ (by decide),List.mem_reverse]
def AZ (d:DC):List Int:=(List.range d.1.length).map fun (i:Nat)=>(i:Int)
theorem N7 {d:DC} {n:Int}:n ∈ AZ d↔nC d n:=by
 unfold AZ nC
 rw [List.mem_map]
 constructor
 ·rintro ⟨i,hi,rfl⟩
  have:=w_.1 hi
  omega
 rintro ⟨h1,h2⟩
 exact ⟨n.toNat,w_.2 (om),om⟩
def zh (d:DC):List (Int→Bool)→List Int→List Int→List Int
 | [],_,now=>now
 | f::fs,js,now=>zh d fs js.tail ((AZ d).filter fun i=>(now.any fun m=>nH d m i (js.headD 0))&&f i)
theorem Jr {nx:Int→Int→List Int} {d:DC} {fs:List (Int→Bool)} {js:List Int} {n:Int} (hf:∀ f ∈ fs,∀ n,f n=true→eP d n=true) (h:rch nx fs js n=true):eP d n=true:=by
 cases fs with
 | nil=>exact Bool.noConfusion h
 | cons f fs =>
  rw [rch,aG] at h
  exact hf f (cO ..) n h.1
theorem Oj {d:DC} (hG:gP d):∀ (fs:List (Int→Bool)) (js:List Int) (now:List Int) (gs:List (Int→Bool)) (ks:List Int),fs.length=js.length→(∀ z ∈ js,zn z=true)→(∀ f ∈ fs,∀ n,f n=true→eP d n=true)→(∀ f ∈ gs,∀ n,f n=true→eP d n=true)→gs≠[] →
  (∀ x,x ∈ now↔nC d x∧rch (mnxS d) gs ks x=true)→∀ x,x ∈ zh d fs js now↔nC d x∧rch (mnxS d) (fs.reverse++gs) (js.reverse++ks) x=true
 | [],[],now,gs,ks,_,_,_,_,_,h,x=>by simpa [zh] using h x
 | [],_::_,_,_,_,hl,_,_,_,_,_,_=>by cases hl
 | _::_,[],_,_,_,hl,_,_,_,_,_,_=>by cases hl
 | f::fs,j::js,now,gs,ks,hl,hj,hf,hg,hne,h,x=>by
  have hgf:∀ f' ∈ f::gs,∀ n,f' n=true→eP d n=true:=by
   intro f' hf' n hn
   rcases eG.1 hf' with rfl | hf'
   ·exact hf _ (cO ..) n hn
   exact hg _ hf' n hn
  have:=Oj hG fs js ((AZ d).filter fun i=>(now.any fun m=>nH d m i j)&&f i) (f::gs) (j::ks) (by simpa using hl) (fun z hz=>hj z (dS _ hz)) (fun g hg=>hf g (dS _ hg)) hgf (by simp) (fun x=>by
   rw [pG,N7,Js hne,aG,aG,xm,xm]
   constructor
   ·rintro ⟨hx,⟨m,hm,hs⟩,hfx⟩
    have hm2:=(h m).1 hm
    exact ⟨hx,hfx,m,(zX hG hx (hf _ (cO ..) x hfx) hm2.1 (Jr hg hm2.2) (hj j (cO ..))).1 hs,hm2.2⟩
   rintro ⟨hx,hfx,m,hm,hr⟩
   have hmd:=LK hG hx hm
   exact ⟨hx,⟨m,(h m).2 ⟨hmd,hr⟩,(zX hG hx (hf _ (cO ..) x hfx) hmd (Jr hg hr) (hj j (cO ..))).2 hm⟩,hfx⟩) x
  rw [show zh d (f::fs) (j::js) now=zh d fs js ((AZ d).filter fun i=>(now.any fun m=>nH d m i j)&&f i) from rfl,this]
  simp
def VR (d:DC) (fs:List (Int→Bool)) (js:List Int) (n:Int):Bool :=
 fs.getLastD (fun _=>false) n&&(zh d fs.tail js ((AZ d).filter (fs.headD fun _=>false))).any fun m=>m==n
theorem any_eq {l:List Int} {n:Int}:(l.any fun m=>m==n)=true↔n ∈ l:=by
 rw [xm]
 constructor
 ·rintro ⟨m,hm,h⟩
  rw [← eq_of_beq h]; exact hm
 intro h
 exact ⟨n,h,uG n⟩
theorem Lx {d:DC} (hG:gP d) {fs:List (Int→Bool)} {js:List Int} (hne:fs≠[]) (hl:js.length+1=fs.length) (hj:∀ z ∈ js,zn z=true) (hf:∀ f ∈ fs,∀ n,f n=true→eP d n=true) {n:Int} (hn:nC d n):VR d fs js n=rch (mnxS d) fs.reverse js.reverse n:=by
 cases fs with
 | nil=>exact absurd rfl hne
 | cons f fs =>
  have hl:fs.length=js.length:=by simp at hl; omega
  have key:=Oj hG fs js ((AZ d).filter f) [f] [] hl hj (fun g hg=>hf g (dS _ hg)) (fun g hg=>hf g (by rw [il] at hg; subst hg; exact cO ..)) (by simp) (fun x=>by
   rw [pG,N7,rch,List.isEmpty_nil,pI,Bool.and_true]) n
  rw [gK] at key
  have key:n ∈ zh d fs js ((AZ d).filter f)↔rch (mnxS d) (f::fs).reverse js.reverse n=true:=by
   rw [key,List.reverse_cons]
   exact ⟨fun h=>h.2,fun h=>⟨hn,h⟩⟩
  unfold VR
  rw [uR,aG,any_eq]
  show _∧n ∈ zh d fs js ((AZ d).filter f)↔_
  rw [key]
  constructor
  ·exact fun h=>h.2
  intro h
  refine ⟨?_,h⟩
  have:(f::fs).getLastD (fun _=>false)=(f::fs).reverse.headD (fun _=>false):=by
   rw [List.getLastD_eq_getLast?,List.headD_eq_head?_getD,List.head?_reverse]
  rw [this]
  cases hr:(f::fs).reverse with
  | nil=>simp at hr
  | cons g gs =>
   rw [hr,rch,aG] at h
   exact h.1
mutual
def Yv (d:DC):Ts→Int→Bool
 | .mk x l,n=>Ka d x n (N9 d l n)
def N9 (d:DC):List Ph→Int→Bool
 | [],_=>false
 | (p,js)::l,n=>VR d (Jo d p) js n||N9 d l n
def Jo (d:DC):List (List Ts)→List (Int→Bool)
 | []=>[]
 | s::p=>(fun n=>QA d s n&&eP d n)::Jo d p
def QA (d:DC):List Ts→Int→Bool
 | [],_=>true
 | t::s,n=>Yv d t n&&QA d s n
end
def okK (t:Ts):Prop:=t.All fun _ l=>∀ q ∈ l,okQ q
def V8 (l:List Ph):Prop:=∀ q ∈ l,okQ q∧∀ s ∈ q.1,∀ t ∈ s,okK t
theorem wO (d:DC):∀ p:List (List Ts),Jo d p=p.map fun s n=>QA d s n&&eP d n
 | []=>rfl
 | s::p=>by rw [Jo,wO d p]; rfl
theorem EU {d:DC} (hG:gP d):∀ {fs gs:List (Int→Bool)} {js:List Int} {n:Int},fs.length=gs.length→(∀ i (h:i<fs.length) (h':i<gs.length) n,nC d n→fs[i] n=gs[i] n)→nC d n→rch (mnxS d) fs js n=rch (mnxS d) gs js n
 | [],[],_,_,_,_,_=>rfl
 | [],_::_,_,_,h,_,_=>by cases h
 | _::_,[],_,_,h,_,_=>by cases h
 | f::fs,g::gs,js,n,hl,h,hn=>by
  have h0:=h 0 (by simp) (by simp) n hn
  have h0:f n=g n:=h0
  rw [rch,rch,h0]
  have hl:fs.length=gs.length:=by simpa using hl
  have he:fs.isEmpty=gs.isEmpty:=by cases fs <;> cases gs <;> first | rfl | cases hl
  rw [he]
  congr 2
  have:∀ m ∈ mnxS d n (js.headD 0),rch (mnxS d) fs js.tail m=rch (mnxS d) gs js.tail m:=fun m hm=>EU hG hl (fun i h1 h2 n hn=>h (i+1) (by simp; omega) (by simp; omega) n hn) (LK hG hn hm)
  generalize mnxS d n (js.headD 0)=l at this
  induction l with
  | nil=>rfl
  | cons x l ih=>rw [jK,jK,this x (cO ..),ih fun m hm=>this m (dS _ hm)]
def FaT (d:DC) (t:Ts):Prop:=okK t→∀ n,nC d n→Yv d t n=Ev d t n
theorem ES {d:DC}:∀ {s:List Ts},(∀ t ∈ s,FaT d t)→(∀ t ∈ s,okK t)→∀ n,nC d n→QA d s n=all1 d s n
 | [],_,_,_,_=>by rw [QA,all1]
 | t::s,h,hk,n,hn=>by
  rw [QA,all1,h t (cO ..) (hk t (cO ..)) n hn,ES (fun t ht=>h t (dS _ ht)) (fun t ht=>hk t (dS _ ht)) n hn]
theorem Rs {d:DC} (hG:gP d) {q:Ph} (h:∀ s ∈ q.1,∀ t ∈ s,FaT d t) (hk:okQ q∧∀ s ∈ q.1,∀ t ∈ s,okK t) {n:Int} (hn:nC d n):VR d (Jo d q.1) q.2 n=rch (mnxS d) (AL d q.1).reverse q.2.reverse n:=by
 obtain ⟨⟨h1,h2,h3⟩,h4⟩:=hk
 rw [Lx hG (by rw [wO]; simpa using h1) (by rw [wO,iW]; exact h2) h3 (fun f hf n hn=>by
  rw [wO,List.mem_map] at hf
  obtain ⟨s,-,rfl⟩:=hf
  exact (aG _ _ ▸ hn:_∧_).2) hn]
 rw [wO,Bn,← List.map_reverse,← List.map_reverse]
 refine EU hG (by rw [iW,iW]) (fun i hi hi' n hn=>?_) hn
 rw [List.getElem_map,List.getElem_map]
 have hm:q.1.reverse[i]'(by simpa using hi) ∈ q.1:=List.mem_reverse.1 (zN _)
 show (QA d _ n&&eP d n)=(eP d n&&all1 d _ n)
 rw [ES (h _ hm) (h4 _ hm) n hn,Bool.and_comm]
theorem za {d:DC} (hG:gP d):∀ {l:List Ph},(∀ q ∈ l,∀ s ∈ q.1,∀ t ∈ s,FaT d t)→V8 l→∀ {n:Int},nC d n→N9 d l n=yJ d l n
 | [],_,_,_,_=>by rw [N9,yJ]
 | (p,js)::l,h,hk,n,hn=>by
  rw [N9,yJ,za hG (fun q hq=>h q (dS _ hq)) (fun q hq=>hk q (dS _ hq)) hn]
  rw [Rs hG (q:=(p,js)) (h _ (cO ..)) (hk _ (cO ..)) hn]
theorem Qb {d:DC} (hG:gP d):∀ t:Ts,FaT d t:=gL.ind fun x l ih hk n hn=>by
 have hk:=gL.all_mk.1 hk
 rw [Yv,Ev,za hG ih (fun q hq=>⟨hk.1 q hq,fun s hs t ht=>hk.2 q hq s hs t ht⟩) hn]
theorem Qp {d:DC} (hG:gP d) {l:List Ph} (hk:V8 l) {n:Int} (hn:nC d n):N9 d l n=yJ d l n:=za hG (fun _ _ _ _ t _=>Qb hG t) hk hn
def OkT (t:Ts):Prop:=∀ i,xZ t i=true→okK t
theorem Oh {l:List Ph} (h:∀ q ∈ l,∀ s ∈ q.1,∀ t ∈ s,OkT t) (ho:tZ l=true):V8 l:=fun q hq=>by
 have hh:=kV ho hq
 refine ⟨hh.1,fun s hs t ht=>?_⟩
 obtain ⟨i,hi⟩:=rQ hh.2 hs
 obtain ⟨k,hk⟩:=Gn hi ht
 exact h q hq s hs t ht k hk
theorem agO:∀ t:Ts,OkT t:=gL.ind fun x l ih i h=>by
 rw [lU,aG] at h
 have h:(if ((x.1==10)||(x.1==11))=true then nV l else ((l.length:Int)==0))=true:=h.2
 have h3:tZ l=true:=by
  split at h
  ·unfold nV at h; rw [aG] at h; exact h.1
  have:l=[]:=iL (by have:=eq_of_beq h; omega)
  rw [this]; rw [tZ]
 have:=Oh ih h3
 exact gL.all_mk.2 ⟨fun q hq=>(this q hq).1,fun q hq s hs t ht=>(this q hq).2 s hs t ht⟩
theorem agQ {l:List Ph} (h:tZ l=true):V8 l:=Oh (fun _ _ _ _ t _=>agO t) h
end
end Go.Proofs.YtdapgmigogpdcaaGreatDoor.Ma
namespace Go.Proofs.YtdapgmigogpdcaaGreatDoor.Ma
open _root_.Go.Proofs.Tryz Go Go.iQ Go.RowKit Ti Do Se Sr tF Tk
set_option linter.unusedVariables false
set_option linter.unusedSimpArgs false
set_option maxHeartbeats 4000000
set_option maxRecDepth 100000
noncomputable section
def VS (xa:Int) (xb:Int) (xi:Int) (K:Bool→Prop) (m0:Int) (C15:Int→Prop):Prop :=
 (decide (m0≤1300)=true→(((w6 ((w6 (xa * m0))+xb))==xi)=true→K true)∧(((w6 ((w6 (xa * m0))+xb))==xi)=false→C15 (w6 (m0+1))))∧(decide (m0≤1300)=false→K false)
def F9 (xa:Int) (xb:Int) (xi:Int) (K:Bool→Prop):Nat→Int→Prop
 | 0,_=>False
 | k+1,m0=>VS xa xb xi K m0 (F9 xa xb xi K k)
def Z6 (xa:Int) (xb:Int) (xi:Int) (K:Bool→Prop):Prop :=
 (((((((decide (xa<(-1000)))||decide (xa>1000))||(decide (xb<(-1000))))||decide (xb>1000))||decide (xi<1))||decide (xi>200))=true→K false)∧(((((((decide (xa<(-1000)))||decide (xa>1000))||(decide (xb<(-1000))))||decide (xb>1000))||decide (xi<1))||decide (xi>200))=false→∃ k,F9 xa xb xi K k 0)
theorem Z5 {g:ak} (xa:Int) (xb:Int) (xi:Int) (K:Bool→Prop)
  (hF:Z6 xa xb xi K):az prog 79 #[iv xa,iv xb,iv xi] g [] (fun g' H' v=>∃ (r0:Bool),v=.bool r0∧H'=[]∧K r0):=by
 refine aP 41 func79 rfl fun w0=>?_
 let F:=decide (xa<(-1000))
 refine ae (av 1 [(0,iv xa),(1,iv xb),(2,iv xi)] kr (aa (aH (ae (ag 3 [0,1,2] [(10,.bool F)] ?_)))))
 let C:=F||decide (xa>1000)
 refine Ok.w 3 [(0,iv xa),(1,iv xb),(2,iv xi),(13,.bool C)] (fun AA=>?_) ?_
 ·refine Ok.a 10 F rfl (fun hc2=>?_) (fun hc2=>?_)
  ·skip
   refine ag 3 [0,1,2] [(13,.bool true)] ?_
   refine aB 13 C (df hc2) (ag 0 [0,1,2] [(13,.bool C)] ?_)
   exact AA
  skip
  refine ag 3 [0,1,2] [(13,.bool (decide (xa>1000)))] ?_
  refine aB 13 C (bR hc2) (ag 0 [0,1,2] [(13,.bool C)] ?_)
  exact AA
 refine ag 1 [0,1,2] [(14,.bool C)] ?_
 let G:=decide (xb<(-1000))
 let A:=C||G
 refine Ok.w 3 [(0,iv xa),(1,iv xb),(2,iv xi),(17,.bool A)] (fun HY=>?_) ?_
 ·refine Ok.a 14 C rfl (fun hc4=>?_) (fun hc4=>?_)
  ·skip
   refine ag 3 [0,1,2] [(17,.bool true)] ?_
   refine aB 17 A (df hc4) (ag 0 [0,1,2] [(17,.bool A)] ?_)
   exact HY
  skip
  refine ag 3 [0,1,2] [(17,.bool G)] ?_
  refine aB 17 A (bR hc4) (ag 0 [0,1,2] [(17,.bool A)] ?_)
  exact HY
 refine ag 1 [0,1,2] [(18,.bool A)] ?_
 let D:=A||decide (xb>1000)
 refine Ok.w 3 [(0,iv xa),(1,iv xb),(2,iv xi),(21,.bool D)] (fun Bl=>?_) ?_
 ·refine Ok.a 18 A rfl (fun hc6=>?_) (fun hc6=>?_)
  ·skip
   refine ag 3 [0,1,2] [(21,.bool true)] ?_
   refine aB 21 D (df hc6) (ag 0 [0,1,2] [(21,.bool D)] ?_)
   exact Bl
  skip
  refine ag 3 [0,1,2] [(21,.bool (decide (xb>1000)))] ?_
  refine aB 21 D (bR hc6) (ag 0 [0,1,2] [(21,.bool D)] ?_)
  exact Bl
 refine ag 1 [0,1,2] [(22,.bool D)] ?_
 let B:=D||decide (xi<1)
 refine Ok.w 3 [(0,iv xa),(1,iv xb),(2,iv xi),(25,.bool B)] (fun YS=>?_) ?_
 ·refine Ok.a 22 D rfl (fun hc8=>?_) (fun hc8=>?_)
  ·skip
   refine ag 3 [0,1,2] [(25,.bool true)] ?_
   refine aB 25 B (df hc8) (ag 0 [0,1,2] [(25,.bool B)] ?_)
   exact YS
  skip
  refine ag 3 [0,1,2] [(25,.bool (decide (xi<1)))] ?_
  refine aB 25 B (bR hc8) (ag 0 [0,1,2] [(25,.bool B)] ?_)
  exact YS
 refine ag 1 [0,1,2] [(26,.bool B)] ?_
 let E:=B||decide (xi>200)
 refine Ok.w 3 [(0,iv xa),(1,iv xb),(2,iv xi),(29,.bool E)] (fun Xc=>?_) ?_
 ·refine Ok.a 26 B rfl (fun k1=>?_) (fun k1=>?_)
  ·skip
   refine ag 3 [0,1,2] [(29,.bool true)] ?_
   refine aB 29 E (df k1) (ag 0 [0,1,2] [(29,.bool E)] ?_)
   exact Xc
  skip
  refine ag 3 [0,1,2] [(29,.bool (decide (xi>200)))] ?_
  refine aB 29 E (bR k1) (ag 0 [0,1,2] [(29,.bool E)] ?_)
  exact Xc
 refine aa (aM hF (fun y1 hF=>?_) (fun y1 hF=>?_))
 ·refine ae (av 1 [(6,.bool false)] kr (aa (Ok.ret (aC ?_))))
  exact dD false hF
 refine Ok.k (Ok.t (aH (ae (ag 1 [0,1,2] [(7,iv 0)] ?_))))
 refine aa (Ok.block ?_)
 obtain ⟨k,hF⟩:=hF
 refine gF (fun k a W=>∃ (m0:Int),fJ 41 [(0,iv xa),(1,iv xb),(2,iv xi),(7,iv m0)] a∧dh w0 [] g W∧F9 xa xb xi K k m0) k ?_ ?_
 ·
  exact fun _ _ u v=>⟨0,fA u v hF⟩
 clear hF
 rintro (_ | k15) _ _ ⟨m0,q⟩
 exact (q.2.2:False).elim
 refine jn (fun hF=>?_) _ _ q
 refine aH (ae (ag 2 [0,1,2,7] [(31,.bool (decide (m0≤1300)))] ?_))
 refine aa (aM hF (fun abQ hF=>?_) (fun abQ hF=>?_))
 ·refine Ok.k (Ok.t (aH (Ok.block (ae (ag 7 [0,1,2,7] [(40,.bool ((w6 ((w6 (xa * m0))+xb))==xi))] ?_)))))
  refine aa (aM hF (fun TG hF=>?_) (fun TG hF=>?_))
  ·refine ae (av 1 [(6,.bool true)] kr (aa (Ok.ret (aU (aC (aC (aU (aC ?_))))))))
   exact dD true hF
  refine Ok.k (bJ (Ok.t (aS (ag 3 [0,1,2] [(7,iv (w6 (m0+1)))] ?_))))
  refine bY (Ok.t ?_)
  exact fun _ _ u v=>⟨k15,nl,w6 (m0+1),fA u v hF⟩
 refine fU (aA (aA (aO (Ok.t (ae (av 1 [(6,.bool false)] kr (aa (Ok.ret ?_))))))))
 exact dD false hF
theorem aaD (a k:Int) (ha : -1000≤a) (ha':a≤1000) (hk:0≤k) (hk':k≤1300) : -1300000≤a * k∧a * k≤1300000:=by
 have h1:=Int.mul_le_mul_of_nonneg_right ha hk
 have h2:=Int.mul_le_mul_of_nonneg_right ha' hk
 omega
theorem Wi {a b i:Int} (k:Nat) (h:a * k+b=i):nX a b i=true:=by
 unfold nX
 by_cases h0:a=0
 ·subst h0
  rw [bn rfl,dI]; omega
 rw [aQ h0]
 have e:i - b=a * k:=om
 rw [e,Int.mul_tmod_right,Int.mul_tdiv_cancel_left _ h0,uG,fu,dH]
 omega
theorem RU {a b i:Int} (hb : -1000≤b∧b≤1000) (hi:1≤i∧i≤200) (h:∀ j:Nat,j<1301→¬ a * j+b=i):nX a b i=false:=by
 unfold nX
 by_cases h0:a=0
 ·subst h0
  rw [bn rfl,dR]
  intro e
  exact h 0 om om
 rw [aQ h0]
 obtain ⟨d1,d2⟩:=NI (i - b) a 1200 om om
 have hq:=Int.mul_tdiv_add_tmod (i - b) a
 rw [Bool.eq_false_iff]
 intro hm
 rw [aG,dI,dH] at hm
 exact h ((i - b).tdiv a).toNat om (by rw [Int.toNat_of_nonneg hm.2]; omega)
theorem af9 (a b i:Int):Z6 a b i (fun r=>r=kz a b i):=by
 have e:(((((decide (a<(-1000))||decide (a>1000))||decide (b<(-1000)))||decide (b>1000))||decide (i<1))||decide (i>200))=LA a b i:=by
  unfold LA
  rw [uR]
  simp only [dU,dH]
  omega
 unfold Z6
 rw [e]
 refine ⟨fun h=>by unfold kz; rw [aT h],fun h=>?_⟩
 have hb : -1000≤a∧a≤1000∧-1000≤b∧b≤1000∧1≤i∧i≤200:=by
  unfold LA at h
  simp only [dC,eQ] at h
  omega
 have hn:kz a b i=nX a b i:=by unfold kz; rw [aF h]
 rw [hn]
 have loop:∀ (k m:Nat),m+k=1301→(∀ j:Nat,j<m→¬ a * j+b=i)→F9 a b i (fun r=>r=nX a b i) (k+1) (m:Int):=by
  intro k
  induction k with
  | zero =>
   intro m hm hno
   exact ⟨fun hc=>od hc,fun _=>(RU ⟨om,om⟩ ⟨om,om⟩ (by rw [show (1301:Nat)=m by omega]; exact hno)).symm⟩
  | succ k ih =>
   intro m hm hno
   obtain ⟨b1,b2⟩:=aaD a m om om om om
   refine ⟨fun _=>?_,fun hc=>oe hc⟩
   rw [gp (x:=a * (m:Int)) om,gp (x:=a * (m:Int)+b) om,gp om]
   refine ⟨fun hc=>(Wi m (eq_of_beq hc)).symm,fun hc=>ih (m+1) om fun j hj=>?_⟩
   by_cases hjm:j<m
   ·exact hno j hjm
   obtain rfl:j=m:=om
   simpa using hc
 exact ⟨_,loop 1301 0 om (fun j hj=>absurd hj (jQ _))⟩
theorem Yw {g:ak} (xa:Int) (xb:Int) (xi:Int)  : bE prog 79 #[iv xa,iv xb,iv xi] g (.bool (kz xa xb xi)) :=
 (Z5 xa xb xi _ (af9 xa xb xi)).gv
def qQ (xd:Dc) (e8:Nd) (k0:Int) (z0:List Int):List Int :=
 (if ((xd.1.getD (Int.toNat (e8.2.2.2.2.2.getD k0.toNat default)) default).1==2)=true then (z0++([e8.2.2.2.2.2.getD k0.toNat default]:List Int)) else z0)
def Cz (xd:Dc) (e3:Nd) (k0:Int) (z0:List Int) (Zc:Int→List Int→Prop):Prop :=
 Zc (w6 (k0+1)) (qQ xd (xd.1.getD (Int.toNat e3.2.2.2.2.1) default) k0 z0)
def Gc (xd:Dc) (K:(List Int)→Prop) (e3:Nd) (k0:Int) (z0:List Int) (Zc:Int→List Int→Prop):Prop :=
 0≤e3.2.2.2.2.1∧Int.toNat e3.2.2.2.2.1<xd.1.length∧((decide (k0<((xd.1.getD (Int.toNat e3.2.2.2.2.1) default).2.2.2.2.2.length:Int)))=true→0≤k0∧k0.toNat<(xd.1.getD (Int.toNat e3.2.2.2.2.1) default).2.2.2.2.2.length∧0≤((xd.1.getD (Int.toNat e3.2.2.2.2.1) default).2.2.2.2.2.getD k0.toNat default)∧Int.toNat ((xd.1.getD (Int.toNat e3.2.2.2.2.1) default).2.2.2.2.2.getD k0.toNat default)<xd.1.length∧(((xd.1.getD (Int.toNat ((xd.1.getD (Int.toNat e3.2.2.2.2.1) default).2.2.2.2.2.getD k0.toNat default)) default).1==2)=true→(z0++([((xd.1.getD (Int.toNat e3.2.2.2.2.1) default).2.2.2.2.2.getD k0.toNat default)]:List Int)).length≤17592186044416∧Cz xd e3 k0 z0 Zc)∧(((xd.1.getD (Int.toNat ((xd.1.getD (Int.toNat e3.2.2.2.2.1) default).2.2.2.2.2.getD k0.toNat default)) default).1==2)=false→Cz xd e3 k0 z0 Zc))∧((decide (k0<((xd.1.getD (Int.toNat e3.2.2.2.2.1) default).2.2.2.2.2.length:Int)))=false→K z0)
def tV (xd:Dc) (K:(List Int)→Prop) (e3:Nd):Nat→Int→List Int→Prop
 | 0,_,_=>False
 | k+1,k0,z0=>Gc xd K e3 k0 z0 (tV xd K e3 k)
def agq (xd:Dc) (xn:Int) (K:(List Int)→Prop):Prop :=
 0≤xn∧xn.toNat<xd.1.length∧((decide ((xd.1.getD xn.toNat default).2.2.2.2.1<0))=true→K ([xn]:List Int))∧((decide ((xd.1.getD xn.toNat default).2.2.2.2.1<0))=false→∃ k,tV xd K (xd.1.getD xn.toNat default) k 0 ([]:List Int))
theorem aad {g:ak} {u0:Option Addr} {j0:Nat} (xd:Dc) (xn:Int) (c0:bG g qh [.slice u0 xd.1.length j0] xd.1) (K:(List Int)→Prop)
  (hF:agq xd xn K):az prog 45 #[.agg (aD xd u0 j0),iv xn] g [] (fun g' H' v=>∃ (r0:List Int),∃ (Ap:Option Addr) (Ao:Nat) (S0:List Value),v=.slice Ap r0.length Ao∧aW g' (.int .i64) S0 r0∧H'=[.own (.slice Ap r0.length Ao) 3 1 r0.length S0]∧K r0):=by
 refine aP 53 func45 rfl fun w0=>?_
 refine ae (ai (di fun eO=>?_))
 refine av 1 [(1,iv xn),(2,pv eO 0)] kr (aa (ae (aj 3 [.e 0] [1,2] [(9,.slice u0 xd.1.length j0),(10,iv xn)] ?_)))
 obtain ⟨Eu,Et,hF⟩:=hF
 have yu:=aV (l:=xd.1) default Et
 generalize hg3:(xd.1.getD xn.toNat default)=e3 at yu hF ⊢
 refine ai (af.bf (e:=yN) rfl rfl underlying22 kr c0 Eu yu rfl fun q2 o2 cs2 _ u1 hr2=>?_)
 obtain ⟨D0,E0,aqv,aqk,rfl,F0,ai6⟩:=oN hr2
 refine aj 3 [.a 4 u1] [1,2] [(5,iv e3.2.2.2.2.1)] ?_
 refine aa (aH (ae (ag 2 [1,2,5] [(15,.bool (decide (e3.2.2.2.2.1<0)))] ?_)))
 refine aa (aM hF (fun hc4 hF=>?_) (fun hc4 hF=>?_))
 ·refine ae (av 1 [(16,iv xn)] kr ?_)
  have hL5:aW g (.int .i64) ([iv xn]:List Value) ([xn]:List Int):=(dB (c:=[iv xn]) rfl rfl)
  refine ai (gG hL5 fun b5=>?_)
  refine av 1 [(4,.slice (some ⟨b5,0,none⟩) ([xn]:List Int).length 1)] kr (aa (Ok.ret (aC ?_)))
  exact Pj [0] (bq w0 g) ⟨([xn]:List Int),(some ⟨b5,0,none⟩),1,([iv xn]:List Value),rfl,hL5,rfl,hF⟩
 refine Ok.k (Ok.t (ae (ag 1 [2,5] [(6,.slice none 0 0)] ?_)))
 have hL6:aW g (.int .i64) [] []:=rfl
 refine fO 3 1 (aa (aH (ae (ag 1 [2,5] [(6,.slice none ([]:List Int).length 0),(7,iv 0)] ?_))))
 refine aa (Ok.block ?_)
 obtain ⟨k,hF⟩:=hF
 refine gF (fun k a W=>∃ a0:ak,aY w0 g a0∧∃ (k0:Int) (s0:Option Addr) (b0:Nat) (z0:List Int) (e0:List Value),aW a0 (.int .i64) e0 z0∧fJ 53 [(2,pv eO 0),(5,iv e3.2.2.2.2.1),(6,.slice s0 z0.length b0),(7,iv k0)] a∧dh w0 [.own (.slice s0 z0.length b0) 3 1 z0.length e0,.blk eO (.cells (aD xd u0 j0) 24)] a0 W∧tV xd K e3 k k0 z0) k ?_ ?_
 ·
  exact fun _ _ u v=>⟨g,bq w0 g,0,none,0,([]:List Int),[],hL6,fA u v hF⟩
 clear hF
 rintro (_ | k19) _ _ ⟨a0,K0,k0,s0,b0,z0,e0,i0,q⟩
 exact (q.2.2:False).elim
 refine jn (fun hF=>?_) _ _ q
 replace c0:=c0.mono K0.1
 refine aH (ae (aj 4 [.e 1] [2,5,6,7] [(18,iv k0),(20,.slice u0 xd.1.length j0),(21,iv e3.2.2.2.2.1)] ?_))
 obtain ⟨MG,h18,hF⟩:=hF
 have Ml:=aV (l:=xd.1) default h18
 generalize YP:(xd.1.getD (Int.toNat e3.2.2.2.2.1) default)=e8 at Ml hF ⊢
 refine ai (af.bf (e:=yN) rfl rfl underlying22 kr c0 MG Ml rfl fun q7 o7 cs7 _ ab1 S9=>?_)
 obtain ⟨auP,auv,auO,auu,rfl,ary,arx⟩:=oN S9
 refine aj 4 [.a 5 ab1] [2,5,6,7] [(26,.bool (decide (k0<(e8.2.2.2.2.2.length:Int))))] ?_
 refine aa (ed hF rfl (fun mW=>?_) (fun mW=>?_))
 ·replace hF:=hF.1 mW
  refine Ok.k (Ok.t (Ok.cut (fun a W=>∃ G0:ak,aY w0 a0 G0∧∃ (o0:Option Addr) (t0:Nat) (g0:List Value),aW G0 (.int .i64) g0 (qQ xd e8 k0 z0)∧fJ 53 [(2,pv eO 0),(5,iv e3.2.2.2.2.1),(6,.slice o0 (qQ xd e8 k0 z0).length t0),(7,iv k0)] a∧dh w0 [.own (.slice o0 (qQ xd e8 k0 z0).length t0) 3 1 (qQ xd e8 k0 z0).length g0,.blk eO (.cells (aD xd u0 j0) 24)] G0 W∧Cz xd e3 k0 z0 (tV xd K e3 k19)) ?_ ?_))
  ·
   refine Ok.block (aH (wz [] [] [1,1] [(0,true),(1,true),(2,true),(3,true),(4,true),(5,true),(7,true),(6,false),(8,true),(9,false),(10,false)] ?_))
   refine eF.hd (fM.s (v:=.agg (aD xd u0 j0)) (a_ 1 2 (aD xd u0 j0) rfl rfl underlying24 rfl kr kr kr) rfl rfl ?_)
   refine iI 1 [2,5,6,7] [(29,.agg (aD xd u0 j0)),(30,pv eO 0)] ?_
   refine eF.hd (fM.s (v:=.slice u0 xd.1.length j0) (aR 1 rfl rfl underlying22 rfl kr) rfl rfl ?_)
   refine iI 1 [2,5,6,7,29] [(31,.slice u0 xd.1.length j0),(32,iv e3.2.2.2.2.1)] ?_
   refine eF.hd (fM.bf (e:=yN) rfl rfl underlying22 kr c0 MG Ml rfl fun q10 o10 Qj _ H0 j1=>?_)
   obtain ⟨Pe,O_,A0,I0,rfl,HZ,M0⟩:=oN j1
   refine iI 2 [2,5,6,7,29] [(34,.pointer (some ⟨q10,o10+5,none⟩)),(36,iv k0)] ?_
   refine eF.t rfl rfl (af.s (v:=.slice A0 e8.2.2.2.2.2.length I0) (eX 5 H0 kr underlying46 rfl kr) rfl rfl (g_ (lC.refl _) ?_))
   obtain ⟨V1,h112,hF⟩:=hF
   have x1:=aV (l:=e8.2.2.2.2.2) default h112
   generalize Q1:(e8.2.2.2.2.2.getD k0.toNat default)=e12 at x1 hF ⊢
   refine eF.hd (fM.bf (e:=.int .i64) rfl rfl underlying46 kr M0 V1 x1 rfl fun q11 o11 ad6 _ N0 abr=>?_)
   obtain rfl:=abr
   replace N0:At a0 q11 o11 [iv e12]:=N0
   refine eF.t rfl rfl (af.s (v:=iv e12) (eX 0 N0 kr underlying3 rfl kr) rfl rfl (g_ (lC.refl _) (eF.t rfl rfl (bM (args:=#[.agg (aD xd u0 j0),iv e12]) 12 [(0,.agg (aD xd u0 j0)),(1,iv e12)] gT func44 rfl rfl rfl rfl (ae (ai (di fun aes=>?_)))))))
   refine av 1 [(1,iv e12),(2,pv aes 0)] kr (aa (ae (aj 3 [.e 0] [] [(6,.slice u0 xd.1.length j0),(7,iv e12)] ?_)))
   obtain ⟨Ie,ME,hF⟩:=hF
   have K1:=aV (l:=xd.1) default ME
   generalize Y1:(xd.1.getD e12.toNat default)=e15 at K1 hF ⊢
   refine ai (af.bf (e:=yN) rfl rfl underlying22 kr c0 Ie K1 rfl fun q14 o14 aur _ aiL amB=>?_)
   obtain ⟨asz,ar4,asy,ar3,rfl,aoP,aoO⟩:=oN amB
   refine aj 4 [.a 0 aiL] [] [(4,.bool (e15.1==2))] ?_
   refine aa (Ok.ret (bu (vs:=[.bool (e15.1==2)]) (.inl rfl) rfl (.cons (.tmp rfl) .nil) rfl (g_ (lC.refl _) (eF.nil (Ok.t (ed hF rfl (fun W0=>?_) (fun W0=>?_)))))))
   ·replace hF:=hF.1 W0
    refine aS (aj 4 [.e 2] [] [(2,pv eO 0),(5,iv e3.2.2.2.2.1),(7,iv k0),(40,.slice s0 z0.length b0),(42,.slice u0 xd.1.length j0),(43,iv e3.2.2.2.2.1)] ?_)
    refine ai (af.bf (e:=yN) rfl rfl underlying22 kr c0 MG Ml rfl fun q17 o17 ajA _ aiJ Tg=>?_)
    obtain ⟨Y8,Y6,akL,aj7,rfl,TQ,acA⟩:=oN Tg
    refine aj 3 [.a 5 aiJ] [2,5,7,40] [(46,.slice akL e8.2.2.2.2.2.length aj7),(47,iv k0)] ?_
    refine ai (af.bf (e:=.int .i64) rfl rfl underlying46 kr acA V1 x1 rfl fun q18 o18 ap8 _ O0 abm=>?_)
    obtain rfl:=abm
    replace O0:At a0 q18 o18 [iv e12]:=O0
    refine ai (af.s (v:=iv e12) (eX 0 O0 kr underlying3 rfl kr) rfl rfl ?_)
    have U1:aW a0 (.int .i64) ([iv e12]:List Value) ([e12]:List Int):=(dB (c:=[iv e12]) rfl rfl)
    refine ai (gG U1 fun b19=>?_)
    obtain ⟨anQ,hF⟩:=hF
    refine ai (eZ (e:=.int .i64) 8 17592186044416 2 0 rfl rfl rfl rfl i0 U1 underlying46 kr kr kr anQ rfl fun a20 c20 T0 ao3=>?_)
    refine ag 1 [2,5,7] [(6,.slice a20 (z0++([e12]:List Int)).length c20)] ?_
    refine bY (bJ (Ok.t ?_))
    subst Y1
    subst Q1
    refine gW 6 rfl (show (.slice a20 (z0++([e8.2.2.2.2.2.getD k0.toNat default]:List Int)).length c20:Value)=.slice a20 (qQ xd e8 k0 z0).length c20 from ay (fun l:List Int=>Value.slice a20 l.length c20) ((aT W0).symm)) ?_
    refine jZ (E':=.own (.slice a20 (qQ xd e8 k0 z0).length c20) 3 1 (qQ xd e8 k0 z0).length T0) 2 (ay (fun l:List Int=>b_.own (.slice a20 l.length c20) 3 1 l.length T0) ((aT W0).symm)) ?_
    exact fun _ _ u v=>⟨a0,bq w0 a0,a20,c20,T0,(Eq.mp (ay (fun l:List Int=>aW a0 (.int .i64) T0 l) ((aT W0).symm)) ao3),fA u v hF⟩
   replace hF:=hF.2 W0
   refine Ok.k (bJ (Ok.t ?_))
   subst Y1
   subst Q1
   refine gW 6 rfl (show (.slice s0 z0.length b0:Value)=.slice s0 (qQ xd e8 k0 z0).length b0 from ay (fun l:List Int=>Value.slice s0 l.length b0) ((aF W0).symm)) ?_
   refine jZ (E':=.own (.slice s0 (qQ xd e8 k0 z0).length b0) 3 1 (qQ xd e8 k0 z0).length e0) 1 (ay (fun l:List Int=>b_.own (.slice s0 l.length b0) 3 1 l.length e0) ((aF W0).symm)) ?_
   exact fun _ _ u v=>⟨a0,bq w0 a0,s0,b0,e0,(Eq.mp (ay (fun l:List Int=>aW a0 (.int .i64) e0 l) ((aF W0).symm)) i0),fA u v hF⟩
  clear hF
  rintro _ _ ⟨G0,z1,o0,t0,g0,H7,q⟩
  refine jn (fun hF=>?_) _ _ q
  refine aS (ag 3 [2,5,6] [(7,iv (w6 (k0+1)))] ?_)
  refine bY (Ok.t ?_)
  subst YP
  exact fun _ _ u v=>⟨k19,nl,G0,K0.trans z1,w6 (k0+1),o0,t0,(qQ xd (xd.1.getD (Int.toNat e3.2.2.2.2.1) default) k0 z0),g0,H7,fA u v hF⟩
 replace hF:=hF.2 mW
 refine fU (aA (aA (aO (Ok.t (ae (av 2 [(4,.slice s0 z0.length b0)] kr (aa (Ok.ret ?_))))))))
 exact Pj [0] K0 ⟨z0,s0,b0,e0,rfl,i0,rfl,hF⟩
theorem agp (d:DC) (n:Int) (hp:Dm d n):agq d n (fun r=>r=dY d n):=by
 obtain ⟨hG,hn⟩:=hp
 refine ⟨hn.1,oW hn,fun hc=>?_,fun hc=>?_⟩
 ·have hc:decide (par d.1 n.toNat<0)=true:=hc
  unfold dY; rw [aT hc]
 have hc:decide (par d.1 n.toNat<0)=false:=hc
 have hp:=CL hG hn (fZ hc)
 have hr:dY d n=(eY d.1 (par d.1 n.toNat).toNat).filter (eP d):=by unfold dY; rw [aF hc]
 have hkl:=um hG (oW hp)
 have hin:=fun x hx=>hG.kids.kid (par d.1 n.toNat).toNat (oW hp) x hx
 generalize dY d n=r at hr
 have he:(d.1.getD (Int.toNat (d.1.getD n.toNat default).2.2.2.2.1) default).2.2.2.2.2=eY d.1 (par d.1 n.toNat).toNat:=rfl
 have p0:(0:Int)≤(d.1.getD n.toNat default).2.2.2.2.1:=hp.1
 have p1:Int.toNat (d.1.getD n.toNat default).2.2.2.2.1<d.1.length:=oW hp
 generalize eY d.1 (par d.1 n.toNat).toNat=l at hkl hin hr he
 have loop:∀ (k i:Nat),i+k=l.length→tV d (fun a=>a=r) (d.1.getD n.toNat default) (k+1) (i:Int) ((l.take i).filter (eP d)):=by
  intro k
  induction k with
  | zero =>
   intro i h
   rw [tV]
   unfold Gc
   rw [he]
   refine ⟨p0,p1,fun hc=>od hc,fun _=>?_⟩
   rw [jR om,hr]
  | succ k ih =>
   intro i h
   have hx:=hin (l.getD i default) (h_ default om)
   have hln:((l.take i).filter (eP d)).length≤200:=gV (zM ..) (by rw [gz]; omega)
   have j26:Cz d (d.1.getD n.toNat default) (i:Int) ((l.take i).filter (eP d)) (tV d (fun a=>a=r) (d.1.getD n.toNat default) (k+1)):=by
    unfold Cz qQ
    rw [he,eB,gp om,show (i:Int)+1=((i+1:Nat):Int) by omega]
    have e:(if ((d.1.getD (Int.toNat (l.getD i default)) default).1==2)=true then ((l.take i).filter (eP d)++[l.getD i default]) else (l.take i).filter (eP d))=(l.take (i+1)).filter (eP d):=by
     rw [iA default om,zQ]
     cases hm:eP d (l.getD i default) with
     | true =>
      rw [List.filter_cons_of_pos hm,uP]
      exact aT hm
     | false =>
      rw [List.filter_cons_of_neg (by rw [hm]; decide),uP,gK]
      exact aF hm
    rw [e]
    exact ih (i+1) om
   rw [tV]
   unfold Gc
   rw [he]
   refine ⟨p0,p1,fun _=>?_,fun hc=>oe hc⟩
   rw [eB]
   exact ⟨om,om,hx.1,om,fun _=>⟨by rw [bC,mM]; omega,j26⟩,fun _=>j26⟩
 exact ⟨_,loop l.length 0 om⟩
theorem YB {g:ak} {u0:Option Addr} {j0:Nat} (xd:Dc) (xn:Int) (c0:bG g qh [.slice u0 xd.1.length j0] xd.1)  (hp:Dm xd xn):az prog 45 #[.agg (aD xd u0 j0),iv xn] g [] (fun g' H' v=>∃ (Ap:Option Addr) (Ao:Nat) (S0:List Value),v=.slice Ap (dY xd xn).length Ao∧aW g' (.int .i64) S0 (dY xd xn)∧H'=[.own (.slice Ap (dY xd xn).length Ao) 3 1 (dY xd xn).length S0]) :=
 (aad xd xn c0 _ (agp xd xn hp)).mono (by rintro g' H' v _ ⟨r0,Ap,Ao,S0,rfl,aoV,rfl,hK⟩; subst hK; exact ⟨Ap,Ao,S0,rfl,aoV,rfl⟩)
def aab (cZ:Bs) (K:Bs→Bool→Prop) (e3:Nd) (n0:Int) (C9:Int→Prop):Prop :=
 ((decide (n0<(e3.2.2.1.length:Int)))=true→0≤n0∧n0.toNat<e3.2.2.1.length∧(((e3.2.2.1.getD n0.toNat default).1==cZ)=true→K (e3.2.2.1.getD n0.toNat default).2 true)∧(((e3.2.2.1.getD n0.toNat default).1==cZ)=false→C9 (w6 (n0+1))))∧((decide (n0<(e3.2.2.1.length:Int)))=false→K ([]:Bs) false)
def Jt (cZ:Bs) (K:Bs→Bool→Prop) (e3:Nd):Nat→Int→Prop
 | 0,_=>False
 | k+1,n0=>aab cZ K e3 n0 (Jt cZ K e3 k)
def agn (xd:Dc) (xn:Int) (cZ:Bs) (K:Bs→Bool→Prop):Prop :=
 0≤xn∧xn.toNat<xd.1.length∧∃ k,Jt cZ K (xd.1.getD xn.toNat default) k 0
theorem aac {g:ak} {u0:Option Addr} {j0:Nat} (xd:Dc) (xn:Int) (cZ:Bs) (c0:bG g qh [.slice u0 xd.1.length j0] xd.1) (K:Bs→Bool→Prop)
  (hF:agn xd xn cZ K):az prog 76 #[.agg (aD xd u0 j0),iv xn,sv cZ] g [] (fun g' H' v=>∃ (r0:Bs),∃ (r1:Bool),v=.tuple #[sv r0,.bool r1]∧H'=[]∧K r0 r1):=by
 refine aP 34 func76 rfl fun w0=>?_
 refine ae (ai (di fun dK=>?_))
 refine av 2 [(1,iv xn),(2,sv cZ),(3,pv dK 0)] kr (aa (ae (aj 3 [.e 0] [2] [(11,.slice u0 xd.1.length j0),(12,iv xn)] ?_)))
 obtain ⟨Eu,Et,hF⟩:=hF
 have yu:=aV (l:=xd.1) default Et
 generalize hg3:(xd.1.getD xn.toNat default)=e3 at yu hF ⊢
 refine ai (af.bf (e:=yN) rfl rfl underlying22 kr c0 Eu yu rfl fun q2 o2 cs2 _ u1 hr2=>?_)
 obtain ⟨D0,E0,aqv,aqk,rfl,F0,ai6⟩:=oN hr2
 refine aj 3 [.a 2 u1] [2] [(8,.slice D0 e3.2.2.1.length E0)] ?_
 refine aa (aH (ae (ag 1 [2,8] [(9,iv 0)] ?_)))
 refine aa (Ok.block ?_)
 obtain ⟨k,hF⟩:=hF
 refine gF (fun k a W=>∃ (n0:Int),fJ 34 [(2,sv cZ),(8,.slice D0 e3.2.2.1.length E0),(9,iv n0)] a∧dh w0 [] g W∧Jt cZ K e3 k n0) k ?_ ?_
 ·
  exact fun _ _ u v=>⟨0,fA u v hF⟩
 clear hF
 rintro (_ | k9) _ _ ⟨n0,q⟩
 exact (q.2.2:False).elim
 refine jn (fun hF=>?_) _ _ q
 refine aH (ae (ag 4 [2,8,9] [(19,.bool (decide (n0<(e3.2.2.1.length:Int))))] ?_))
 refine aa (aM hF (fun hc4 hF=>?_) (fun hc4 hF=>?_))
 ·refine Ok.k (Ok.t (aH (Ok.block (ae (ag 2 [2,8,9] [(22,.slice D0 e3.2.2.1.length E0),(23,iv n0)] ?_)))))
  obtain ⟨vY,h16,hF⟩:=hF
  have wW:=aV (l:=e3.2.2.1) default h16
  generalize Bi:(e3.2.2.1.getD n0.toNat default)=e6 at wW hF ⊢
  refine ai (af.bf (e:=.pair (.str) (.str)) rfl rfl underlying45 kr F0 vY wW rfl fun q5 o5 cs5 _ c1 P8=>?_)
  obtain ⟨_,_,rfl,rfl,rfl⟩:=P8
  replace c1:At g q5 o5 [sv e6.1,sv e6.2]:=c1
  refine aj 3 [.a 0 c1] [2,8,9] [(26,sv e6.1),(27,sv cZ)] ?_
  refine ai (af.s (v:=.bool (e6.1==cZ)) (iE (f:=.eql) (a:=e6.1) (b:=cZ) kr kr rfl) rfl rfl (aa (ed hF rfl (fun iC=>?_) (fun iC=>?_))))
  ·replace hF:=hF.1 iC
   refine ae (av 2 [(29,.slice D0 e3.2.2.1.length E0),(30,iv n0)] kr (ai (af.bf (e:=.pair (.str) (.str)) rfl rfl underlying45 kr F0 vY wW rfl fun q8 o8 cs8 _ e1 hr8=>?_)))
   obtain ⟨_,_,rfl,rfl,rfl⟩:=hr8
   replace e1:At g q8 o8 [sv e6.1,sv e6.2]:=e1
   refine aj 4 [.a 1 e1] [] [(6,sv e6.2),(7,.bool true)] ?_
   refine aa (Ok.ret (aU (aC (aC (aU (aC ?_))))))
   exact gH (vs:=[sv e6.2,.bool true]) (.inl rfl) rfl (.cons (.tmp rfl) (.cons (.tmp rfl) .nil)) (bq w0 g) ⟨e6.2,true,rfl,rfl,hF⟩
  replace hF:=hF.2 iC
  refine Ok.k (bJ (Ok.t (aS (ag 3 [2,8] [(9,iv (w6 (n0+1)))] ?_))))
  refine bY (Ok.t ?_)
  subst Bi
  exact fun _ _ u v=>⟨k9,nl,w6 (n0+1),fA u v hF⟩
 refine fU (aA (aA (aO (Ok.t (ae (av 2 [(6,sv ([]:Bs)),(7,.bool false)] kr (aa (Ok.ret ?_))))))))
 exact gH (vs:=[sv ([]:Bs),.bool false]) (.inl rfl) rfl (.cons (.tmp rfl) (.cons (.tmp rfl) .nil)) (bq w0 g) ⟨([]:Bs),false,rfl,rfl,hF⟩
def jV (d:DC) (n:Int) (w:Bs):Bs×Bool:=jI (lF d n).2.2.1 w
def PG (d:DC) (n:Int) (_:Bs):Prop:=gP d∧nC d n
theorem agm (d:DC) (n:Int) (w:Bs) (hp:PG d n w):agn d n w (fun a b=>(a,b)=jV d n w):=by
 obtain ⟨hG,hn⟩:=hp
 have hl:(lF d n).2.2.1.length≤12:=(Ig hG hn).1
 refine ⟨hn.1,oW hn,?_⟩
 show ∃ k,Jt w (fun a b=>(a,b)=jV d n w) (lF d n) k 0
 have hr:jV d n w=jI (lF d n).2.2.1 w:=rfl
 generalize jV d n w=r at hr
 generalize lF d n=x at hl hr
 have loop:∀ (k i:Nat),i+k=x.2.2.1.length→r=jI (x.2.2.1.drop i) w→Jt w (fun a b=>(a,b)=r) x (k+1) (i:Int):=by
  intro k
  induction k with
  | zero =>
   intro i h h2
   rw [fF om,jI] at h2
   exact ⟨fun hc=>od hc,fun _=>h2.symm⟩
  | succ k ih =>
   intro i h h2
   rw [dm (l:=x.2.2.1) default om,jI] at h2
   refine ⟨fun _=>?_,fun hc=>oe hc⟩
   rw [eB]
   refine ⟨om,om,fun hc=>?_,fun hc=>?_⟩
   ·rw [aT hc] at h2; exact h2.symm
   rw [aF hc] at h2
   rw [gp om]
   exact ih (i+1) om h2
 exact ⟨_,loop x.2.2.1.length 0 om hr⟩
theorem Rz {g:ak} {u0:Option Addr} {j0:Nat} (xd:Dc) (xn:Int) (cZ:Bs) (c0:bG g qh [.slice u0 xd.1.length j0] xd.1)  (hp:PG xd xn cZ):bE prog 76 #[.agg (aD xd u0 j0),iv xn,sv cZ] g (.tuple #[sv ((jV xd xn cZ).1),.bool (jV xd xn cZ).2]) :=
 (aac xd xn cZ c0 _ (agm xd xn cZ hp)).gives (by rintro g' H' v _ ⟨r0,r1,rfl,rfl,hK⟩; obtain ⟨rfl,rfl⟩:r0=(jV xd xn cZ).1∧r1=(jV xd xn cZ).2:=⟨ay (fun z=>z.1) hK,ay (fun z=>z.2) hK⟩; rfl)
def vS (xs:Bs) (y0:Int):Bool :=
 ((decide (y0<(xs.length:Int)))&&(!(sj ((xs.getD y0.toNat 0).toNat:Int))))
def xU (xs:Bs) (xw:Bs) (d0:Int) (y0:Int):Bool :=
 (decide (y0>d0)&&(((xs.take y0.toNat).drop d0.toNat)==xw))
def xS (xs:Bs) (d0:Int) (y0:Int):Int :=
 (if (vS xs y0)=true then d0 else w6 (y0+1))
def zb (xs:Bs) (d0:Int) (y0:Int) (C9:Int→Int→Prop):Prop :=
 C9 (xS xs d0 y0) (w6 (y0+1))
def wM (xs:Bs) (xw:Bs) (K:Bool→Prop) (d0:Int) (y0:Int) (C9:Int→Int→Prop):Prop :=
 (xU xs xw d0 y0=true→K true)∧(xU xs xw d0 y0=false→zb xs d0 y0 C9)
def wN (xs:Bs) (xw:Bs) (K:Bool→Prop) (d0:Int) (y0:Int) (C9:Int→Int→Prop):Prop :=
 (vS xs y0=true→zb xs d0 y0 C9)∧(vS xs y0=false→(decide (y0>d0)=true→0≤d0∧(d0:Int)≤y0∧y0≤(xs.length:Int)∧wM xs xw K d0 y0 C9)∧(decide (y0>d0)=false→wM xs xw K d0 y0 C9))
def Z9 (xs:Bs) (xw:Bs) (K:Bool→Prop) (d0:Int) (y0:Int) (C9:Int→Int→Prop):Prop :=
 ((decide (y0≤(xs.length:Int)))=true→((decide (y0<(xs.length:Int)))=true→0≤y0∧y0.toNat<xs.length∧wN xs xw K d0 y0 C9)∧((decide (y0<(xs.length:Int)))=false→wN xs xw K d0 y0 C9))∧((decide (y0≤(xs.length:Int)))=false→K false)
def qO (xs:Bs) (xw:Bs) (K:Bool→Prop):Nat→Int→Int→Prop
 | 0,_,_=>False
 | k+1,d0,y0=>Z9 xs xw K d0 y0 (qO xs xw K k)
def agd (xs:Bs) (xw:Bs) (K:Bool→Prop):Prop :=
 ∃ k,qO xs xw K k 0 0
theorem Z_ {g:ak} (xs:Bs) (xw:Bs) (K:Bool→Prop)
  (hF:agd xs xw K):az prog 77 #[sv xs,sv xw] g [] (fun g' H' v=>∃ (r0:Bool),v=.bool r0∧H'=[]∧K r0):=by
 refine aP 37 func77 rfl fun w0=>?_
 refine ae (av 1 [(0,sv xs),(1,sv xw)] kr (aa (ae (ag 1 [0,1] [(5,iv 0)] ?_))))
 refine aa (aH (ae (ag 1 [0,1,5] [(6,iv 0)] ?_)))
 refine aa (Ok.block ?_)
 obtain ⟨k,hF⟩:=hF
 refine gF (fun k a W=>∃ (d0:Int) (y0:Int),fJ 37 [(0,sv xs),(1,sv xw),(5,iv d0),(6,iv y0)] a∧dh w0 [] g W∧qO xs xw K k d0 y0) k ?_ ?_
 ·
  exact fun _ _ u v=>⟨0,0,fA u v hF⟩
 clear hF
 rintro (_ | k9) _ _ ⟨d0,y0,q⟩
 exact (q.2.2:False).elim
 refine jn (fun hF=>?_) _ _ q
 refine aH (ae (ag 4 [0,1,5,6] [(10,.bool (decide (y0≤(xs.length:Int))))] ?_))
 refine aa (aM hF (fun hc1 hF=>?_) (fun hc1 hF=>?_))
 ·refine Ok.k (Ok.t (gD [(0,sv xs),(1,sv xw),(5,iv (xS xs d0 y0)),(6,iv y0)] [] (zb xs d0 y0 (qO xs xw K k9)) ?_ (fun hF=>?_)))
  ·
   refine Ok.block (aH (gD [(0,sv xs),(1,sv xw),(5,iv d0),(6,iv y0),(23,.bool (vS xs y0))] [] (wN xs xw K d0 y0 (qO xs xw K k9)) ?_ (fun hF=>?_)))
   ·
    refine aS (ag 5 [0,1,5,6] [(17,.bool (decide (y0<(xs.length:Int))))] ?_)
    refine bN 17 hF (fun hc6 hF=>?_) (fun hc6 hF=>?_)
    ·refine ag 2 [0,1,5,6] [(17,.bool true),(18,sv xs),(19,iv y0)] ?_
     obtain ⟨QF,TV,hF⟩:=hF
     have Mm:=aV (l:=xs) (0:UInt8) TV
     generalize YQ:(xs.getD y0.toNat 0)=e7 at Mm hF ⊢
     let A:=(e7.toNat:Int)
     refine dW (af.s (v:=.int .u8 A) (dO (k:=.i64) (i:=y0) (s:=xs) (b:=e7) kr kr underlying9 QF Mm) rfl rfl (aj 3 [.k (X5 A)] [0,1,5,6] [(23,.bool (!(sj A)))] ?_))
     refine bY (Ok.t ?_)
     subst YQ
     refine aB 23 (vS xs y0) (aZ hc6) ?_
     exact fz hF
    refine ag 6 [0,1,5,6] [(23,.bool false)] ?_
    refine aa (aB 23 (vS xs y0) (bW hc6) ?_)
    exact fz hF
   refine aM hF (fun hc2 hF=>?_) (fun hc2 hF=>?_)
   ·refine fU (aA (aO (Ok.t (gW 5 rfl (show (iv d0:Value)=iv (xS xs d0 y0) from ay (Value.int .i64) ((aT hc2).symm)) ?_))))
    exact fz hF
   refine Ok.k (Ok.t (aH (gD [(0,sv xs),(1,sv xw),(6,iv y0),(34,.bool (xU xs xw d0 y0))] [] (wM xs xw K d0 y0 (qO xs xw K k9)) ?_ (fun hF=>?_))))
   ·
    refine aS (ag 4 [0,1,5,6] [(27,.bool (decide (y0>d0)))] ?_)
    refine bN 27 hF (fun hc4 hF=>?_) (fun hc4 hF=>?_)
    ·refine ag 3 [0,1,6] [(27,.bool true),(28,sv xs),(29,iv d0),(30,iv y0)] ?_
     obtain ⟨Ei,H_,h25,hF⟩:=hF
     refine dW (af.s (bZ (s:=xs) (l:=d0) (h:=y0) kr underlying9 (.inl ⟨_,_,rfl,rfl⟩) (.inl ⟨_,_,rfl,rfl⟩) Ei H_ h25 ((xs.take y0.toNat).drop d0.toNat) rfl) rfl rfl (aj 3 [] [0,1,6] [(34,.bool (((xs.take y0.toNat).drop d0.toNat)==xw))] ?_))
     refine aa (aB 34 (xU xs xw d0 y0) (aZ hc4) ?_)
     exact fz hF
    refine ag 7 [0,1,6] [(34,.bool false)] ?_
    refine aa (aB 34 (xU xs xw d0 y0) (bW hc4) ?_)
    exact fz hF
   refine aM hF (fun hc3 hF=>?_) (fun hc3 hF=>?_)
   ·refine ae (av 1 [(4,.bool true)] kr (aa (Ok.ret (aC (aU (aC (aC (aU (aC ?_)))))))))
    exact dD true hF
   refine Ok.k (Ok.t (aS (ag 3 [0,1,6] [(5,iv (w6 (y0+1)))] ?_)))
   refine bY (bJ (Ok.t (gW 5 rfl (show (iv (w6 (y0+1)):Value)=iv (xS xs d0 y0) from ay (Value.int .i64) ((aF hc2).symm)) ?_)))
   exact fz hF
  refine aS (ag 3 [0,1,5] [(6,iv (w6 (y0+1)))] ?_)
  refine bY (Ok.t ?_)
  exact fun _ _ u v=>⟨k9,nl,xS xs d0 y0,w6 (y0+1),fA u v hF⟩
 refine fU (aA (aA (aO (Ok.t (ae (av 1 [(4,.bool false)] kr (aa (Ok.ret ?_))))))))
 exact dD false hF
theorem aeD (c:UInt8):sj (c.toNat:Int)=lg c.toNat:=by
 have:=uC (p:=fun c=>sj (c.toNat:Int)==lg c.toNat) dk c
 simpa using this
theorem agc (s w:Bs) (hp:WQ s w):agd s w (fun r=>r=Dv s w):=by
 have hl:s.length≤1000:=hp
 have hr:Dv s w=(wrdG [] s).any fun x=>w==x:=by rw [← MO]; rfl
 generalize Dv s w=r at hr
 have L0:∀ (f i:Nat),f≤i→i≤s.length→((((s.take i).drop f)==([]:Bs))=true↔f=i):=fun f i h1 h2=>by
  rw [dI,← List.length_eq_zero_iff,gJ,gz]; omega
 have loop:∀ (k f i:Nat),i+k=s.length→f≤i→r=(wrdG ((s.take i).drop f) (s.drop i)).any (fun x=>w==x)→qO s w (fun a=>a=r) (k+2) (f:Int) (i:Int):=by
  intro k
  induction k with
  | zero =>
   intro f i h hf h2
   have hi:i=s.length:=om
   have hV1:vS s (i:Int)=false:=by unfold vS; rw [lZ om,gZ]
   have hV2:xU s w (f:Int) (i:Int)=r:=by
    rw [h2,fF (show s.length≤i by omega),wrdG]
    unfold xU
    rw [eB,eB]
    by_cases hfi:f=i
    ·rw [bn ((L0 f i hf om).2 hfi),lZ om]; rfl
    rw [aQ (fun h=>hfi ((L0 f i hf om).1 h)),f_ om,fu,jK,xk,oo,uR,dI,dI]
    exact eq_comm
   have QC:r=false→zb s (f:Int) (i:Int) (qO s w (fun a=>a=r) 1):=fun h0=>by
    refine ⟨fun hc=>?_,fun _=>h0.symm⟩
    have:=dn hc
    rw [gp om] at this
    omega
   have j25:wM s w (fun a=>a=r) (f:Int) (i:Int) (qO s w (fun a=>a=r) 1):=by
    unfold wM
    rw [hV2]
    exact ⟨fun h=>h.symm,fun h=>QC h⟩
   have SI:wN s w (fun a=>a=r) (f:Int) (i:Int) (qO s w (fun a=>a=r) 1):=by
    unfold wN
    rw [hV1]
    exact ⟨(fun h=>by cases h),fun _=>⟨fun _=>⟨om,om,om,j25⟩,fun _=>j25⟩⟩
   exact ⟨fun _=>⟨fun _=>⟨om,by rw [eB]; have:=hi; rename_i hc; have:=dn hc; omega,SI⟩,fun _=>SI⟩,fun hc=>oe hc⟩
  | succ k ih =>
   intro f i h hf h2
   have hi:i<s.length:=om
   have hd:s.drop i=s.getD i 0::s.drop (i+1):=dm 0 hi
   have ht:(s.take (i+1)).drop f=(s.take i).drop f++[s.getD i 0]:=by
    rw [iA 0 hi,IJ (by rw [gz]; omega)]
   rw [hd] at h2
   have hw2:∀ cur,wrdG cur (s.getD i 0::s.drop (i+1))=if lg (s.getD i 0).toNat=true then (if (cur==[])=true then wrdG [] (s.drop (i+1)) else cur::wrdG [] (s.drop (i+1))) else wrdG (cur++[s.getD i 0]) (s.drop (i+1)):=fun cur=>by rw [wrdG]
   rw [hw2] at h2
   have hV1:vS s (i:Int) = !(lg (s.getD i 0).toNat):=by
    unfold vS; rw [f_ om,fu,eB,aeD]
   have hV2:xU s w (f:Int) (i:Int)=(decide ((i:Int)>(f:Int))&&(((s.take i).drop f)==w)):=by
    unfold xU; rw [eB,eB]
   have QC:∀ g:Nat,g≤i+1→xS s (f:Int) (i:Int)=(g:Int)→r=(wrdG ((s.take (i+1)).drop g) (s.drop (i+1))).any (fun x=>w==x)→zb s (f:Int) (i:Int) (qO s w (fun a=>a=r) (k+2)):=fun g hg h3 h4=>by
    unfold zb
    rw [h3,gp om,show (i:Int)+1=((i+1:Nat):Int) by omega]
    exact ih g (i+1) om hg h4
   have SI:wN s w (fun a=>a=r) (f:Int) (i:Int) (qO s w (fun a=>a=r) (k+2)):=by
    unfold wN
    rw [hV1]
    refine ⟨fun hc=>?_,fun hc=>?_⟩
    ·have hb:lg (s.getD i 0).toNat=false:=by rw [dA] at hc; exact hc
     rw [aQ (by rw [hb]; decide),← ht] at h2
     exact QC f om (by unfold xS; rw [hV1,aT hc]) h2
    have hb:lg (s.getD i 0).toNat=true:=by rw [eT] at hc; exact hc
    rw [bn hb] at h2
    have hnew:(s.take (i+1)).drop (i+1)=[]:=fF (by rw [gz]; omega)
    have OI:xS s (f:Int) (i:Int)=((i+1:Nat):Int):=by unfold xS; rw [hV1,aF hc,gp om]; omega
    have j25:wM s w (fun a=>a=r) (f:Int) (i:Int) (qO s w (fun a=>a=r) (k+2)):=by
     unfold wM
     rw [hV2]
     by_cases hfi:f=i
     ·rw [bn ((L0 f i hf om).2 hfi)] at h2
      rw [lZ om,gZ]
      exact ⟨(fun h=>by cases h),fun _=>QC (i+1) om OI (by rw [hnew]; exact h2)⟩
     rw [aQ (fun h=>hfi ((L0 f i hf om).1 h)),jK] at h2
     rw [f_ om,fu]
     refine ⟨fun hh=>?_,fun hh=>QC (i+1) om OI ?_⟩
     ·rw [h2,eq_of_beq hh,uG,pI]
     rw [hnew,h2]
     have:(w==(s.take i).drop f)=false:=by
      rw [dR] at hh ⊢
      exact fun e=>hh e.symm
     rw [this,lq]
    exact ⟨fun _=>⟨om,om,om,j25⟩,fun _=>j25⟩
   exact ⟨fun _=>⟨fun _=>⟨om,by rw [eB]; omega,SI⟩,fun _=>SI⟩,fun hc=>oe hc⟩
 exact ⟨_,loop s.length 0 0 om (fK _) (by rw [List.take_zero,List.drop_nil,iG]; exact hr)⟩
theorem YA {g:ak} (xs:Bs) (xw:Bs)  (hp:WQ xs xw):bE prog 77 #[sv xs,sv xw] g (.bool (Dv xs xw)) :=
 (Z_ xs xw _ (agc xs xw hp)).gv
def Cv (xs:Bs) (xw:Bs) (x0:Int):Bool :=
 (decide (x0≥0)&&(((xs.take (Int.toNat (w6 (x0+(xw.length:Int))))).drop x0.toNat)==xw))
def Cu (xs:Bs) (xw:Bs) (K:Bool→Prop) (x0:Int) (C7:Int→Prop):Prop :=
 (Cv xs xw x0=true→K true)∧(Cv xs xw x0=false→C7 (w6 (x0+1)))
def Z7 (xs:Bs) (xw:Bs) (xz:Int) (K:Bool→Prop) (x0:Int) (C7:Int→Prop):Prop :=
 ((decide (x0≤xz)&&(decide ((w6 (x0+(xw.length:Int)))≤(xs.length:Int))))=true→(decide (x0≥0)=true→0≤x0∧(x0:Int)≤(w6 (x0+(xw.length:Int)))∧(w6 (x0+(xw.length:Int)))≤(xs.length:Int)∧Cu xs xw K x0 C7)∧(decide (x0≥0)=false→Cu xs xw K x0 C7))∧((decide (x0≤xz)&&(decide ((w6 (x0+(xw.length:Int)))≤(xs.length:Int))))=false→K false)
def ET (xs:Bs) (xw:Bs) (xz:Int) (K:Bool→Prop):Nat→Int→Prop
 | 0,_=>False
 | k+1,x0=>Z7 xs xw xz K x0 (ET xs xw xz K k)
def agb (xs:Bs) (xw:Bs) (qI:Int) (xz:Int) (K:Bool→Prop):Prop :=
 ∃ k,ET xs xw xz K k qI
theorem Z8 {g:ak} (xs:Bs) (xw:Bs) (qI:Int) (xz:Int) (K:Bool→Prop)
  (hF:agb xs xw qI xz K):az prog 122 #[sv xs,sv xw,iv qI,iv xz] g [] (fun g' H' v=>∃ (r0:Bool),v=.bool r0∧H'=[]∧K r0):=by
 refine aP 38 func122 rfl fun w0=>?_
 refine ae (av 1 [(0,sv xs),(1,sv xw),(2,iv qI),(3,iv xz)] kr (aa (aH (ae (ag 2 [0,1,3] [(9,iv qI)] ?_)))))
 refine aa (Ok.block ?_)
 obtain ⟨k,hF⟩:=hF
 refine gF (fun k a W=>∃ (x0:Int),fJ 38 [(0,sv xs),(1,sv xw),(3,iv xz),(9,iv x0)] a∧dh w0 [] g W∧ET xs xw xz K k x0) k ?_ ?_
 ·
  exact fun _ _ u v=>⟨qI,fA u v hF⟩
 clear hF
 rintro (_ | k7) _ _ ⟨x0,q⟩
 exact (q.2.2:False).elim
 refine jn (fun hF=>?_) _ _ q
 refine aH (ae (ag 4 [0,1,3,9] [(14,.bool (decide (x0≤xz)))] ?_))
 let B:=w6 (x0+(xw.length:Int))
 let D:=decide (B≤(xs.length:Int))
 let A:=decide (x0≤xz)&&D
 refine Ok.w 8 [(0,sv xs),(1,sv xw),(3,iv xz),(9,iv x0),(22,.bool A)] (fun AA=>?_) ?_
 ·refine Ok.a 14 (decide (x0≤xz)) rfl (fun hc2=>?_) (fun hc2=>?_)
  ·skip
   refine ag 8 [0,1,3,9] [(22,.bool D)] ?_
   refine aB 22 A (aZ hc2) (ag 0 [0,1,3,9] [(22,.bool A)] ?_)
   exact AA
  skip
  refine ag 8 [0,1,3,9] [(22,.bool false)] ?_
  refine aB 22 A (bW hc2) (ag 0 [0,1,3,9] [(22,.bool A)] ?_)
  exact AA
 refine aa (aM hF (fun hc3 hF=>?_) (fun hc3 hF=>?_))
 ·refine Ok.k (Ok.t (aH (Ok.block (gD [(0,sv xs),(1,sv xw),(3,iv xz),(9,iv x0),(37,.bool (Cv xs xw x0))] [] (Cu xs xw K x0 (ET xs xw xz K k7)) ?_ (fun hF=>?_)))))
  ·
   refine aS (ag 3 [0,1,3,9] [(27,.bool (decide (x0≥0)))] ?_)
   refine bN 27 hF (fun j4 hF=>?_) (fun j4 hF=>?_)
   ·refine ag 6 [0,1,3,9] [(27,.bool true),(28,sv xs),(29,iv x0),(33,iv B)] ?_
    obtain ⟨vY,h16,Xd,hF⟩:=hF
    let C:=(xs.take (Int.toNat B)).drop x0.toNat
    refine dW (af.s (bZ (s:=xs) (l:=x0) (h:=B) kr underlying9 (.inl ⟨_,_,rfl,rfl⟩) (.inl ⟨_,_,rfl,rfl⟩) vY h16 Xd C rfl) rfl rfl (aj 3 [] [0,1,3,9] [(37,.bool (C==xw))] ?_))
    refine aa (aB 37 (Cv xs xw x0) (aZ j4) ?_)
    exact fz hF
   refine ag 10 [0,1,3,9] [(37,.bool false)] ?_
   refine aa (aB 37 (Cv xs xw x0) (bW j4) ?_)
   exact fz hF
  refine aM hF (fun hc4 hF=>?_) (fun hc4 hF=>?_)
  ·refine ae (av 1 [(8,.bool true)] kr (aa (Ok.ret (aU (aC (aC (aU (aC ?_))))))))
   exact dD true hF
  refine Ok.k (bJ (Ok.t (aS (ag 3 [0,1,3] [(9,iv (w6 (x0+1)))] ?_))))
  refine bY (Ok.t ?_)
  exact fun _ _ u v=>⟨k7,nl,w6 (x0+1),fA u v hF⟩
 refine fU (aA (aA (aO (Ok.t (ae (av 1 [(8,.bool false)] kr (aa (Ok.ret ?_))))))))
 exact dD false hF
def xR (s w:Bs) (b:Int):Nat→Int→Bool
 | 0,_=>false
 | k+1,i=>if (decide (i≤b)&&decide (i+(w.length:Int)≤(s.length:Int)))=true then (if (decide (i≥0)&&((s.drop i.toNat).take w.length==w))=true then true else xR s w b k (i+1)) else false
def qN (s w:Bs) (a b:Int):Bool:=xR s w b (s.length+2) a
def PE (s w:Bs) (a b:Int):Prop:=s.length≤1000∧w.length≤4000000∧0≤a+(w.length:Int)∧a≤1000∧b≤1000
theorem aga (s w:Bs) (a b:Int) (hp:PE s w a b):agb s w a b (fun r=>r=qN s w a b):=by
 obtain ⟨h1,h2,h3,h4,h5⟩:=hp
 have hr:qN s w a b=xR s w b (s.length+2) a:=rfl
 generalize qN s w a b=r at hr
 have loop:∀ (k:Nat) (i:Int),0≤i+(w.length:Int)→i≤1001→(s.length:Int)+1≤i+(w.length:Int)+k→r=xR s w b (k+1) i→ET s w b (fun a=>a=r) (k+1) i:=by
  intro k
  induction k with
  | zero =>
   intro i q1 q2 q3 q4
   refine ⟨fun hc=>?_,fun hc=>?_⟩
   ·rw [gp om,aG] at hc
    have:=dn hc.2
    omega
   rw [gp om] at hc
   rw [xR,aF hc] at q4
   exact q4.symm
  | succ k ih =>
   intro i q1 q2 q3 q4
   rw [xR] at q4
   refine ⟨fun hc=>?_,fun hc=>?_⟩
   ·rw [gp om] at hc
    rw [aT hc] at q4
    rw [aG] at hc
    have hc1:=dn hc.1
    have hc2:=dn hc.2
    have hV:Cv s w i=(decide (i≥0)&&((s.drop i.toNat).take w.length==w)):=by
     unfold Cv
     by_cases hi:i≥0
     ·rw [gp om,List.drop_take,show Int.toNat (i+(w.length:Int)) - i.toNat=w.length by omega]
     rw [lZ hi,gZ,gZ]
    have QC:Cu s w (fun a=>a=r) i (ET s w b (fun a=>a=r) (k+1)):=by
     unfold Cu
     rw [hV]
     refine ⟨fun h=>?_,fun h=>?_⟩
     ·rw [aT h] at q4; exact q4.symm
     rw [aF h] at q4
     rw [gp om]
     exact ih (i+1) om om om q4
    rw [gp om]
    refine ⟨fun hi=>⟨dn hi,od hi,hc2,QC⟩,fun _=>QC⟩
   rw [gp om] at hc
   rw [aF hc] at q4
   exact q4.symm
 exact ⟨_,loop (s.length+1) a h3 om om hr⟩
theorem Oa {g:ak} (xs:Bs) (xw:Bs) (qI:Int) (xz:Int)  (hp:PE xs xw qI xz):bE prog 122 #[sv xs,sv xw,iv qI,iv xz] g (.bool (qN xs xw qI xz)) :=
 (Z8 xs xw qI xz _ (aga xs xw qI xz hp)).gv
theorem N_ (s w:Bs):qN s w 0 0=preB s w:=by
 unfold qN preB
 rw [xR]
 by_cases h:w.length≤s.length
 ·rw [bn (by rw [aG]; exact ⟨by decide,f_ om⟩)]
  rw [show (0:Int).toNat=0 from rfl,iG]
  rw [f_ (show (0:Int)≥0 from ll _),fu,f_ (show (s.length:Int)≥(w.length:Int) by omega),fu]
  cases hc:(s.take w.length==w) with
  | true=>rfl
  | false=>rw [aQ dc,xR,aQ (by simp)]
 rw [aQ (by rw [aG]; intro h2; have:=dn h2.2; omega),lZ om,gZ]
theorem VT (s w:Bs):qN s w ((s.length:Int) - (w.length:Int)) (s.length:Int)=QZ s w:=by
 unfold qN QZ
 rw [xR,bn (by rw [aG]; exact ⟨f_ om,f_ om⟩)]
 have last:xR s w (s.length:Int) (s.length+1) ((s.length:Int) - (w.length:Int)+1)=false:=by
  rw [xR,aQ (by rw [aG]; intro h2; have:=dn h2.2; omega)]
 rw [last]
 by_cases h:w.length≤s.length
 ·rw [f_ (show (s.length:Int) - (w.length:Int)≥0 by omega),f_ (show (s.length:Int)≥(w.length:Int) by omega),fu,fu]
  rw [show ((s.length:Int) - (w.length:Int)).toNat=s.length - w.length by omega,jR (by rw [gJ]; omega)]
  cases (s.drop (s.length - w.length)==w) <;> rfl
 rw [lZ (show ¬ (s.length:Int) - (w.length:Int)≥0 by omega),lZ (show ¬ (s.length:Int)≥(w.length:Int) by omega)]; rfl
theorem aaw (s w:Bs) (i:Nat):Lib.occAt s w i=((s.drop i).take w.length==w):=by
 unfold Lib.occAt
 rw [uR,List.isPrefixOf_iff_prefix,dI,List.prefix_iff_eq_take]
 exact eq_comm
theorem VU (s w:Bs):qN s w 0 (s.length:Int)=decide (mV s w≥0):=by
 have key:∀ (k i:Nat),(s.length:Int)+1≤(i:Int)+k→Lib.NoOcc s w i→xR s w (s.length:Int) (k+1) (i:Int)=decide (mV s w≥0):=by
  have stop:∀ i:Nat,Lib.NoOcc s w i→¬ ((i:Int)+(w.length:Int)≤(s.length:Int))→decide (mV s w≥0)=false:=fun i hN h=>by
   rw [eQ]
   intro hi
   unfold mV at hi
   rcases Lib.index_spec s w with ⟨he,-⟩ | ⟨j,he,hj,ho,-⟩
   ·rw [he] at hi; exact absurd hi dc
   have hroom:=Lib.index_room s w hi
   rw [he] at hroom
   rw [hN j om] at ho
   cases ho
  intro k
  induction k with
  | zero =>
   intro i h hN
   rw [xR,aQ (by rw [aG]; intro h2; have:=dn h2.1; omega)]
   exact (stop i hN om).symm
  | succ k ih =>
   intro i h hN
   rw [xR]
   by_cases hc:(i:Int)+(w.length:Int)≤(s.length:Int)
   ·rw [bn (by rw [aG]; exact ⟨f_ om,f_ hc⟩),eB,f_ (show (i:Int)≥0 by omega),fu,← aaw]
    cases ho:Lib.occAt s w i with
    | true =>
     rw [bn rfl]
     have:=Lib.index_hit hN om ho
     unfold mV
     rw [this,f_ om]
    | false =>
     rw [aQ dc]
     refine ih (i+1) om fun j hj=>?_
     by_cases hji:j<i
     ·exact hN j hji
     obtain rfl:j=i:=om
     exact ho
   rw [aQ (by rw [aG]; intro h2; exact hc (dn h2.2))]
   exact (stop i hN hc).symm
 exact key (s.length+1) 0 om (Lib.NoOcc.zero s w)
def EX (xv:Bs) (xt:TS):Bool :=
 ((xv==xt.lab.2.2.2.1)||(qN xv (xt.lab.2.2.2.1++([45]:Bs)) 0 0))
def Gf (xv:Bs) (xt:TS) (K:Bool→Prop):Prop :=
 K (EX xv xt)
def aai (xv:Bs) (xt:TS) (K:Bool→Prop):Prop :=
 ((xt.lab.2.2.1==61)=true→K (xv==xt.lab.2.2.2.1))∧((xt.lab.2.2.1==61)=false→((xt.lab.2.2.1==124)=true→((xv==xt.lab.2.2.2.1)=true→Gf xv xt K)∧((xv==xt.lab.2.2.2.1)=false→xt.lab.2.2.2.1.length+([45]:Bs).length≤maxLen∧PE xv (xt.lab.2.2.2.1++([45]:Bs)) 0 0∧Gf xv xt K))∧((xt.lab.2.2.1==124)=false→((xt.lab.2.2.2.1==([]:Bs))=true→K false)∧((xt.lab.2.2.2.1==([]:Bs))=false→((xt.lab.2.2.1==126)=true→WQ xv xt.lab.2.2.2.1∧K (Dv xv xt.lab.2.2.2.1))∧((xt.lab.2.2.1==126)=false→((xt.lab.2.2.1==94)=true→PE xv xt.lab.2.2.2.1 0 0∧K (qN xv xt.lab.2.2.2.1 0 0))∧((xt.lab.2.2.1==94)=false→((xt.lab.2.2.1==36)=true→PE xv xt.lab.2.2.2.1 (w6 ((xv.length:Int) - (xt.lab.2.2.2.1.length:Int))) (xv.length:Int)∧K (qN xv xt.lab.2.2.2.1 (w6 ((xv.length:Int) - (xt.lab.2.2.2.1.length:Int))) (xv.length:Int)))∧((xt.lab.2.2.1==36)=false→PE xv xt.lab.2.2.2.1 0 (xv.length:Int)∧K (qN xv xt.lab.2.2.2.1 0 (xv.length:Int))))))))
theorem aah {g:ak} (xv:Bs) {U0:Option Addr} {J0:Nat} (xt:TS) (P0:bG g (.slice yP) [.slice U0 xt.kids.length J0] xt.kids) (K:Bool→Prop)
  (hF:aai xv xt K):az prog 78 #[sv xv,.agg (aL xt.lab U0 xt.kids.length J0)] g [] (fun g' H' v=>∃ (r0:Bool),v=.bool r0∧H'=[]∧K r0):=by
 refine aP 64 func78 rfl fun w0=>?_
 refine ae (ai (di fun dK=>?_))
 refine av 1 [(0,sv xv),(3,pv dK 0)] kr (aa (aH (ae (aj 3 [.e 0] [0,3] [(7,.bool (xt.lab.2.2.1==61))] ?_))))
 refine aa (aM hF (fun hc2 hF=>?_) (fun hc2 hF=>?_))
 ·refine ae (aj 5 [.e 0] [] [(4,.bool (xv==xt.lab.2.2.2.1))] ?_)
  refine aa (Ok.ret (aC ?_))
  exact dD (xv==xt.lab.2.2.2.1) hF
 refine Ok.k (Ok.t (aH (ae (aj 3 [.e 0] [0,3] [(14,.bool (xt.lab.2.2.1==124))] ?_))))
 refine aa (aM hF (fun hc3 hF=>?_) (fun hc3 hF=>?_))
 ·refine gD [(4,.bool (EX xv xt))] [] (Gf xv xt K) ?_ (fun hF=>?_)
  ·
   refine aS (aj 5 [.e 0] [0,3] [(19,.bool (xv==xt.lab.2.2.2.1))] ?_)
   refine bN 19 hF (fun hc4 hF=>?_) (fun hc4 hF=>?_)
   ·refine av 7 [(4,.bool true)] kr (aa (aB 4 (EX xv xt) (df hc4) ?_))
    exact fz hF
   refine av 2 [(19,.bool false),(20,sv xv),(21,pv dK 3)] kr (dW (af.s (v:=sv xt.lab.2.2.2.1) (aR 0 rfl rfl underlying9 rfl kr) rfl rfl ?_))
   obtain ⟨hv,hF⟩:=hF
   let B:=xt.lab.2.2.2.1++([45]:Bs)
   refine dW (af.s (v:=sv B) (dx rfl rfl hv) rfl rfl ?_)
   obtain ⟨Kj,hF⟩:=hF
   refine aj 3 [.k (Oa xv B 0 0 Kj)] [] [(4,.bool (qN xv B 0 0))] ?_
   refine aa (aB 4 (EX xv xt) (bR hc4) ?_)
   exact fz hF
  refine Ok.ret (aC ?_)
  exact dD (EX xv xt) hF
 refine Ok.k (Ok.t (aH (ae (ag 1 [0,3] [(26,pv dK 3)] ?_))))
 refine ai (af.s (v:=sv xt.lab.2.2.2.1) (aR 0 rfl rfl underlying9 rfl kr) rfl rfl (ai (af.s (v:=.bool (xt.lab.2.2.2.1==([]:Bs))) (iE (f:=.eql) (a:=xt.lab.2.2.2.1) (b:=([]:Bs)) kr kr rfl) rfl rfl (aa (aM hF (fun hc6 hF=>?_) (fun hc6 hF=>?_))))))
 ·refine ae (av 1 [(4,.bool false)] kr (aa (Ok.ret (aC ?_))))
  exact dD false hF
 refine Ok.k (Ok.t (aH (ae (aj 3 [.e 0] [0,3] [(31,.bool (xt.lab.2.2.1==126))] ?_))))
 refine aa (aM hF (fun iC hF=>?_) (fun iC hF=>?_))
 ·refine aH (aS ?_)
  obtain ⟨Mc,hF⟩:=hF
  let G:=Dv xv xt.lab.2.2.2.1
  refine aj 5 [.e 0,.k (YA xv xt.lab.2.2.2.1 Mc)] [] [(4,.bool G)] ?_
  refine aa (Ok.ret (aC ?_))
  exact dD G hF
 refine Ok.k (Ok.t (aH (ae (aj 3 [.e 0] [0,3] [(38,.bool (xt.lab.2.2.1==94))] ?_))))
 refine aa (aM hF (fun mW hF=>?_) (fun mW hF=>?_))
 ·refine aH (aS ?_)
  obtain ⟨Hw,hF⟩:=hF
  let E:=qN xv xt.lab.2.2.2.1 0 0
  refine aj 5 [.e 0,.k (Oa xv xt.lab.2.2.2.1 0 0 Hw)] [] [(4,.bool E)] ?_
  refine aa (Ok.ret (aC ?_))
  exact dD E hF
 refine Ok.k (Ok.t (aH (ae (aj 3 [.e 0] [0,3] [(45,.bool (xt.lab.2.2.1==36))] ?_))))
 refine aa (aM hF (fun y1 hF=>?_) (fun y1 hF=>?_))
 ·refine aH (aS ?_)
  obtain ⟨f1,hF⟩:=hF
  let C:=(xv.length:Int)
  let A:=w6 (C - (xt.lab.2.2.2.1.length:Int))
  let F:=qN xv xt.lab.2.2.2.1 A C
  refine aj 13 [.e 0,.e 0,.k (Oa xv xt.lab.2.2.2.1 A C f1)] [] [(4,.bool F)] ?_
  refine aa (Ok.ret (aC ?_))
  exact dD F hF
 refine Ok.k (Ok.t (aH (aS ?_)))
 obtain ⟨zx,hF⟩:=hF
 let D:=qN xv xt.lab.2.2.2.1 0 (xv.length:Int)
 refine aj 7 [.e 0,.k (Oa xv xt.lab.2.2.2.1 0 (xv.length:Int) zx)] [] [(4,.bool D)] ?_
 refine aa (Ok.ret ?_)
 exact dD D hF
def PI (v:Bs) (t:Ts):Bool:=uW v t.lab
def VY (v:Bs) (t:Ts):Prop:=v.length≤400∧t.lab.2.2.2.1.length≤2000000
theorem ags (v:Bs) (t:Ts) (hp:VY v t):aai v t (fun r=>r=PI v t):=by
 obtain ⟨h1,h2⟩:=hp
 have hr:PI v t=uW v t.lab:=rfl
 generalize PI v t=r at hr
 unfold uW at hr
 have hw:w6 ((v.length:Int) - (t.lab.2.2.2.1.length:Int))=(v.length:Int) - (t.lab.2.2.2.1.length:Int):=gp om
 unfold aai Gf EX
 rw [hw,N_,N_,VT,VU]
 have hlen:((t.lab.2.2.2.1++([45]:Bs)).length:Int)=(t.lab.2.2.2.1.length:Int)+1:=by rw [bC]; rfl
 refine ⟨fun q1=>?_,fun q1=>⟨fun q2=>⟨fun _=>?_,fun _=>⟨?_,⟨om,om,om,om,om⟩,?_⟩⟩,fun q2=>⟨fun q3=>?_,fun q3=>⟨fun q4=>⟨?_,?_⟩,fun q4=>⟨fun q5=>⟨⟨om,om,om,om,om⟩,?_⟩,fun q5=>⟨fun q6=>⟨⟨om,om,om,om,om⟩,?_⟩,fun q6=>⟨⟨om,om,om,om,om⟩,?_⟩⟩⟩⟩⟩⟩⟩
 ·rw [aT q1] at hr; exact hr.symm
 ·rw [aF q1,aT q2] at hr; exact hr.symm
 ·show t.lab.2.2.2.1.length+1≤maxLen
  have:(2000001:Nat)≤maxLen:=by decide
  omega
 ·rw [aF q1,aT q2] at hr; exact hr.symm
 ·rw [aF q1,aF q2,aT q3] at hr; exact hr.symm
 ·show v.length≤1000; omega
 ·rw [aF q1,aF q2,aF q3,aT q4] at hr; exact hr.symm
 ·rw [aF q1,aF q2,aF q3,aF q4,aT q5] at hr; exact hr.symm
 ·rw [aF q1,aF q2,aF q3,aF q4,aF q5,aT q6] at hr; exact hr.symm
 rw [aF q1,aF q2,aF q3,aF q4,aF q5,aF q6] at hr; exact hr.symm
theorem agr {g:ak} (xv:Bs) {U0:Option Addr} {J0:Nat} (xt:TS) (P0:bG g (.slice yP) [.slice U0 xt.kids.length J0] xt.kids)  (hp:VY xv xt):bE prog 78 #[sv xv,.agg (aL xt.lab U0 xt.kids.length J0)] g (.bool (PI xv xt)) :=
 (aah xv xt P0 _ (ags xv xt hp)).gv
def VJ (xd:Dc) (xa:Int) (K:Bool→Prop) (f0:Int) (Zc:Int→Prop):Prop :=
 (decide (f0≥0)=true→((f0==xa)=true→K true)∧((f0==xa)=false→0≤f0∧f0.toNat<xd.1.length∧Zc (xd.1.getD f0.toNat default).2.2.2.2.1))∧(decide (f0≥0)=false→K false)
def F4 (xd:Dc) (xa:Int) (K:Bool→Prop):Nat→Int→Prop
 | 0,_=>False
 | k+1,f0=>VJ xd xa K f0 (F4 xd xa K k)
def Cq (v0:Int) (Yi:Int→Prop):Prop :=
 Yi (w6 (v0+1))
def FZ (xd:Dc) (xb:Int) (bX:Int) (K:Bool→Prop) (v0:Int) (Yi:Int→Prop) (q0:Int) (C64:Int→Prop):Prop :=
 ((decide (q0<((dY xd xb).length:Int)))=true→0≤q0∧q0.toNat<(dY xd xb).length∧(((((dY xd xb).getD q0.toNat default)==xb)&&((bX==126)||(q0==w6 (v0+1))))=true→K true)∧(((((dY xd xb).getD q0.toNat default)==xb)&&((bX==126)||(q0==w6 (v0+1))))=false→C64 (w6 (q0+1))))∧((decide (q0<((dY xd xb).length:Int)))=false→Cq v0 Yi)
def y7 (xd:Dc) (xb:Int) (bX:Int) (K:Bool→Prop) (v0:Int) (Yi:Int→Prop):Nat→Int→Prop
 | 0,_=>False
 | k+1,q0=>FZ xd xb bX K v0 Yi q0 (y7 xd xb bX K v0 Yi k)
def F3 (xd:Dc) (xa:Int) (xb:Int) (bX:Int) (K:Bool→Prop) (v0:Int) (Yi:Int→Prop):Prop :=
 ((decide (v0<((dY xd xb).length:Int)))=true→0≤v0∧v0.toNat<(dY xd xb).length∧((((dY xd xb).getD v0.toNat default) != xa)=true→Cq v0 Yi)∧((((dY xd xb).getD v0.toNat default) != xa)=false→∃ k,y7 xd xb bX K v0 Yi k (w6 (v0+1))))∧((decide (v0<((dY xd xb).length:Int)))=false→K false)
def ql (xd:Dc) (xa:Int) (xb:Int) (bX:Int) (K:Bool→Prop):Nat→Int→Prop
 | 0,_=>False
 | k+1,v0=>F3 xd xa xb bX K v0 (ql xd xa xb bX K k)
def afX (xd:Dc) (xa:Int) (xb:Int) (bX:Int) (K:Bool→Prop):Prop :=
 ((bX==62)=true→0≤xb∧xb.toNat<xd.1.length∧K ((xd.1.getD xb.toNat default).2.2.2.2.1==xa))∧((bX==62)=false→((bX==32)=true→0≤xb∧xb.toNat<xd.1.length∧∃ k,F4 xd xa K k (xd.1.getD xb.toNat default).2.2.2.2.1)∧((bX==32)=false→Dm xd xb∧∃ k,ql xd xa xb bX K k 0))
theorem ZU {g:ak} {u0:Option Addr} {j0:Nat} (xd:Dc) (xa:Int) (xb:Int) (bX:Int) (c0:bG g qh [.slice u0 xd.1.length j0] xd.1) (K:Bool→Prop)
  (hF:afX xd xa xb bX K):az prog 25 #[.agg (aD xd u0 j0),iv xa,iv xb,.int .u8 bX] g [] (fun g' H' v=>∃ (r0:Bool),v=.bool r0∧H'=[]∧K r0):=by
 refine aP 81 func25 rfl fun w0=>?_
 refine ae (ai (di fun kZ=>?_))
 refine av 1 [(1,iv xa),(2,iv xb),(3,.int .u8 bX),(4,pv kZ 0)] kr (aa (aH (ae (ag 2 [1,2,3,4] [(14,.bool (bX==62))] ?_))))
 refine aa (aM hF (fun hc2 hF=>?_) (fun hc2 hF=>?_))
 ·refine ae (aj 3 [.e 0] [1] [(16,.slice u0 xd.1.length j0),(17,iv xb)] ?_)
  obtain ⟨qA,ru,hF⟩:=hF
  have pR:=aV (l:=xd.1) default ru
  generalize hg4:(xd.1.getD xb.toNat default)=e4 at pR hF ⊢
  refine ai (af.bf (e:=yN) rfl rfl underlying22 kr c0 qA pR rfl fun q3 o3 XQ _ TH hr3=>?_)
  obtain ⟨aeJ,aee,aqu,aqj,rfl,TN,ai4⟩:=oN hr3
  refine aj 5 [.a 4 TH] [] [(8,.bool (e4.2.2.2.2.1==xa))] ?_
  refine aa (Ok.ret (aC ?_))
  exact dD (e4.2.2.2.2.1==xa) hF
 refine Ok.k (Ok.t (aH (ae (ag 2 [1,2,3,4] [(24,.bool (bX==32))] ?_))))
 refine aa (aM hF (fun j4 hF=>?_) (fun j4 hF=>?_))
 ·refine aH (ae (aj 3 [.e 0] [1,4] [(26,.slice u0 xd.1.length j0),(27,iv xb)] ?_))
  obtain ⟨QF,TV,hF⟩:=hF
  have Mm:=aV (l:=xd.1) default TV
  generalize YQ:(xd.1.getD xb.toNat default)=e7 at Mm hF ⊢
  refine ai (af.bf (e:=yN) rfl rfl underlying22 kr c0 QF Mm rfl fun q6 o6 cs6 _ ab2 WS=>?_)
  obtain ⟨aqt,aqi,akp,ajK,rfl,ai0,arz⟩:=oN WS
  refine aj 3 [.a 4 ab2] [1,4] [(9,iv e7.2.2.2.2.1)] ?_
  refine aa (Ok.block ?_)
  obtain ⟨k,hF⟩:=hF
  refine gF (fun k a W=>∃ a0:ak,aY w0 g a0∧∃ (f0:Int),fJ 81 [(1,iv xa),(4,pv kZ 0),(9,iv f0)] a∧dh w0 [.blk kZ (.cells (aD xd u0 j0) 24)] a0 W∧F4 xd xa K k f0) k ?_ ?_
  ·
   exact fun _ _ u v=>⟨g,bq w0 g,e7.2.2.2.2.1,fA u v hF⟩
  clear hF
  rintro (_ | k19) _ _ ⟨a0,K0,f0,q⟩
  exact (q.2.2:False).elim
  refine jn (fun hF=>?_) _ _ q
  replace c0:=c0.mono K0.1
  refine aH (ae (ag 2 [1,4,9] [(32,.bool (decide (f0≥0)))] ?_))
  refine aa (aM hF (fun hc8 hF=>?_) (fun hc8 hF=>?_))
  ·refine Ok.k (Ok.t (aH (Ok.block (ae (ag 3 [1,4,9] [(41,.bool (f0==xa))] ?_)))))
   refine aa (aM hF (fun mW hF=>?_) (fun mW hF=>?_))
   ·refine ae (av 1 [(8,.bool true)] kr (aa (Ok.ret (aU (aC (aC (aU (aC (aC ?_)))))))))
    exact jd (.bool true) K0 ⟨_,rfl,rfl,hF⟩
   refine Ok.k (bJ (Ok.t (aS (aj 3 [.e 0] [1,4] [(34,.slice u0 xd.1.length j0),(35,iv f0)] ?_))))
   obtain ⟨MM,Dz,hF⟩:=hF
   have J1:=aV (l:=xd.1) default Dz
   generalize Hy:(xd.1.getD f0.toNat default)=e11 at J1 hF ⊢
   refine ai (af.bf (e:=yN) rfl rfl underlying22 kr c0 MM J1 rfl fun q10 o10 Qj _ H0 j1=>?_)
   obtain ⟨Pe,O_,A0,I0,rfl,HZ,M0⟩:=oN j1
   refine aj 3 [.a 4 H0] [1,4] [(9,iv e11.2.2.2.2.1)] ?_
   refine bY (Ok.t ?_)
   subst Hy
   exact fun _ _ u v=>⟨k19,nl,a0,K0,(xd.1.getD f0.toNat default).2.2.2.2.1,fA u v hF⟩
  refine fU (aA (aA (aO (Ok.t (ae (av 1 [(8,.bool false)] kr (aa (Ok.ret (aC ?_)))))))))
  exact jd (.bool false) K0 ⟨_,rfl,rfl,hF⟩
 refine Ok.k (Ok.t (ae (aj 2 [.e 0] [1,2,3] [(42,.agg (aD xd u0 j0)),(43,iv xb)] ?_)))
 obtain ⟨f1,hF⟩:=hF
 refine ai (bQ (YB xd xb c0 f1) fun g13 _ _ g1 aoh=>?_)
 obtain ⟨Z0,V0,Y0,rfl,Q0,rfl⟩:=aoh
 refine ag 1 [1,2,3] [(10,.slice Z0 (dY xd xb).length V0)] ?_
 refine aa (aH (ae (ag 1 [1,2,3,10] [(11,iv 0)] ?_)))
 refine aa (Ok.block ?_)
 obtain ⟨k,hF⟩:=hF
 refine gF (fun k a W=>∃ X0:ak,aY w0 g13 X0∧∃ (v0:Int),fJ 81 [(1,iv xa),(2,iv xb),(3,.int .u8 bX),(10,.slice Z0 (dY xd xb).length V0),(11,iv v0)] a∧dh w0 [.own (.slice Z0 (dY xd xb).length V0) 3 1 (dY xd xb).length Y0] X0 W∧ql xd xa xb bX K k v0) k ?_ ?_
 ·
  exact fun _ _ u v=>⟨g13,bq w0 g13,0,fA u v hF⟩
 clear hF
 rintro (_ | k46) _ _ ⟨X0,B0,v0,q⟩
 exact (q.2.2:False).elim
 refine jn (fun hF=>?_) _ _ q
 replace Q0:=Q0.mono B0.1
 refine aH (ae (ag 4 [1,2,3,10,11] [(48,.bool (decide (v0<((dY xd xb).length:Int))))] ?_))
 refine aa (aM hF (fun Mr hF=>?_) (fun Mr hF=>?_))
 ·refine Ok.k (Ok.t (iO X0 [(1,iv xa),(2,iv xb),(3,.int .u8 bX),(10,.slice Z0 (dY xd xb).length V0),(11,iv v0)] [.own (.slice Z0 (dY xd xb).length V0) 3 1 (dY xd xb).length Y0] (Cq v0 (ql xd xa xb bX K k46)) ?_ (fun apT v1 hF=>?_)))
  ·
   refine Ok.block (aH (ae (ag 2 [1,2,3,10,11] [(51,.slice Z0 (dY xd xb).length V0),(52,iv v0)] ?_)))
   obtain ⟨MK,h116,hF⟩:=hF
   have W1:=aV (l:=dY xd xb) default h116
   generalize X1:((dY xd xb).getD v0.toNat default)=e16 at W1 hF ⊢
   refine ai (af.fQ (e:=.int .i64) 0 rfl Q0 rfl rfl underlying46 kr kr MK W1 rfl fun aqa _ abo m1=>?_)
   obtain rfl:=abo
   replace m1:∀ j v,([iv e16]:List Value)[j]? = some v→Y0[v0.toNat * 1+j]? = some v:=m1
   refine ai (af.s (v:=iv e16) (dN 0 0 rfl m1 rfl underlying3 rfl kr) rfl rfl (ag 2 [1,2,3,10,11] [(56,.bool (e16 != xa))] ?_))
   refine aa (ed hF rfl (fun n1=>?_) (fun n1=>?_))
   ·replace hF:=hF.1 n1
    refine fU (aA (aO (Ok.t ?_)))
    subst X1
    exact fg hF
   replace hF:=hF.2 n1
   refine Ok.k (Ok.t (ae (ag 3 [1,2,3,10,11] [(12,iv (w6 (v0+1)))] ?_)))
   refine aa (Ok.block ?_)
   obtain ⟨k,hF⟩:=hF
   refine gF (fun k a W=>∃ R0:ak,aY w0 X0 R0∧∃ (q0:Int),fJ 81 [(1,iv xa),(2,iv xb),(3,.int .u8 bX),(10,.slice Z0 (dY xd xb).length V0),(11,iv v0),(12,iv q0)] a∧dh w0 [.own (.slice Z0 (dY xd xb).length V0) 3 1 (dY xd xb).length Y0] R0 W∧y7 xd xb bX K v0 (ql xd xa xb bX K k46) k q0) k ?_ ?_
   ·
    exact fun _ _ u v=>⟨X0,bq w0 X0,w6 (v0+1),fA u v hF⟩
   clear hF
   rintro (_ | k64) _ _ ⟨R0,C0,q0,q⟩
   exact (q.2.2:False).elim
   refine jn (fun hF=>?_) _ _ q
   replace Q0:=Q0.mono C0.1
   refine aH (ae (ag 4 [1,2,3,10,11,12] [(62,.bool (decide (q0<((dY xd xb).length:Int))))] ?_))
   refine aa (ed hF rfl (fun o1=>?_) (fun o1=>?_))
   ·replace hF:=hF.1 o1
    refine Ok.k (Ok.t (aH (Ok.block (ae (ag 2 [1,2,3,10,11,12] [(65,.slice Z0 (dY xd xb).length V0),(66,iv q0)] ?_)))))
    obtain ⟨adi,ac6,hF⟩:=hF
    have S1:=aV (l:=dY xd xb) default ac6
    generalize aiu:((dY xd xb).getD q0.toNat default)=e20 at S1 hF ⊢
    refine ai (af.fQ (e:=.int .i64) 0 rfl Q0 rfl rfl underlying46 kr kr adi S1 rfl fun ap7 _ abl t1=>?_)
    obtain rfl:=abl
    replace t1:∀ j v,([iv e20]:List Value)[j]? = some v→Y0[q0.toNat * 1+j]? = some v:=t1
    refine ai (af.s (v:=iv e20) (dN 0 0 rfl t1 rfl underlying3 rfl kr) rfl rfl (ag 3 [1,2,3,10,11,12] [(71,.bool (e20==xb))] ?_))
    let A:=(bX==126)||(q0==w6 (v0+1))
    let B:=(e20==xb)&&A
    refine Ok.w 9 [(1,iv xa),(2,iv xb),(3,.int .u8 bX),(10,.slice Z0 (dY xd xb).length V0),(11,iv v0),(12,iv q0),(80,.bool B)] (fun B1=>?_) ?_
    ·refine Ok.a 71 (e20==xb) rfl (fun a1=>?_) (fun a1=>?_)
     ·skip
      refine ag 3 [1,2,3,10,11,12] [(71,.bool true),(74,.bool (bX==126))] ?_
      refine Ok.w 5 [(1,iv xa),(2,iv xb),(3,.int .u8 bX),(10,.slice Z0 (dY xd xb).length V0),(11,iv v0),(12,iv q0),(71,.bool true),(79,.bool A)] (fun C1=>?_) ?_
      ·refine Ok.a 74 (bX==126) rfl (fun i1=>?_) (fun i1=>?_)
       ·skip
        refine ag 5 [1,2,3,10,11,12,71] [(79,.bool true)] ?_
        refine aB 79 A (df i1) (ag 0 [1,2,3,10,11,12,71] [(79,.bool A)] ?_)
        exact C1
       skip
       refine ag 5 [1,2,3,10,11,12,71] [(79,.bool (q0==w6 (v0+1)))] ?_
       refine aB 79 A (bR i1) (ag 0 [1,2,3,10,11,12,71] [(79,.bool A)] ?_)
       exact C1
      refine ag 1 [1,2,3,10,11,12] [(80,.bool A)] ?_
      refine aB 80 B (aZ a1) (ag 0 [1,2,3,10,11,12] [(80,.bool B)] ?_)
      exact B1
     skip
     refine ag 9 [1,2,3,10,11,12] [(80,.bool false)] ?_
     refine aB 80 B (bW a1) (ag 0 [1,2,3,10,11,12] [(80,.bool B)] ?_)
     exact B1
    refine aa (ed hF rfl (fun Z1=>?_) (fun Z1=>?_))
    ·replace hF:=hF.1 Z1
     refine ae (av 1 [(8,.bool true)] kr (aa (Ok.ret (aU (aC (aC (aU (aU (aC (aC (aU (aC ?_))))))))))))
     exact jd (.bool true) ((g1.trans B0).trans C0) ⟨_,rfl,rfl,hF⟩
    replace hF:=hF.2 Z1
    refine Ok.k (bJ (Ok.t (aS (ag 3 [1,2,3,10,11] [(12,iv (w6 (q0+1)))] ?_))))
    refine bY (Ok.t ?_)
    subst aiu
    exact fun _ _ u v=>⟨k64,nl,R0,C0,w6 (q0+1),fA u v hF⟩
   replace hF:=hF.2 o1
   refine fU (aA (aA (aO (bJ (Ok.t ?_)))))
   subst X1
   exact fun _ _ u v=>⟨R0,C0,fA u v hF⟩
  refine aS (ag 3 [1,2,3,10] [(11,iv (w6 (v0+1)))] ?_)
  refine bY (Ok.t ?_)
  exact fun _ _ u v=>⟨k46,nl,apT,B0.trans v1,w6 (v0+1),fA u v hF⟩
 refine fU (aA (aA (aO (Ok.t (ae (av 1 [(8,.bool false)] kr (aa (Ok.ret ?_))))))))
 exact jd (.bool false) (g1.trans B0) ⟨_,rfl,rfl,hF⟩
def ZV (d:DC) (a b _:Int):Prop:=gP d∧nC d b
theorem afW (d:DC) (a b j:Int) (hp:ZV d a b j):afX d a b j (fun r=>r=nH d a b j):=by
 obtain ⟨hG,hb⟩:=hp
 have hr:nH d a b j=if (j==62)=true then par d.1 b.toNat==a else if (j==32)=true then U9 d.1 42 (par d.1 b.toNat) a else sb1 j a b (dY d b):=rfl
 generalize nH d a b j=r at hr
 have hE:=Np hG hb
 have hkl:=yl hG hb
 refine ⟨fun q1=>⟨hb.1,oW hb,?_⟩,fun q1=>⟨fun q2=>⟨hb.1,oW hb,?_⟩,fun q2=>⟨⟨hG,hb⟩,?_⟩⟩⟩
 ·rw [aT q1] at hr; exact hr.symm
 ·rw [aF q1,aT q2] at hr
  have loop:∀ (k:Nat) (p:Int),Ends d.1 k p→r=U9 d.1 k p a→F4 d a (fun x=>x=r) (k+1) p:=by
   intro k
   induction k with
   | zero =>
    intro p h h2
    have h:p<0:=h
    exact ⟨fun hc=>od hc,fun _=>h2.symm⟩
   | succ k ih =>
    intro p h h2
    rw [U9] at h2
    refine ⟨fun hc=>?_,fun hc=>?_⟩
    ·rw [aT hc] at h2
     have hc:=dn hc
     have hi:=Im h hc
     refine ⟨fun h3=>?_,fun h3=>⟨hc,om,ih _ ?_ ?_⟩⟩
     ·rw [aT h3] at h2; exact h2.symm
     ·rcases h with h | h
      ·omega
      exact h.2
     rw [aF h3] at h2; exact h2
    rw [aF hc] at h2; exact h2.symm
  exact ⟨_,loop 42 _ hE hr⟩
 rw [aF q1,aF q2] at hr
 generalize hL:dY d b=l at hr hkl
 have outer:∀ (k i:Nat),i+k=l.length→r=sb1 j a b (l.drop i)→ql d a b j (fun x=>x=r) (k+1) (i:Int):=by
  intro k
  induction k with
  | zero =>
   intro i h h2
   rw [ql]
   unfold F3
   rw [hL]
   rw [fF om,sb1] at h2
   exact ⟨fun hc=>od hc,fun _=>h2.symm⟩
  | succ k ih =>
   intro i h h2
   rw [dm (l:=l) default om,sb1] at h2
   have next:r=sb1 j a b (l.drop (i+1))→Cq (i:Int) (ql d a b j (fun x=>x=r) (k+1)):=fun h3=>by
    unfold Cq
    rw [gp om]
    exact ih (i+1) om h3
   rw [ql]
   unfold F3
   rw [hL]
   refine ⟨fun _=>?_,fun hc=>oe hc⟩
   rw [eB]
   refine ⟨om,om,fun hc=>?_,fun hc=>?_⟩
   ·have hc:(l.getD i default==a)=false:=by
     rw [dR]; rw [bne_iff_ne] at hc; exact hc
    rw [hc,gZ,aQ dc] at h2
    exact next h2
   have hc:(l.getD i default==a)=true:=by
    rw [bne_eq_false_iff_eq] at hc; rw [dI]; exact hc
   rw [hc,fu] at h2
   have inner:∀ (k2 m:Nat),m+k2=l.length→i+1≤m→(r=if U_ j b (l.drop m) (decide (m=i+1))=true then true else sb1 j a b (l.drop (i+1)))→y7 d b j (fun x=>x=r) (i:Int) (ql d a b j (fun x=>x=r) (k+1)) (k2+1) (m:Int):=by
    intro k2
    induction k2 with
    | zero =>
     intro m h3 h4 h5
     rw [fF om,U_,aQ dc] at h5
     rw [y7]
     unfold FZ
     rw [hL]
     exact ⟨fun hc=>od hc,fun _=>next h5⟩
    | succ k2 ih2 =>
     intro m h3 h4 h5
     rw [dm (l:=l) default om,U_] at h5
     rw [y7]
     unfold FZ
     rw [hL]
     refine ⟨fun _=>?_,fun hc=>oe hc⟩
     rw [eB,gp (x:=(i:Int)+1) om]
     have e:((m:Int)==(i:Int)+1)=decide (m=i+1):=by
      rw [uR,dI,dH]; omega
     rw [e]
     refine ⟨om,om,fun hh=>?_,fun hh=>?_⟩
     ·rw [aT hh,bn rfl] at h5; exact h5.symm
     rw [aF hh] at h5
     rw [gp om]
     refine ih2 (m+1) om om ?_
     rw [lZ (show ¬ m+1=i+1 by omega)]
     exact h5
   rw [gp om,show (i:Int)+1=((i+1:Nat):Int) by omega]
   exact ⟨_,inner (l.length - (i+1)) (i+1) om (fK _) (by rw [f_ rfl]; exact h2)⟩
 exact ⟨_,outer l.length 0 om hr⟩
theorem afV {g:ak} {u0:Option Addr} {j0:Nat} (xd:Dc) (xa:Int) (xb:Int) (bX:Int) (c0:bG g qh [.slice u0 xd.1.length j0] xd.1)  (hp:ZV xd xa xb bX):bE prog 25 #[.agg (aD xd u0 j0),iv xa,iv xb,.int .u8 bX] g (.bool (nH xd xa xb bX)) :=
 (ZU xd xa xb bX c0 _ (afW xd xa xb bX hp)).gv
end
end Go.Proofs.YtdapgmigogpdcaaGreatDoor.Ma
