/- The parser of scripts: its walks. -/
import Derived.Test.YtalnampdiegmoaaDoorPsb
namespace Go.Proofs.YtalnampdiegmoaaDoor.Ps
open _root_.Go.Proofs.Tryd Go Go.Eng Go.RowKit
set_option linter.unusedVariables false
set_option linter.unusedSimpArgs false
set_option maxHeartbeats 4000000
set_option maxRecDepth 100000
noncomputable section
def penF (xp:PS) (xn:JN) (K:JN→PS→Prop) (Z:Prop):Prop :=
 psPs xp ([59]:Bs)∧(∀ q4:PS,pmuS xp ([59]:Bs)=some q4→K xn q4)∧(pmuS xp ([59]:Bs)=none→Z)
theorem pen_ok {g:Ghost} {bxp:Nat} {u0:Option Addr} {j0:Nat} (xp:PS) {g0:Option Addr} {m0:Nat} (xn:JN) (x0:Rep g yTs [.slice u0 xp.1.length j0] xp.1) (n0:Rep g yJs [.slice g0 xn.kids.length m0] xn.kids) (Z:Prop) (K:JN→PS→Prop)
  (hF:penF xp xn K Z):CallsP prog 36 #[pv bxp 0,.agg (aJ xn g0 m0)] g [.blk bxp (.cells (aP xp u0 j0) 48)] (fun g' H' v=>∃ (r0:JN),∃ (fxp:PS),∃ (z0:Option Addr) (v0:Nat),∃ (k0:Option Addr) (y0:Nat),v=.agg (aJ r0 z0 v0)∧Rep g' yJs [.slice z0 r0.kids.length v0] r0.kids∧Rep g' yTs [.slice k0 fxp.1.length y0] fxp.1∧H'=[.blk bxp (.cells (aP fxp k0 y0) 48)]∧K r0 fxp) Z (.iface 44 (.agg #[])):=by
 refine CallsP.enter 8 [(0,pv bxp 0),(1,.agg (aJ xn g0 m0))] func36 rfl kr kr kr fun w0=>?_
 refine Ok.sr (Ok.o (OpOk.bz fun bs3=>?_))
 refine Ok.o (OpOk.aw aY fun bs4=>?_)
 refine Ok.nt (Ok.sr (Ok.B 1 [(3,pv bs3 0),(4,pv bs4 0),(5,pv bxp 0)] kr ?_))
 obtain ⟨hp3,hF,hz4⟩:=hF
 refine Ok.en [2,0,1] ?_
 refine Ok.o (OpOk.cp (pmu_c xp Br x0 hp3) (pT (Gext.r w0 g) hz4) fun g5 _ _ hx5 hV5=>?_)
 obtain ⟨q4,hq4,G0,H0,rfl,hR5_0,rfl⟩:=hV5
 replace hF:=hF _ hq4
 replace n0:=n0.mono hx5.1
 refine Ok.nt (Ok.sr (Ok.o (OpOk.s (v:=.agg (aJ xn g0 m0)) (Yields.loadAgg 2 4 (aJ xn g0 m0) rfl rfl underlying24 rfl kr kr kr) rfl rfl (Ok.o (OpOk.w 1 ?_)))))
 refine Ok.nt (Ok.ret ?_)
 exact Ok.fine (.inl rfl) (Ok.p (vs:=[.agg (aJ xn g0 m0)]) [0] [.blk bxp (.cells (aP q4 G0 H0) 48)] dc rfl (.inl rfl) rfl (.cons (.cellAgg 1 4 (aJ xn g0 m0) rfl rfl underlying24 rfl kr kr kr) .nil) hx5 ⟨xn,q4,g0,m0,G0,H0,rfl,n0,hR5_0,rfl,hF⟩)
def penS (p:PS) (n:JN):RJ:=endS n p
def penP (p:PS) (_:JN):Prop:=psP p
theorem pen_F (p:PS) (n:JN) (hp:penP p n):penF p n (fun a b=>penS p n=some (a,b)) (penS p n=none):=by
 refine ⟨hp,fun q hq=>?_,fun hq=>?_⟩
 ·unfold penS endS
  rw [hq]; rfl
 unfold penS endS
 rw [hq]; rfl
theorem pen_c {g:Ghost} {bxp:Nat} {u0:Option Addr} {j0:Nat} (xp:PS) {g0:Option Addr} {m0:Nat} (xn:JN) (x0:Rep g yTs [.slice u0 xp.1.length j0] xp.1) (n0:Rep g yJs [.slice g0 xn.kids.length m0] xn.kids)  (hp:penP xp xn):CallsP prog 36 #[pv bxp 0,.agg (aJ xn g0 m0)] g [.blk bxp (.cells (aP xp u0 j0) 48)] (fun g' H' v=>∃ q0:JN×PS,penS xp xn=some q0∧∃ (z0:Option Addr) (v0:Nat),∃ (k0:Option Addr) (y0:Nat),v=.agg (aJ q0.1 z0 v0)∧Rep g' yJs [.slice z0 q0.1.kids.length v0] q0.1.kids∧Rep g' yTs [.slice k0 q0.2.1.length y0] q0.2.1∧H'=[.blk bxp (.cells (aP q0.2 k0 y0) 48)]) (penS xp xn=none) (.iface 44 (.agg #[])) :=
 (pen_ok xp xn x0 n0 _ _ (pen_F xp xn hp)).mono (by rintro g' H' v _ ⟨r0,fxp,z0,v0,k0,y0,rfl,o0,hRfxp_0,rfl,hK⟩; exact ⟨(r0,fxp),hK,z0,v0,k0,y0,rfl,o0,hRfxp_0,rfl⟩) id
def prkF (K:(List Bs×List Bs×List Bs×List Bs×List Bs×List Bs)→Prop):Prop :=
 K (([([124,124]:Bs)]:List Bs),([([38,38]:Bs)]:List Bs),([([61,61]:Bs),([33,61]:Bs)]:List Bs),([([60]:Bs),([60,61]:Bs),([62]:Bs),([62,61]:Bs)]:List Bs),([([43]:Bs),([45]:Bs)]:List Bs),([([42]:Bs),([47]:Bs),([37]:Bs)]:List Bs))
theorem prk_ok {g:Ghost}  (K:(List Bs×List Bs×List Bs×List Bs×List Bs×List Bs)→Prop)
  (hF:prkF K):CallsH prog 85 #[] g [] (fun g' H' v=>∃ (r0:List Bs×List Bs×List Bs×List Bs×List Bs×List Bs),∃ (z0:Option Addr) (v0:Nat),∃ (t0:Option Addr) (l0:Nat),∃ (a0:Option Addr) (i0:Nat),∃ (Z0:Option Addr) (V0:Nat),∃ (Q0:Option Addr) (K0:Nat),∃ (Y0:Option Addr) (U0:Nat),v=.agg #[.slice z0 r0.1.length v0,.slice t0 r0.2.1.length l0,.slice a0 r0.2.2.1.length i0,.slice Z0 r0.2.2.2.1.length V0,.slice Q0 r0.2.2.2.2.1.length K0,.slice Y0 r0.2.2.2.2.2.length U0]∧Rep g' (.slice (.str)) [.slice z0 r0.1.length v0] r0.1∧Rep g' (.slice (.str)) [.slice t0 r0.2.1.length l0] r0.2.1∧Rep g' (.slice (.str)) [.slice a0 r0.2.2.1.length i0] r0.2.2.1∧Rep g' (.slice (.str)) [.slice Z0 r0.2.2.2.1.length V0] r0.2.2.2.1∧Rep g' (.slice (.str)) [.slice Q0 r0.2.2.2.2.1.length K0] r0.2.2.2.2.1∧Rep g' (.slice (.str)) [.slice Y0 r0.2.2.2.2.2.length U0] r0.2.2.2.2.2∧H'=[]∧K r0):=by
 refine CallsH.en 8 func85 rfl fun w0=>?_
 refine Ok.sr (Ok.o (OpOk.aw #[.slice none 0 0,.slice none 0 0,.slice none 0 0,.slice none 0 0,.slice none 0 0,.slice none 0 0] fun bs0=>?_))
 refine Ok.nt (Ok.q (Ok.r ?_))
 have hL2:RepL g (.str) ([sv Bm]:List Value) ([Bm]:List Bs):=(RepL.consN (c:=[sv Bm]) rfl rfl)
 refine Ok.o (OpOk.li hL2 fun b2=>?_)
 have hL3:RepL g (.str) ([sv Bl]:List Value) ([Bl]:List Bs):=(RepL.consN (c:=[sv Bl]) rfl rfl)
 refine Ok.o (OpOk.li hL3 fun b3=>?_)
 have hL4:RepL g (.str) ([sv Bj,sv Bi]:List Value) ([Bj,Bi]:List Bs):=(RepL.consN (c:=[sv Bj]) rfl (RepL.consN (c:=[sv Bi]) rfl rfl))
 refine Ok.o (OpOk.li hL4 fun b4=>?_)
 have hL5:RepL g (.str) ([sv ([60]:Bs),sv Bf,sv ([62]:Bs),sv Be]:List Value) ([([60]:Bs),Bf,([62]:Bs),Be]:List Bs):=(RepL.flat kr kr)
 refine Ok.o (OpOk.li hL5 fun b5=>?_)
 have hL6:RepL g (.str) ([sv ([43]:Bs),sv Bd]:List Value) ([([43]:Bs),Bd]:List Bs):=(RepL.consN (c:=[sv ([43]:Bs)]) rfl (RepL.consN (c:=[sv Bd]) rfl rfl))
 refine Ok.o (OpOk.li hL6 fun b6=>?_)
 have hL7:RepL g (.str) ([sv ([42]:Bs),sv ([47]:Bs),sv ([37]:Bs)]:List Value) ([([42]:Bs),([47]:Bs),([37]:Bs)]:List Bs):=(RepL.consN (c:=[sv ([42]:Bs)]) rfl (RepL.consN (c:=[sv ([47]:Bs)]) rfl (RepL.consN (c:=[sv ([37]:Bs)]) rfl rfl)))
 refine Ok.o (OpOk.li hL7 fun b7=>?_)
 refine Ok.B 1 [(0,pv bs0 0),(7,.agg #[.slice (some ⟨b2,0,none⟩) ([Bm]:List Bs).length 1,.slice (some ⟨b3,0,none⟩) ([Bl]:List Bs).length 1,.slice (some ⟨b4,0,none⟩) ([Bj,Bi]:List Bs).length 2,.slice (some ⟨b5,0,none⟩) ([([60]:Bs),Bf,([62]:Bs),Be]:List Bs).length 4,.slice (some ⟨b6,0,none⟩) ([([43]:Bs),Bd]:List Bs).length 2,.slice (some ⟨b7,0,none⟩) ([([42]:Bs),([47]:Bs),([37]:Bs)]:List Bs).length 3])] kr (Ok.o (OpOk.w 6 ?_))
 refine Ok.nt (Ok.ret (Ok.frz 5 rfl hL2 fun g8 hx8 J0=>?_))
 replace hL3:=hL3.mono hx8.1
 replace hL4:=hL4.mono hx8.1
 replace hL5:=hL5.mono hx8.1
 replace hL6:=hL6.mono hx8.1
 replace hL7:=hL7.mono hx8.1
 refine Ok.frz 4 rfl hL3 fun g9 hx9 W0=>?_
 replace J0:=J0.mono hx9.1
 replace hL4:=hL4.mono hx9.1
 replace hL5:=hL5.mono hx9.1
 replace hL6:=hL6.mono hx9.1
 replace hL7:=hL7.mono hx9.1
 refine Ok.frz 3 rfl hL4 fun g10 C0 X0=>?_
 replace J0:=J0.mono C0.1
 replace W0:=W0.mono C0.1
 replace hL5:=hL5.mono C0.1
 replace hL6:=hL6.mono C0.1
 replace hL7:=hL7.mono C0.1
 refine Ok.frz 2 rfl hL5 fun g11 B0 S0=>?_
 replace J0:=J0.mono B0.1
 replace W0:=W0.mono B0.1
 replace X0:=X0.mono B0.1
 replace hL6:=hL6.mono B0.1
 replace hL7:=hL7.mono B0.1
 refine Ok.frz 1 rfl hL6 fun g12 D0 F0=>?_
 replace J0:=J0.mono D0.1
 replace W0:=W0.mono D0.1
 replace X0:=X0.mono D0.1
 replace S0:=S0.mono D0.1
 replace hL7:=hL7.mono D0.1
 refine Ok.frz 0 rfl hL7 fun g13 E0 hRf13=>?_
 replace J0:=J0.mono E0.1
 replace W0:=W0.mono E0.1
 replace X0:=X0.mono E0.1
 replace S0:=S0.mono E0.1
 replace F0:=F0.mono E0.1
 exact Ok.p (vs:=[.agg #[.slice (some ⟨b2,0,none⟩) ([Bm]:List Bs).length 1,.slice (some ⟨b3,0,none⟩) ([Bl]:List Bs).length 1,.slice (some ⟨b4,0,none⟩) ([Bj,Bi]:List Bs).length 2,.slice (some ⟨b5,0,none⟩) ([([60]:Bs),Bf,([62]:Bs),Be]:List Bs).length 4,.slice (some ⟨b6,0,none⟩) ([([43]:Bs),Bd]:List Bs).length 2,.slice (some ⟨b7,0,none⟩) ([([42]:Bs),([47]:Bs),([37]:Bs)]:List Bs).length 3]]) [] [] dc rfl (.inl rfl) rfl (.cons (.cellAgg 0 6 #[.slice (some ⟨b2,0,none⟩) ([Bm]:List Bs).length 1,.slice (some ⟨b3,0,none⟩) ([Bl]:List Bs).length 1,.slice (some ⟨b4,0,none⟩) ([Bj,Bi]:List Bs).length 2,.slice (some ⟨b5,0,none⟩) ([([60]:Bs),Bf,([62]:Bs),Be]:List Bs).length 4,.slice (some ⟨b6,0,none⟩) ([([43]:Bs),Bd]:List Bs).length 2,.slice (some ⟨b7,0,none⟩) ([([42]:Bs),([47]:Bs),([37]:Bs)]:List Bs).length 3] rfl rfl underlying97 rfl kr kr kr) .nil) (((((hx8.trans hx9).trans C0).trans B0).trans D0).trans E0) ⟨(([Bm]:List Bs),([Bl]:List Bs),([Bj,Bi]:List Bs),([([60]:Bs),Bf,([62]:Bs),Be]:List Bs),([([43]:Bs),Bd]:List Bs),([([42]:Bs),([47]:Bs),([37]:Bs)]:List Bs)),(some ⟨b2,0,none⟩),1,(some ⟨b3,0,none⟩),1,(some ⟨b4,0,none⟩),2,(some ⟨b5,0,none⟩),4,(some ⟨b6,0,none⟩),2,(some ⟨b7,0,none⟩),3,rfl,J0,W0,X0,S0,F0,hRf13,rfl,hF⟩
def prkS:List Bs×List Bs×List Bs×List Bs×List Bs×List Bs:=(ranks.getD 0 [],ranks.getD 1 [],ranks.getD 2 [],ranks.getD 3 [],ranks.getD 4 [],ranks.getD 5 [])
theorem prk_F:prkF (fun a=>a=prkS):=rfl
theorem prk_c {g:Ghost}   : CallsH prog 85 #[] g [] (fun g' H' v=>∃ (z0:Option Addr) (v0:Nat),∃ (t0:Option Addr) (l0:Nat),∃ (a0:Option Addr) (i0:Nat),∃ (Z0:Option Addr) (V0:Nat),∃ (Q0:Option Addr) (K0:Nat),∃ (Y0:Option Addr) (U0:Nat),v=.agg #[.slice z0 prkS.1.length v0,.slice t0 prkS.2.1.length l0,.slice a0 prkS.2.2.1.length i0,.slice Z0 prkS.2.2.2.1.length V0,.slice Q0 prkS.2.2.2.2.1.length K0,.slice Y0 prkS.2.2.2.2.2.length U0]∧Rep g' (.slice (.str)) [.slice z0 prkS.1.length v0] prkS.1∧Rep g' (.slice (.str)) [.slice t0 prkS.2.1.length l0] prkS.2.1∧Rep g' (.slice (.str)) [.slice a0 prkS.2.2.1.length i0] prkS.2.2.1∧Rep g' (.slice (.str)) [.slice Z0 prkS.2.2.2.1.length V0] prkS.2.2.2.1∧Rep g' (.slice (.str)) [.slice Q0 prkS.2.2.2.2.1.length K0] prkS.2.2.2.2.1∧Rep g' (.slice (.str)) [.slice Y0 prkS.2.2.2.2.2.length U0] prkS.2.2.2.2.2∧H'=[]) :=
 (prk_ok  _ (prk_F )).mono (by rintro g' H' v _ ⟨r0,z0,v0,t0,l0,a0,i0,Z0,V0,Q0,K0,Y0,U0,rfl,o0,hRr0_1,hRr0_2,hRr0_3,hRr0_4,hRr0_5,rfl,hK⟩; subst hK; exact ⟨z0,v0,t0,l0,a0,i0,Z0,V0,Q0,K0,Y0,U0,rfl,o0,hRr0_1,hRr0_2,hRr0_3,hRr0_4,hRr0_5,rfl⟩)
def pjoF (xsign:Bs) (xa:JN) (xb:JN) (K:JN→Prop):Prop :=
 ((xsign==([124,124]:Bs))=true→K (Tree.mk (17,0,([]:Bs)) ([xa,xb]:List JN)))∧((xsign==([124,124]:Bs))=false→((xsign==([38,38]:Bs))=true→K (Tree.mk (16,0,([]:Bs)) ([xa,xb]:List JN)))∧((xsign==([38,38]:Bs))=false→K (Tree.mk (15,0,xsign) ([xa,xb]:List JN))))
theorem pjo_ok {g:Ghost} (xsign:Bs) {s0:Option Addr} {b0:Nat} (xa:JN) {c0:Option Addr} {d0:Nat} (xb:JN) (e0:Rep g yJs [.slice s0 xa.kids.length b0] xa.kids) (f0:Rep g yJs [.slice c0 xb.kids.length d0] xb.kids) (K:JN→Prop)
  (hF:pjoF xsign xa xb K):CallsH prog 87 #[sv xsign,.agg (aJ xa s0 b0),.agg (aJ xb c0 d0)] g [] (fun g' H' v=>∃ (r0:JN),∃ (z0:Option Addr) (v0:Nat),v=.agg (aJ r0 z0 v0)∧Rep g' yJs [.slice z0 r0.kids.length v0] r0.kids∧H'=[]∧K r0):=by
 refine CallsH.en 25 func87 rfl fun w0=>?_
 refine Ok.sr (Ok.o (OpOk.bz fun bs4=>?_))
 refine Ok.o (OpOk.bz fun bs5=>?_)
 refine Ok.o (OpOk.aw aY fun bs6=>?_)
 refine Ok.nt (Ok.q (Ok.sr (Ok.B 1 [(0,sv xsign),(4,pv bs4 0),(5,pv bs5 0),(6,pv bs6 0),(7,sv xsign)] kr (Ok.nt (Ok.block (Ok.sr (Ok.rn 2 [] [0,4,5,6,7] [(8,.bool (xsign==Bm))] ?_)))))))
 refine Ok.nt (Ok.cw hF (fun hc4 hF=>?_) (fun hc4 hF=>?_))
 ·refine Ok.sr (Ok.o (OpOk.s (v:=.agg (aJ xa s0 b0)) (Yields.loadAgg 2 4 (aJ xa s0 b0) rfl rfl underlying24 rfl kr kr kr) rfl rfl (Ok.o (OpOk.s (v:=.agg (aJ xb c0 d0)) (Yields.loadAgg 1 4 (aJ xb c0 d0) rfl rfl underlying24 rfl kr kr kr) rfl rfl ?_))))
  have hL5:RepL g yJ ([iv xa.lab.1,iv xa.lab.2.1,sv xa.lab.2.2,.slice s0 xa.kids.length b0,iv xb.lab.1,iv xb.lab.2.1,sv xb.lab.2.2,.slice c0 xb.kids.length d0]:List Value) ([xa,xb]:List JN):=(RepL.consN (c:=(lJ xa s0 b0)) (Rep.tree.2 ⟨[iv xa.lab.1,iv xa.lab.2.1,sv xa.lab.2.2],[.slice s0 xa.kids.length b0],rfl,⟨[iv xa.lab.1],[iv xa.lab.2.1,sv xa.lab.2.2],rfl,rfl,⟨[iv xa.lab.2.1],[sv xa.lab.2.2],rfl,rfl,rfl⟩⟩,e0⟩) (RepL.consN (c:=(lJ xb c0 d0)) (Rep.tree.2 ⟨[iv xb.lab.1,iv xb.lab.2.1,sv xb.lab.2.2],[.slice c0 xb.kids.length d0],rfl,⟨[iv xb.lab.1],[iv xb.lab.2.1,sv xb.lab.2.2],rfl,rfl,⟨[iv xb.lab.2.1],[sv xb.lab.2.2],rfl,rfl,rfl⟩⟩,f0⟩) rfl))
  refine Ok.o (OpOk.li hL5 fun b5=>?_)
  refine Ok.b 1 [6] [(13,.agg (aM 17 0 Bz (some ⟨b5,0,none⟩) ([xa,xb]:List JN) 2))] ?_
  refine Ok.o (OpOk.w 1 ?_)
  refine Ok.nt (Ok.ret (Ok.kr (Ok.tr (Ok.frz 0 rfl hL5 fun g6 hx6 hRf6=>?_))))
  replace f0:=f0.mono hx6.1
  replace e0:=e0.mono hx6.1
  exact Ok.p (vs:=[.agg (aM 17 0 Bz (some ⟨b5,0,none⟩) ([xa,xb]:List JN) 2)]) [] [] dc rfl (.inl rfl) rfl (.cons (.cellAgg 0 4 (aM 17 0 Bz (some ⟨b5,0,none⟩) ([xa,xb]:List JN) 2) rfl rfl underlying24 rfl kr kr kr) .nil) hx6 ⟨(Tree.mk (17,0,Bz) ([xa,xb]:List JN)),(some ⟨b5,0,none⟩),2,rfl,hRf6,rfl,hF⟩
 refine Ok.sr (Ok.rn 2 [] [0,4,5,6] [(14,.bool (xsign==Bl))] ?_)
 refine Ok.nt (Ok.cw hF (fun hc7 hF=>?_) (fun hc7 hF=>?_))
 ·refine Ok.sr (Ok.o (OpOk.s (v:=.agg (aJ xa s0 b0)) (Yields.loadAgg 2 4 (aJ xa s0 b0) rfl rfl underlying24 rfl kr kr kr) rfl rfl (Ok.o (OpOk.s (v:=.agg (aJ xb c0 d0)) (Yields.loadAgg 1 4 (aJ xb c0 d0) rfl rfl underlying24 rfl kr kr kr) rfl rfl ?_))))
  have hL8:RepL g yJ ([iv xa.lab.1,iv xa.lab.2.1,sv xa.lab.2.2,.slice s0 xa.kids.length b0,iv xb.lab.1,iv xb.lab.2.1,sv xb.lab.2.2,.slice c0 xb.kids.length d0]:List Value) ([xa,xb]:List JN):=(RepL.consN (c:=(lJ xa s0 b0)) (Rep.tree.2 ⟨[iv xa.lab.1,iv xa.lab.2.1,sv xa.lab.2.2],[.slice s0 xa.kids.length b0],rfl,⟨[iv xa.lab.1],[iv xa.lab.2.1,sv xa.lab.2.2],rfl,rfl,⟨[iv xa.lab.2.1],[sv xa.lab.2.2],rfl,rfl,rfl⟩⟩,e0⟩) (RepL.consN (c:=(lJ xb c0 d0)) (Rep.tree.2 ⟨[iv xb.lab.1,iv xb.lab.2.1,sv xb.lab.2.2],[.slice c0 xb.kids.length d0],rfl,⟨[iv xb.lab.1],[iv xb.lab.2.1,sv xb.lab.2.2],rfl,rfl,⟨[iv xb.lab.2.1],[sv xb.lab.2.2],rfl,rfl,rfl⟩⟩,f0⟩) rfl))
  refine Ok.o (OpOk.li hL8 fun b8=>?_)
  refine Ok.b 1 [6] [(19,.agg (aM 16 0 Bz (some ⟨b8,0,none⟩) ([xa,xb]:List JN) 2))] ?_
  refine Ok.o (OpOk.w 1 ?_)
  refine Ok.nt (Ok.ret (Ok.kr (Ok.tr (Ok.frz 0 rfl hL8 fun g9 hx9 W0=>?_))))
  replace f0:=f0.mono hx9.1
  replace e0:=e0.mono hx9.1
  exact Ok.p (vs:=[.agg (aM 16 0 Bz (some ⟨b8,0,none⟩) ([xa,xb]:List JN) 2)]) [] [] dc rfl (.inl rfl) rfl (.cons (.cellAgg 0 4 (aM 16 0 Bz (some ⟨b8,0,none⟩) ([xa,xb]:List JN) 2) rfl rfl underlying24 rfl kr kr kr) .nil) hx9 ⟨(Tree.mk (16,0,Bz) ([xa,xb]:List JN)),(some ⟨b8,0,none⟩),2,rfl,W0,rfl,hF⟩
 refine Ok.k (Ok.kn (Ok.t (Ok.sr (Ok.b 1 [4,5,6] [(20,sv xsign)] ?_))))
 refine Ok.o (OpOk.s (v:=.agg (aJ xa s0 b0)) (Yields.loadAgg 2 4 (aJ xa s0 b0) rfl rfl underlying24 rfl kr kr kr) rfl rfl (Ok.o (OpOk.s (v:=.agg (aJ xb c0 d0)) (Yields.loadAgg 1 4 (aJ xb c0 d0) rfl rfl underlying24 rfl kr kr kr) rfl rfl ?_)))
 have M0:RepL g yJ ([iv xa.lab.1,iv xa.lab.2.1,sv xa.lab.2.2,.slice s0 xa.kids.length b0,iv xb.lab.1,iv xb.lab.2.1,sv xb.lab.2.2,.slice c0 xb.kids.length d0]:List Value) ([xa,xb]:List JN):=(RepL.consN (c:=(lJ xa s0 b0)) (Rep.tree.2 ⟨[iv xa.lab.1,iv xa.lab.2.1,sv xa.lab.2.2],[.slice s0 xa.kids.length b0],rfl,⟨[iv xa.lab.1],[iv xa.lab.2.1,sv xa.lab.2.2],rfl,rfl,⟨[iv xa.lab.2.1],[sv xa.lab.2.2],rfl,rfl,rfl⟩⟩,e0⟩) (RepL.consN (c:=(lJ xb c0 d0)) (Rep.tree.2 ⟨[iv xb.lab.1,iv xb.lab.2.1,sv xb.lab.2.2],[.slice c0 xb.kids.length d0],rfl,⟨[iv xb.lab.1],[iv xb.lab.2.1,sv xb.lab.2.2],rfl,rfl,⟨[iv xb.lab.2.1],[sv xb.lab.2.2],rfl,rfl,rfl⟩⟩,f0⟩) rfl))
 refine Ok.o (OpOk.li M0 fun b10=>?_)
 refine Ok.b 1 [6] [(24,.agg (aM 15 0 xsign (some ⟨b10,0,none⟩) ([xa,xb]:List JN) 2))] ?_
 refine Ok.o (OpOk.w 1 ?_)
 refine Ok.nt (Ok.ret (Ok.frz 0 rfl M0 fun g11 B0 S0=>?_))
 exact Ok.p (vs:=[.agg (aM 15 0 xsign (some ⟨b10,0,none⟩) ([xa,xb]:List JN) 2)]) [] [] dc rfl (.inl rfl) rfl (.cons (.cellAgg 0 4 (aM 15 0 xsign (some ⟨b10,0,none⟩) ([xa,xb]:List JN) 2) rfl rfl underlying24 rfl kr kr kr) .nil) B0 ⟨(Tree.mk (15,0,xsign) ([xa,xb]:List JN)),(some ⟨b10,0,none⟩),2,rfl,S0,rfl,hF⟩
def pjoS (s:Bs) (a b:JN):JN:=joinS s a b
theorem pjo_F (s:Bs) (a b:JN):pjoF s a b (fun r=>r=pjoS s a b):=by
 unfold pjoS joinS
 refine ⟨fun h=>?_,fun h=>⟨fun h2=>?_,fun h2=>?_⟩⟩
 ·rw [if_pos (by simpa using h)]; rfl
 ·rw [if_neg (by simpa using h),if_pos (by simpa using h2)]; rfl
 rw [if_neg (by simpa using h),if_neg (by simpa using h2)]; rfl
theorem pjo_c {g:Ghost} (xsign:Bs) {s0:Option Addr} {b0:Nat} (xa:JN) {c0:Option Addr} {d0:Nat} (xb:JN) (e0:Rep g yJs [.slice s0 xa.kids.length b0] xa.kids) (f0:Rep g yJs [.slice c0 xb.kids.length d0] xb.kids)  : CallsH prog 87 #[sv xsign,.agg (aJ xa s0 b0),.agg (aJ xb c0 d0)] g [] (fun g' H' v=>∃ (z0:Option Addr) (v0:Nat),v=.agg (aJ (pjoS xsign xa xb) z0 v0)∧Rep g' yJs [.slice z0 (pjoS xsign xa xb).kids.length v0] (pjoS xsign xa xb).kids∧H'=[]) :=
 (pjo_ok xsign xa xb e0 f0 _ (pjo_F xsign xa xb)).mono (by rintro g' H' v _ ⟨r0,z0,v0,rfl,o0,rfl,hK⟩; subst hK; exact ⟨z0,v0,rfl,o0,rfl⟩)
def pst_C (N:Nat):Prop:=∀ (g:Ghost) {bxp:Nat} {u0:Option Addr} {j0:Nat} (xp:PS) (x0:Rep g yTs [.slice u0 xp.1.length j0] xp.1)  (hp:stP N xp),CallsP prog 16 #[pv bxp 0] g [.blk bxp (.cells (aP xp u0 j0) 48)] (fun g' H' v=>∃ q0:JN×PS,stN N xp=some q0∧∃ (z0:Option Addr) (v0:Nat),∃ (k0:Option Addr) (y0:Nat),v=.agg (aJ q0.1 z0 v0)∧Rep g' yJs [.slice z0 q0.1.kids.length v0] q0.1.kids∧Rep g' yTs [.slice k0 q0.2.1.length y0] q0.2.1∧H'=[.blk bxp (.cells (aP q0.2 k0 y0) 48)]) (stN N xp=none) (.iface 44 (.agg #[]))
def pex_C (N:Nat):Prop:=∀ (g:Ghost) {bxp:Nat} {u0:Option Addr} {j0:Nat} (xp:PS) (x0:Rep g yTs [.slice u0 xp.1.length j0] xp.1)  (hp:exP N xp),CallsP prog 35 #[pv bxp 0] g [.blk bxp (.cells (aP xp u0 j0) 48)] (fun g' H' v=>∃ q0:JN×PS,exN N xp=some q0∧∃ (z0:Option Addr) (v0:Nat),∃ (k0:Option Addr) (y0:Nat),v=.agg (aJ q0.1 z0 v0)∧Rep g' yJs [.slice z0 q0.1.kids.length v0] q0.1.kids∧Rep g' yTs [.slice k0 q0.2.1.length y0] q0.2.1∧H'=[.blk bxp (.cells (aP q0.2 k0 y0) 48)]) (exN N xp=none) (.iface 44 (.agg #[]))
def pco_C (N:Nat):Prop:=∀ (g:Ghost) {bxp:Nat} {u0:Option Addr} {j0:Nat} (xp:PS) (x0:Rep g yTs [.slice u0 xp.1.length j0] xp.1)  (hp:coP N xp),CallsP prog 64 #[pv bxp 0] g [.blk bxp (.cells (aP xp u0 j0) 48)] (fun g' H' v=>∃ q0:JN×PS,coN N xp=some q0∧∃ (z0:Option Addr) (v0:Nat),∃ (k0:Option Addr) (y0:Nat),v=.agg (aJ q0.1 z0 v0)∧Rep g' yJs [.slice z0 q0.1.kids.length v0] q0.1.kids∧Rep g' yTs [.slice k0 q0.2.1.length y0] q0.2.1∧H'=[.blk bxp (.cells (aP q0.2 k0 y0) 48)]) (coN N xp=none) (.iface 44 (.agg #[]))
def pbi_C (N:Nat):Prop:=∀ (g:Ghost) {bxp:Nat} {u0:Option Addr} {j0:Nat} (xp:PS) (xrank:Int) (x0:Rep g yTs [.slice u0 xp.1.length j0] xp.1)  (hp:biP N xp xrank),CallsP prog 78 #[pv bxp 0,iv xrank] g [.blk bxp (.cells (aP xp u0 j0) 48)] (fun g' H' v=>∃ q0:JN×PS,biN N xp xrank=some q0∧∃ (z0:Option Addr) (v0:Nat),∃ (k0:Option Addr) (y0:Nat),v=.agg (aJ q0.1 z0 v0)∧Rep g' yJs [.slice z0 q0.1.kids.length v0] q0.1.kids∧Rep g' yTs [.slice k0 q0.2.1.length y0] q0.2.1∧H'=[.blk bxp (.cells (aP q0.2 k0 y0) 48)]) (biN N xp xrank=none) (.iface 44 (.agg #[]))
def pun_C (N:Nat):Prop:=∀ (g:Ghost) {bxp:Nat} {u0:Option Addr} {j0:Nat} (xp:PS) (x0:Rep g yTs [.slice u0 xp.1.length j0] xp.1)  (hp:unP N xp),CallsP prog 86 #[pv bxp 0] g [.blk bxp (.cells (aP xp u0 j0) 48)] (fun g' H' v=>∃ q0:JN×PS,unN N xp=some q0∧∃ (z0:Option Addr) (v0:Nat),∃ (k0:Option Addr) (y0:Nat),v=.agg (aJ q0.1 z0 v0)∧Rep g' yJs [.slice z0 q0.1.kids.length v0] q0.1.kids∧Rep g' yTs [.slice k0 q0.2.1.length y0] q0.2.1∧H'=[.blk bxp (.cells (aP q0.2 k0 y0) 48)]) (unN N xp=none) (.iface 44 (.agg #[]))
def pfi_C (N:Nat):Prop:=∀ (g:Ghost) {bxp:Nat} {u0:Option Addr} {j0:Nat} (xp:PS) (x0:Rep g yTs [.slice u0 xp.1.length j0] xp.1)  (hp:fiP N xp),CallsP prog 93 #[pv bxp 0] g [.blk bxp (.cells (aP xp u0 j0) 48)] (fun g' H' v=>∃ q0:JN×PS,fiN N xp=some q0∧∃ (z0:Option Addr) (v0:Nat),∃ (k0:Option Addr) (y0:Nat),v=.agg (aJ q0.1 z0 v0)∧Rep g' yJs [.slice z0 q0.1.kids.length v0] q0.1.kids∧Rep g' yTs [.slice k0 q0.2.1.length y0] q0.2.1∧H'=[.blk bxp (.cells (aP q0.2 k0 y0) 48)]) (fiN N xp=none) (.iface 44 (.agg #[]))
def pin_C (N:Nat):Prop:=∀ (g:Ghost) {bxp:Nat} {u0:Option Addr} {j0:Nat} (xp:PS) (x0:Rep g yTs [.slice u0 xp.1.length j0] xp.1)  (hp:inP N xp),CallsP prog 39 #[pv bxp 0] g [.blk bxp (.cells (aP xp u0 j0) 48)] (fun g' H' v=>∃ q0:JN×PS,inN N xp=some q0∧∃ (z0:Option Addr) (v0:Nat),∃ (k0:Option Addr) (y0:Nat),v=.agg (aJ q0.1 z0 v0)∧Rep g' yJs [.slice z0 q0.1.kids.length v0] q0.1.kids∧Rep g' yTs [.slice k0 q0.2.1.length y0] q0.2.1∧H'=[.blk bxp (.cells (aP q0.2 k0 y0) 48)]) (inN N xp=none) (.iface 44 (.agg #[]))
def pbl_C (N:Nat):Prop:=∀ (g:Ghost) {bxp:Nat} {u0:Option Addr} {j0:Nat} (xp:PS) (x0:Rep g yTs [.slice u0 xp.1.length j0] xp.1)  (hp:blP N xp),CallsP prog 45 #[pv bxp 0] g [.blk bxp (.cells (aP xp u0 j0) 48)] (fun g' H' v=>∃ q0:JN×PS,blN N xp=some q0∧∃ (z0:Option Addr) (v0:Nat),∃ (k0:Option Addr) (y0:Nat),v=.agg (aJ q0.1 z0 v0)∧Rep g' yJs [.slice z0 q0.1.kids.length v0] q0.1.kids∧Rep g' yTs [.slice k0 q0.2.1.length y0] q0.2.1∧H'=[.blk bxp (.cells (aP q0.2 k0 y0) 48)]) (blN N xp=none) (.iface 44 (.agg #[]))
def pbo_C (N:Nat):Prop:=∀ (g:Ghost) {bxp:Nat} {u0:Option Addr} {j0:Nat} (xp:PS) (xfn:Bool) (x0:Rep g yTs [.slice u0 xp.1.length j0] xp.1)  (hp:boP N xp xfn),CallsP prog 40 #[pv bxp 0,.bool xfn] g [.blk bxp (.cells (aP xp u0 j0) 48)] (fun g' H' v=>∃ q0:JN×PS,boN N xp xfn=some q0∧∃ (z0:Option Addr) (v0:Nat),∃ (k0:Option Addr) (y0:Nat),v=.agg (aJ q0.1 z0 v0)∧Rep g' yJs [.slice z0 q0.1.kids.length v0] q0.1.kids∧Rep g' yTs [.slice k0 q0.2.1.length y0] q0.2.1∧H'=[.blk bxp (.cells (aP q0.2 k0 y0) 48)]) (boN N xp xfn=none) (.iface 44 (.agg #[]))
def pfn_C (N:Nat):Prop:=∀ (g:Ghost) {bxp:Nat} {u0:Option Addr} {j0:Nat} (xp:PS) (xname:Bs) (x0:Rep g yTs [.slice u0 xp.1.length j0] xp.1)  (hp:fnP N xp xname),CallsP prog 37 #[pv bxp 0,sv xname] g [.blk bxp (.cells (aP xp u0 j0) 48)] (fun g' H' v=>∃ q0:JN×PS,fnN N xp xname=some q0∧∃ (z0:Option Addr) (v0:Nat),∃ (k0:Option Addr) (y0:Nat),v=.agg (aJ q0.1 z0 v0)∧Rep g' yJs [.slice z0 q0.1.kids.length v0] q0.1.kids∧Rep g' yTs [.slice k0 q0.2.1.length y0] q0.2.1∧H'=[.blk bxp (.cells (aP q0.2 k0 y0) 48)]) (fnN N xp xname=none) (.iface 44 (.agg #[]))
def pif_C (N:Nat):Prop:=∀ (g:Ghost) {bxp:Nat} {u0:Option Addr} {j0:Nat} (xp:PS) (x0:Rep g yTs [.slice u0 xp.1.length j0] xp.1)  (hp:ifP N xp),CallsP prog 38 #[pv bxp 0] g [.blk bxp (.cells (aP xp u0 j0) 48)] (fun g' H' v=>∃ q0:JN×PS,ifN N xp=some q0∧∃ (z0:Option Addr) (v0:Nat),∃ (k0:Option Addr) (y0:Nat),v=.agg (aJ q0.1 z0 v0)∧Rep g' yJs [.slice z0 q0.1.kids.length v0] q0.1.kids∧Rep g' yTs [.slice k0 q0.2.1.length y0] q0.2.1∧H'=[.blk bxp (.cells (aP q0.2 k0 y0) 48)]) (ifN N xp=none) (.iface 44 (.agg #[]))
def pfo_C (N:Nat):Prop:=∀ (g:Ghost) {bxp:Nat} {u0:Option Addr} {j0:Nat} (xp:PS) (x0:Rep g yTs [.slice u0 xp.1.length j0] xp.1)  (hp:foP N xp),CallsP prog 41 #[pv bxp 0] g [.blk bxp (.cells (aP xp u0 j0) 48)] (fun g' H' v=>∃ q0:JN×PS,foN N xp=some q0∧∃ (z0:Option Addr) (v0:Nat),∃ (k0:Option Addr) (y0:Nat),v=.agg (aJ q0.1 z0 v0)∧Rep g' yJs [.slice z0 q0.1.kids.length v0] q0.1.kids∧Rep g' yTs [.slice k0 q0.2.1.length y0] q0.2.1∧H'=[.blk bxp (.cells (aP q0.2 k0 y0) 48)]) (foN N xp=none) (.iface 44 (.agg #[]))
def pty_C (N:Nat):Prop:=∀ (g:Ghost) {bxp:Nat} {u0:Option Addr} {j0:Nat} (xp:PS) (x0:Rep g yTs [.slice u0 xp.1.length j0] xp.1)  (hp:tyP N xp),CallsP prog 43 #[pv bxp 0] g [.blk bxp (.cells (aP xp u0 j0) 48)] (fun g' H' v=>∃ q0:JN×PS,tyN N xp=some q0∧∃ (z0:Option Addr) (v0:Nat),∃ (k0:Option Addr) (y0:Nat),v=.agg (aJ q0.1 z0 v0)∧Rep g' yJs [.slice z0 q0.1.kids.length v0] q0.1.kids∧Rep g' yTs [.slice k0 q0.2.1.length y0] q0.2.1∧H'=[.blk bxp (.cells (aP q0.2 k0 y0) 48)]) (tyN N xp=none) (.iface 44 (.agg #[]))
end
end Go.Proofs.YtalnampdiegmoaaDoor.Ps
