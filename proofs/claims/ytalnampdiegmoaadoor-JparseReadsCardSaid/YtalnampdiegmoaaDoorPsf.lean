/- The parser of scripts: walks. -/
import Derived.Test.YtalnampdiegmoaaDoorPsc
namespace Go.Proofs.YtalnampdiegmoaaDoor.Ps
open _root_.Go.Proofs.Tryd Go Go.Eng Go.RowKit
set_option linter.unusedVariables false
set_option linter.unusedSimpArgs false
set_option maxHeartbeats 4000000
set_option maxRecDepth 100000
noncomputable section
def pfnji10 (a0:Int) (C4x1:Int→List TK→Int→Bool→Bool→(List JN)→Prop) (S0:List TK) (F0:Int) (G0:Bool) (H0:Bool) (Y0:List JN):Prop :=
 C4x1 (w6 (a0+1)) S0 F0 G0 H0 Y0
def pfnj13i12 (Z:Prop) (a0:Int) (z0:List JN) (l0:List TK) (i0:Int) (Z0:Bool) (V0:Bool) (C4x1:Int→List TK→Int→Bool→Bool→(List JN)→Prop):Prop :=
 (psP (l0,i0,Z0,V0)∧(∀ q14:Bs×PS,pnmS (l0,i0,Z0,V0)=some q14→(z0++[nZ]).length≤2513169434916∧(0≤(z0.length:Int)∧Int.toNat (z0.length:Int)<(z0++[nZ]).length∧(pfnji10 a0 C4x1 q14.2.1 q14.2.2.1 q14.2.2.2.1 q14.2.2.2.2 ((z0++[nZ]).set (Int.toNat (z0.length:Int)) (Tree.mk (10,0,q14.1) ([]))))∧(pfnji10 a0 C4x1 q14.2.1 q14.2.2.1 q14.2.2.2.1 q14.2.2.2.2 ((z0++[nZ]).set (Int.toNat (z0.length:Int)) (Tree.mk (10,0,q14.1) ([])))))∧(0≤(z0.length:Int)∧Int.toNat (z0.length:Int)<(z0++[nZ]).length∧pfnji10 a0 C4x1 q14.2.1 q14.2.2.1 q14.2.2.2.1 q14.2.2.2.2 ((z0++[nZ]).set (Int.toNat (z0.length:Int)) (Tree.mk (10,0,q14.1) ([])))))∧(pnmS (l0,i0,Z0,V0)=none→Z))∧(psP (l0,i0,Z0,V0)∧(∀ q27:Bs×PS,pnmS (l0,i0,Z0,V0)=some q27→(z0++[nZ]).length≤2513169434916∧(0≤(z0.length:Int)∧Int.toNat (z0.length:Int)<(z0++[nZ]).length∧(pfnji10 a0 C4x1 q27.2.1 q27.2.2.1 q27.2.2.2.1 q27.2.2.2.2 ((z0++[nZ]).set (Int.toNat (z0.length:Int)) (Tree.mk (10,0,q27.1) ([]))))∧(pfnji10 a0 C4x1 q27.2.1 q27.2.2.1 q27.2.2.2.1 q27.2.2.2.2 ((z0++[nZ]).set (Int.toNat (z0.length:Int)) (Tree.mk (10,0,q27.1) ([])))))∧(0≤(z0.length:Int)∧Int.toNat (z0.length:Int)<(z0++[nZ]).length∧pfnji10 a0 C4x1 q27.2.1 q27.2.2.1 q27.2.2.2.1 q27.2.2.2.2 ((z0++[nZ]).set (Int.toNat (z0.length:Int)) (Tree.mk (10,0,q27.1) ([])))))∧(pnmS (l0,i0,Z0,V0)=none→Z))
def pfnl4x1b (N:Nat) (xname:Bs) (K:JN→PS→Prop) (Z:Prop) (a0:Int) (u0:List TK) (j0:Int) (x0:Bool) (s0:Bool) (z0:List JN) (C4x1:Int→List TK→Int→Bool→Bool→(List JN)→Prop):Prop :=
 psPs (u0,j0,x0,s0) ([41]:Bs)∧((!(pisS (u0,j0,x0,s0) ([41]:Bs)).1)=true→(decide (a0>0)=true→psPs (pisS (u0,j0,x0,s0) ([41]:Bs)).2 ([44]:Bs)∧(∀ q39:PS,(pmuS (pisS (u0,j0,x0,s0) ([41]:Bs)).2 ([44]:Bs))=some q39→pfnj13i12 Z a0 z0 q39.1 q39.2.1 q39.2.2.1 q39.2.2.2 C4x1)∧((pmuS (pisS (u0,j0,x0,s0) ([41]:Bs)).2 ([44]:Bs))=none→Z))∧(decide (a0>0)=false→pfnj13i12 Z a0 z0 (pisS (u0,j0,x0,s0) ([41]:Bs)).2.1 (pisS (u0,j0,x0,s0) ([41]:Bs)).2.2.1 (pisS (u0,j0,x0,s0) ([41]:Bs)).2.2.2.1 (pisS (u0,j0,x0,s0) ([41]:Bs)).2.2.2.2 C4x1))∧((!(pisS (u0,j0,x0,s0) ([41]:Bs)).1)=false→(boP N (pisS (u0,j0,x0,s0) ([41]:Bs)).2 true∧(∀ q42:JN×PS,(boN N (pisS (u0,j0,x0,s0) ([41]:Bs)).2 true)=some q42→(z0++[nZ]).length≤2513169434916∧(0≤(z0.length:Int)∧Int.toNat (z0.length:Int)<(z0++[nZ]).length∧(K (Tree.mk (9,0,xname) ((z0++[nZ]).set (Int.toNat (z0.length:Int)) q42.1)) q42.2)∧(K (Tree.mk (9,0,xname) ((z0++[nZ]).set (Int.toNat (z0.length:Int)) q42.1)) q42.2))∧(0≤(z0.length:Int)∧Int.toNat (z0.length:Int)<(z0++[nZ]).length∧K (Tree.mk (9,0,xname) ((z0++[nZ]).set (Int.toNat (z0.length:Int)) q42.1)) q42.2))∧((boN N (pisS (u0,j0,x0,s0) ([41]:Bs)).2 true)=none→Z))∧(boP N (pisS (u0,j0,x0,s0) ([41]:Bs)).2 true∧(∀ q58:JN×PS,(boN N (pisS (u0,j0,x0,s0) ([41]:Bs)).2 true)=some q58→(z0++[nZ]).length≤2513169434916∧(0≤(z0.length:Int)∧Int.toNat (z0.length:Int)<(z0++[nZ]).length∧(K (Tree.mk (9,0,xname) ((z0++[nZ]).set (Int.toNat (z0.length:Int)) q58.1)) q58.2)∧(K (Tree.mk (9,0,xname) ((z0++[nZ]).set (Int.toNat (z0.length:Int)) q58.1)) q58.2))∧(0≤(z0.length:Int)∧Int.toNat (z0.length:Int)<(z0++[nZ]).length∧K (Tree.mk (9,0,xname) ((z0++[nZ]).set (Int.toNat (z0.length:Int)) q58.1)) q58.2))∧((boN N (pisS (u0,j0,x0,s0) ([41]:Bs)).2 true)=none→Z)))
def pfnl4x1 (N:Nat) (xname:Bs) (K:JN→PS→Prop) (Z:Prop):Nat→Int→List TK→Int→Bool→Bool→(List JN)→Prop
 | 0,_,_,_,_,_,_=>False
 | k+1,a0,u0,j0,x0,s0,z0=>pfnl4x1b N xname K Z a0 u0 j0 x0 s0 z0 (pfnl4x1 N xname K Z k)
def pfnF (N:Nat) (xp:PS) (xname:Bs) (K:JN→PS→Prop) (Z:Prop):Prop :=
 psPs xp ([40]:Bs)∧(∀ q8:PS,pmuS xp ([40]:Bs)=some q8→∃ k,pfnl4x1 N xname K Z k 0 q8.1 q8.2.1 q8.2.2.1 q8.2.2.2 jZ)∧(pmuS xp ([40]:Bs)=none→Z)
theorem pfn_ok {g:Ghost} (N:Nat) (ih_pst:pst_C N) (ih_pex:pex_C N) (ih_pco:pco_C N) (ih_pbi:pbi_C N) (ih_pun:pun_C N) (ih_pfi:pfi_C N) (ih_pin:pin_C N) (ih_pbl:pbl_C N) (ih_pbo:pbo_C N) (ih_pfn:pfn_C N) (ih_pif:pif_C N) (ih_pfo:pfo_C N) (ih_pty:pty_C N) {bxp:Nat} {N1:Option Addr} {O1:Nat} (xp:PS) (xname:Bs) (Q1:Rep g yTs [.slice N1 xp.1.length O1] xp.1) (Z:Prop) (K:JN→PS→Prop)
  (hF:pfnF N xp xname K Z):CallsP prog 37 #[pv bxp 0,sv xname] g [.blk bxp (.cells (aP xp N1 O1) 48)] (fun g' H' v=>∃ (r0:JN),∃ (fxp:PS),∃ (P1:Option Addr) (R1:Nat),∃ (J1:Option Addr) (W1:Nat),v=.agg (aJ r0 P1 R1)∧Rep g' yJs [.slice P1 r0.kids.length R1] r0.kids∧Rep g' yTs [.slice J1 fxp.1.length W1] fxp.1∧H'=[.blk bxp (.cells (aP fxp J1 W1) 48)]∧K r0 fxp) Z (.iface 44 (.agg #[])):=by
 refine CallsP.enter 23 [(0,pv bxp 0),(1,sv xname)] func37 rfl kr kr kr fun w0=>?_
 refine Ok.sr (Ok.o (OpOk.box (v:=pv bxp 0) (cs:=#[pv bxp 0]) rfl kr rfl fun bs2=>?_))
 have hL2:RepL g yJ [] []:=rfl
 refine Ok.ownNil 24 4 (Ok.o (OpOk.aw aZ fun bs4=>?_))
 refine Ok.nt (Ok.sr (Ok.B 2 [(2,pv bs2 0),(4,pv bs4 0),(7,.agg #[iv 9,iv 0,sv xname,.slice none 0 0])] kr ?_))
 have hL4:RepL g yJ [] []:=rfl
 refine Ok.ownNil 24 4 (Ok.o (OpOk.aw aZ fun bs5=>?_))
 have hL6:RepL g yJ [] []:=rfl
 refine Ok.ownNil 24 4 (Ok.o (OpOk.w 1 ?_))
 refine Ok.nt (Ok.sr (Ok.o (OpOk.s (v:=pv bxp 0) (Yields.l 5 rfl rfl underlying46 rfl kr) rfl rfl ?_)))
 obtain ⟨hp7,hF,hz8⟩:=hF
 refine Ok.en [6,0,1,2,3,4,5] ?_
 refine Ok.o (OpOk.cp (pmu_c xp Bx Q1 hp7) (pT (Gext.r w0 g) hz8) fun g9 _ _ hx9 hV9=>?_)
 obtain ⟨q8,hq8,d3,e3,rfl,B2,rfl⟩:=hV9
 replace hF:=hF _ hq8
 replace hL6:=hL6.mono hx9.1
 refine Ok.nt (Ok.sr (Ok.rn 2 [.e 6] [2,4] [(5,pv bs5 0),(10,pv bxp 0),(11,.func (.func 66) #[] #[pv bs5 0,pv bs2 0])] ?_))
 refine Ok.o (OpOk.inlineP (pv:=.iface 44 (.agg #[])) (args:=#[pv bxp 0,sv By,.func (.func 66) #[] #[pv bs5 0,pv bs2 0]]) 19 [(0,pv bxp 0),(1,sv By),(2,.func (.func 66) #[] #[pv bs5 0,pv bs2 0])] enr func65 rfl rfl rfl rfl (Ok.sr (Ok.B 1 [(0,pv bxp 0),(1,sv By),(2,.func (.func 66) #[] #[pv bs5 0,pv bs2 0]),(6,iv 0)] kr (Ok.nt (Ok.block ?_)))))
 obtain ⟨k,hF⟩:=hF
 refine Ok.L (fun k a W=>∃ X1:Ghost,Gext w0 g9 X1∧∃ (a0:Int) (q1:Option Addr) (k1:Nat) (u0:List TK) (j0:Int) (x0:Bool) (s0:Bool) (n0:Option Addr) (o0:Nat) (z0:List JN) (U0:List Value),Rep X1 yTs [.slice q1 u0.length k1] u0∧RepL X1 yJ U0 z0∧StA 19 [(0,pv bxp 0),(1,sv By),(2,.func (.func 66) #[] #[pv bs5 0,pv bs2 0]),(6,iv a0)] a∧StW w0 [.blk bxp (.cells #[.slice q1 u0.length k1,iv j0,.bool x0,.bool s0] 48),.own (.slice n0 z0.length o0) 24 4 z0.length U0,.blk bs5 (.cells (aM 9 0 xname n0 z0 o0) 24),.blk bs4 (.cells aZ 24),.own (.slice none jZ.length 0) 24 4 jZ.length ([]),.blk bs2 (.cells #[pv bxp 0] 46)] X1 W∧pfnl4x1 N xname K Z k a0 u0 j0 x0 s0 z0) k ?_ ?_
 ·
  exact fun _ _ u v=>⟨g9,Gext.r w0 g9,0,d3,e3,q8.1,q8.2.1,q8.2.2.1,q8.2.2.2,none,0,jZ,[],B2,hL6,fA u v hF⟩
 clear hF
 rintro (_ | k4x1) _ _ ⟨X1,E0,a0,q1,k1,u0,j0,x0,s0,n0,o0,z0,U0,hRybxp_0l4i12,m0,q⟩
 exact (q.2.2:False).elim
 refine jn (fun hF=>?_) _ _ q
 refine Ok.q (Ok.sr (Ok.b 2 [0,1,2,6] [(7,pv bxp 0),(8,sv By)] ?_))
 obtain ⟨hp10,hF⟩:=hF
 refine Ok.o (OpOk.ch (pis_c (u0,j0,x0,s0) By hRybxp_0l4i12 hp10) fun g11 _ _ d1 f3=>?_)
 obtain ⟨p2,r2,rfl,K1,rfl⟩:=f3
 replace m0:=m0.mono d1.1
 refine Ok.b 1 [0,1,2,6] [(10,.bool (!(pisS (u0,j0,x0,s0) By).1))] ?_
 refine Ok.nt (Ok.cw hF (fun hc12 hF=>?_) (fun hc12 hF=>?_))
 ·refine Ok.k (Ok.t (Ok.q (Ok.block (Ok.cut (fun a W=>∃ N0:Ghost,Gext w0 g11 N0∧∃ (z1:Option Addr) (v1:Nat) (l0:List TK) (i0:Int) (Z0:Bool) (V0:Bool),Rep N0 yTs [.slice z1 l0.length v1] l0∧StA 19 [(0,pv bxp 0),(1,sv By),(2,.func (.func 66) #[] #[pv bs5 0,pv bs2 0]),(6,iv a0)] a∧StW w0 [.blk bxp (.cells #[.slice z1 l0.length v1,iv i0,.bool Z0,.bool V0] 48),.own (.slice n0 z0.length o0) 24 4 z0.length U0,.blk bs5 (.cells (aM 9 0 xname n0 z0 o0) 24),.blk bs4 (.cells aZ 24),.own (.slice none jZ.length 0) 24 4 jZ.length ([]),.blk bs2 (.cells #[pv bxp 0] 46)] N0 W∧pfnj13i12 Z a0 z0 l0 i0 Z0 V0 (pfnl4x1 N xname K Z k4x1)) ?_ ?_))))
  ·
   refine Ok.sr (Ok.b 2 [0,1,2,6] [(14,.bool (decide (a0>0)))] ?_)
   refine Ok.nt (Ok.cw hF (fun hc37 hF=>?_) (fun hc37 hF=>?_))
   ·refine Ok.r (Ok.b 1 [0,1,2,6] [(15,pv bxp 0)] ?_)
    obtain ⟨hp38,hF,hz39⟩:=hF
    refine Ok.o (OpOk.callP [.blk bxp (.cells (aP (pisS (u0,j0,x0,s0) By).2 p2 r2) 48)] [.own (.slice n0 z0.length o0) 24 4 z0.length U0,.blk bs5 (.cells (aM 9 0 xname n0 z0 o0) 24),.blk bs4 (.cells aZ 24),.own (.slice none jZ.length 0) 24 4 jZ.length ([]),.blk bs2 (.cells #[pv bxp 0] 46)] enr rfl (pmu_c (pisS (u0,j0,x0,s0) By).2 Bo K1 hp38) rfl (PanTo.up ((hx9.trans E0).trans d1) (fun z a W hd hW=>panIn a hd (fun a1 hA1=>panTop (hz39 z) a1 W hA1.defers hW))) fun g40 _ _ g3 hV40=>?_)
    obtain ⟨q39,hq39,a40_0,c40_0,rfl,hR40_0,rfl⟩:=hV40
    replace hF:=hF _ hq39
    replace m0:=m0.mono g3.1
    refine Ok.j (Ok.t ?_)
    exact fun _ _ u v=>⟨g40,g3,a40_0,c40_0,q39.1,q39.2.1,q39.2.2.1,q39.2.2.2,hR40_0,fA u v hF⟩
   refine Ok.k (Ok.t ?_)
   exact fun _ _ u v=>⟨g11,Gext.r w0 g11,p2,r2,(pisS (u0,j0,x0,s0) By).2.1,(pisS (u0,j0,x0,s0) By).2.2.1,(pisS (u0,j0,x0,s0) By).2.2.2.1,(pisS (u0,j0,x0,s0) By).2.2.2.2,K1,fA u v hF⟩
  clear hF
  rintro _ _ ⟨N0,V1,z1,v1,l0,i0,Z0,V0,e1,q⟩
  refine jn (fun hF=>?_) _ _ q
  replace m0:=m0.mono V1.1
  refine Ok.r (Ok.b 1 [0,1,2,6] [(17,.func (.func 66) #[] #[pv bs5 0,pv bs2 0])] ?_)
  refine Ok.o (OpOk.cutQ (fun a W=>∃ C1:Ghost,Gext w0 N0 C1∧∃ (L0:Option Addr) (A0:Nat) (S0:List TK) (F0:Int) (G0:Bool) (H0:Bool) (O0:Option Addr) (P0:Nat) (Y0:List JN) (M0:List Value),Rep C1 yTs [.slice L0 S0.length A0] S0∧RepL C1 yJ M0 Y0∧StA 19 [(0,pv bxp 0),(1,sv By),(2,.func (.func 66) #[] #[pv bs5 0,pv bs2 0]),(6,iv a0)] a∧StW w0 [.blk bxp (.cells #[.slice L0 S0.length A0,iv F0,.bool G0,.bool H0] 48),.own (.slice O0 Y0.length P0) 24 4 Y0.length M0,.blk bs5 (.cells (aM 9 0 xname O0 Y0 P0) 24),.blk bs4 (.cells aZ 24),.own (.slice none jZ.length 0) 24 4 jZ.length ([]),.blk bs2 (.cells #[pv bxp 0] 46)] C1 W∧pfnji10 a0 (pfnl4x1 N xname K Z k4x1) S0 F0 G0 H0 Y0) ?_ ?_)
  ·
   refine OpOk.inlineP (pv:=.iface 44 (.agg #[])) (args:=#[pv bs5 0,pv bs2 0]) 12 [(0,pv bs5 0),(1,pv bs2 0)] enr func66 rfl rfl rfl rfl (Ok.plE (E:=Thr 12 w0 N0 Z (.iface 44 (.agg #[]))) Thr.put (Thr.to (PanTo.up (((hx9.trans E0).trans d1).trans V1) (fun z a W hd hW=>panIn a hd (fun a1 hA1=>panIn a1 hA1.defers (fun a2 hA2=>panTop z a2 W hA2.defers hW))))) [0,1,2,5,4] [3,6] [.own (.slice n0 z0.length o0) 24 4 z0.length U0,.blk bs5 (.cells (aM 9 0 xname n0 z0 o0) 24),.blk bs4 (.cells aZ 24),.own (.slice none jZ.length 0) 24 4 jZ.length ([]),.blk bs2 (.cells #[pv bxp 0] 46)] [.blk bs4 (.cells aZ 24),.own (.slice none jZ.length 0) 24 4 jZ.length ([]),.blk bs2 (.cells #[pv bxp 0] 46)] [(0,true),(1,true),(2,true),(5,true)] 3 (.fork [(4,true),(6,false),(7,false),(10,true)] 8 (.fork [] 9 (.leaf [(11,false)]) 11 (.leaf [(9,false)])) 11 (.leaf [(8,false),(9,false)])) 6 (.fork [(3,false),(4,true),(7,false),(10,true)] 8 (.fork [] 9 (.leaf [(11,false)]) 11 (.leaf [(9,false)])) 11 (.leaf [(8,false),(9,false)])) kr kr (.cons _ (.cons _ (.cons_cons _ (.cons_cons _ (.cons_cons _ .slnil))))) (.cons _ (.cons_cons _ (.cons_cons _ (.cons_cons _ (.cons_cons _ (.cons_cons _ .slnil)))))) ?_)
   refine OkME.batch 1 [(0,pv bs5 0),(1,pv bs2 0),(2,pv bs5 3)] kr (OkME.hd (OpQ.s (v:=.slice n0 z0.length o0) (Yields.l 1 rfl rfl underlying22 rfl kr) rfl rfl ?_))
   refine OkME.hd (OpQ.s (v:=pv bxp 0) (Yields.l 4 rfl rfl underlying46 rfl kr) rfl rfl ?_)
   refine OkME.bat 1 [0] [(3,.slice n0 z0.length o0),(4,pv bxp 0),(7,iv (z0.length:Int))] ?_
   refine OkME.nil (Ok.bothE rfl rfl ?_ ?_)
   ·replace hF:=hF.1
    obtain ⟨hp13,hF,hz14⟩:=hF
    refine OkME.tail rfl rfl (OpOk.cp (pnm_c (l0,i0,Z0,V0) e1 hp13) (pH (Gext.r w0 N0) hz14) fun g15 _ _ g1 hV15=>?_)
    obtain ⟨q14,hq14,C2,D2,rfl,u2,rfl⟩:=hV15
    replace hF:=hF _ hq14
    replace m0:=m0.mono g1.1
    refine OkME.l1 g1.1 (OkME.batch 1 [(0,pv bs5 0),(3,.slice n0 z0.length o0),(6,.agg #[iv 10,iv 0,sv q14.1,.slice none 0 0]),(7,iv (z0.length:Int))] kr ?_)
    have l3:RepL g15 yJ (lY:List Value) [nZ]:=(RepL.consN (c:=lY) (Rep.tree.2 ⟨[iv 0,iv 0,sv Bz],[.slice none 0 0],rfl,⟨[iv 0],[iv 0,sv Bz],rfl,rfl,⟨[iv 0],[sv Bz],rfl,rfl,rfl⟩⟩,Rep.nil⟩) rfl)
    refine OkME.tail rfl rfl (OpOk.li l3 fun b16=>?_)
    refine OkME.l1 g1.1 ?_
    obtain ⟨hb17,hF⟩:=hF
    refine OkME.tail rfl rfl (OpOk.append' (e:=yJ) 56 2513169434916 2 0 rfl rfl rfl rfl m0 l3 underlying22 kr kr kr hb17 rfl fun a17 c17 a3 E2=>?_)
    refine OkME.l1 g1.1 (OkME.bat 1 [6,7] [(9,.slice a17 (z0++[nZ]).length c17),(11,pv bs5 3)] ?_)
    refine OkME.nil (Ok.bothE rfl rfl ?_ ?_)
    ·replace hF:=hF.1
     obtain ⟨h019,h119,hF⟩:=hF
     have i3:=get_of (l:=(z0++[nZ])) default h119
     generalize Z3:((z0++[nZ]).getD (Int.toNat (z0.length:Int)) default)=e19 at i3 hF ⊢
     refine OkME.tail rfl rfl (OpOk.indexOwn (e:=yJ) 2 rfl E2 rfl rfl underlying22 kr kr h019 i3 rfl fun cs18 _ hr18 v3=>?_)
     have j2:=hr18
     replace j2:=Rep.tree.1 j2
     obtain ⟨_,_,rfl,⟨_,_,rfl,rfl,⟨_,_,rfl,rfl,rfl⟩⟩,⟨T1,L1,rfl,hm18_3,hr18_3⟩⟩:=j2
     have hR18_3:Rep g15 yJs [.slice T1 e19.kids.length L1] e19.kids:=⟨T1,L1,rfl,hm18_3,hr18_3⟩
     replace v3:∀ j v,((lJ e19 T1 L1):List Value)[j]? = some v→a3[Int.toNat (z0.length:Int) * 4+j]? = some v:=v3
     refine OkME.l1 g1.1 (OkME.nil (Ok.bothE rfl rfl ?_ ?_))
     ·replace hF:=hF.1
      refine OkME.tail rfl rfl (OpOk.storeOwn (e:=yJ) (q:=Int.toNat (z0.length:Int)) (cells:=(lJ e19 T1 L1)) (vs:=[iv 10,iv 0,sv q14.1,.slice none 0 0]) (el':=Tree.mk (10,0,q14.1) ([])) 2 0 4 rfl E2 v3 kr rfl rfl rfl kr kr kr kr kr (show Rep _ _ [iv 10,iv 0,sv q14.1,.slice none 0 0] _ from (Rep.tree.2 ⟨[iv 10,iv 0,sv q14.1],[.slice none 0 0],rfl,⟨[iv 10],[iv 0,sv q14.1],rfl,rfl,⟨[iv 0],[sv q14.1],rfl,rfl,rfl⟩⟩,Rep.nil⟩)) fun xs20 hL20=>?_)
      rw [show (z0++[nZ]).length=((z0++[nZ]).set (Int.toNat (z0.length:Int)) (Tree.mk (10,0,q14.1) ([]))).length from (List.length_set ..).symm]
      refine OkME.l1 g1.1 (OkME.tail rfl rfl (OpOk.w1 3 ?_))
      refine OkME.l1 g1.1 (OkME.nil (Ok.leafE (Ok.fine (.inr rfl) (Ok.back (vs:=[]) (.inr rfl) rfl .nil rfl ?_))))
      subst Z3
      exact fun _ _ u v=>⟨g15,g1,C2,D2,q14.2.1,q14.2.2.1,q14.2.2.2.1,q14.2.2.2.2,a17,c17,((z0++[nZ]).set (Int.toNat (z0.length:Int)) (Tree.mk (10,0,q14.1) ([]))),xs20,u2,hL20,fA u v hF⟩
     replace hF:=hF.2
     refine OkME.tail rfl rfl (OpOk.w1 3 ?_)
     refine OkME.l1 g1.1 (OkME.tail rfl rfl (OpOk.storeOwn (e:=yJ) (q:=Int.toNat (z0.length:Int)) (cells:=(lJ e19 T1 L1)) (vs:=[iv 10,iv 0,sv q14.1,.slice none 0 0]) (el':=Tree.mk (10,0,q14.1) ([])) 2 0 4 rfl E2 v3 kr rfl rfl rfl kr kr kr kr kr (show Rep _ _ [iv 10,iv 0,sv q14.1,.slice none 0 0] _ from (Rep.tree.2 ⟨[iv 10,iv 0,sv q14.1],[.slice none 0 0],rfl,⟨[iv 10],[iv 0,sv q14.1],rfl,rfl,⟨[iv 0],[sv q14.1],rfl,rfl,rfl⟩⟩,Rep.nil⟩)) fun xs21 hL21=>?_))
     rw [show (z0++[nZ]).length=((z0++[nZ]).set (Int.toNat (z0.length:Int)) (Tree.mk (10,0,q14.1) ([]))).length from (List.length_set ..).symm]
     refine OkME.l1 g1.1 (OkME.nil (Ok.leafE (Ok.fine (.inr rfl) (Ok.back (vs:=[]) (.inr rfl) rfl .nil rfl ?_))))
     subst Z3
     exact fun _ _ u v=>⟨g15,g1,C2,D2,q14.2.1,q14.2.2.1,q14.2.2.2.1,q14.2.2.2.2,a17,c17,((z0++[nZ]).set (Int.toNat (z0.length:Int)) (Tree.mk (10,0,q14.1) ([]))),xs21,u2,hL21,fA u v hF⟩
    replace hF:=hF.2
    refine OkME.tail rfl rfl (OpOk.w1 3 ?_)
    refine OkME.l1 g1.1 ?_
    obtain ⟨h023,h123,hF⟩:=hF
    have V3:=get_of (l:=(z0++[nZ])) default h123
    generalize hg23:((z0++[nZ]).getD (Int.toNat (z0.length:Int)) default)=e23 at V3 hF ⊢
    refine OkME.tail rfl rfl (OpOk.indexOwn (e:=yJ) 2 rfl E2 rfl rfl underlying22 kr kr h023 V3 rfl fun cs22 _ hr22 h3=>?_)
    have w2:=hr22
    replace w2:=Rep.tree.1 w2
    obtain ⟨_,_,rfl,⟨_,_,rfl,rfl,⟨_,_,rfl,rfl,rfl⟩⟩,⟨t2,l2,rfl,hm22_3,hr22_3⟩⟩:=w2
    have hR22_3:Rep g15 yJs [.slice t2 e23.kids.length l2] e23.kids:=⟨t2,l2,rfl,hm22_3,hr22_3⟩
    replace h3:∀ j v,((lJ e23 t2 l2):List Value)[j]? = some v→a3[Int.toNat (z0.length:Int) * 4+j]? = some v:=h3
    refine OkME.l1 g1.1 (OkME.tail rfl rfl (OpOk.storeOwn (e:=yJ) (q:=Int.toNat (z0.length:Int)) (cells:=(lJ e23 t2 l2)) (vs:=[iv 10,iv 0,sv q14.1,.slice none 0 0]) (el':=Tree.mk (10,0,q14.1) ([])) 2 0 4 rfl E2 h3 kr rfl rfl rfl kr kr kr kr kr (show Rep _ _ [iv 10,iv 0,sv q14.1,.slice none 0 0] _ from (Rep.tree.2 ⟨[iv 10,iv 0,sv q14.1],[.slice none 0 0],rfl,⟨[iv 10],[iv 0,sv q14.1],rfl,rfl,⟨[iv 0],[sv q14.1],rfl,rfl,rfl⟩⟩,Rep.nil⟩)) fun xs24 hL24=>?_))
    rw [show (z0++[nZ]).length=((z0++[nZ]).set (Int.toNat (z0.length:Int)) (Tree.mk (10,0,q14.1) ([]))).length from (List.length_set ..).symm]
    refine OkME.l1 g1.1 (OkME.nil (Ok.leafE (Ok.fine (.inr rfl) (Ok.back (vs:=[]) (.inr rfl) rfl .nil rfl ?_))))
    subst hg23
    exact fun _ _ u v=>⟨g15,g1,C2,D2,q14.2.1,q14.2.2.1,q14.2.2.2.1,q14.2.2.2.2,a17,c17,((z0++[nZ]).set (Int.toNat (z0.length:Int)) (Tree.mk (10,0,q14.1) ([]))),xs24,u2,hL24,fA u v hF⟩
   replace hF:=hF.2
   have q3:RepL N0 yJ (lY:List Value) [nZ]:=(RepL.consN (c:=lY) (Rep.tree.2 ⟨[iv 0,iv 0,sv Bz],[.slice none 0 0],rfl,⟨[iv 0],[iv 0,sv Bz],rfl,rfl,⟨[iv 0],[sv Bz],rfl,rfl,rfl⟩⟩,Rep.nil⟩) rfl)
   refine OkME.tail rfl rfl (OpOk.li q3 fun b25=>?_)
   refine OkME.l1 (Gle.refl _) ?_
   obtain ⟨hp26,hF,hz27⟩:=hF
   refine OkME.en [1,0,2,3,4,5,6] ?_
   refine OkME.tail rfl rfl (OpOk.cp (pnm_c (l0,i0,Z0,V0) e1 hp26) (pH (Gext.r w0 N0) hz27) fun g28 _ _ m1 hV28=>?_)
   obtain ⟨q27,hq27,F2,G2,rfl,x2,rfl⟩:=hV28
   replace hF:=hF _ hq27
   replace m0:=m0.mono m1.1
   replace q3:=q3.mono m1.1
   refine OkME.l1 m1.1 (OkME.batch 1 [(0,pv bs5 0),(3,.slice n0 z0.length o0),(6,.agg #[iv 10,iv 0,sv q27.1,.slice none 0 0]),(7,iv (z0.length:Int)),(8,.slice (some ⟨b25,0,none⟩) [nZ].length 1)] kr ?_)
   obtain ⟨hb29,hF⟩:=hF
   refine OkME.tail rfl rfl (OpOk.append' (e:=yJ) 56 2513169434916 2 1 rfl rfl rfl rfl m0 q3 underlying22 kr kr kr hb29 rfl fun a29 c29 Q3 H2=>?_)
   refine OkME.l1 m1.1 (OkME.bat 1 [6,7] [(9,.slice a29 (z0++[nZ]).length c29),(11,pv bs5 3)] ?_)
   refine OkME.nil (Ok.bothE rfl rfl ?_ ?_)
   ·replace hF:=hF.1
    obtain ⟨h031,h131,hF⟩:=hF
    have K3:=get_of (l:=(z0++[nZ])) default h131
    generalize Y3:((z0++[nZ]).getD (Int.toNat (z0.length:Int)) default)=e31 at K3 hF ⊢
    refine OkME.tail rfl rfl (OpOk.indexOwn (e:=yJ) 2 rfl H2 rfl rfl underlying22 kr kr h031 K3 rfl fun cs30 _ hr30 k3=>?_)
    have s2:=hr30
    replace s2:=Rep.tree.1 s2
    obtain ⟨_,_,rfl,⟨_,_,rfl,rfl,⟨_,_,rfl,rfl,rfl⟩⟩,⟨A1,I1,rfl,hm30_3,hr30_3⟩⟩:=s2
    have hR30_3:Rep g28 yJs [.slice A1 e31.kids.length I1] e31.kids:=⟨A1,I1,rfl,hm30_3,hr30_3⟩
    replace k3:∀ j v,((lJ e31 A1 I1):List Value)[j]? = some v→Q3[Int.toNat (z0.length:Int) * 4+j]? = some v:=k3
    refine OkME.l1 m1.1 (OkME.nil (Ok.bothE rfl rfl ?_ ?_))
    ·replace hF:=hF.1
     refine OkME.tail rfl rfl (OpOk.storeOwn (e:=yJ) (q:=Int.toNat (z0.length:Int)) (cells:=(lJ e31 A1 I1)) (vs:=[iv 10,iv 0,sv q27.1,.slice none 0 0]) (el':=Tree.mk (10,0,q27.1) ([])) 2 0 4 rfl H2 k3 kr rfl rfl rfl kr kr kr kr kr (show Rep _ _ [iv 10,iv 0,sv q27.1,.slice none 0 0] _ from (Rep.tree.2 ⟨[iv 10,iv 0,sv q27.1],[.slice none 0 0],rfl,⟨[iv 10],[iv 0,sv q27.1],rfl,rfl,⟨[iv 0],[sv q27.1],rfl,rfl,rfl⟩⟩,Rep.nil⟩)) fun xs32 hL32=>?_)
     rw [show (z0++[nZ]).length=((z0++[nZ]).set (Int.toNat (z0.length:Int)) (Tree.mk (10,0,q27.1) ([]))).length from (List.length_set ..).symm]
     refine OkME.l1 m1.1 (OkME.tail rfl rfl (OpOk.w1 3 ?_))
     refine OkME.l1 m1.1 (OkME.nil (Ok.leafE (Ok.fine (.inr rfl) (Ok.back (vs:=[]) (.inr rfl) rfl .nil rfl ?_))))
     subst Y3
     exact fun _ _ u v=>⟨g28,m1,F2,G2,q27.2.1,q27.2.2.1,q27.2.2.2.1,q27.2.2.2.2,a29,c29,((z0++[nZ]).set (Int.toNat (z0.length:Int)) (Tree.mk (10,0,q27.1) ([]))),xs32,x2,hL32,fA u v hF⟩
    replace hF:=hF.2
    refine OkME.tail rfl rfl (OpOk.w1 3 ?_)
    refine OkME.l1 m1.1 (OkME.tail rfl rfl (OpOk.storeOwn (e:=yJ) (q:=Int.toNat (z0.length:Int)) (cells:=(lJ e31 A1 I1)) (vs:=[iv 10,iv 0,sv q27.1,.slice none 0 0]) (el':=Tree.mk (10,0,q27.1) ([])) 2 0 4 rfl H2 k3 kr rfl rfl rfl kr kr kr kr kr (show Rep _ _ [iv 10,iv 0,sv q27.1,.slice none 0 0] _ from (Rep.tree.2 ⟨[iv 10,iv 0,sv q27.1],[.slice none 0 0],rfl,⟨[iv 10],[iv 0,sv q27.1],rfl,rfl,⟨[iv 0],[sv q27.1],rfl,rfl,rfl⟩⟩,Rep.nil⟩)) fun xs33 hL33=>?_))
    rw [show (z0++[nZ]).length=((z0++[nZ]).set (Int.toNat (z0.length:Int)) (Tree.mk (10,0,q27.1) ([]))).length from (List.length_set ..).symm]
    refine OkME.l1 m1.1 (OkME.nil (Ok.leafE (Ok.fine (.inr rfl) (Ok.back (vs:=[]) (.inr rfl) rfl .nil rfl ?_))))
    subst Y3
    exact fun _ _ u v=>⟨g28,m1,F2,G2,q27.2.1,q27.2.2.1,q27.2.2.2.1,q27.2.2.2.2,a29,c29,((z0++[nZ]).set (Int.toNat (z0.length:Int)) (Tree.mk (10,0,q27.1) ([]))),xs33,x2,hL33,fA u v hF⟩
   replace hF:=hF.2
   refine OkME.tail rfl rfl (OpOk.w1 3 ?_)
   refine OkME.l1 m1.1 ?_
   obtain ⟨h035,h135,hF⟩:=hF
   have U3:=get_of (l:=(z0++[nZ])) default h135
   generalize hg35:((z0++[nZ]).getD (Int.toNat (z0.length:Int)) default)=e35 at U3 hF ⊢
   refine OkME.tail rfl rfl (OpOk.indexOwn (e:=yJ) 2 rfl H2 rfl rfl underlying22 kr kr h035 U3 rfl fun cs34 _ hr34 m3=>?_)
   have b2:=hr34
   replace b2:=Rep.tree.1 b2
   obtain ⟨_,_,rfl,⟨_,_,rfl,rfl,⟨_,_,rfl,rfl,rfl⟩⟩,⟨i2,Z2,rfl,hm34_3,hr34_3⟩⟩:=b2
   have hR34_3:Rep g28 yJs [.slice i2 e35.kids.length Z2] e35.kids:=⟨i2,Z2,rfl,hm34_3,hr34_3⟩
   replace m3:∀ j v,((lJ e35 i2 Z2):List Value)[j]? = some v→Q3[Int.toNat (z0.length:Int) * 4+j]? = some v:=m3
   refine OkME.l1 m1.1 (OkME.tail rfl rfl (OpOk.storeOwn (e:=yJ) (q:=Int.toNat (z0.length:Int)) (cells:=(lJ e35 i2 Z2)) (vs:=[iv 10,iv 0,sv q27.1,.slice none 0 0]) (el':=Tree.mk (10,0,q27.1) ([])) 2 0 4 rfl H2 m3 kr rfl rfl rfl kr kr kr kr kr (show Rep _ _ [iv 10,iv 0,sv q27.1,.slice none 0 0] _ from (Rep.tree.2 ⟨[iv 10,iv 0,sv q27.1],[.slice none 0 0],rfl,⟨[iv 10],[iv 0,sv q27.1],rfl,rfl,⟨[iv 0],[sv q27.1],rfl,rfl,rfl⟩⟩,Rep.nil⟩)) fun xs36 hL36=>?_))
   rw [show (z0++[nZ]).length=((z0++[nZ]).set (Int.toNat (z0.length:Int)) (Tree.mk (10,0,q27.1) ([]))).length from (List.length_set ..).symm]
   refine OkME.l1 m1.1 (OkME.nil (Ok.leafE (Ok.fine (.inr rfl) (Ok.back (vs:=[]) (.inr rfl) rfl .nil rfl ?_))))
   subst hg35
   exact fun _ _ u v=>⟨g28,m1,F2,G2,q27.2.1,q27.2.2.1,q27.2.2.2.1,q27.2.2.2.2,a29,c29,((z0++[nZ]).set (Int.toNat (z0.length:Int)) (Tree.mk (10,0,q27.1) ([]))),xs36,x2,hL36,fA u v hF⟩
  clear hF
  rintro _ _ ⟨C1,M2,L0,A0,S0,F0,G0,H0,O0,P0,Y0,M0,hRybxp_0ji10,hLyown6_0ji10,q⟩
  refine jn (fun hF=>?_) _ _ q
  refine Ok.j (Ok.kn (Ok.t (Ok.r (Ok.b 3 [0,1,2] [(6,iv (w6 (a0+1)))] ?_))))
  refine Ok.j (Ok.t ?_)
  exact fun _ _ u v=>⟨k4x1,nl,C1,(((E0.trans d1).trans V1).trans M2),w6 (a0+1),L0,A0,S0,F0,G0,H0,O0,P0,Y0,M0,hRybxp_0ji10,hLyown6_0ji10,fA u v hF⟩
 refine Ok.x (Ok.thenE (Ok.thenE (Ok.blockHit (Ok.fine (.inr rfl) (Ok.back (vs:=[]) (.inr rfl) rfl .nil rfl (Ok.nt (Ok.q (Ok.px (pT ((hx9.trans E0).trans d1) id) [0,1,2,4] [3,5] [0,1,1,1,1,1] [0,0,1,1,1] [(0,true),(1,true),(2,true),(4,true)] 3 (.fork [(5,false),(6,false),(9,true)] 7 (.fork [] 8 (.leaf [(10,false)]) 10 (.leaf [(8,false)])) 10 (.leaf [(7,false),(8,false)])) 5 (.fork [(3,false),(6,false),(9,true)] 7 (.fork [] 8 (.leaf [(10,false)]) 10 (.leaf [(8,false)])) 10 (.leaf [(7,false),(8,false)])) ?_))))))))
 refine OkME.batch 1 [(2,pv bs2 0),(4,pv bs4 0),(5,pv bs5 0),(13,pv bs5 3)] kr (OkME.hd (OpQ.s (v:=.slice n0 z0.length o0) (Yields.l 1 rfl rfl underlying22 rfl kr) rfl rfl ?_))
 refine OkME.hd (OpQ.s (v:=pv bxp 0) (Yields.l 4 rfl rfl underlying46 rfl kr) rfl rfl ?_)
 refine OkME.bat 1 [4,5] [(14,.slice n0 z0.length o0),(15,pv bxp 0),(17,iv (z0.length:Int))] ?_
 refine OkME.nil (Ok.bothE rfl rfl ?_ ?_)
 ·replace hF:=hF.1
  obtain ⟨hp41,hF,hz42⟩:=hF
  refine OkME.tail rfl rfl (OpOk.cp (ih_pbo _ (pisS (u0,j0,x0,s0) By).2 true K1 hp41) (pH (Gext.r w0 g11) hz42) fun g43 _ _ n1 hV43=>?_)
  obtain ⟨q42,hq42,r1,t1,D1,E1,rfl,c2,y1,rfl⟩:=hV43
  replace hF:=hF _ hq42
  replace m0:=m0.mono n1.1
  refine OkME.l1 n1.1 ?_
  have z2:RepL g43 yJ (lY:List Value) [nZ]:=(RepL.consN (c:=lY) (Rep.tree.2 ⟨[iv 0,iv 0,sv Bz],[.slice none 0 0],rfl,⟨[iv 0],[iv 0,sv Bz],rfl,rfl,⟨[iv 0],[sv Bz],rfl,rfl,rfl⟩⟩,Rep.nil⟩) rfl)
  refine OkME.tail rfl rfl (OpOk.li z2 fun b44=>?_)
  refine OkME.l1 n1.1 ?_
  obtain ⟨hb45,hF⟩:=hF
  refine OkME.tail rfl rfl (OpOk.append' (e:=yJ) 56 2513169434916 2 0 rfl rfl rfl rfl m0 z2 underlying22 kr kr kr hb45 rfl fun a45 c45 J3 N2=>?_)
  refine OkME.l1 n1.1 (OkME.batch 1 [(4,pv bs4 0),(5,pv bs5 0),(16,.agg (aJ q42.1 r1 t1)),(17,iv (z0.length:Int)),(19,.slice a45 (z0++[nZ]).length c45),(21,pv bs5 3)] kr (OkME.nil (Ok.bothE rfl rfl ?_ ?_)))
  ·replace hF:=hF.1
   obtain ⟨h047,h147,hF⟩:=hF
   have W3:=get_of (l:=(z0++[nZ])) default h147
   generalize hg47:((z0++[nZ]).getD (Int.toNat (z0.length:Int)) default)=e47 at W3 hF ⊢
   refine OkME.tail rfl rfl (OpOk.indexOwn (e:=yJ) 2 rfl N2 rfl rfl underlying22 kr kr h047 W3 rfl fun cs46 _ hr46 y3=>?_)
   have d2:=hr46
   replace d2:=Rep.tree.1 d2
   obtain ⟨_,_,rfl,⟨_,_,rfl,rfl,⟨_,_,rfl,rfl,rfl⟩⟩,⟨v2,q2,rfl,hm46_3,hr46_3⟩⟩:=d2
   have hR46_3:Rep g43 yJs [.slice v2 e47.kids.length q2] e47.kids:=⟨v2,q2,rfl,hm46_3,hr46_3⟩
   replace y3:∀ j v,((lJ e47 v2 q2):List Value)[j]? = some v→J3[Int.toNat (z0.length:Int) * 4+j]? = some v:=y3
   refine OkME.l1 n1.1 (OkME.nil (Ok.bothE rfl rfl ?_ ?_))
   ·replace hF:=hF.1
    refine OkME.tail rfl rfl (OpOk.storeOwn (e:=yJ) (q:=Int.toNat (z0.length:Int)) (cells:=(lJ e47 v2 q2)) (vs:=(lJ q42.1 r1 t1)) (el':=q42.1) 2 0 4 rfl N2 y3 kr rfl rfl rfl kr kr kr kr kr (show Rep _ _ (lJ q42.1 r1 t1) _ from (Rep.tree.2 ⟨[iv q42.1.lab.1,iv q42.1.lab.2.1,sv q42.1.lab.2.2],[.slice r1 q42.1.kids.length t1],rfl,⟨[iv q42.1.lab.1],[iv q42.1.lab.2.1,sv q42.1.lab.2.2],rfl,rfl,⟨[iv q42.1.lab.2.1],[sv q42.1.lab.2.2],rfl,rfl,rfl⟩⟩,c2⟩)) fun xs48 hL48=>?_)
    rw [show (z0++[nZ]).length=((z0++[nZ]).set (Int.toNat (z0.length:Int)) q42.1).length from (List.length_set ..).symm]
    refine OkME.l1 n1.1 (OkME.tail rfl rfl (OpOk.w1 3 ?_))
    refine OkME.l1 n1.1 (OkME.nil (Ok.leafE (Ok.t (Ok.sr (Ok.o (OpOk.s (v:=.agg (aM 9 0 xname a45 ((z0++[nZ]).set (Int.toNat (z0.length:Int)) q42.1) c45)) (Yields.loadAgg 3 4 (aM 9 0 xname a45 ((z0++[nZ]).set (Int.toNat (z0.length:Int)) q42.1) c45) rfl rfl underlying24 rfl kr kr kr) rfl rfl (Ok.o (OpOk.w 4 ?_))))))))
    refine Ok.nt (Ok.ret (Ok.frz 2 rfl hL48 fun g49 u3 hRf49=>?_))
    replace y1:=y1.mono u3.1
    exact Ok.fine (.inl rfl) (Ok.p (vs:=[.agg (aM 9 0 xname a45 ((z0++[nZ]).set (Int.toNat (z0.length:Int)) q42.1) c45)]) [1] [.blk bxp (.cells (aP q42.2 D1 E1) 48)] dc rfl (.inl rfl) rfl (.cons (.cellAgg 3 4 (aM 9 0 xname a45 ((z0++[nZ]).set (Int.toNat (z0.length:Int)) q42.1) c45) rfl rfl underlying24 rfl kr kr kr) .nil) ((((hx9.trans E0).trans d1).trans n1).trans u3) ⟨(Tree.mk (9,0,xname) ((z0++[nZ]).set (Int.toNat (z0.length:Int)) q42.1)),q42.2,a45,c45,D1,E1,rfl,hRf49,y1,rfl,hF⟩)
   replace hF:=hF.2
   refine OkME.tail rfl rfl (OpOk.w1 3 ?_)
   refine OkME.l1 n1.1 (OkME.tail rfl rfl (OpOk.storeOwn (e:=yJ) (q:=Int.toNat (z0.length:Int)) (cells:=(lJ e47 v2 q2)) (vs:=(lJ q42.1 r1 t1)) (el':=q42.1) 2 0 4 rfl N2 y3 kr rfl rfl rfl kr kr kr kr kr (show Rep _ _ (lJ q42.1 r1 t1) _ from (Rep.tree.2 ⟨[iv q42.1.lab.1,iv q42.1.lab.2.1,sv q42.1.lab.2.2],[.slice r1 q42.1.kids.length t1],rfl,⟨[iv q42.1.lab.1],[iv q42.1.lab.2.1,sv q42.1.lab.2.2],rfl,rfl,⟨[iv q42.1.lab.2.1],[sv q42.1.lab.2.2],rfl,rfl,rfl⟩⟩,c2⟩)) fun xs50 hL50=>?_))
   rw [show (z0++[nZ]).length=((z0++[nZ]).set (Int.toNat (z0.length:Int)) q42.1).length from (List.length_set ..).symm]
   refine OkME.l1 n1.1 (OkME.nil (Ok.leafE (Ok.t (Ok.sr (Ok.o (OpOk.s (v:=.agg (aM 9 0 xname a45 ((z0++[nZ]).set (Int.toNat (z0.length:Int)) q42.1) c45)) (Yields.loadAgg 3 4 (aM 9 0 xname a45 ((z0++[nZ]).set (Int.toNat (z0.length:Int)) q42.1) c45) rfl rfl underlying24 rfl kr kr kr) rfl rfl (Ok.o (OpOk.w 4 ?_))))))))
   refine Ok.nt (Ok.ret (Ok.frz 2 rfl hL50 fun g51 j3 hRf51=>?_))
   replace y1:=y1.mono j3.1
   exact Ok.fine (.inl rfl) (Ok.p (vs:=[.agg (aM 9 0 xname a45 ((z0++[nZ]).set (Int.toNat (z0.length:Int)) q42.1) c45)]) [1] [.blk bxp (.cells (aP q42.2 D1 E1) 48)] dc rfl (.inl rfl) rfl (.cons (.cellAgg 3 4 (aM 9 0 xname a45 ((z0++[nZ]).set (Int.toNat (z0.length:Int)) q42.1) c45) rfl rfl underlying24 rfl kr kr kr) .nil) ((((hx9.trans E0).trans d1).trans n1).trans j3) ⟨(Tree.mk (9,0,xname) ((z0++[nZ]).set (Int.toNat (z0.length:Int)) q42.1)),q42.2,a45,c45,D1,E1,rfl,hRf51,y1,rfl,hF⟩)
  replace hF:=hF.2
  refine OkME.tail rfl rfl (OpOk.w1 3 ?_)
  refine OkME.l1 n1.1 ?_
  obtain ⟨h053,h153,hF⟩:=hF
  have X3:=get_of (l:=(z0++[nZ])) default h153
  generalize hg53:((z0++[nZ]).getD (Int.toNat (z0.length:Int)) default)=e53 at X3 hF ⊢
  refine OkME.tail rfl rfl (OpOk.indexOwn (e:=yJ) 2 rfl N2 rfl rfl underlying22 kr kr h053 X3 rfl fun cs52 _ hr52 n3=>?_)
  have e2:=hr52
  replace e2:=Rep.tree.1 e2
  obtain ⟨_,_,rfl,⟨_,_,rfl,rfl,⟨_,_,rfl,rfl,rfl⟩⟩,⟨V2,Q2,rfl,hm52_3,hr52_3⟩⟩:=e2
  have hR52_3:Rep g43 yJs [.slice V2 e53.kids.length Q2] e53.kids:=⟨V2,Q2,rfl,hm52_3,hr52_3⟩
  replace n3:∀ j v,((lJ e53 V2 Q2):List Value)[j]? = some v→J3[Int.toNat (z0.length:Int) * 4+j]? = some v:=n3
  refine OkME.l1 n1.1 (OkME.tail rfl rfl (OpOk.storeOwn (e:=yJ) (q:=Int.toNat (z0.length:Int)) (cells:=(lJ e53 V2 Q2)) (vs:=(lJ q42.1 r1 t1)) (el':=q42.1) 2 0 4 rfl N2 n3 kr rfl rfl rfl kr kr kr kr kr (show Rep _ _ (lJ q42.1 r1 t1) _ from (Rep.tree.2 ⟨[iv q42.1.lab.1,iv q42.1.lab.2.1,sv q42.1.lab.2.2],[.slice r1 q42.1.kids.length t1],rfl,⟨[iv q42.1.lab.1],[iv q42.1.lab.2.1,sv q42.1.lab.2.2],rfl,rfl,⟨[iv q42.1.lab.2.1],[sv q42.1.lab.2.2],rfl,rfl,rfl⟩⟩,c2⟩)) fun xs54 hL54=>?_))
  rw [show (z0++[nZ]).length=((z0++[nZ]).set (Int.toNat (z0.length:Int)) q42.1).length from (List.length_set ..).symm]
  refine OkME.l1 n1.1 (OkME.nil (Ok.leafE (Ok.t (Ok.sr (Ok.o (OpOk.s (v:=.agg (aM 9 0 xname a45 ((z0++[nZ]).set (Int.toNat (z0.length:Int)) q42.1) c45)) (Yields.loadAgg 3 4 (aM 9 0 xname a45 ((z0++[nZ]).set (Int.toNat (z0.length:Int)) q42.1) c45) rfl rfl underlying24 rfl kr kr kr) rfl rfl (Ok.o (OpOk.w 4 ?_))))))))
  refine Ok.nt (Ok.ret (Ok.frz 2 rfl hL54 fun g55 w3 hRf55=>?_))
  replace y1:=y1.mono w3.1
  exact Ok.fine (.inl rfl) (Ok.p (vs:=[.agg (aM 9 0 xname a45 ((z0++[nZ]).set (Int.toNat (z0.length:Int)) q42.1) c45)]) [1] [.blk bxp (.cells (aP q42.2 D1 E1) 48)] dc rfl (.inl rfl) rfl (.cons (.cellAgg 3 4 (aM 9 0 xname a45 ((z0++[nZ]).set (Int.toNat (z0.length:Int)) q42.1) c45) rfl rfl underlying24 rfl kr kr kr) .nil) ((((hx9.trans E0).trans d1).trans n1).trans w3) ⟨(Tree.mk (9,0,xname) ((z0++[nZ]).set (Int.toNat (z0.length:Int)) q42.1)),q42.2,a45,c45,D1,E1,rfl,hRf55,y1,rfl,hF⟩)
 replace hF:=hF.2
 have B1:RepL g11 yJ (lY:List Value) [nZ]:=(RepL.consN (c:=lY) (Rep.tree.2 ⟨[iv 0,iv 0,sv Bz],[.slice none 0 0],rfl,⟨[iv 0],[iv 0,sv Bz],rfl,rfl,⟨[iv 0],[sv Bz],rfl,rfl,rfl⟩⟩,Rep.nil⟩) rfl)
 refine OkME.tail rfl rfl (OpOk.li B1 fun b56=>?_)
 refine OkME.l1 (Gle.refl _) ?_
 obtain ⟨hp57,hF,hz58⟩:=hF
 refine OkME.en [1,0,2,3,4,5,6] ?_
 refine OkME.tail rfl rfl (OpOk.cp (ih_pbo _ (pisS (u0,j0,x0,s0) By).2 true K1 hp57) (pH (Gext.r w0 g11) hz58) fun g59 _ _ o1 hV59=>?_)
 obtain ⟨q58,hq58,i1,Z1,F1,G1,rfl,f2,u1,rfl⟩:=hV59
 replace hF:=hF _ hq58
 replace m0:=m0.mono o1.1
 replace B1:=B1.mono o1.1
 refine OkME.l1 o1.1 ?_
 obtain ⟨hb60,hF⟩:=hF
 refine OkME.tail rfl rfl (OpOk.append' (e:=yJ) 56 2513169434916 2 1 rfl rfl rfl rfl m0 B1 underlying22 kr kr kr hb60 rfl fun a60 c60 S3 O2=>?_)
 refine OkME.l1 o1.1 (OkME.batch 1 [(4,pv bs4 0),(5,pv bs5 0),(16,.agg (aJ q58.1 i1 Z1)),(17,iv (z0.length:Int)),(19,.slice a60 (z0++[nZ]).length c60),(21,pv bs5 3)] kr (OkME.nil (Ok.bothE rfl rfl ?_ ?_)))
 ·replace hF:=hF.1
  obtain ⟨h062,h162,hF⟩:=hF
  have B3:=get_of (l:=(z0++[nZ])) default h162
  generalize hg62:((z0++[nZ]).getD (Int.toNat (z0.length:Int)) default)=e62 at B3 hF ⊢
  refine OkME.tail rfl rfl (OpOk.indexOwn (e:=yJ) 2 rfl O2 rfl rfl underlying22 kr kr h062 B3 rfl fun cs61 _ hr61 x3=>?_)
  have h2:=hr61
  replace h2:=Rep.tree.1 h2
  obtain ⟨_,_,rfl,⟨_,_,rfl,rfl,⟨_,_,rfl,rfl,rfl⟩⟩,⟨k2,y2,rfl,hm61_3,hr61_3⟩⟩:=h2
  have hR61_3:Rep g59 yJs [.slice k2 e62.kids.length y2] e62.kids:=⟨k2,y2,rfl,hm61_3,hr61_3⟩
  replace x3:∀ j v,((lJ e62 k2 y2):List Value)[j]? = some v→S3[Int.toNat (z0.length:Int) * 4+j]? = some v:=x3
  refine OkME.l1 o1.1 (OkME.nil (Ok.bothE rfl rfl ?_ ?_))
  ·replace hF:=hF.1
   refine OkME.tail rfl rfl (OpOk.storeOwn (e:=yJ) (q:=Int.toNat (z0.length:Int)) (cells:=(lJ e62 k2 y2)) (vs:=(lJ q58.1 i1 Z1)) (el':=q58.1) 2 0 4 rfl O2 x3 kr rfl rfl rfl kr kr kr kr kr (show Rep _ _ (lJ q58.1 i1 Z1) _ from (Rep.tree.2 ⟨[iv q58.1.lab.1,iv q58.1.lab.2.1,sv q58.1.lab.2.2],[.slice i1 q58.1.kids.length Z1],rfl,⟨[iv q58.1.lab.1],[iv q58.1.lab.2.1,sv q58.1.lab.2.2],rfl,rfl,⟨[iv q58.1.lab.2.1],[sv q58.1.lab.2.2],rfl,rfl,rfl⟩⟩,f2⟩)) fun xs63 hL63=>?_)
   rw [show (z0++[nZ]).length=((z0++[nZ]).set (Int.toNat (z0.length:Int)) q58.1).length from (List.length_set ..).symm]
   refine OkME.l1 o1.1 (OkME.tail rfl rfl (OpOk.w1 3 ?_))
   refine OkME.l1 o1.1 (OkME.nil (Ok.leafE (Ok.t (Ok.sr (Ok.o (OpOk.s (v:=.agg (aM 9 0 xname a60 ((z0++[nZ]).set (Int.toNat (z0.length:Int)) q58.1) c60)) (Yields.loadAgg 3 4 (aM 9 0 xname a60 ((z0++[nZ]).set (Int.toNat (z0.length:Int)) q58.1) c60) rfl rfl underlying24 rfl kr kr kr) rfl rfl (Ok.o (OpOk.w 4 ?_))))))))
   refine Ok.nt (Ok.ret (Ok.frz 2 rfl hL63 fun g64 s3 hRf64=>?_))
   replace u1:=u1.mono s3.1
   exact Ok.fine (.inl rfl) (Ok.p (vs:=[.agg (aM 9 0 xname a60 ((z0++[nZ]).set (Int.toNat (z0.length:Int)) q58.1) c60)]) [0] [.blk bxp (.cells (aP q58.2 F1 G1) 48)] dc rfl (.inl rfl) rfl (.cons (.cellAgg 3 4 (aM 9 0 xname a60 ((z0++[nZ]).set (Int.toNat (z0.length:Int)) q58.1) c60) rfl rfl underlying24 rfl kr kr kr) .nil) ((((hx9.trans E0).trans d1).trans o1).trans s3) ⟨(Tree.mk (9,0,xname) ((z0++[nZ]).set (Int.toNat (z0.length:Int)) q58.1)),q58.2,a60,c60,F1,G1,rfl,hRf64,u1,rfl,hF⟩)
  replace hF:=hF.2
  refine OkME.tail rfl rfl (OpOk.w1 3 ?_)
  refine OkME.l1 o1.1 (OkME.tail rfl rfl (OpOk.storeOwn (e:=yJ) (q:=Int.toNat (z0.length:Int)) (cells:=(lJ e62 k2 y2)) (vs:=(lJ q58.1 i1 Z1)) (el':=q58.1) 2 0 4 rfl O2 x3 kr rfl rfl rfl kr kr kr kr kr (show Rep _ _ (lJ q58.1 i1 Z1) _ from (Rep.tree.2 ⟨[iv q58.1.lab.1,iv q58.1.lab.2.1,sv q58.1.lab.2.2],[.slice i1 q58.1.kids.length Z1],rfl,⟨[iv q58.1.lab.1],[iv q58.1.lab.2.1,sv q58.1.lab.2.2],rfl,rfl,⟨[iv q58.1.lab.2.1],[sv q58.1.lab.2.2],rfl,rfl,rfl⟩⟩,f2⟩)) fun xs65 hL65=>?_))
  rw [show (z0++[nZ]).length=((z0++[nZ]).set (Int.toNat (z0.length:Int)) q58.1).length from (List.length_set ..).symm]
  refine OkME.l1 o1.1 (OkME.nil (Ok.leafE (Ok.t (Ok.sr (Ok.o (OpOk.s (v:=.agg (aM 9 0 xname a60 ((z0++[nZ]).set (Int.toNat (z0.length:Int)) q58.1) c60)) (Yields.loadAgg 3 4 (aM 9 0 xname a60 ((z0++[nZ]).set (Int.toNat (z0.length:Int)) q58.1) c60) rfl rfl underlying24 rfl kr kr kr) rfl rfl (Ok.o (OpOk.w 4 ?_))))))))
  refine Ok.nt (Ok.ret (Ok.frz 2 rfl hL65 fun g66 b3 hRf66=>?_))
  replace u1:=u1.mono b3.1
  exact Ok.fine (.inl rfl) (Ok.p (vs:=[.agg (aM 9 0 xname a60 ((z0++[nZ]).set (Int.toNat (z0.length:Int)) q58.1) c60)]) [0] [.blk bxp (.cells (aP q58.2 F1 G1) 48)] dc rfl (.inl rfl) rfl (.cons (.cellAgg 3 4 (aM 9 0 xname a60 ((z0++[nZ]).set (Int.toNat (z0.length:Int)) q58.1) c60) rfl rfl underlying24 rfl kr kr kr) .nil) ((((hx9.trans E0).trans d1).trans o1).trans b3) ⟨(Tree.mk (9,0,xname) ((z0++[nZ]).set (Int.toNat (z0.length:Int)) q58.1)),q58.2,a60,c60,F1,G1,rfl,hRf66,u1,rfl,hF⟩)
 replace hF:=hF.2
 refine OkME.tail rfl rfl (OpOk.w1 3 ?_)
 refine OkME.l1 o1.1 ?_
 obtain ⟨h068,h168,hF⟩:=hF
 have C3:=get_of (l:=(z0++[nZ])) default h168
 generalize hg68:((z0++[nZ]).getD (Int.toNat (z0.length:Int)) default)=e68 at C3 hF ⊢
 refine OkME.tail rfl rfl (OpOk.indexOwn (e:=yJ) 2 rfl O2 rfl rfl underlying22 kr kr h068 C3 rfl fun cs67 _ hr67 o3=>?_)
 have m2:=hr67
 replace m2:=Rep.tree.1 m2
 obtain ⟨_,_,rfl,⟨_,_,rfl,rfl,⟨_,_,rfl,rfl,rfl⟩⟩,⟨K2,Y2,rfl,hm67_3,hr67_3⟩⟩:=m2
 have hR67_3:Rep g59 yJs [.slice K2 e68.kids.length Y2] e68.kids:=⟨K2,Y2,rfl,hm67_3,hr67_3⟩
 replace o3:∀ j v,((lJ e68 K2 Y2):List Value)[j]? = some v→S3[Int.toNat (z0.length:Int) * 4+j]? = some v:=o3
 refine OkME.l1 o1.1 (OkME.tail rfl rfl (OpOk.storeOwn (e:=yJ) (q:=Int.toNat (z0.length:Int)) (cells:=(lJ e68 K2 Y2)) (vs:=(lJ q58.1 i1 Z1)) (el':=q58.1) 2 0 4 rfl O2 o3 kr rfl rfl rfl kr kr kr kr kr (show Rep _ _ (lJ q58.1 i1 Z1) _ from (Rep.tree.2 ⟨[iv q58.1.lab.1,iv q58.1.lab.2.1,sv q58.1.lab.2.2],[.slice i1 q58.1.kids.length Z1],rfl,⟨[iv q58.1.lab.1],[iv q58.1.lab.2.1,sv q58.1.lab.2.2],rfl,rfl,⟨[iv q58.1.lab.2.1],[sv q58.1.lab.2.2],rfl,rfl,rfl⟩⟩,f2⟩)) fun xs69 hL69=>?_))
 rw [show (z0++[nZ]).length=((z0++[nZ]).set (Int.toNat (z0.length:Int)) q58.1).length from (List.length_set ..).symm]
 refine OkME.l1 o1.1 (OkME.nil (Ok.leafE (Ok.t (Ok.sr (Ok.o (OpOk.s (v:=.agg (aM 9 0 xname a60 ((z0++[nZ]).set (Int.toNat (z0.length:Int)) q58.1) c60)) (Yields.loadAgg 3 4 (aM 9 0 xname a60 ((z0++[nZ]).set (Int.toNat (z0.length:Int)) q58.1) c60) rfl rfl underlying24 rfl kr kr kr) rfl rfl (Ok.o (OpOk.w 4 ?_))))))))
 refine Ok.nt (Ok.ret (Ok.frz 2 rfl hL69 fun g70 c3 hRf70=>?_))
 replace u1:=u1.mono c3.1
 exact Ok.fine (.inl rfl) (Ok.p (vs:=[.agg (aM 9 0 xname a60 ((z0++[nZ]).set (Int.toNat (z0.length:Int)) q58.1) c60)]) [0] [.blk bxp (.cells (aP q58.2 F1 G1) 48)] dc rfl (.inl rfl) rfl (.cons (.cellAgg 3 4 (aM 9 0 xname a60 ((z0++[nZ]).set (Int.toNat (z0.length:Int)) q58.1) c60) rfl rfl underlying24 rfl kr kr kr) .nil) ((((hx9.trans E0).trans d1).trans o1).trans c3) ⟨(Tree.mk (9,0,xname) ((z0++[nZ]).set (Int.toNat (z0.length:Int)) q58.1)),q58.2,a60,c60,F1,G1,rfl,hRf70,u1,rfl,hF⟩)
def pbiV5 (e15:Bs) (b0:Bs) (v0:List TK) (q0:Int) (k0:Bool) (y0:Bool):Bool :=
 ((b0==([]:Bs))&&(pisS (v0,q0,k0,y0) e15).1)
def pbiV6 (e15:Bs) (b0:Bs) (v0:List TK) (q0:Int) (k0:Bool) (y0:Bool):List TK :=
 (if (b0==([]:Bs))=true then (pisS (v0,q0,k0,y0) e15).2.1 else v0)
def pbiV7 (e15:Bs) (b0:Bs) (v0:List TK) (q0:Int) (k0:Bool) (y0:Bool):Int :=
 (if (b0==([]:Bs))=true then (pisS (v0,q0,k0,y0) e15).2.2.1 else q0)
def pbiV8 (e15:Bs) (b0:Bs) (v0:List TK) (q0:Int) (k0:Bool) (y0:Bool):Bool :=
 (if (b0==([]:Bs))=true then (pisS (v0,q0,k0,y0) e15).2.2.2.1 else k0)
def pbiV9 (e15:Bs) (b0:Bs) (v0:List TK) (q0:Int) (k0:Bool) (y0:Bool):Bool :=
 (if (b0==([]:Bs))=true then (pisS (v0,q0,k0,y0) e15).2.2.2.2 else y0)
def pbiV17 (xrank:Int) (b0:Bs) (g0:Int) (v0:List TK) (q0:Int) (k0:Bool) (y0:Bool):Bs :=
 (if (pbiV5 ((([prkS.1,prkS.2.1,prkS.2.2.1,prkS.2.2.2.1,prkS.2.2.2.2.1,prkS.2.2.2.2.2]:List (List Bs)).getD xrank.toNat []).getD g0.toNat default) b0 v0 q0 k0 y0)=true then ((([prkS.1,prkS.2.1,prkS.2.2.1,prkS.2.2.2.1,prkS.2.2.2.2.1,prkS.2.2.2.2.2]:List (List Bs)).getD xrank.toNat []).getD g0.toNat default) else b0)
def pbiV18 (xrank:Int) (b0:Bs) (g0:Int) (v0:List TK) (q0:Int) (k0:Bool) (y0:Bool):List TK :=
 (pbiV6 ((([prkS.1,prkS.2.1,prkS.2.2.1,prkS.2.2.2.1,prkS.2.2.2.2.1,prkS.2.2.2.2.2]:List (List Bs)).getD xrank.toNat []).getD g0.toNat default) b0 v0 q0 k0 y0)
def pbiV19 (xrank:Int) (b0:Bs) (g0:Int) (v0:List TK) (q0:Int) (k0:Bool) (y0:Bool):Int :=
 (pbiV7 ((([prkS.1,prkS.2.1,prkS.2.2.1,prkS.2.2.2.1,prkS.2.2.2.2.1,prkS.2.2.2.2.2]:List (List Bs)).getD xrank.toNat []).getD g0.toNat default) b0 v0 q0 k0 y0)
def pbiV20 (xrank:Int) (b0:Bs) (g0:Int) (v0:List TK) (q0:Int) (k0:Bool) (y0:Bool):Bool :=
 (pbiV8 ((([prkS.1,prkS.2.1,prkS.2.2.1,prkS.2.2.2.1,prkS.2.2.2.2.1,prkS.2.2.2.2.2]:List (List Bs)).getD xrank.toNat []).getD g0.toNat default) b0 v0 q0 k0 y0)
def pbiV21 (xrank:Int) (b0:Bs) (g0:Int) (v0:List TK) (q0:Int) (k0:Bool) (y0:Bool):Bool :=
 (pbiV9 ((([prkS.1,prkS.2.1,prkS.2.2.1,prkS.2.2.2.1,prkS.2.2.2.2.1,prkS.2.2.2.2.2]:List (List Bs)).getD xrank.toNat []).getD g0.toNat default) b0 v0 q0 k0 y0)
def pbij29 (xrank:Int) (b0:Bs) (g0:Int) (v0:List TK) (q0:Int) (k0:Bool) (y0:Bool) (C22:Bs→Int→List TK→Int→Bool→Bool→Prop):Prop :=
 C22 (pbiV17 xrank b0 g0 v0 q0 k0 y0) (w6 (g0+1)) (pbiV18 xrank b0 g0 v0 q0 k0 y0) (pbiV19 xrank b0 g0 v0 q0 k0 y0) (pbiV20 xrank b0 g0 v0 q0 k0 y0) (pbiV21 xrank b0 g0 v0 q0 k0 y0)
def pbij33 (xrank:Int) (e15:Bs) (b0:Bs) (g0:Int) (v0:List TK) (q0:Int) (k0:Bool) (y0:Bool) (C22:Bs→Int→List TK→Int→Bool→Bool→Prop):Prop :=
 (pbiV5 e15 b0 v0 q0 k0 y0=true→pbij29 xrank b0 g0 v0 q0 k0 y0 C22)∧(pbiV5 e15 b0 v0 q0 k0 y0=false→pbij29 xrank b0 g0 v0 q0 k0 y0 C22)
def pbil22b (N:Nat) (xrank:Int) (K:JN→PS→Prop) (Z:Prop) (d0:Int) (e0:Int) (f0:Bs) (c0:List JN) (C14:Int→Int→Bs→(List JN)→List TK→Int→Bool→Bool→Prop) (b0:Bs) (g0:Int) (v0:List TK) (q0:Int) (k0:Bool) (y0:Bool) (C22:Bs→Int→List TK→Int→Bool→Bool→Prop):Prop :=
 ((decide (g0<((([prkS.1,prkS.2.1,prkS.2.2.1,prkS.2.2.2.1,prkS.2.2.2.2.1,prkS.2.2.2.2.2]:List (List Bs)).getD xrank.toNat []).length:Int)))=true→0≤g0∧g0.toNat<(([prkS.1,prkS.2.1,prkS.2.2.1,prkS.2.2.2.1,prkS.2.2.2.2.1,prkS.2.2.2.2.2]:List (List Bs)).getD xrank.toNat []).length∧((b0==([]:Bs))=true→psPs (v0,q0,k0,y0) ((([prkS.1,prkS.2.1,prkS.2.2.1,prkS.2.2.2.1,prkS.2.2.2.2.1,prkS.2.2.2.2.2]:List (List Bs)).getD xrank.toNat []).getD g0.toNat default)∧pbij33 xrank ((([prkS.1,prkS.2.1,prkS.2.2.1,prkS.2.2.2.1,prkS.2.2.2.2.1,prkS.2.2.2.2.2]:List (List Bs)).getD xrank.toNat []).getD g0.toNat default) b0 g0 v0 q0 k0 y0 C22)∧((b0==([]:Bs))=false→pbij33 xrank ((([prkS.1,prkS.2.1,prkS.2.2.1,prkS.2.2.2.1,prkS.2.2.2.2.1,prkS.2.2.2.2.2]:List (List Bs)).getD xrank.toNat []).getD g0.toNat default) b0 g0 v0 q0 k0 y0 C22))∧((decide (g0<((([prkS.1,prkS.2.1,prkS.2.2.1,prkS.2.2.2.1,prkS.2.2.2.2.1,prkS.2.2.2.2.2]:List (List Bs)).getD xrank.toNat []).length:Int)))=false→((b0==([]:Bs))=true→K (Tree.mk (d0,e0,f0) c0) (v0,q0,k0,y0))∧((b0==([]:Bs))=false→biP N (v0,q0,k0,y0) (w6 (xrank+1))∧(∀ q22:JN×PS,(biN N (v0,q0,k0,y0) (w6 (xrank+1)))=some q22→C14 ((pjoS b0 (Tree.mk (d0,e0,f0) c0) q22.1).lab.1) ((pjoS b0 (Tree.mk (d0,e0,f0) c0) q22.1).lab.2.1) ((pjoS b0 (Tree.mk (d0,e0,f0) c0) q22.1).lab.2.2) ((pjoS b0 (Tree.mk (d0,e0,f0) c0) q22.1).kids) q22.2.1 q22.2.2.1 q22.2.2.2.1 q22.2.2.2.2)∧((biN N (v0,q0,k0,y0) (w6 (xrank+1)))=none→Z)))
def pbil22 (N:Nat) (xrank:Int) (K:JN→PS→Prop) (Z:Prop) (d0:Int) (e0:Int) (f0:Bs) (c0:List JN) (C14:Int→Int→Bs→(List JN)→List TK→Int→Bool→Bool→Prop):Nat→Bs→Int→List TK→Int→Bool→Bool→Prop
 | 0,_,_,_,_,_,_=>False
 | k+1,b0,g0,v0,q0,k0,y0=>pbil22b N xrank K Z d0 e0 f0 c0 C14 b0 g0 v0 q0 k0 y0 (pbil22 N xrank K Z d0 e0 f0 c0 C14 k)
def pbil14b (N:Nat) (xrank:Int) (K:JN→PS→Prop) (Z:Prop) (d0:Int) (e0:Int) (f0:Bs) (c0:List JN) (X0:List TK) (B0:Int) (C0:Bool) (D0:Bool) (C14:Int→Int→Bs→(List JN)→List TK→Int→Bool→Bool→Prop):Prop :=
 0≤xrank∧xrank<6∧∃ k,pbil22 N xrank K Z d0 e0 f0 c0 C14 k ([]:Bs) 0 X0 B0 C0 D0
def pbil14 (N:Nat) (xrank:Int) (K:JN→PS→Prop) (Z:Prop):Nat→Int→Int→Bs→(List JN)→List TK→Int→Bool→Bool→Prop
 | 0,_,_,_,_,_,_,_,_=>False
 | k+1,d0,e0,f0,c0,X0,B0,C0,D0=>pbil14b N xrank K Z d0 e0 f0 c0 X0 B0 C0 D0 (pbil14 N xrank K Z k)
def pbiF (N:Nat) (xp:PS) (xrank:Int) (K:JN→PS→Prop) (Z:Prop):Prop :=
 ((xrank==6)=true→unP N xp∧(∀ q5:JN×PS,unN N xp=some q5→K q5.1 q5.2)∧(unN N xp=none→Z))∧((xrank==6)=false→biP N xp (w6 (xrank+1))∧(∀ q8:JN×PS,(biN N xp (w6 (xrank+1)))=some q8→∃ k,pbil14 N xrank K Z k q8.1.lab.1 q8.1.lab.2.1 q8.1.lab.2.2 q8.1.kids q8.2.1 q8.2.2.1 q8.2.2.2.1 q8.2.2.2.2)∧((biN N xp (w6 (xrank+1)))=none→Z))
theorem pbi_ok {g:Ghost} (N:Nat) (ih_pst:pst_C N) (ih_pex:pex_C N) (ih_pco:pco_C N) (ih_pbi:pbi_C N) (ih_pun:pun_C N) (ih_pfi:pfi_C N) (ih_pin:pin_C N) (ih_pbl:pbl_C N) (ih_pbo:pbo_C N) (ih_pfn:pfn_C N) (ih_pif:pif_C N) (ih_pfo:pfo_C N) (ih_pty:pty_C N) {bxp:Nat} {N1:Option Addr} {O1:Nat} (xp:PS) (xrank:Int) (Q1:Rep g yTs [.slice N1 xp.1.length O1] xp.1) (Z:Prop) (K:JN→PS→Prop)
  (hF:pbiF N xp xrank K Z):CallsP prog 78 #[pv bxp 0,iv xrank] g [.blk bxp (.cells (aP xp N1 O1) 48)] (fun g' H' v=>∃ (r0:JN),∃ (fxp:PS),∃ (P1:Option Addr) (R1:Nat),∃ (J1:Option Addr) (W1:Nat),v=.agg (aJ r0 P1 R1)∧Rep g' yJs [.slice P1 r0.kids.length R1] r0.kids∧Rep g' yTs [.slice J1 fxp.1.length W1] fxp.1∧H'=[.blk bxp (.cells (aP fxp J1 W1) 48)]∧K r0 fxp) Z (.iface 44 (.agg #[])):=by
 refine CallsP.enter 46 [(0,pv bxp 0),(1,iv xrank)] func78 rfl kr kr kr fun w0=>?_
 refine Ok.sr (Ok.o (OpOk.aw aY fun bs4=>?_))
 refine Ok.nt (Ok.q (Ok.sr (Ok.B 1 [(0,pv bxp 0),(1,iv xrank),(4,pv bs4 0),(9,iv xrank)] kr (Ok.o (OpOk.ch (prk_c ) fun g2 _ _ hx2 hV2=>?_)))))
 obtain ⟨a2_0,c2_0,a2_2,c2_2,a2_4,c2_4,a2_6,c2_6,a2_8,c2_8,a2_10,c2_10,rfl,hR2_0,hR2_2,hR2_4,hR2_6,hR2_8,hR2_10,rfl⟩:=hV2
 replace Q1:=Q1.mono hx2.1
 refine Ok.b 2 [0,1,4] [(12,.bool (xrank==6))] ?_
 refine Ok.nt (Ok.cw hF (fun hc3 hF=>?_) (fun hc3 hF=>?_))
 ·refine Ok.sr (Ok.b 1 [4] [(13,pv bxp 0)] ?_)
  obtain ⟨hp4,hF,hz5⟩:=hF
  refine Ok.en [1,0] ?_
  refine Ok.o (OpOk.cp (ih_pun _ xp Q1 hp4) (pT hx2 hz5) fun g6 _ _ hx6 hV6=>?_)
  obtain ⟨q5,hq5,p3,r3,D3,E3,rfl,hR6_0,hR6_2,rfl⟩:=hV6
  replace hF:=hF _ hq5
  refine Ok.o (OpOk.w 1 ?_)
  refine Ok.nt (Ok.ret (Ok.tr ?_))
  exact Ok.fine (.inl rfl) (Ok.p (vs:=[.agg (aJ q5.1 p3 r3)]) [0] [.blk bxp (.cells (aP q5.2 D3 E3) 48)] dc rfl (.inl rfl) rfl (.cons (.cellAgg 1 4 (aJ q5.1 p3 r3) rfl rfl underlying24 rfl kr kr kr) .nil) (hx2.trans hx6) ⟨q5.1,q5.2,p3,r3,D3,E3,rfl,hR6_0,hR6_2,rfl,hF⟩)
 refine Ok.k (Ok.t (Ok.sr (Ok.b 3 [0,1,4] [(15,pv bxp 0),(17,iv (w6 (xrank+1)))] ?_)))
 obtain ⟨hp7,hF,hz8⟩:=hF
 refine Ok.en [1,0] ?_
 refine Ok.o (OpOk.cp (ih_pbi _ xp (w6 (xrank+1)) Q1 hp7) (pT hx2 hz8) fun g9 _ _ hx9 hV9=>?_)
 obtain ⟨q8,hq8,d3,e3,a9_2,c9_2,rfl,B2,hR9_2,rfl⟩:=hV9
 replace hF:=hF _ hq8
 refine Ok.o (OpOk.aw aY fun bs5=>?_)
 refine Ok.o (OpOk.w 0 ?_)
 refine Ok.nt (Ok.block ?_)
 obtain ⟨k,hF⟩:=hF
 refine Ok.L (fun k a W=>∃ P2:Ghost,Gext w0 g9 P2∧∃ (d0:Int) (e0:Int) (f0:Bs) (Q0:Option Addr) (K0:Nat) (c0:List JN) (j1:Option Addr) (x1:Nat) (X0:List TK) (B0:Int) (C0:Bool) (D0:Bool),Rep P2 yJs [.slice Q0 c0.length K0] c0∧Rep P2 yTs [.slice j1 X0.length x1] X0∧StA 46 [(0,pv bxp 0),(1,iv xrank),(4,pv bs4 0),(5,pv bs5 0)] a∧StW w0 [.blk bs5 (.cells (aM d0 e0 f0 Q0 c0 K0) 24),.blk bxp (.cells #[.slice j1 X0.length x1,iv B0,.bool C0,.bool D0] 48),.blk bs4 (.cells aY 24)] P2 W∧pbil14 N xrank K Z k d0 e0 f0 c0 X0 B0 C0 D0) k ?_ ?_
 ·
  exact fun _ _ u v=>⟨g9,Gext.r w0 g9,q8.1.lab.1,q8.1.lab.2.1,q8.1.lab.2.2,d3,e3,q8.1.kids,a9_2,c9_2,q8.2.1,q8.2.2.1,q8.2.2.2.1,q8.2.2.2.2,B2,hR9_2,fA u v hF⟩
 clear hF
 rintro (_ | k14) _ _ ⟨P2,R2,d0,e0,f0,Q0,K0,c0,j1,x1,X0,B0,C0,D0,t0,f1,q⟩
 exact (q.2.2:False).elim
 refine jn (fun hF=>?_) _ _ q
 refine Ok.block (Ok.sr (Ok.b 1 [0,1,4,5] [(6,sv Bz)] ?_))
 refine Ok.nt (Ok.q (Ok.sr (Ok.o (OpOk.ch (prk_c ) fun g11 _ _ d1 f3=>?_))))
 obtain ⟨p2,r2,a11_2,c11_2,a11_4,c11_4,a11_6,c11_6,a11_8,c11_8,a11_10,c11_10,rfl,K1,hR11_2,hR11_4,hR11_6,hR11_8,hR11_10,rfl⟩:=f3
 replace t0:=t0.mono d1.1
 replace f1:=f1.mono d1.1
 refine Ok.b 1 [0,1,4,5,6] [(19,.agg #[.slice p2 prkS.1.length r2,.slice a11_2 prkS.2.1.length c11_2,.slice a11_4 prkS.2.2.1.length c11_4,.slice a11_6 prkS.2.2.2.1.length c11_6,.slice a11_8 prkS.2.2.2.2.1.length c11_8,.slice a11_10 prkS.2.2.2.2.2.length c11_10]),(20,iv xrank)] ?_
 obtain ⟨F3,G3,hF⟩:=hF
 obtain ⟨a12,c12,he12,M1⟩:=pickN (e:=.str) (.cons K1 (.cons hR11_2 (.cons hR11_4 (.cons hR11_6 (.cons hR11_8 (.cons hR11_10 AllRo.nil)))))) xrank F3 G3
 refine Ok.o (OpOk.s (v:=.slice a12 (([prkS.1,prkS.2.1,prkS.2.2.1,prkS.2.2.2.1,prkS.2.2.2.2.1,prkS.2.2.2.2.2]:List (List Bs)).getD xrank.toNat []).length c12) (Yields.indexAgg (i:=xrank) rfl rfl underlying97 underlying71 rfl kr F3 G3 he12) rfl rfl (Ok.b 2 [0,1,4,5,6] [(21,.slice a12 (([prkS.1,prkS.2.1,prkS.2.2.1,prkS.2.2.2.1,prkS.2.2.2.2.1,prkS.2.2.2.2.2]:List (List Bs)).getD xrank.toNat []).length c12),(22,iv ((([prkS.1,prkS.2.1,prkS.2.2.1,prkS.2.2.2.1,prkS.2.2.2.2.1,prkS.2.2.2.2.2]:List (List Bs)).getD xrank.toNat []).length:Int)),(23,iv 0)] ?_))
 refine Ok.nt (Ok.block ?_)
 obtain ⟨k,hF⟩:=hF
 refine Ok.L (fun k a W=>∃ S1:Ghost,Gext w0 g11 S1∧∃ (b0:Bs) (g0:Int) (J0:Option Addr) (W0:Nat) (v0:List TK) (q0:Int) (k0:Bool) (y0:Bool),Rep S1 yTs [.slice J0 v0.length W0] v0∧StA 46 [(0,pv bxp 0),(1,iv xrank),(4,pv bs4 0),(5,pv bs5 0),(6,sv b0),(21,.slice a12 (([prkS.1,prkS.2.1,prkS.2.2.1,prkS.2.2.2.1,prkS.2.2.2.2.1,prkS.2.2.2.2.2]:List (List Bs)).getD xrank.toNat []).length c12),(22,iv ((([prkS.1,prkS.2.1,prkS.2.2.1,prkS.2.2.2.1,prkS.2.2.2.2.1,prkS.2.2.2.2.2]:List (List Bs)).getD xrank.toNat []).length:Int)),(23,iv g0)] a∧StW w0 [.blk bs5 (.cells (aM d0 e0 f0 Q0 c0 K0) 24),.blk bxp (.cells #[.slice J0 v0.length W0,iv q0,.bool k0,.bool y0] 48),.blk bs4 (.cells aY 24)] S1 W∧pbil22 N xrank K Z d0 e0 f0 c0 (pbil14 N xrank K Z k14) k b0 g0 v0 q0 k0 y0) k ?_ ?_
 ·
  exact fun _ _ u v=>⟨g11,Gext.r w0 g11,Bz,0,j1,x1,X0,B0,C0,D0,f1,fA u v hF⟩
 clear hF
 rintro (_ | k22) _ _ ⟨S1,H1,b0,g0,J0,W0,v0,q0,k0,y0,I0,q⟩
 exact (q.2.2:False).elim
 refine jn (fun hF=>?_) _ _ q
 replace M1:=M1.mono H1.1
 replace t0:=t0.mono H1.1
 refine Ok.sr (Ok.b 1 [0,1,4,5,6,21,22,23] [(24,.bool (decide (g0<((([prkS.1,prkS.2.1,prkS.2.2.1,prkS.2.2.2.1,prkS.2.2.2.2.1,prkS.2.2.2.2.2]:List (List Bs)).getD xrank.toNat []).length:Int))))] ?_)
 refine Ok.nt (Ok.q (Ok.cw hF (fun hc13 hF=>?_) (fun hc13 hF=>?_)))
 ·refine Ok.k (Ok.t (Ok.cut (fun a W=>∃ T2:Ghost,Gext w0 S1 T2∧∃ (b1:Option Addr) (c1:Nat),Rep T2 yTs [.slice b1 (pbiV18 xrank b0 g0 v0 q0 k0 y0).length c1] (pbiV18 xrank b0 g0 v0 q0 k0 y0)∧StA 46 [(0,pv bxp 0),(1,iv xrank),(4,pv bs4 0),(5,pv bs5 0),(6,sv (pbiV17 xrank b0 g0 v0 q0 k0 y0)),(21,.slice a12 (([prkS.1,prkS.2.1,prkS.2.2.1,prkS.2.2.2.1,prkS.2.2.2.2.1,prkS.2.2.2.2.2]:List (List Bs)).getD xrank.toNat []).length c12),(22,iv ((([prkS.1,prkS.2.1,prkS.2.2.1,prkS.2.2.2.1,prkS.2.2.2.2.1,prkS.2.2.2.2.2]:List (List Bs)).getD xrank.toNat []).length:Int)),(23,iv g0)] a∧StW w0 [.blk bxp (.cells #[.slice b1 (pbiV18 xrank b0 g0 v0 q0 k0 y0).length c1,iv (pbiV19 xrank b0 g0 v0 q0 k0 y0),.bool (pbiV20 xrank b0 g0 v0 q0 k0 y0),.bool (pbiV21 xrank b0 g0 v0 q0 k0 y0)] 48),.blk bs5 (.cells (aM d0 e0 f0 Q0 c0 K0) 24),.blk bs4 (.cells aY 24)] T2 W∧pbij29 xrank b0 g0 v0 q0 k0 y0 (pbil22 N xrank K Z d0 e0 f0 c0 (pbil14 N xrank K Z k14) k22)) ?_ ?_))
  ·
   refine Ok.block (Ok.q (Ok.r ?_))
   obtain ⟨h015,h115,hF⟩:=hF
   have H3:=get_of (l:=(([prkS.1,prkS.2.1,prkS.2.2.1,prkS.2.2.2.1,prkS.2.2.2.2.1,prkS.2.2.2.2.2]:List (List Bs)).getD xrank.toNat [])) default h115
   generalize M3:((([prkS.1,prkS.2.1,prkS.2.2.1,prkS.2.2.2.1,prkS.2.2.2.2.1,prkS.2.2.2.2.2]:List (List Bs)).getD xrank.toNat []).getD g0.toNat default)=e15 at H3 hF ⊢
   refine Ok.o (OpOk.indexRo (e:=.str) rfl rfl underlying71 kr M1 h015 H3 rfl fun q14 o14 cs14 _ L2 hr14=>?_)
   obtain rfl:=hr14
   replace L2:At S1 q14 o14 [sv e15]:=L2
   refine Ok.rn 2 [.a 0 L2] [0,1,4,5,6,21,22,23] [(8,sv e15)] ?_
   refine Ok.nt (Ok.cut (fun a W=>∃ X2:Ghost,Gext w0 S1 X2∧∃ (R0:Option Addr) (T0:Nat),Rep X2 yTs [.slice R0 (pbiV6 e15 b0 v0 q0 k0 y0).length T0] (pbiV6 e15 b0 v0 q0 k0 y0)∧StA 46 [(0,pv bxp 0),(1,iv xrank),(4,pv bs4 0),(5,pv bs5 0),(6,sv b0),(8,sv e15),(21,.slice a12 (([prkS.1,prkS.2.1,prkS.2.2.1,prkS.2.2.2.1,prkS.2.2.2.2.1,prkS.2.2.2.2.2]:List (List Bs)).getD xrank.toNat []).length c12),(22,iv ((([prkS.1,prkS.2.1,prkS.2.2.1,prkS.2.2.2.1,prkS.2.2.2.2.1,prkS.2.2.2.2.2]:List (List Bs)).getD xrank.toNat []).length:Int)),(23,iv g0),(33,.bool (pbiV5 e15 b0 v0 q0 k0 y0))] a∧StW w0 [.blk bxp (.cells #[.slice R0 (pbiV6 e15 b0 v0 q0 k0 y0).length T0,iv (pbiV7 e15 b0 v0 q0 k0 y0),.bool (pbiV8 e15 b0 v0 q0 k0 y0),.bool (pbiV9 e15 b0 v0 q0 k0 y0)] 48),.blk bs5 (.cells (aM d0 e0 f0 Q0 c0 K0) 24),.blk bs4 (.cells aY 24)] X2 W∧pbij33 xrank e15 b0 g0 v0 q0 k0 y0 (pbil22 N xrank K Z d0 e0 f0 c0 (pbil14 N xrank K Z k14) k22)) ?_ ?_)
   ·
    refine Ok.r (Ok.rn 3 [] [0,1,4,5,6,8,21,22,23] [(29,.bool (b0==Bz))] ?_)
    refine Ok.bw 29 hF (fun Y1 hF=>?_) (fun Y1 hF=>?_)
    ·refine Ok.b 2 [0,1,4,5,6,8,21,22,23] [(29,.bool true),(30,pv bxp 0),(31,sv e15)] ?_
     obtain ⟨hp18,hF⟩:=hF
     refine Ok.en [1,0,2] ?_
     refine Ok.oy (OpOk.ch (pis_c (v0,q0,k0,y0) e15 I0 hp18) fun g19 _ _ t3 hV19=>?_)
     obtain ⟨U2,J2,rfl,hR19_0,rfl⟩:=hV19
     replace t0:=t0.mono t3.1
     refine Ok.b 1 [0,1,4,5,6,8,21,22,23] [(33,.bool (pisS (v0,q0,k0,y0) e15).1)] ?_
     refine Ok.nt (Ok.rb 33 (pbiV5 e15 b0 v0 q0 k0 y0) (mand_t Y1) (Ok.he (E':=.blk bxp (.cells #[.slice U2 (pbiV6 e15 b0 v0 q0 k0 y0).length J2,iv (pbiV7 e15 b0 v0 q0 k0 y0),.bool (pbiV8 e15 b0 v0 q0 k0 y0),.bool (pbiV9 e15 b0 v0 q0 k0 y0)] 48)) 0 (congrArg (fun l:List Value=>Ent.blk bxp (.cells ⟨l⟩ 48)) (lcons (congrArg (fun l:List TK=>Value.slice U2 l.length J2) ((if_t Y1).symm)) (lcons (congrArg (Value.int .i64) ((if_t Y1).symm)) (lcons (congrArg (Value.bool) ((if_t Y1).symm)) (lcons (congrArg (Value.bool) ((if_t Y1).symm)) rfl))))) ?_))
     exact fun _ _ u v=>⟨g19,t3,U2,J2,(Eq.mp (congrArg (fun l:List TK=>Rep g19 yTs [.slice U2 l.length J2] l) ((if_t Y1).symm)) hR19_0),fA u v hF⟩
    refine Ok.b 4 [0,1,4,5,6,8,21,22,23] [(33,.bool false)] ?_
    refine Ok.nt (Ok.rb 33 (pbiV5 e15 b0 v0 q0 k0 y0) (mand_f Y1) (Ok.he (E':=.blk bxp (.cells #[.slice J0 (pbiV6 e15 b0 v0 q0 k0 y0).length W0,iv (pbiV7 e15 b0 v0 q0 k0 y0),.bool (pbiV8 e15 b0 v0 q0 k0 y0),.bool (pbiV9 e15 b0 v0 q0 k0 y0)] 48)) 1 (congrArg (fun l:List Value=>Ent.blk bxp (.cells ⟨l⟩ 48)) (lcons (congrArg (fun l:List TK=>Value.slice J0 l.length W0) ((if_f Y1).symm)) (lcons (congrArg (Value.int .i64) ((if_f Y1).symm)) (lcons (congrArg (Value.bool) ((if_f Y1).symm)) (lcons (congrArg (Value.bool) ((if_f Y1).symm)) rfl))))) ?_))
    exact fun a W hA hW=>⟨S1,Gext.r w0 S1,J0,W0,(Eq.mp (congrArg (fun l:List TK=>Rep S1 yTs [.slice J0 l.length W0] l) ((if_f Y1).symm)) I0),hA.sub kr,hW.pick [1,0,2] _ dc rfl,hF⟩
   clear hF
   rintro _ _ ⟨X2,W2,R0,T0,U1,q⟩
   refine jn (fun hF=>?_) _ _ q
   replace t0:=t0.mono W2.1
   refine Ok.cn hF rfl (fun A2=>?_) (fun A2=>?_)
   ·replace hF:=hF.1 A2
    refine Ok.r (Ok.b 2 [0,1,4,5,21,22,23] [(6,sv e15)] ?_)
    refine Ok.j (Ok.kn (Ok.t ?_))
    subst M3
    refine Ok.v 6 rfl (show (sv ((([prkS.1,prkS.2.1,prkS.2.2.1,prkS.2.2.2.1,prkS.2.2.2.2.1,prkS.2.2.2.2.2]:List (List Bs)).getD xrank.toNat []).getD g0.toNat default):Value)=sv (pbiV17 xrank b0 g0 v0 q0 k0 y0) from congrArg (fun s:Bs=>Value.string ⟨⟨s⟩⟩) ((if_t A2).symm)) ?_
    exact fun _ _ u v=>⟨X2,W2,R0,T0,U1,fA u v hF⟩
   replace hF:=hF.2 A2
   refine Ok.k (Ok.kn (Ok.t ?_))
   subst M3
   refine Ok.v 6 rfl (show (sv b0:Value)=sv (pbiV17 xrank b0 g0 v0 q0 k0 y0) from congrArg (fun s:Bs=>Value.string ⟨⟨s⟩⟩) ((if_f A2).symm)) ?_
   exact fun _ _ u v=>⟨X2,W2,R0,T0,U1,fA u v hF⟩
  clear hF
  rintro _ _ ⟨T2,I2,b1,c1,hRybxp_0j29,q⟩
  refine jn (fun hF=>?_) _ _ q
  replace t0:=t0.mono I2.1
  refine Ok.r (Ok.b 2 [0,1,4,5,6,21,22] [(23,iv (w6 (g0+1)))] ?_)
  refine Ok.j (Ok.t ?_)
  exact fun a W hA hW=>⟨k22,nl,T2,H1.trans I2,pbiV17 xrank b0 g0 v0 q0 k0 y0,w6 (g0+1),b1,c1,pbiV18 xrank b0 g0 v0 q0 k0 y0,pbiV19 xrank b0 g0 v0 q0 k0 y0,pbiV20 xrank b0 g0 v0 q0 k0 y0,pbiV21 xrank b0 g0 v0 q0 k0 y0,hRybxp_0j29,hA.sub kr,hW.pick [1,0,2] _ dc rfl,hF⟩
 refine Ok.x (Ok.thenE (Ok.thenE (Ok.blockHit (Ok.t (Ok.q (Ok.sr (Ok.b 1 [0,1,4,5,6] [(36,sv b0)] ?_)))))))
 refine Ok.o (OpOk.s (v:=.bool (b0==Bz)) (Yields.sc (f:=.eql) (a:=b0) (b:=Bz) kr kr rfl) rfl rfl (Ok.nt (Ok.cw hF (fun hc20 hF=>?_) (fun hc20 hF=>?_))))
 ·refine Ok.sr (Ok.o (OpOk.s (v:=.agg (aM d0 e0 f0 Q0 c0 K0)) (Yields.loadAgg 0 4 (aM d0 e0 f0 Q0 c0 K0) rfl rfl underlying24 rfl kr kr kr) rfl rfl (Ok.o (OpOk.w 2 ?_))))
  refine Ok.nt (Ok.ret (Ok.tr (Ok.kr (Ok.tr (Ok.kr ?_)))))
  exact Ok.fine (.inl rfl) (Ok.p (vs:=[.agg (aM d0 e0 f0 Q0 c0 K0)]) [1] [.blk bxp (.cells #[.slice J0 v0.length W0,iv q0,.bool k0,.bool y0] 48)] dc rfl (.inl rfl) rfl (.cons (.cellAgg 2 4 (aM d0 e0 f0 Q0 c0 K0) rfl rfl underlying24 rfl kr kr kr) .nil) ((((hx2.trans hx9).trans R2).trans d1).trans H1) ⟨Tree.mk (d0,e0,f0) c0,(v0,q0,k0,y0),Q0,K0,J0,W0,rfl,t0,I0,rfl,hF⟩)
 refine Ok.k (Ok.t (Ok.en [1,0,2] ?_))
 refine Ok.mx (pT ((((hx2.trans hx9).trans R2).trans d1).trans H1) id) [0,1,2,3,4] [5,6] [0,1,1] [0,1] [(0,true),(1,true),(2,true),(3,true),(4,true),(5,false),(6,false),(7,false)] ?_
 refine OkME.bat 1 [0,1,4,5] [(39,sv b0)] ?_
 refine OkME.hd (OpQ.s (v:=.agg (aM d0 e0 f0 Q0 c0 K0)) (Yields.loadAgg 0 4 (aM d0 e0 f0 Q0 c0 K0) rfl rfl underlying24 rfl kr kr kr) rfl rfl ?_)
 refine OkME.bat 3 [0,1,4,5,39] [(40,.agg (aM d0 e0 f0 Q0 c0 K0)),(41,pv bxp 0),(43,iv (w6 (xrank+1)))] ?_
 obtain ⟨hp21,hF,hz22⟩:=hF
 refine OkME.tail rfl rfl (OpOk.cp (ih_pbi _ (v0,q0,k0,y0) (w6 (xrank+1)) I0 hp21) (pH (Gext.r w0 S1) hz22) fun g23 _ _ z3 hV23=>?_)
 obtain ⟨q22,hq22,a23_0,c23_0,a23_2,c23_2,rfl,n2,o2,rfl⟩:=hV23
 replace hF:=hF _ hq22
 replace t0:=t0.mono z3.1
 refine OkME.l1 z3.1 (OkME.tail rfl rfl (OpOk.ch (pjo_c b0 (Tree.mk (d0,e0,f0) c0) q22.1 t0 n2) fun g24 _ _ S2 hV24=>?_))
 obtain ⟨a24_0,c24_0,rfl,hR24_0,rfl⟩:=hV24
 replace o2:=o2.mono S2.1
 refine OkME.l1 (z3.trans S2).1 (OkME.tail rfl rfl (OpOk.w 1 ?_))
 refine OkME.l1 (z3.trans S2).1 (OkME.nil (Ok.kn (Ok.t ?_)))
 exact fun a W hA hW=>⟨k14,nl,g24,((((R2.trans d1).trans H1).trans z3).trans S2),(pjoS b0 (Tree.mk (d0,e0,f0) c0) q22.1).lab.1,(pjoS b0 (Tree.mk (d0,e0,f0) c0) q22.1).lab.2.1,(pjoS b0 (Tree.mk (d0,e0,f0) c0) q22.1).lab.2.2,a24_0,c24_0,(pjoS b0 (Tree.mk (d0,e0,f0) c0) q22.1).kids,a23_2,c23_2,q22.2.1,q22.2.2.1,q22.2.2.2.1,q22.2.2.2.2,hR24_0,o2,hA.sub kr,hW.pick [1,0,2] _ dc rfl,hF⟩
end
end Go.Proofs.YtalnampdiegmoaaDoor.Ps
