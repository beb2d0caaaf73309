/- The parser of scripts: walks. -/
import Derived.Test.YtalnampdiegmoaaDoorPsc
namespace Go.Proofs.YtalnampdiegmoaaDoor.Ps
open _root_.Go.Proofs.Tryd Go Go.Eng Go.RowKit
set_option linter.unusedVariables false
set_option linter.unusedSimpArgs false
set_option maxHeartbeats 4000000
set_option maxRecDepth 100000
noncomputable section
def pinF (N:Nat) (xp:PS) (K:JN→PS→Prop) (Z:Prop):Prop :=
 psPs xp ([40]:Bs)∧(∀ q3:PS,pmuS xp ([40]:Bs)=some q3→exP N q3∧(∀ q6:JN×PS,exN N q3=some q6→psPs q6.2 ([41]:Bs)∧(∀ q10:PS,pmuS q6.2 ([41]:Bs)=some q10→K q6.1 q10)∧(pmuS q6.2 ([41]:Bs)=none→Z))∧(exN N q3=none→Z))∧(pmuS xp ([40]:Bs)=none→Z)
theorem pin_ok {g:Ghost} (N:Nat) (ih_pst:pst_C N) (ih_pex:pex_C N) (ih_pco:pco_C N) (ih_pbi:pbi_C N) (ih_pun:pun_C N) (ih_pfi:pfi_C N) (ih_pin:pin_C N) (ih_pbl:pbl_C N) (ih_pbo:pbo_C N) (ih_pfn:pfn_C N) (ih_pif:pif_C N) (ih_pfo:pfo_C N) (ih_pty:pty_C N) {bxp:Nat} {f0:Option Addr} {g0:Nat} (xp:PS) (l0:Rep g yTs [.slice f0 xp.1.length g0] xp.1) (Z:Prop) (K:JN→PS→Prop)
  (hF:pinF N xp K Z):CallsP prog 39 #[pv bxp 0] g [.blk bxp (.cells (aP xp f0 g0) 48)] (fun g' H' v=>∃ (r0:JN),∃ (fxp:PS),∃ (m0:Option Addr) (n0:Nat),∃ (b0:Option Addr) (c0:Nat),v=.agg (aJ r0 m0 n0)∧Rep g' yJs [.slice m0 r0.kids.length n0] r0.kids∧Rep g' yTs [.slice b0 fxp.1.length c0] fxp.1∧H'=[.blk bxp (.cells (aP fxp b0 c0) 48)]∧K r0 fxp) Z (.iface 44 (.agg #[])):=by
 refine CallsP.enter 11 [(0,pv bxp 0)] func39 rfl kr kr kr fun w0=>?_
 refine Ok.sr (Ok.o (OpOk.aw aY fun bs2=>?_))
 refine Ok.nt (Ok.sr (Ok.B 1 [(0,pv bxp 0),(2,pv bs2 0),(4,pv bxp 0)] kr ?_))
 obtain ⟨hp2,hF,hz3⟩:=hF
 refine Ok.en [1,0] ?_
 refine Ok.o (OpOk.cp (pmu_c xp Bx l0 hp2) (pT (Gext.r w0 g) hz3) fun g4 _ _ hx4 hV4=>?_)
 obtain ⟨q3,hq3,Z0,V0,rfl,j0,rfl⟩:=hV4
 replace hF:=hF _ hq3
 refine Ok.nt (Ok.sr (Ok.b 1 [0,2] [(6,pv bxp 0)] ?_))
 obtain ⟨hp5,hF,hz6⟩:=hF
 refine Ok.o (OpOk.cp (ih_pex _ q3 j0 hp5) (pT hx4 hz6) fun g7 _ _ hx7 hV7=>?_)
 obtain ⟨q6,hq6,O0,P0,a7_2,c7_2,rfl,i0,hR7_2,rfl⟩:=hV7
 replace hF:=hF _ hq6
 refine Ok.o (OpOk.aw aY fun bs3=>?_)
 refine Ok.o (OpOk.w 0 ?_)
 refine Ok.nt (Ok.sr (Ok.b 1 [2] [(3,pv bs3 0),(8,pv bxp 0)] ?_))
 obtain ⟨hp9,hF,d1⟩:=hF
 refine Ok.en [1,0,2] ?_
 refine Ok.o (OpOk.cp (pmu_c q6.2 By hR7_2 hp9) (pT (hx4.trans hx7) d1) fun g11 _ _ W0 e1=>?_)
 obtain ⟨q10,f1,U0,J0,rfl,a0,rfl⟩:=e1
 replace hF:=hF _ f1
 replace i0:=i0.mono W0.1
 refine Ok.nt (Ok.sr (Ok.o (OpOk.s (v:=.agg (aJ q6.1 O0 P0)) (Yields.loadAgg 1 4 (aJ q6.1 O0 P0) rfl rfl underlying24 rfl kr kr kr) rfl rfl (Ok.o (OpOk.w 2 ?_)))))
 refine Ok.nt (Ok.ret ?_)
 exact Ok.fine (.inl rfl) (Ok.p (vs:=[.agg (aJ q6.1 O0 P0)]) [0] [.blk bxp (.cells (aP q10 U0 J0) 48)] dc rfl (.inl rfl) rfl (.cons (.cellAgg 2 4 (aJ q6.1 O0 P0) rfl rfl underlying24 rfl kr kr kr) .nil) ((hx4.trans hx7).trans W0) ⟨q6.1,q10,O0,P0,U0,J0,rfl,i0,a0,rfl,hF⟩)
def pexj13 (N:Nat) (K:JN→PS→Prop) (Z:Prop) (q3:JN×PS):Prop :=
 exP N (pisS q3.2 ([61]:Bs)).2∧(∀ q10:JN×PS,(exN N (pisS q3.2 ([61]:Bs)).2)=some q10→K (Tree.mk (19,0,([]:Bs)) ([q3.1,q10.1]:List JN)) q10.2)∧((exN N (pisS q3.2 ([61]:Bs)).2)=none→Z)
def pexF (N:Nat) (xp:PS) (K:JN→PS→Prop) (Z:Prop):Prop :=
 coP N xp∧(∀ q3:JN×PS,coN N xp=some q3→psPs q3.2 ([61]:Bs)∧((!(pisS q3.2 ([61]:Bs)).1)=true→K q3.1 (pisS q3.2 ([61]:Bs)).2)∧((!(pisS q3.2 ([61]:Bs)).1)=false→((q3.1.lab.1==5)=true→(∀ q15:Unit,pwiS true=some q15→pexj13 N K Z q3)∧(pwiS true=none→Z))∧((q3.1.lab.1==5)=false→((q3.1.lab.1==12)=true→(∀ q18:Unit,pwiS true=some q18→pexj13 N K Z q3)∧(pwiS true=none→Z))∧((q3.1.lab.1==12)=false→(∀ q20:Unit,pwiS (q3.1.lab.1==13)=some q20→pexj13 N K Z q3)∧(pwiS (q3.1.lab.1==13)=none→Z)))))∧(coN N xp=none→Z)
theorem pex_ok {g:Ghost} (N:Nat) (ih_pst:pst_C N) (ih_pex:pex_C N) (ih_pco:pco_C N) (ih_pbi:pbi_C N) (ih_pun:pun_C N) (ih_pfi:pfi_C N) (ih_pin:pin_C N) (ih_pbl:pbl_C N) (ih_pbo:pbo_C N) (ih_pfn:pfn_C N) (ih_pif:pif_C N) (ih_pfo:pfo_C N) (ih_pty:pty_C N) {bxp:Nat} {f0:Option Addr} {g0:Nat} (xp:PS) (l0:Rep g yTs [.slice f0 xp.1.length g0] xp.1) (Z:Prop) (K:JN→PS→Prop)
  (hF:pexF N xp K Z):CallsP prog 35 #[pv bxp 0] g [.blk bxp (.cells (aP xp f0 g0) 48)] (fun g' H' v=>∃ (r0:JN),∃ (fxp:PS),∃ (m0:Option Addr) (n0:Nat),∃ (b0:Option Addr) (c0:Nat),v=.agg (aJ r0 m0 n0)∧Rep g' yJs [.slice m0 r0.kids.length n0] r0.kids∧Rep g' yTs [.slice b0 fxp.1.length c0] fxp.1∧H'=[.blk bxp (.cells (aP fxp b0 c0) 48)]∧K r0 fxp) Z (.iface 44 (.agg #[])):=by
 refine CallsP.enter 29 [(0,pv bxp 0)] func35 rfl kr kr kr fun w0=>?_
 refine Ok.sr (Ok.o (OpOk.aw aY fun bs2=>?_))
 refine Ok.nt (Ok.sr (Ok.B 1 [(0,pv bxp 0),(2,pv bs2 0),(4,pv bxp 0)] kr ?_))
 obtain ⟨hp2,hF,hz3⟩:=hF
 refine Ok.en [1,0] ?_
 refine Ok.o (OpOk.cp (ih_pco _ xp l0 hp2) (pT (Gext.r w0 g) hz3) fun g4 _ _ hx4 hV4=>?_)
 obtain ⟨q3,hq3,Z0,V0,a4_2,c4_2,rfl,j0,a1,rfl⟩:=hV4
 replace hF:=hF _ hq3
 refine Ok.o (OpOk.aw aY fun bs3=>?_)
 refine Ok.o (OpOk.w 0 ?_)
 refine Ok.nt (Ok.q (Ok.sr (Ok.b 1 [0,2] [(3,pv bs3 0),(6,pv bxp 0)] ?_)))
 obtain ⟨hp6,hF⟩:=hF
 refine Ok.en [1,0,2] ?_
 refine Ok.o (OpOk.ch (pis_c q3.2 Bp a1 hp6) fun g7 _ _ hx7 hV7=>?_)
 obtain ⟨O0,P0,rfl,i0,rfl⟩:=hV7
 replace j0:=j0.mono hx7.1
 refine Ok.b 1 [0,2,3] [(8,.bool (!(pisS q3.2 Bp).1))] ?_
 refine Ok.nt (Ok.cw hF (fun hc8 hF=>?_) (fun hc8 hF=>?_))
 ·refine Ok.sr (Ok.o (OpOk.s (v:=.agg (aJ q3.1 Z0 V0)) (Yields.loadAgg 1 4 (aJ q3.1 Z0 V0) rfl rfl underlying24 rfl kr kr kr) rfl rfl (Ok.o (OpOk.w 2 ?_))))
  refine Ok.nt (Ok.ret (Ok.tr ?_))
  exact Ok.fine (.inl rfl) (Ok.p (vs:=[.agg (aJ q3.1 Z0 V0)]) [0] [.blk bxp (.cells (aP (pisS q3.2 Bp).2 O0 P0) 48)] dc rfl (.inl rfl) rfl (.cons (.cellAgg 2 4 (aJ q3.1 Z0 V0) rfl rfl underlying24 rfl kr kr kr) .nil) (hx4.trans hx7) ⟨q3.1,(pisS q3.2 Bp).2,Z0,V0,O0,P0,rfl,j0,i0,rfl,hF⟩)
 refine Ok.k (Ok.t (Ok.cg g7 [(0,pv bxp 0),(2,pv bs2 0),(3,pv bs3 0)] [.blk bxp (.cells (aP (pisS q3.2 Bp).2 O0 P0) 48),.blk bs3 (.cells (aJ q3.1 Z0 V0) 24),.blk bs2 (.cells aY 24)] (pexj13 N K Z q3) ?_ (fun gj13 n1 hF=>?_)))
 ·
  refine Ok.r (Ok.rn 4 [.e 1] [0,2,3] [(13,.bool (q3.1.lab.1==5))] ?_)
  refine Ok.bw 13 hF (fun hc14 hF=>?_) (fun hc14 hF=>?_)
  ·refine Ok.b 9 [0,2,3] [(22,.bool true)] ?_
   obtain ⟨hF,hz15⟩:=hF
   refine Ok.o (OpOk.cp (pwi_c true) (pT (hx4.trans hx7) hz15) fun g16 _ _ v2 hV16=>?_)
   obtain ⟨q15,hq15,rfl,rfl⟩:=hV16
   replace hF:=hF _ hq15
   replace i0:=i0.mono v2.1
   replace j0:=j0.mono v2.1
   refine Ok.j (Ok.t ?_)
   exact fun _ _ u v=>⟨g16,v2,fA u v hF⟩
  refine Ok.rn 5 [.e 1] [0,2,3] [(18,.bool (q3.1.lab.1==12))] ?_
  refine Ok.bw 18 hF (fun hc17 hF=>?_) (fun hc17 hF=>?_)
  ·refine Ok.b 4 [0,2,3] [(22,.bool true)] ?_
   obtain ⟨hF,hz18⟩:=hF
   refine Ok.o (OpOk.cp (pwi_c true) (pT (hx4.trans hx7) hz18) fun g19 _ _ q2 hV19=>?_)
   obtain ⟨q18,hq18,rfl,rfl⟩:=hV19
   replace hF:=hF _ hq18
   replace i0:=i0.mono q2.1
   replace j0:=j0.mono q2.1
   refine Ok.j (Ok.t ?_)
   exact fun _ _ u v=>⟨g19,q2,fA u v hF⟩
  refine Ok.rn 4 [.e 1] [0,2,3] [(22,.bool (q3.1.lab.1==13))] ?_
  obtain ⟨hF,k2⟩:=hF
  refine Ok.o (OpOk.cp (pwi_c (q3.1.lab.1==13)) (pT (hx4.trans hx7) k2) fun g21 _ _ R0 y2=>?_)
  obtain ⟨q20,u2,rfl,rfl⟩:=y2
  replace hF:=hF _ u2
  replace i0:=i0.mono R0.1
  replace j0:=j0.mono R0.1
  refine Ok.j (Ok.t ?_)
  exact fun _ _ u v=>⟨g21,R0,fA u v hF⟩
 replace i0:=i0.mono n1.1
 replace j0:=j0.mono n1.1
 refine Ok.q (Ok.mx (pT ((hx4.trans hx7).trans n1) id) [] [] [1,1,1] [0,1,0] [(0,true),(1,true),(2,false),(3,false),(4,true),(5,false)] ?_)
 refine OkME.hd (OpQ.s (v:=.agg (aJ q3.1 Z0 V0)) (Yields.loadAgg 0 4 (aJ q3.1 Z0 V0) rfl rfl underlying24 rfl kr kr kr) rfl rfl ?_)
 refine OkME.bat 1 [2] [(24,.agg (aJ q3.1 Z0 V0)),(25,pv bxp 0)] ?_
 obtain ⟨hp9,hF,d1⟩:=hF
 refine OkME.tail rfl rfl (OpOk.cp (ih_pex _ (pisS q3.2 Bp).2 i0 hp9) (pH (Gext.r w0 gj13) d1) fun g11 _ _ W0 e1=>?_)
 obtain ⟨q10,f1,U0,J0,i1,Z1,rfl,a0,T0,rfl⟩:=e1
 replace hF:=hF _ f1
 replace j0:=j0.mono W0.1
 refine OkME.l1 W0.1 ?_
 have H0:RepL g11 yJ ([iv q3.1.lab.1,iv q3.1.lab.2.1,sv q3.1.lab.2.2,.slice Z0 q3.1.kids.length V0,iv q10.1.lab.1,iv q10.1.lab.2.1,sv q10.1.lab.2.2,.slice U0 q10.1.kids.length J0]:List Value) ([q3.1,q10.1]:List JN):=(RepL.consN (c:=(lJ q3.1 Z0 V0)) (Rep.tree.2 ⟨[iv q3.1.lab.1,iv q3.1.lab.2.1,sv q3.1.lab.2.2],[.slice Z0 q3.1.kids.length V0],rfl,⟨[iv q3.1.lab.1],[iv q3.1.lab.2.1,sv q3.1.lab.2.2],rfl,rfl,⟨[iv q3.1.lab.2.1],[sv q3.1.lab.2.2],rfl,rfl,rfl⟩⟩,j0⟩) (RepL.consN (c:=(lJ q10.1 U0 J0)) (Rep.tree.2 ⟨[iv q10.1.lab.1,iv q10.1.lab.2.1,sv q10.1.lab.2.2],[.slice U0 q10.1.kids.length J0],rfl,⟨[iv q10.1.lab.1],[iv q10.1.lab.2.1,sv q10.1.lab.2.2],rfl,rfl,⟨[iv q10.1.lab.2.1],[sv q10.1.lab.2.2],rfl,rfl,rfl⟩⟩,a0⟩) rfl))
 refine OkME.tail rfl rfl (OpOk.li H0 fun b12=>?_)
 refine OkME.l1 W0.1 (OkME.bat 1 [2] [(28,.agg (aM 19 0 Bz (some ⟨b12,0,none⟩) ([q3.1,q10.1]:List JN) 2))] ?_)
 refine OkME.tail rfl rfl (OpOk.w 3 ?_)
 refine OkME.l1 W0.1 (OkME.nil (Ok.t (Ok.ret (Ok.frz 0 rfl H0 fun g13 j2 hRf13=>?_))))
 replace T0:=T0.mono j2.1
 exact Ok.fine (.inl rfl) (Ok.p (vs:=[.agg (aM 19 0 Bz (some ⟨b12,0,none⟩) ([q3.1,q10.1]:List JN) 2)]) [0] [.blk bxp (.cells (aP q10.2 i1 Z1) 48)] dc rfl (.inl rfl) rfl (.cons (.cellAgg 2 4 (aM 19 0 Bz (some ⟨b12,0,none⟩) ([q3.1,q10.1]:List JN) 2) rfl rfl underlying24 rfl kr kr kr) .nil) ((((hx4.trans hx7).trans n1).trans W0).trans j2) ⟨(Tree.mk (19,0,Bz) ([q3.1,q10.1]:List JN)),q10.2,(some ⟨b12,0,none⟩),2,i1,Z1,rfl,hRf13,T0,rfl,hF⟩)
def pcoF (N:Nat) (xp:PS) (K:JN→PS→Prop) (Z:Prop):Prop :=
 biP N xp 0∧(∀ q3:JN×PS,biN N xp 0=some q3→psPs q3.2 ([63]:Bs)∧((!(pisS q3.2 ([63]:Bs)).1)=true→K q3.1 (pisS q3.2 ([63]:Bs)).2)∧((!(pisS q3.2 ([63]:Bs)).1)=false→exP N (pisS q3.2 ([63]:Bs)).2∧(∀ q10:JN×PS,(exN N (pisS q3.2 ([63]:Bs)).2)=some q10→psPs q10.2 ([58]:Bs)∧(∀ q14:PS,pmuS q10.2 ([58]:Bs)=some q14→exP N q14∧(∀ q17:JN×PS,exN N q14=some q17→K (Tree.mk (18,0,([]:Bs)) ([q3.1,q10.1,q17.1]:List JN)) q17.2)∧(exN N q14=none→Z))∧(pmuS q10.2 ([58]:Bs)=none→Z))∧((exN N (pisS q3.2 ([63]:Bs)).2)=none→Z)))∧(biN N xp 0=none→Z)
theorem pco_ok {g:Ghost} (N:Nat) (ih_pst:pst_C N) (ih_pex:pex_C N) (ih_pco:pco_C N) (ih_pbi:pbi_C N) (ih_pun:pun_C N) (ih_pfi:pfi_C N) (ih_pin:pin_C N) (ih_pbl:pbl_C N) (ih_pbo:pbo_C N) (ih_pfn:pfn_C N) (ih_pif:pif_C N) (ih_pfo:pfo_C N) (ih_pty:pty_C N) {bxp:Nat} {f0:Option Addr} {g0:Nat} (xp:PS) (l0:Rep g yTs [.slice f0 xp.1.length g0] xp.1) (Z:Prop) (K:JN→PS→Prop)
  (hF:pcoF N xp K Z):CallsP prog 64 #[pv bxp 0] g [.blk bxp (.cells (aP xp f0 g0) 48)] (fun g' H' v=>∃ (r0:JN),∃ (fxp:PS),∃ (m0:Option Addr) (n0:Nat),∃ (b0:Option Addr) (c0:Nat),v=.agg (aJ r0 m0 n0)∧Rep g' yJs [.slice m0 r0.kids.length n0] r0.kids∧Rep g' yTs [.slice b0 fxp.1.length c0] fxp.1∧H'=[.blk bxp (.cells (aP fxp b0 c0) 48)]∧K r0 fxp) Z (.iface 44 (.agg #[])):=by
 refine CallsP.enter 21 [(0,pv bxp 0)] func64 rfl kr kr kr fun w0=>?_
 refine Ok.sr (Ok.o (OpOk.aw aY fun bs2=>?_))
 refine Ok.nt (Ok.sr (Ok.B 1 [(0,pv bxp 0),(2,pv bs2 0),(5,pv bxp 0)] kr ?_))
 obtain ⟨hp2,hF,hz3⟩:=hF
 refine Ok.en [1,0] ?_
 refine Ok.o (OpOk.cp (ih_pbi _ xp 0 l0 hp2) (pT (Gext.r w0 g) hz3) fun g4 _ _ hx4 hV4=>?_)
 obtain ⟨q3,hq3,Z0,V0,a4_2,c4_2,rfl,j0,a1,rfl⟩:=hV4
 replace hF:=hF _ hq3
 refine Ok.o (OpOk.aw aY fun bs3=>?_)
 refine Ok.o (OpOk.w 0 ?_)
 refine Ok.nt (Ok.q (Ok.sr (Ok.b 1 [0,2] [(3,pv bs3 0),(7,pv bxp 0)] ?_)))
 obtain ⟨hp6,hF⟩:=hF
 refine Ok.en [1,0,2] ?_
 refine Ok.o (OpOk.ch (pis_c q3.2 Bk a1 hp6) fun g7 _ _ hx7 hV7=>?_)
 obtain ⟨O0,P0,rfl,i0,rfl⟩:=hV7
 replace j0:=j0.mono hx7.1
 refine Ok.b 1 [0,2,3] [(9,.bool (!(pisS q3.2 Bk).1))] ?_
 refine Ok.nt (Ok.cw hF (fun hc8 hF=>?_) (fun hc8 hF=>?_))
 ·refine Ok.sr (Ok.o (OpOk.s (v:=.agg (aJ q3.1 Z0 V0)) (Yields.loadAgg 1 4 (aJ q3.1 Z0 V0) rfl rfl underlying24 rfl kr kr kr) rfl rfl (Ok.o (OpOk.w 2 ?_))))
  refine Ok.nt (Ok.ret (Ok.tr ?_))
  exact Ok.fine (.inl rfl) (Ok.p (vs:=[.agg (aJ q3.1 Z0 V0)]) [0] [.blk bxp (.cells (aP (pisS q3.2 Bk).2 O0 P0) 48)] dc rfl (.inl rfl) rfl (.cons (.cellAgg 2 4 (aJ q3.1 Z0 V0) rfl rfl underlying24 rfl kr kr kr) .nil) (hx4.trans hx7) ⟨q3.1,(pisS q3.2 Bk).2,Z0,V0,O0,P0,rfl,j0,i0,rfl,hF⟩)
 refine Ok.k (Ok.t (Ok.sr (Ok.b 1 [0,2,3] [(11,pv bxp 0)] ?_)))
 obtain ⟨hp9,hF,d1⟩:=hF
 refine Ok.o (OpOk.cp (ih_pex _ (pisS q3.2 Bk).2 i0 hp9) (pT (hx4.trans hx7) d1) fun g11 _ _ W0 e1=>?_)
 obtain ⟨q10,f1,U0,J0,i1,Z1,rfl,a0,T0,rfl⟩:=e1
 replace hF:=hF _ f1
 replace j0:=j0.mono W0.1
 refine Ok.o (OpOk.aw aY fun bs4=>?_)
 refine Ok.o (OpOk.w 0 ?_)
 refine Ok.nt (Ok.sr (Ok.b 1 [0,2,3] [(4,pv bs4 0),(13,pv bxp 0)] ?_))
 obtain ⟨w2,hF,hz14⟩:=hF
 refine Ok.en [1,0,2,3] ?_
 refine Ok.o (OpOk.cp (pmu_c q10.2 Ba T0 w2) (pT ((hx4.trans hx7).trans W0) hz14) fun g15 _ _ N1 hV15=>?_)
 obtain ⟨q14,hq14,a15_0,c15_0,rfl,hR15_0,rfl⟩:=hV15
 replace hF:=hF _ hq14
 replace a0:=a0.mono N1.1
 replace j0:=j0.mono N1.1
 refine Ok.nt (Ok.q (Ok.mx (pT (((hx4.trans hx7).trans W0).trans N1) id) [] [] [1,1,1,1] [0,1,1,0] [(0,true),(1,true),(2,true),(3,false),(4,false),(5,true),(6,false)] ?_))
 refine OkME.hd (OpQ.s (v:=.agg (aJ q3.1 Z0 V0)) (Yields.loadAgg 1 4 (aJ q3.1 Z0 V0) rfl rfl underlying24 rfl kr kr kr) rfl rfl ?_)
 refine OkME.hd (OpQ.s (v:=.agg (aJ q10.1 U0 J0)) (Yields.loadAgg 0 4 (aJ q10.1 U0 J0) rfl rfl underlying24 rfl kr kr kr) rfl rfl ?_)
 refine OkME.bat 1 [2] [(15,.agg (aJ q3.1 Z0 V0)),(16,.agg (aJ q10.1 U0 J0)),(17,pv bxp 0)] ?_
 obtain ⟨x2,hF,hz17⟩:=hF
 refine OkME.tail rfl rfl (OpOk.cp (ih_pex _ q14 hR15_0 x2) (pH (Gext.r w0 g15) hz17) fun g18 _ _ o1 hV18=>?_)
 obtain ⟨q17,hq17,V1,Q1,R1,T1,rfl,hR18_0,g1,rfl⟩:=hV18
 replace hF:=hF _ hq17
 replace j0:=j0.mono o1.1
 replace a0:=a0.mono o1.1
 refine OkME.l1 o1.1 ?_
 have d2:RepL g18 yJ ([iv q3.1.lab.1,iv q3.1.lab.2.1,sv q3.1.lab.2.2,.slice Z0 q3.1.kids.length V0,iv q10.1.lab.1,iv q10.1.lab.2.1,sv q10.1.lab.2.2,.slice U0 q10.1.kids.length J0,iv q17.1.lab.1,iv q17.1.lab.2.1,sv q17.1.lab.2.2,.slice V1 q17.1.kids.length Q1]:List Value) ([q3.1,q10.1,q17.1]:List JN):=(RepL.consN (c:=(lJ q3.1 Z0 V0)) (Rep.tree.2 ⟨[iv q3.1.lab.1,iv q3.1.lab.2.1,sv q3.1.lab.2.2],[.slice Z0 q3.1.kids.length V0],rfl,⟨[iv q3.1.lab.1],[iv q3.1.lab.2.1,sv q3.1.lab.2.2],rfl,rfl,⟨[iv q3.1.lab.2.1],[sv q3.1.lab.2.2],rfl,rfl,rfl⟩⟩,j0⟩) (RepL.consN (c:=(lJ q10.1 U0 J0)) (Rep.tree.2 ⟨[iv q10.1.lab.1,iv q10.1.lab.2.1,sv q10.1.lab.2.2],[.slice U0 q10.1.kids.length J0],rfl,⟨[iv q10.1.lab.1],[iv q10.1.lab.2.1,sv q10.1.lab.2.2],rfl,rfl,⟨[iv q10.1.lab.2.1],[sv q10.1.lab.2.2],rfl,rfl,rfl⟩⟩,a0⟩) (RepL.consN (c:=(lJ q17.1 V1 Q1)) (Rep.tree.2 ⟨[iv q17.1.lab.1,iv q17.1.lab.2.1,sv q17.1.lab.2.2],[.slice V1 q17.1.kids.length Q1],rfl,⟨[iv q17.1.lab.1],[iv q17.1.lab.2.1,sv q17.1.lab.2.2],rfl,rfl,⟨[iv q17.1.lab.2.1],[sv q17.1.lab.2.2],rfl,rfl,rfl⟩⟩,hR18_0⟩) rfl)))
 refine OkME.tail rfl rfl (OpOk.li d2 fun b19=>?_)
 refine OkME.l1 o1.1 (OkME.bat 1 [2] [(20,.agg (aM 18 0 Bz (some ⟨b19,0,none⟩) ([q3.1,q10.1,q17.1]:List JN) 3))] ?_)
 refine OkME.tail rfl rfl (OpOk.w 4 ?_)
 refine OkME.l1 o1.1 (OkME.nil (Ok.t (Ok.ret (Ok.frz 0 rfl d2 fun g20 F0 hRf20=>?_))))
 replace g1:=g1.mono F0.1
 exact Ok.fine (.inl rfl) (Ok.p (vs:=[.agg (aM 18 0 Bz (some ⟨b19,0,none⟩) ([q3.1,q10.1,q17.1]:List JN) 3)]) [0] [.blk bxp (.cells (aP q17.2 R1 T1) 48)] dc rfl (.inl rfl) rfl (.cons (.cellAgg 3 4 (aM 18 0 Bz (some ⟨b19,0,none⟩) ([q3.1,q10.1,q17.1]:List JN) 3) rfl rfl underlying24 rfl kr kr kr) .nil) (((((hx4.trans hx7).trans W0).trans N1).trans o1).trans F0) ⟨(Tree.mk (18,0,Bz) ([q3.1,q10.1,q17.1]:List JN)),q17.2,(some ⟨b19,0,none⟩),3,R1,T1,rfl,hRf20,g1,rfl,hF⟩)
def pbll9b (N:Nat) (K:JN→PS→Prop) (Z:Prop) (z0:List JN) (v0:List TK) (q0:Int) (k0:Bool) (y0:Bool) (C9:(List JN)→List TK→Int→Bool→Bool→Prop):Prop :=
 psPs (v0,q0,k0,y0) ([125]:Bs)∧((!(pisS (v0,q0,k0,y0) ([125]:Bs)).1)=true→stP N (pisS (v0,q0,k0,y0) ([125]:Bs)).2∧(∀ q13:JN×PS,(stN N (pisS (v0,q0,k0,y0) ([125]:Bs)).2)=some q13→(z0++([q13.1]:List JN)).length≤2513169434916∧C9 (z0++([q13.1]:List JN)) q13.2.1 q13.2.2.1 q13.2.2.2.1 q13.2.2.2.2)∧((stN N (pisS (v0,q0,k0,y0) ([125]:Bs)).2)=none→Z))∧((!(pisS (v0,q0,k0,y0) ([125]:Bs)).1)=false→K (Tree.mk (30,0,([]:Bs)) z0) (pisS (v0,q0,k0,y0) ([125]:Bs)).2)
def pbll9 (N:Nat) (K:JN→PS→Prop) (Z:Prop):Nat→(List JN)→List TK→Int→Bool→Bool→Prop
 | 0,_,_,_,_,_=>False
 | k+1,z0,v0,q0,k0,y0=>pbll9b N K Z z0 v0 q0 k0 y0 (pbll9 N K Z k)
def pblF (N:Nat) (xp:PS) (K:JN→PS→Prop) (Z:Prop):Prop :=
 psPs xp ([123]:Bs)∧(∀ q4:PS,pmuS xp ([123]:Bs)=some q4→∃ k,pbll9 N K Z k jZ q4.1 q4.2.1 q4.2.2.1 q4.2.2.2)∧(pmuS xp ([123]:Bs)=none→Z)
theorem pbl_ok {g:Ghost} (N:Nat) (ih_pst:pst_C N) (ih_pex:pex_C N) (ih_pco:pco_C N) (ih_pbi:pbi_C N) (ih_pun:pun_C N) (ih_pfi:pfi_C N) (ih_pin:pin_C N) (ih_pbl:pbl_C N) (ih_pbo:pbo_C N) (ih_pfn:pfn_C N) (ih_pif:pif_C N) (ih_pfo:pfo_C N) (ih_pty:pty_C N) {bxp:Nat} {f0:Option Addr} {g0:Nat} (xp:PS) (l0:Rep g yTs [.slice f0 xp.1.length g0] xp.1) (Z:Prop) (K:JN→PS→Prop)
  (hF:pblF N xp K Z):CallsP prog 45 #[pv bxp 0] g [.blk bxp (.cells (aP xp f0 g0) 48)] (fun g' H' v=>∃ (r0:JN),∃ (fxp:PS),∃ (m0:Option Addr) (n0:Nat),∃ (b0:Option Addr) (c0:Nat),v=.agg (aJ r0 m0 n0)∧Rep g' yJs [.slice m0 r0.kids.length n0] r0.kids∧Rep g' yTs [.slice b0 fxp.1.length c0] fxp.1∧H'=[.blk bxp (.cells (aP fxp b0 c0) 48)]∧K r0 fxp) Z (.iface 44 (.agg #[])):=by
 refine CallsP.enter 18 [(0,pv bxp 0)] func45 rfl kr kr kr fun w0=>?_
 refine Ok.q (Ok.r ?_)
 have hL1:RepL g yJ [] []:=rfl
 refine Ok.ownNil 24 4 (Ok.o (OpOk.aw aZ fun bs2=>?_))
 refine Ok.nt (Ok.sr (Ok.B 1 [(0,pv bxp 0),(2,pv bs2 0),(4,pv bxp 0)] kr ?_))
 obtain ⟨hp3,hF,hz4⟩:=hF
 refine Ok.en [2,0,1] ?_
 refine Ok.o (OpOk.cp (pmu_c xp Bc l0 hp3) (pT (Gext.r w0 g) hz4) fun g5 _ _ hx5 hV5=>?_)
 obtain ⟨q4,hq4,q1,k1,rfl,L0,rfl⟩:=hV5
 replace hF:=hF _ hq4
 refine Ok.nt (Ok.sr (Ok.b 1 [0,2] [(6,.agg #[iv 30,iv 0,sv Bz,.slice none 0 0])] ?_))
 have hL6:RepL g5 yJ [] []:=rfl
 refine Ok.ownNil 24 4 (Ok.o (OpOk.aw aZ fun bs3=>?_))
 have hL8:RepL g5 yJ [] []:=rfl
 refine Ok.ownNil 24 4 (Ok.o (OpOk.w 1 ?_))
 refine Ok.nt (Ok.q (Ok.block ?_))
 obtain ⟨k,hF⟩:=hF
 refine Ok.L (fun k a W=>∃ gl9:Ghost,Gext w0 g5 gl9∧∃ (x0:Option Addr) (s0:Nat) (z0:List JN) (C0:List Value) (M0:Option Addr) (N0:Nat) (v0:List TK) (q0:Int) (k0:Bool) (y0:Bool),RepL gl9 yJ C0 z0∧Rep gl9 yTs [.slice M0 v0.length N0] v0∧StA 18 [(0,pv bxp 0),(2,pv bs2 0),(3,pv bs3 0)] a∧StW w0 [.own (.slice x0 z0.length s0) 24 4 z0.length C0,.blk bs3 (.cells (aM 30 0 Bz x0 z0 s0) 24),.blk bxp (.cells #[.slice M0 v0.length N0,iv q0,.bool k0,.bool y0] 48),.blk bs2 (.cells aZ 24),.own (.slice none jZ.length 0) 24 4 jZ.length ([])] gl9 W∧pbll9 N K Z k z0 v0 q0 k0 y0) k ?_ ?_
 ·
  exact fun _ _ u v=>⟨g5,Gext.r w0 g5,none,0,jZ,[],q1,k1,q4.1,q4.2.1,q4.2.2.1,q4.2.2.2,hL8,L0,fA u v hF⟩
 clear hF
 rintro (_ | k9) _ _ ⟨gl9,O1,x0,s0,z0,C0,M0,N0,v0,q0,k0,y0,o0,hRybxp_0l9,q⟩
 exact (q.2.2:False).elim
 refine jn (fun hF=>?_) _ _ q
 refine Ok.q (Ok.sr (Ok.b 1 [0,2,3] [(7,pv bxp 0)] ?_))
 obtain ⟨hp9,hF⟩:=hF
 refine Ok.en [2,0,1,3,4] ?_
 refine Ok.o (OpOk.ch (pis_c (v0,q0,k0,y0) Bv hRybxp_0l9 hp9) fun g10 _ _ K1 hV10=>?_)
 obtain ⟨L1,A1,rfl,A0,rfl⟩:=hV10
 replace o0:=o0.mono K1.1
 refine Ok.b 1 [0,2,3] [(9,.bool (!(pisS (v0,q0,k0,y0) Bv).1))] ?_
 refine Ok.nt (Ok.cw hF (fun hc11 hF=>?_) (fun hc11 hF=>?_))
 ·refine Ok.k (Ok.t (Ok.block (Ok.mx (pT ((hx5.trans O1).trans K1) id) [0,1,2] [3,4] [0,1,1,1,1] [0,0,1,1] [(0,true),(1,true),(2,true),(3,false),(4,false),(5,false),(6,true),(7,false)] ?_)))
  refine OkME.bat 1 [0,2,3] [(10,pv bs3 3)] ?_
  refine OkME.hd (OpQ.s (v:=.slice x0 z0.length s0) (Yields.l 1 rfl rfl underlying22 rfl kr) rfl rfl ?_)
  refine OkME.bat 1 [0,2,3] [(11,.slice x0 z0.length s0),(12,pv bxp 0)] ?_
  obtain ⟨hp12,hF,hz13⟩:=hF
  refine OkME.tail rfl rfl (OpOk.cp (ih_pst _ (pisS (v0,q0,k0,y0) Bv).2 A0 hp12) (pH (Gext.r w0 g10) hz13) fun g14 _ _ E0 s2=>?_)
  obtain ⟨q13,hq13,y1,u1,a14_2,c14_2,rfl,I0,hR14_2,rfl⟩:=s2
  replace hF:=hF _ hq13
  replace o0:=o0.mono E0.1
  refine OkME.l1 E0.1 ?_
  have e2:RepL g14 yJ ((lJ q13.1 y1 u1):List Value) ([q13.1]:List JN):=(RepL.consN (c:=(lJ q13.1 y1 u1)) (Rep.tree.2 ⟨[iv q13.1.lab.1,iv q13.1.lab.2.1,sv q13.1.lab.2.2],[.slice y1 q13.1.kids.length u1],rfl,⟨[iv q13.1.lab.1],[iv q13.1.lab.2.1,sv q13.1.lab.2.2],rfl,rfl,⟨[iv q13.1.lab.2.1],[sv q13.1.lab.2.2],rfl,rfl,rfl⟩⟩,I0⟩) rfl)
  refine OkME.tail rfl rfl (OpOk.li e2 fun b15=>?_)
  refine OkME.l1 E0.1 ?_
  obtain ⟨hb16,hF⟩:=hF
  refine OkME.tail rfl rfl (OpOk.append' (e:=yJ) 56 2513169434916 2 0 rfl rfl rfl rfl o0 e2 underlying22 kr kr kr hb16 rfl fun a16 c16 xs16 hL16=>?_)
  refine OkME.l1 E0.1 (OkME.bat 1 [0,2,3] [(15,.slice a16 (z0++([q13.1]:List JN)).length c16),(16,pv bs3 3)] ?_)
  refine OkME.tail rfl rfl (OpOk.w1 3 ?_)
  refine OkME.l1 E0.1 (OkME.nil (Ok.kn (Ok.t ?_)))
  exact fun a W hA hW=>⟨k9,nl,g14,((O1.trans K1).trans E0),a16,c16,(z0++([q13.1]:List JN)),xs16,a14_2,c14_2,q13.2.1,q13.2.2.1,q13.2.2.2.1,q13.2.2.2.2,hL16,hR14_2,hA.sub kr,hW.pick [2,3,1,4,5] _ dc rfl,hF⟩
 refine Ok.x (Ok.thenE (Ok.thenE (Ok.blockHit (Ok.t (Ok.sr (Ok.o (OpOk.s (v:=.agg (aM 30 0 Bz x0 z0 s0)) (Yields.loadAgg 2 4 (aM 30 0 Bz x0 z0 s0) rfl rfl underlying24 rfl kr kr kr) rfl rfl (Ok.o (OpOk.w 3 ?_)))))))))
 refine Ok.nt (Ok.ret (Ok.frz 1 rfl o0 fun g17 B0 hRf17=>?_))
 replace A0:=A0.mono B0.1
 exact Ok.fine (.inl rfl) (Ok.p (vs:=[.agg (aM 30 0 Bz x0 z0 s0)]) [0] [.blk bxp (.cells (aP (pisS (v0,q0,k0,y0) Bv).2 L1 A1) 48)] dc rfl (.inl rfl) rfl (.cons (.cellAgg 2 4 (aM 30 0 Bz x0 z0 s0) rfl rfl underlying24 rfl kr kr kr) .nil) (((hx5.trans O1).trans K1).trans B0) ⟨(Tree.mk (30,0,Bz) z0),(pisS (v0,q0,k0,y0) Bv).2,x0,s0,L1,A1,rfl,hRf17,A0,rfl,hF⟩)
def pboF (N:Nat) (xp:PS) (xfn:Bool) (K:JN→PS→Prop) (Z:Prop):Prop :=
 blP N (xp.1,xp.2.1,(xp.2.2.1||xfn),!xfn)∧(∀ q5:JN×PS,(blN N (xp.1,xp.2.1,(xp.2.2.1||xfn),!xfn))=some q5→K q5.1 (q5.2.1,q5.2.2.1,xp.2.2.1,xp.2.2.2))∧((blN N (xp.1,xp.2.1,(xp.2.2.1||xfn),!xfn))=none→Z)
theorem pbo_ok {g:Ghost} (N:Nat) (ih_pst:pst_C N) (ih_pex:pex_C N) (ih_pco:pco_C N) (ih_pbi:pbi_C N) (ih_pun:pun_C N) (ih_pfi:pfi_C N) (ih_pin:pin_C N) (ih_pbl:pbl_C N) (ih_pbo:pbo_C N) (ih_pfn:pfn_C N) (ih_pif:pif_C N) (ih_pfo:pfo_C N) (ih_pty:pty_C N) {bxp:Nat} {f0:Option Addr} {g0:Nat} (xp:PS) (xfn:Bool) (l0:Rep g yTs [.slice f0 xp.1.length g0] xp.1) (Z:Prop) (K:JN→PS→Prop)
  (hF:pboF N xp xfn K Z):CallsP prog 40 #[pv bxp 0,.bool xfn] g [.blk bxp (.cells (aP xp f0 g0) 48)] (fun g' H' v=>∃ (r0:JN),∃ (fxp:PS),∃ (m0:Option Addr) (n0:Nat),∃ (b0:Option Addr) (c0:Nat),v=.agg (aJ r0 m0 n0)∧Rep g' yJs [.slice m0 r0.kids.length n0] r0.kids∧Rep g' yTs [.slice b0 fxp.1.length c0] fxp.1∧H'=[.blk bxp (.cells (aP fxp b0 c0) 48)]∧K r0 fxp) Z (.iface 44 (.agg #[])):=by
 refine CallsP.enter 39 [(0,pv bxp 0),(1,.bool xfn)] func40 rfl kr kr kr fun w0=>?_
 refine Ok.sr (Ok.o (OpOk.aw aY fun bs4=>?_))
 refine Ok.nt (Ok.q (Ok.quiet' kr kr (OkQ.B 3 [(0,pv bxp 0),(1,.bool xfn),(4,pv bs4 0),(10,pv bxp 2)] kr (OkQ.op rfl (OpQ.s (v:=.bool xp.2.2.1) (Yields.l 1 rfl rfl underlying4 rfl kr) rfl rfl (OkQ.b 3 [0,1,4] [(11,.bool xp.2.2.1),(14,pv bxp 3)] ?_))))))
 refine OkQ.op rfl (OpQ.s (v:=.bool xp.2.2.2) (Yields.l 1 rfl rfl underlying4 rfl kr) rfl rfl (OkQ.b 2 [0,1,4] [(5,.bool xp.2.2.1),(6,.bool xp.2.2.2)] ?_))
 refine OkQ.j (Ok.t (Ok.sr (Ok.b 4 [0,1,4,5,6] [(16,pv bxp 0),(17,pv bxp 0),(19,.bool xp.2.2.1)] ?_)))
 refine Ok.w 2 [(0,pv bxp 0),(1,.bool xfn),(4,pv bs4 0),(5,.bool xp.2.2.1),(6,.bool xp.2.2.2),(16,pv bxp 0),(17,pv bxp 0),(21,.bool (xp.2.2.1||xfn))] (fun hR2=>?_) ?_
 ·refine Ok.a 19 (xp.2.2.1) rfl (fun hc3=>?_) (fun hc3=>?_)
  ·skip
   refine Ok.b 2 [0,1,4,5,6,16,17] [(21,.bool true)] ?_
   refine Ok.rb 21 (xp.2.2.1||xfn) (mor_t hc3) (Ok.b 0 [0,1,4,5,6,16,17] [(21,.bool (xp.2.2.1||xfn))] ?_)
   exact hR2
  skip
  refine Ok.b 2 [0,1,4,5,6,16,17] [(21,.bool xfn)] ?_
  refine Ok.rb 21 (xp.2.2.1||xfn) (mor_f hc3) (Ok.b 0 [0,1,4,5,6,16,17] [(21,.bool (xp.2.2.1||xfn))] ?_)
  exact hR2
 refine Ok.b 4 [0,4,5,6,17] [(21,.bool (xp.2.2.1||xfn)),(23,.bool (!xfn)),(25,pv bxp 2)] ?_
 refine Ok.o (OpOk.w1 1 ?_)
 refine Ok.b 2 [0,4,5,6,23] [(27,pv bxp 3)] ?_
 refine Ok.o (OpOk.w1 1 ?_)
 refine Ok.nt (Ok.sr (Ok.b 1 [0,4,5,6] [(28,pv bxp 0)] ?_))
 obtain ⟨hp4,hF,hz5⟩:=hF
 refine Ok.en [1,0] ?_
 refine Ok.o (OpOk.cp (ih_pbl _ (xp.1,xp.2.1,(xp.2.2.1||xfn),!xfn) l0 hp4) (pT (Gext.r w0 g) hz5) fun g6 _ _ hx6 hV6=>?_)
 obtain ⟨q5,hq5,Y1,U1,f2,g2,rfl,hR6_0,hR6_2,rfl⟩:=hV6
 replace hF:=hF _ hq5
 refine Ok.o (OpOk.aw aY fun bs7=>?_)
 refine Ok.o (OpOk.w 0 ?_)
 refine Ok.nt (Ok.sr (Ok.b 6 [4] [(7,pv bs7 0),(31,pv bxp 0),(32,.bool xp.2.2.1),(33,.bool xp.2.2.2),(35,pv bxp 2)] ?_))
 refine Ok.o (OpOk.w1 1 ?_)
 refine Ok.b 2 [4,7,33] [(37,pv bxp 3)] ?_
 refine Ok.o (OpOk.w1 1 ?_)
 refine Ok.nt (Ok.sr (Ok.o (OpOk.s (v:=.agg (aJ q5.1 Y1 U1)) (Yields.loadAgg 0 4 (aJ q5.1 Y1 U1) rfl rfl underlying24 rfl kr kr kr) rfl rfl (Ok.o (OpOk.w 2 ?_)))))
 refine Ok.nt (Ok.ret ?_)
 exact Ok.fine (.inl rfl) (Ok.p (vs:=[.agg (aJ q5.1 Y1 U1)]) [1] [.blk bxp (.cells #[.slice f2 q5.2.1.length g2,iv q5.2.2.1,.bool xp.2.2.1,.bool xp.2.2.2] 48)] dc rfl (.inl rfl) rfl (.cons (.cellAgg 2 4 (aJ q5.1 Y1 U1) rfl rfl underlying24 rfl kr kr kr) .nil) hx6 ⟨q5.1,(q5.2.1,q5.2.2.1,xp.2.2.1,xp.2.2.2),Y1,U1,f2,g2,rfl,hR6_0,hR6_2,rfl,hF⟩)
def pifj5 (K:JN→PS→Prop) (t0:List TK) (Q0:Int) (K0:Bool) (Y0:Bool) (u0:List JN):Prop :=
 K (Tree.mk (22,0,([]:Bs)) u0) (t0,Q0,K0,Y0)
def pifF (N:Nat) (xp:PS) (K:JN→PS→Prop) (Z:Prop):Prop :=
 inP N xp∧(∀ q4:JN×PS,inN N xp=some q4→blP N q4.2∧(∀ q7:JN×PS,blN N q4.2=some q7→psPs q7.2 ([101,108,115,101]:Bs)∧((pisS q7.2 ([101,108,115,101]:Bs)).1=true→psPs (pisS q7.2 ([101,108,115,101]:Bs)).2 ([105,102]:Bs)∧((pisS (pisS q7.2 ([101,108,115,101]:Bs)).2 ([105,102]:Bs)).1=true→ifP N (pisS (pisS q7.2 ([101,108,115,101]:Bs)).2 ([105,102]:Bs)).2∧(∀ q20:JN×PS,(ifN N (pisS (pisS q7.2 ([101,108,115,101]:Bs)).2 ([105,102]:Bs)).2)=some q20→(([q4.1,q7.1]:List JN)++([q20.1]:List JN)).length≤2513169434916∧pifj5 K q20.2.1 q20.2.2.1 q20.2.2.2.1 q20.2.2.2.2 (([q4.1,q7.1]:List JN)++([q20.1]:List JN)))∧((ifN N (pisS (pisS q7.2 ([101,108,115,101]:Bs)).2 ([105,102]:Bs)).2)=none→Z))∧((pisS (pisS q7.2 ([101,108,115,101]:Bs)).2 ([105,102]:Bs)).1=false→blP N (pisS (pisS q7.2 ([101,108,115,101]:Bs)).2 ([105,102]:Bs)).2∧(∀ q25:JN×PS,(blN N (pisS (pisS q7.2 ([101,108,115,101]:Bs)).2 ([105,102]:Bs)).2)=some q25→(([q4.1,q7.1]:List JN)++([q25.1]:List JN)).length≤2513169434916∧pifj5 K q25.2.1 q25.2.2.1 q25.2.2.2.1 q25.2.2.2.2 (([q4.1,q7.1]:List JN)++([q25.1]:List JN)))∧((blN N (pisS (pisS q7.2 ([101,108,115,101]:Bs)).2 ([105,102]:Bs)).2)=none→Z)))∧((pisS q7.2 ([101,108,115,101]:Bs)).1=false→pifj5 K (pisS q7.2 ([101,108,115,101]:Bs)).2.1 (pisS q7.2 ([101,108,115,101]:Bs)).2.2.1 (pisS q7.2 ([101,108,115,101]:Bs)).2.2.2.1 (pisS q7.2 ([101,108,115,101]:Bs)).2.2.2.2 ([q4.1,q7.1]:List JN)))∧(blN N q4.2=none→Z))∧(inN N xp=none→Z)
theorem pif_ok {g:Ghost} (N:Nat) (ih_pst:pst_C N) (ih_pex:pex_C N) (ih_pco:pco_C N) (ih_pbi:pbi_C N) (ih_pun:pun_C N) (ih_pfi:pfi_C N) (ih_pin:pin_C N) (ih_pbl:pbl_C N) (ih_pbo:pbo_C N) (ih_pfn:pfn_C N) (ih_pif:pif_C N) (ih_pfo:pfo_C N) (ih_pty:pty_C N) {bxp:Nat} {f0:Option Addr} {g0:Nat} (xp:PS) (l0:Rep g yTs [.slice f0 xp.1.length g0] xp.1) (Z:Prop) (K:JN→PS→Prop)
  (hF:pifF N xp K Z):CallsP prog 38 #[pv bxp 0] g [.blk bxp (.cells (aP xp f0 g0) 48)] (fun g' H' v=>∃ (r0:JN),∃ (fxp:PS),∃ (m0:Option Addr) (n0:Nat),∃ (b0:Option Addr) (c0:Nat),v=.agg (aJ r0 m0 n0)∧Rep g' yJs [.slice m0 r0.kids.length n0] r0.kids∧Rep g' yTs [.slice b0 fxp.1.length c0] fxp.1∧H'=[.blk bxp (.cells (aP fxp b0 c0) 48)]∧K r0 fxp) Z (.iface 44 (.agg #[])):=by
 refine CallsP.enter 29 [(0,pv bxp 0)] func38 rfl kr kr kr fun w0=>?_
 refine Ok.q (Ok.r ?_)
 have hL1:RepL g yJ [] []:=rfl
 refine Ok.ownNil 24 4 (Ok.o (OpOk.aw aZ fun bs2=>?_))
 refine Ok.nt (Ok.sr (Ok.B 1 [(0,pv bxp 0),(2,pv bs2 0),(4,pv bxp 0)] kr ?_))
 obtain ⟨hp3,hF,hz4⟩:=hF
 refine Ok.en [2,0,1] ?_
 refine Ok.o (OpOk.cp (ih_pin _ xp l0 hp3) (pT (Gext.r w0 g) hz4) fun g5 _ _ hx5 hV5=>?_)
 obtain ⟨q4,hq4,q1,k1,a5_2,c5_2,rfl,L0,hR5_2,rfl⟩:=hV5
 replace hF:=hF _ hq4
 refine Ok.b 1 [0,2] [(5,.agg (aJ q4.1 q1 k1)),(6,pv bxp 0)] ?_
 obtain ⟨hp6,hF,hz7⟩:=hF
 refine Ok.o (OpOk.cp (ih_pbl _ q4.2 hR5_2 hp6) (pT hx5 hz7) fun g8 _ _ hx8 hV8=>?_)
 obtain ⟨q7,hq7,J1,W1,a8_2,c8_2,rfl,X1,hR8_2,rfl⟩:=hV8
 replace hF:=hF _ hq7
 replace L0:=L0.mono hx8.1
 have hL9:RepL g8 yJ ([iv q4.1.lab.1,iv q4.1.lab.2.1,sv q4.1.lab.2.2,.slice q1 q4.1.kids.length k1,iv q7.1.lab.1,iv q7.1.lab.2.1,sv q7.1.lab.2.2,.slice J1 q7.1.kids.length W1]:List Value) ([q4.1,q7.1]:List JN):=(RepL.consN (c:=(lJ q4.1 q1 k1)) (Rep.tree.2 ⟨[iv q4.1.lab.1,iv q4.1.lab.2.1,sv q4.1.lab.2.2],[.slice q1 q4.1.kids.length k1],rfl,⟨[iv q4.1.lab.1],[iv q4.1.lab.2.1,sv q4.1.lab.2.2],rfl,rfl,⟨[iv q4.1.lab.2.1],[sv q4.1.lab.2.2],rfl,rfl,rfl⟩⟩,L0⟩) (RepL.consN (c:=(lJ q7.1 J1 W1)) (Rep.tree.2 ⟨[iv q7.1.lab.1,iv q7.1.lab.2.1,sv q7.1.lab.2.2],[.slice J1 q7.1.kids.length W1],rfl,⟨[iv q7.1.lab.1],[iv q7.1.lab.2.1,sv q7.1.lab.2.2],rfl,rfl,⟨[iv q7.1.lab.2.1],[sv q7.1.lab.2.2],rfl,rfl,rfl⟩⟩,X1⟩) rfl))
 refine Ok.o (OpOk.li hL9 fun b9=>?_)
 refine Ok.b 1 [0,2] [(9,.agg (aM 22 0 Bz (some ⟨b9,0,none⟩) ([q4.1,q7.1]:List JN) 2))] ?_
 have j1:RepL g8 yJ [] []:=rfl
 refine Ok.ownNil 24 4 (Ok.o (OpOk.aw aZ fun bs3=>?_))
 refine Ok.o (OpOk.w 0 ?_)
 refine Ok.nt (Ok.cut (fun a W=>∃ gj5:Ghost,Gext w0 g8 gj5∧∃ (X0:Option Addr) (S0:Nat) (t0:List TK) (Q0:Int) (K0:Bool) (Y0:Bool) (d0:Option Addr) (e0:Nat) (u0:List JN) (D0:List Value),Rep gj5 yTs [.slice X0 t0.length S0] t0∧RepL gj5 yJ D0 u0∧StA 29 [(2,pv bs2 0),(3,pv bs3 0)] a∧StW w0 [.blk bxp (.cells #[.slice X0 t0.length S0,iv Q0,.bool K0,.bool Y0] 48),.blk bs3 (.cells (aM 22 0 Bz d0 u0 e0) 24),.own (.slice d0 u0.length e0) 24 4 u0.length D0,.blk bs2 (.cells aZ 24),.own (.slice none jZ.length 0) 24 4 jZ.length ([])] gj5 W∧pifj5 K t0 Q0 K0 Y0 u0) ?_ ?_)
 ·
  refine Ok.sr (Ok.b 1 [0,2] [(3,pv bs3 0),(10,pv bxp 0)] ?_)
  obtain ⟨w2,hF⟩:=hF
  refine Ok.en [3,0,1,2,4,5] ?_
  refine Ok.o (OpOk.ch (pis_c q7.2 BA hR8_2 w2) fun g14 _ _ E0 s2=>?_)
  obtain ⟨y1,u1,rfl,I0,rfl⟩:=s2
  replace hL9:=hL9.mono E0.1
  refine Ok.nt (Ok.cw hF (fun hc15 hF=>?_) (fun hc15 hF=>?_))
  ·refine Ok.sr (Ok.b 1 [0,2,3] [(12,pv bxp 0)] ?_)
   obtain ⟨x2,hF⟩:=hF
   refine Ok.o (OpOk.ch (pis_c (pisS q7.2 BA).2 BB I0 x2) fun g17 _ _ B0 b2=>?_)
   obtain ⟨a17_0,c17_0,rfl,z1,rfl⟩:=b2
   replace hL9:=hL9.mono B0.1
   refine Ok.nt (Ok.cw hF (fun hc18 hF=>?_) (fun hc18 hF=>?_))
   ·refine Ok.mx (pT (((hx5.trans hx8).trans E0).trans B0) id) [0,1,2] [3,4] [0,1,1,1,1,1] [0,1,0,1,1] [(0,true),(1,true),(2,true),(3,false),(4,false),(5,false),(6,true),(7,false)] ?_
    refine OkME.bat 1 [0,2,3] [(14,pv bs3 3)] ?_
    refine OkME.hd (OpQ.s (v:=.slice (some ⟨b9,0,none⟩) ([q4.1,q7.1]:List JN).length 2) (Yields.l 0 rfl rfl underlying22 rfl kr) rfl rfl ?_)
    refine OkME.bat 1 [2,3] [(15,.slice (some ⟨b9,0,none⟩) ([q4.1,q7.1]:List JN).length 2),(16,pv bxp 0)] ?_
    obtain ⟨hp19,hF,k2⟩:=hF
    refine OkME.tail rfl rfl (OpOk.cp (ih_pif _ (pisS (pisS q7.2 BA).2 BB).2 z1 hp19) (pH (Gext.r w0 g17) k2) fun g21 _ _ R0 y2=>?_)
    obtain ⟨q20,u2,S1,B1,a21_2,c21_2,rfl,hR21_0,hR21_2,rfl⟩:=y2
    replace hF:=hF _ u2
    replace hL9:=hL9.mono R0.1
    refine OkME.l1 R0.1 ?_
    have x1:RepL g21 yJ ((lJ q20.1 S1 B1):List Value) ([q20.1]:List JN):=(RepL.consN (c:=(lJ q20.1 S1 B1)) (Rep.tree.2 ⟨[iv q20.1.lab.1,iv q20.1.lab.2.1,sv q20.1.lab.2.2],[.slice S1 q20.1.kids.length B1],rfl,⟨[iv q20.1.lab.1],[iv q20.1.lab.2.1,sv q20.1.lab.2.2],rfl,rfl,⟨[iv q20.1.lab.2.1],[sv q20.1.lab.2.2],rfl,rfl,rfl⟩⟩,hR21_0⟩) rfl)
    refine OkME.tail rfl rfl (OpOk.li x1 fun b22=>?_)
    refine OkME.l1 R0.1 ?_
    obtain ⟨hb23,hF⟩:=hF
    refine OkME.tail rfl rfl (OpOk.append' (e:=yJ) 56 2513169434916 4 0 rfl rfl rfl rfl hL9 x1 underlying22 kr kr kr hb23 rfl fun a23 c23 xs23 hL23=>?_)
    refine OkME.l1 R0.1 (OkME.bat 1 [2,3] [(19,.slice a23 (([q4.1,q7.1]:List JN)++([q20.1]:List JN)).length c23),(20,pv bs3 3)] ?_)
    refine OkME.tail rfl rfl (OpOk.w1 2 ?_)
    refine OkME.l1 R0.1 (OkME.nil (Ok.t ?_))
    exact fun _ _ u v=>⟨g21,((E0.trans B0).trans R0),a21_2,c21_2,q20.2.1,q20.2.2.1,q20.2.2.2.1,q20.2.2.2.2,a23,c23,(([q4.1,q7.1]:List JN)++([q20.1]:List JN)),xs23,hR21_2,hL23,fA u v hF⟩
   refine Ok.mx (pT (((hx5.trans hx8).trans E0).trans B0) id) [0,1,2] [3,4] [0,1,1,1,1,1] [0,1,0,1,1] [(0,true),(1,true),(2,true),(3,false),(4,false),(5,false),(6,true),(7,false)] ?_
   refine OkME.bat 1 [0,2,3] [(21,pv bs3 3)] ?_
   refine OkME.hd (OpQ.s (v:=.slice (some ⟨b9,0,none⟩) ([q4.1,q7.1]:List JN).length 2) (Yields.l 0 rfl rfl underlying22 rfl kr) rfl rfl ?_)
   refine OkME.bat 1 [2,3] [(22,.slice (some ⟨b9,0,none⟩) ([q4.1,q7.1]:List JN).length 2),(23,pv bxp 0)] ?_
   obtain ⟨hp24,hF,hz25⟩:=hF
   refine OkME.tail rfl rfl (OpOk.cp (ih_pbl _ (pisS (pisS q7.2 BA).2 BB).2 z1 hp24) (pH (Gext.r w0 g17) hz25) fun g26 _ _ b1 hV26=>?_)
   obtain ⟨q25,hq25,C1,D1,a26_2,c26_2,rfl,hR26_0,hR26_2,rfl⟩:=hV26
   replace hF:=hF _ hq25
   replace hL9:=hL9.mono b1.1
   refine OkME.l1 b1.1 ?_
   have h2:RepL g26 yJ ((lJ q25.1 C1 D1):List Value) ([q25.1]:List JN):=(RepL.consN (c:=(lJ q25.1 C1 D1)) (Rep.tree.2 ⟨[iv q25.1.lab.1,iv q25.1.lab.2.1,sv q25.1.lab.2.2],[.slice C1 q25.1.kids.length D1],rfl,⟨[iv q25.1.lab.1],[iv q25.1.lab.2.1,sv q25.1.lab.2.2],rfl,rfl,⟨[iv q25.1.lab.2.1],[sv q25.1.lab.2.2],rfl,rfl,rfl⟩⟩,hR26_0⟩) rfl)
   refine OkME.tail rfl rfl (OpOk.li h2 fun b27=>?_)
   refine OkME.l1 b1.1 ?_
   obtain ⟨hb28,hF⟩:=hF
   refine OkME.tail rfl rfl (OpOk.append' (e:=yJ) 56 2513169434916 4 0 rfl rfl rfl rfl hL9 h2 underlying22 kr kr kr hb28 rfl fun a28 c28 xs28 hL28=>?_)
   refine OkME.l1 b1.1 (OkME.bat 1 [2,3] [(26,.slice a28 (([q4.1,q7.1]:List JN)++([q25.1]:List JN)).length c28),(27,pv bs3 3)] ?_)
   refine OkME.tail rfl rfl (OpOk.w1 2 ?_)
   refine OkME.l1 b1.1 (OkME.nil (Ok.t ?_))
   exact fun _ _ u v=>⟨g26,((E0.trans B0).trans b1),a26_2,c26_2,q25.2.1,q25.2.2.1,q25.2.2.2.1,q25.2.2.2.2,a28,c28,(([q4.1,q7.1]:List JN)++([q25.1]:List JN)),xs28,hR26_2,hL28,fA u v hF⟩
  refine Ok.k (Ok.t ?_)
  exact fun _ _ u v=>⟨g14,E0,y1,u1,(pisS q7.2 BA).2.1,(pisS q7.2 BA).2.2.1,(pisS q7.2 BA).2.2.2.1,(pisS q7.2 BA).2.2.2.2,(some ⟨b9,0,none⟩),2,([q4.1,q7.1]:List JN),([iv q4.1.lab.1,iv q4.1.lab.2.1,sv q4.1.lab.2.2,.slice q1 q4.1.kids.length k1,iv q7.1.lab.1,iv q7.1.lab.2.1,sv q7.1.lab.2.2,.slice J1 q7.1.kids.length W1]:List Value),I0,hL9,fA u v hF⟩
 clear hF
 rintro _ _ ⟨gj5,m2,X0,S0,t0,Q0,K0,Y0,d0,e0,u0,D0,G0,hLyown9_0j5,q⟩
 refine jn (fun hF=>?_) _ _ q
 refine Ok.sr (Ok.o (OpOk.s (v:=.agg (aM 22 0 Bz d0 u0 e0)) (Yields.loadAgg 1 4 (aM 22 0 Bz d0 u0 e0) rfl rfl underlying24 rfl kr kr kr) rfl rfl (Ok.o (OpOk.w 3 ?_))))
 refine Ok.nt (Ok.ret (Ok.frz 2 rfl hLyown9_0j5 fun g12 c2 hRf12=>?_))
 replace G0:=G0.mono c2.1
 exact Ok.fine (.inl rfl) (Ok.p (vs:=[.agg (aM 22 0 Bz d0 u0 e0)]) [0] [.blk bxp (.cells #[.slice X0 t0.length S0,iv Q0,.bool K0,.bool Y0] 48)] dc rfl (.inl rfl) rfl (.cons (.cellAgg 2 4 (aM 22 0 Bz d0 u0 e0) rfl rfl underlying24 rfl kr kr kr) .nil) (((hx5.trans hx8).trans m2).trans c2) ⟨(Tree.mk (22,0,Bz) u0),(t0,Q0,K0,Y0),d0,e0,X0,S0,rfl,hRf12,G0,rfl,hF⟩)
def pfoF (N:Nat) (xp:PS) (K:JN→PS→Prop) (Z:Prop):Prop :=
 psPs xp ([40]:Bs)∧(∀ q4:PS,pmuS xp ([40]:Bs)=some q4→psPs q4 ([108,101,116]:Bs)∧(∀ q7:PS,pmuS q4 ([108,101,116]:Bs)=some q7→psP q7∧(∀ q10:Bs×PS,pnmS q7=some q10→psPs q10.2 ([111,102]:Bs)∧(∀ q16:PS,pmuS q10.2 ([111,102]:Bs)=some q16→exP N q16∧(∀ q19:JN×PS,exN N q16=some q19→(jZ++([q19.1]:List JN)).length≤2513169434916∧psPs q19.2 ([41]:Bs)∧(∀ q24:PS,pmuS q19.2 ([41]:Bs)=some q24→boP N q24 false∧(∀ q27:JN×PS,boN N q24 false=some q27→((jZ++([q19.1]:List JN))++([q27.1]:List JN)).length≤2513169434916∧K (Tree.mk (24,0,q10.1) ((jZ++([q19.1]:List JN))++([q27.1]:List JN))) q27.2)∧(boN N q24 false=none→Z))∧(pmuS q19.2 ([41]:Bs)=none→Z))∧(exN N q16=none→Z))∧(pmuS q10.2 ([111,102]:Bs)=none→Z))∧(pnmS q7=none→Z))∧(pmuS q4 ([108,101,116]:Bs)=none→Z))∧(pmuS xp ([40]:Bs)=none→Z)
theorem pfo_ok {g:Ghost} (N:Nat) (ih_pst:pst_C N) (ih_pex:pex_C N) (ih_pco:pco_C N) (ih_pbi:pbi_C N) (ih_pun:pun_C N) (ih_pfi:pfi_C N) (ih_pin:pin_C N) (ih_pbl:pbl_C N) (ih_pbo:pbo_C N) (ih_pfn:pfn_C N) (ih_pif:pif_C N) (ih_pfo:pfo_C N) (ih_pty:pty_C N) {bxp:Nat} {f0:Option Addr} {g0:Nat} (xp:PS) (l0:Rep g yTs [.slice f0 xp.1.length g0] xp.1) (Z:Prop) (K:JN→PS→Prop)
  (hF:pfoF N xp K Z):CallsP prog 41 #[pv bxp 0] g [.blk bxp (.cells (aP xp f0 g0) 48)] (fun g' H' v=>∃ (r0:JN),∃ (fxp:PS),∃ (m0:Option Addr) (n0:Nat),∃ (b0:Option Addr) (c0:Nat),v=.agg (aJ r0 m0 n0)∧Rep g' yJs [.slice m0 r0.kids.length n0] r0.kids∧Rep g' yTs [.slice b0 fxp.1.length c0] fxp.1∧H'=[.blk bxp (.cells (aP fxp b0 c0) 48)]∧K r0 fxp) Z (.iface 44 (.agg #[])):=by
 refine CallsP.enter 30 [(0,pv bxp 0)] func41 rfl kr kr kr fun w0=>?_
 refine Ok.q (Ok.r ?_)
 have hL1:RepL g yJ [] []:=rfl
 refine Ok.ownNil 24 4 (Ok.o (OpOk.aw aZ fun bs2=>?_))
 refine Ok.nt (Ok.sr (Ok.B 1 [(0,pv bxp 0),(2,pv bs2 0),(4,pv bxp 0)] kr ?_))
 obtain ⟨hp3,hF,hz4⟩:=hF
 refine Ok.en [2,0,1] ?_
 refine Ok.o (OpOk.cp (pmu_c xp Bx l0 hp3) (pT (Gext.r w0 g) hz4) fun g5 _ _ hx5 hV5=>?_)
 obtain ⟨q4,hq4,q1,k1,rfl,L0,rfl⟩:=hV5
 replace hF:=hF _ hq4
 refine Ok.nt (Ok.sr (Ok.b 1 [0,2] [(6,pv bxp 0)] ?_))
 obtain ⟨hp6,hF,hz7⟩:=hF
 refine Ok.o (OpOk.cp (pmu_c q4 BC L0 hp6) (pT hx5 hz7) fun g8 _ _ hx8 hV8=>?_)
 obtain ⟨q7,hq7,J1,W1,rfl,X1,rfl⟩:=hV8
 replace hF:=hF _ hq7
 refine Ok.nt (Ok.sr (Ok.b 1 [0,2] [(8,pv bxp 0)] ?_))
 obtain ⟨hp9,hF,d1⟩:=hF
 refine Ok.o (OpOk.cp (pnm_c q7 X1 hp9) (pT (hx5.trans hx8) d1) fun g11 _ _ W0 e1=>?_)
 obtain ⟨q10,f1,U0,J0,rfl,a0,rfl⟩:=e1
 replace hF:=hF _ f1
 refine Ok.b 1 [0,2] [(10,.agg #[iv 24,iv 0,sv q10.1,.slice none 0 0])] ?_
 have H0:RepL g11 yJ [] []:=rfl
 refine Ok.ownNil 24 4 (Ok.o (OpOk.aw aZ fun bs3=>?_))
 have E1:RepL g11 yJ [] []:=rfl
 refine Ok.ownNil 24 4 (Ok.o (OpOk.w 1 ?_))
 refine Ok.nt (Ok.sr (Ok.b 1 [0,2] [(3,pv bs3 0),(11,pv bxp 0)] ?_))
 obtain ⟨hp15,hF,hz16⟩:=hF
 refine Ok.en [3,0,1,2,4,5] ?_
 refine Ok.o (OpOk.cp (pmu_c q10.2 ([111,102]:Bs) a0 hp15) (pT ((hx5.trans hx8).trans W0) hz16) fun g17 _ _ B0 b2=>?_)
 obtain ⟨q16,hq16,a17_0,c17_0,rfl,z1,rfl⟩:=b2
 replace hF:=hF _ hq16
 replace E1:=E1.mono B0.1
 refine Ok.nt (Ok.q (Ok.mx (pT (((hx5.trans hx8).trans W0).trans B0) id) [0,1,2] [3,4] [0,1,1,1,1,1] [0,0,1,1,1] [(0,true),(1,true),(2,true),(3,false),(4,false),(5,false),(6,true),(7,false)] ?_))
 refine OkME.bat 1 [0,2,3] [(13,pv bs3 3)] ?_
 refine OkME.hd (OpQ.s (v:=.slice none jZ.length 0) (Yields.l 1 rfl rfl underlying22 rfl kr) rfl rfl ?_)
 refine OkME.bat 1 [0,2,3] [(14,.slice none jZ.length 0),(15,pv bxp 0)] ?_
 obtain ⟨hp18,hF,hz19⟩:=hF
 refine OkME.tail rfl rfl (OpOk.cp (ih_pex _ q16 z1 hp18) (pH (Gext.r w0 g17) hz19) fun g20 _ _ F0 hV20=>?_)
 obtain ⟨q19,hq19,F1,G1,a20_2,c20_2,rfl,hR20_0,hR20_2,rfl⟩:=hV20
 replace hF:=hF _ hq19
 replace E1:=E1.mono F0.1
 refine OkME.l1 F0.1 ?_
 have c1:RepL g20 yJ ((lJ q19.1 F1 G1):List Value) ([q19.1]:List JN):=(RepL.consN (c:=(lJ q19.1 F1 G1)) (Rep.tree.2 ⟨[iv q19.1.lab.1,iv q19.1.lab.2.1,sv q19.1.lab.2.2],[.slice F1 q19.1.kids.length G1],rfl,⟨[iv q19.1.lab.1],[iv q19.1.lab.2.1,sv q19.1.lab.2.2],rfl,rfl,⟨[iv q19.1.lab.2.1],[sv q19.1.lab.2.2],rfl,rfl,rfl⟩⟩,hR20_0⟩) rfl)
 refine OkME.tail rfl rfl (OpOk.li c1 fun b21=>?_)
 refine OkME.l1 F0.1 ?_
 obtain ⟨hb22,hF⟩:=hF
 refine OkME.tail rfl rfl (OpOk.append' (e:=yJ) 56 2513169434916 2 0 rfl rfl rfl rfl E1 c1 underlying22 kr kr kr hb22 rfl fun a22 c22 xs22 x1=>?_)
 refine OkME.l1 F0.1 (OkME.bat 1 [0,2,3] [(18,.slice a22 (jZ++([q19.1]:List JN)).length c22),(19,pv bs3 3)] ?_)
 refine OkME.tail rfl rfl (OpOk.w1 3 ?_)
 refine OkME.l1 F0.1 (OkME.nil (Ok.t (Ok.sr (Ok.b 1 [0,2,3] [(20,pv bxp 0)] ?_))))
 obtain ⟨hp23,hF,hz24⟩:=hF
 refine Ok.en [1,0,2,3,4,5,6] ?_
 refine Ok.o (OpOk.cp (pmu_c q19.2 By hR20_2 hp23) (pT ((((hx5.trans hx8).trans W0).trans B0).trans F0) hz24) fun g25 _ _ r1 hV25=>?_)
 obtain ⟨q24,hq24,a25_0,c25_0,rfl,hR25_0,rfl⟩:=hV25
 replace hF:=hF _ hq24
 replace x1:=x1.mono r1.1
 refine Ok.nt (Ok.q (Ok.mx (pT (((((hx5.trans hx8).trans W0).trans B0).trans F0).trans r1) id) [0,1,2] [3,4] [0,1,1,1,1,1,1] [1,0,0,1,1,1] [(0,true),(1,true),(2,true),(3,false),(4,false),(5,false),(6,true),(7,false)] ?_))
 refine OkME.bat 1 [0,2,3] [(22,pv bs3 3)] ?_
 refine OkME.hd (OpQ.s (v:=.slice a22 (jZ++([q19.1]:List JN)).length c22) (Yields.l 2 rfl rfl underlying22 rfl kr) rfl rfl ?_)
 refine OkME.bat 1 [2,3] [(23,.slice a22 (jZ++([q19.1]:List JN)).length c22),(24,pv bxp 0)] ?_
 obtain ⟨hp26,hF,hz27⟩:=hF
 refine OkME.tail rfl rfl (OpOk.cp (ih_pbo _ q24 false hR25_0 hp26) (pH (Gext.r w0 g25) hz27) fun g28 _ _ v1 hV28=>?_)
 obtain ⟨q27,hq27,H1,M1,I1,z2,rfl,hR28_0,m1,rfl⟩:=hV28
 replace hF:=hF _ hq27
 replace x1:=x1.mono v1.1
 refine OkME.l1 v1.1 ?_
 have P1:RepL g28 yJ ((lJ q27.1 H1 M1):List Value) ([q27.1]:List JN):=(RepL.consN (c:=(lJ q27.1 H1 M1)) (Rep.tree.2 ⟨[iv q27.1.lab.1,iv q27.1.lab.2.1,sv q27.1.lab.2.2],[.slice H1 q27.1.kids.length M1],rfl,⟨[iv q27.1.lab.1],[iv q27.1.lab.2.1,sv q27.1.lab.2.2],rfl,rfl,⟨[iv q27.1.lab.2.1],[sv q27.1.lab.2.2],rfl,rfl,rfl⟩⟩,hR28_0⟩) rfl)
 refine OkME.tail rfl rfl (OpOk.li P1 fun b29=>?_)
 refine OkME.l1 v1.1 ?_
 obtain ⟨hb30,hF⟩:=hF
 refine OkME.tail rfl rfl (OpOk.append' (e:=yJ) 56 2513169434916 3 0 rfl rfl rfl rfl x1 P1 underlying22 kr kr kr hb30 rfl fun a30 c30 xs30 hL30=>?_)
 refine OkME.l1 v1.1 (OkME.bat 1 [2,3] [(27,.slice a30 ((jZ++([q19.1]:List JN))++([q27.1]:List JN)).length c30),(28,pv bs3 3)] ?_)
 refine OkME.tail rfl rfl (OpOk.w1 4 ?_)
 refine OkME.l1 v1.1 (OkME.nil (Ok.t (Ok.sr (Ok.o (OpOk.s (v:=.agg (aM 24 0 q10.1 a30 ((jZ++([q19.1]:List JN))++([q27.1]:List JN)) c30)) (Yields.loadAgg 4 4 (aM 24 0 q10.1 a30 ((jZ++([q19.1]:List JN))++([q27.1]:List JN)) c30) rfl rfl underlying24 rfl kr kr kr) rfl rfl (Ok.o (OpOk.w 6 ?_)))))))
 refine Ok.nt (Ok.ret (Ok.frz 3 rfl hL30 fun g31 t1 hRf31=>?_))
 replace m1:=m1.mono t1.1
 exact Ok.fine (.inl rfl) (Ok.p (vs:=[.agg (aM 24 0 q10.1 a30 ((jZ++([q19.1]:List JN))++([q27.1]:List JN)) c30)]) [1] [.blk bxp (.cells (aP q27.2 I1 z2) 48)] dc rfl (.inl rfl) rfl (.cons (.cellAgg 5 4 (aM 24 0 q10.1 a30 ((jZ++([q19.1]:List JN))++([q27.1]:List JN)) c30) rfl rfl underlying24 rfl kr kr kr) .nil) (((((((hx5.trans hx8).trans W0).trans B0).trans F0).trans r1).trans v1).trans t1) ⟨(Tree.mk (24,0,q10.1) ((jZ++([q19.1]:List JN))++([q27.1]:List JN))),q27.2,a30,c30,I1,z2,rfl,hRf31,m1,rfl,hF⟩)
end
end Go.Proofs.YtalnampdiegmoaaDoor.Ps
