/- The parser of scripts: walks. -/
import Derived.Test.YtalnampdiegmoaaDoorPsc
namespace Go.Proofs.YtalnampdiegmoaaDoor.Ps
open _root_.Go.Proofs.Tryd Go Go.Eng Go.RowKit
set_option linter.unusedVariables false
set_option linter.unusedSimpArgs false
set_option maxHeartbeats 4000000
set_option maxRecDepth 100000
noncomputable section
def ptyV0 (q4:JN×PS):Int :=
 (if (pisS q4.2 ([99,97,116,99,104]:Bs)).1=true then 1 else 0)
def ptyV1 (q4:JN×PS) (z0:List TK) (v0:Int) (q0:Bool) (k0:Bool):Int :=
 (if (pisS (z0,v0,q0,k0) ([102,105,110,97,108,108,121]:Bs)).1=true then w6 ((ptyV0 q4)+2) else (ptyV0 q4))
def ptyj17 (K:JN→PS→Prop) (Z:Prop) (q4:JN×PS) (z0:List TK) (v0:Int) (q0:Bool) (k0:Bool) (j0:Bs) (b0:List TK) (n0:Int) (o0:Bool) (t0:Bool) (u0:List JN):Prop :=
 ((ptyV1 q4 z0 v0 q0 k0==0)=true→Z)∧((ptyV1 q4 z0 v0 q0 k0==0)=false→K (Tree.mk (29,ptyV1 q4 z0 v0 q0 k0,j0) u0) (b0,n0,o0,t0))
def ptyj5 (N:Nat) (K:JN→PS→Prop) (Z:Prop) (q4:JN×PS) (z0:List TK) (v0:Int) (q0:Bool) (k0:Bool) (j0:Bs) (y0:List JN):Prop :=
 psPs (z0,v0,q0,k0) ([102,105,110,97,108,108,121]:Bs)∧((pisS (z0,v0,q0,k0) ([102,105,110,97,108,108,121]:Bs)).1=true→blP N (pisS (z0,v0,q0,k0) ([102,105,110,97,108,108,121]:Bs)).2∧(∀ q15:JN×PS,(blN N (pisS (z0,v0,q0,k0) ([102,105,110,97,108,108,121]:Bs)).2)=some q15→(y0++([q15.1]:List JN)).length≤2513169434916∧ptyj17 K Z q4 z0 v0 q0 k0 j0 q15.2.1 q15.2.2.1 q15.2.2.2.1 q15.2.2.2.2 (y0++([q15.1]:List JN)))∧((blN N (pisS (z0,v0,q0,k0) ([102,105,110,97,108,108,121]:Bs)).2)=none→Z))∧((pisS (z0,v0,q0,k0) ([102,105,110,97,108,108,121]:Bs)).1=false→ptyj17 K Z q4 z0 v0 q0 k0 j0 (pisS (z0,v0,q0,k0) ([102,105,110,97,108,108,121]:Bs)).2.1 (pisS (z0,v0,q0,k0) ([102,105,110,97,108,108,121]:Bs)).2.2.1 (pisS (z0,v0,q0,k0) ([102,105,110,97,108,108,121]:Bs)).2.2.2.1 (pisS (z0,v0,q0,k0) ([102,105,110,97,108,108,121]:Bs)).2.2.2.2 y0)
def ptyF (N:Nat) (xp:PS) (K:JN→PS→Prop) (Z:Prop):Prop :=
 blP N xp∧(∀ q4:JN×PS,blN N xp=some q4→psPs q4.2 ([99,97,116,99,104]:Bs)∧((pisS q4.2 ([99,97,116,99,104]:Bs)).1=true→psPs (pisS q4.2 ([99,97,116,99,104]:Bs)).2 ([40]:Bs)∧(∀ q23:PS,(pmuS (pisS q4.2 ([99,97,116,99,104]:Bs)).2 ([40]:Bs))=some q23→psP q23∧(∀ q26:Bs×PS,pnmS q23=some q26→psPs q26.2 ([41]:Bs)∧(∀ q29:PS,pmuS q26.2 ([41]:Bs)=some q29→blP N q29∧(∀ q32:JN×PS,blN N q29=some q32→(([q4.1]:List JN)++([q32.1]:List JN)).length≤2513169434916∧ptyj5 N K Z q4 q32.2.1 q32.2.2.1 q32.2.2.2.1 q32.2.2.2.2 q26.1 (([q4.1]:List JN)++([q32.1]:List JN)))∧(blN N q29=none→Z))∧(pmuS q26.2 ([41]:Bs)=none→Z))∧(pnmS q23=none→Z))∧((pmuS (pisS q4.2 ([99,97,116,99,104]:Bs)).2 ([40]:Bs))=none→Z))∧((pisS q4.2 ([99,97,116,99,104]:Bs)).1=false→ptyj5 N K Z q4 (pisS q4.2 ([99,97,116,99,104]:Bs)).2.1 (pisS q4.2 ([99,97,116,99,104]:Bs)).2.2.1 (pisS q4.2 ([99,97,116,99,104]:Bs)).2.2.2.1 (pisS q4.2 ([99,97,116,99,104]:Bs)).2.2.2.2 ([]:Bs) ([q4.1]:List JN)))∧(blN N xp=none→Z)
theorem pty_ok {g:Ghost} (N:Nat) (ih_pst:pst_C N) (ih_pex:pex_C N) (ih_pco:pco_C N) (ih_pbi:pbi_C N) (ih_pun:pun_C N) (ih_pfi:pfi_C N) (ih_pin:pin_C N) (ih_pbl:pbl_C N) (ih_pbo:pbo_C N) (ih_pfn:pfn_C N) (ih_pif:pif_C N) (ih_pfo:pfo_C N) (ih_pty:pty_C N) {bxp:Nat} {A0:Option Addr} {I0:Nat} (xp:PS) (y1:Rep g yTs [.slice A0 xp.1.length I0] xp.1) (Z:Prop) (K:JN→PS→Prop)
  (hF:ptyF N xp K Z):CallsP prog 43 #[pv bxp 0] g [.blk bxp (.cells (aP xp A0 I0) 48)] (fun g' H' v=>∃ (r0:JN),∃ (fxp:PS),∃ (z1:Option Addr) (v1:Nat),∃ (E0:Option Addr) (F0:Nat),v=.agg (aJ r0 z1 v1)∧Rep g' yJs [.slice z1 r0.kids.length v1] r0.kids∧Rep g' yTs [.slice E0 fxp.1.length F0] fxp.1∧H'=[.blk bxp (.cells (aP fxp E0 F0) 48)]∧K r0 fxp) Z (.iface 44 (.agg #[])):=by
 refine CallsP.enter 44 [(0,pv bxp 0)] func43 rfl kr kr kr fun w0=>?_
 refine Ok.q (Ok.r ?_)
 have hL1:RepL g yJ [] []:=rfl
 refine Ok.ownNil 24 4 (Ok.o (OpOk.aw aZ fun bs2=>?_))
 refine Ok.nt (Ok.sr (Ok.B 1 [(0,pv bxp 0),(2,pv bs2 0),(4,pv bxp 0)] kr ?_))
 obtain ⟨hp3,hF,hz4⟩:=hF
 refine Ok.en [2,0,1] ?_
 refine Ok.o (OpOk.cp (ih_pbl _ xp y1 hp3) (pT (Gext.r w0 g) hz4) fun g5 _ _ hx5 hV5=>?_)
 obtain ⟨q4,hq4,Y2,U2,a5_2,c5_2,rfl,hR5_0,hR5_2,rfl⟩:=hV5
 replace hF:=hF _ hq4
 have hL6:RepL g5 yJ ((lJ q4.1 Y2 U2):List Value) ([q4.1]:List JN):=(RepL.consN (c:=(lJ q4.1 Y2 U2)) (Rep.tree.2 ⟨[iv q4.1.lab.1,iv q4.1.lab.2.1,sv q4.1.lab.2.2],[.slice Y2 q4.1.kids.length U2],rfl,⟨[iv q4.1.lab.1],[iv q4.1.lab.2.1,sv q4.1.lab.2.2],rfl,rfl,⟨[iv q4.1.lab.2.1],[sv q4.1.lab.2.2],rfl,rfl,rfl⟩⟩,hR5_0⟩) rfl)
 refine Ok.o (OpOk.li hL6 fun b6=>?_)
 refine Ok.b 1 [0,2] [(7,.agg (aM 29 0 Bz (some ⟨b6,0,none⟩) ([q4.1]:List JN) 1))] ?_
 have hL7:RepL g5 yJ [] []:=rfl
 refine Ok.ownNil 24 4 (Ok.o (OpOk.aw aZ fun bs3=>?_))
 refine Ok.o (OpOk.w 0 ?_)
 refine Ok.nt (Ok.cut (fun a W=>∃ gj5:Ghost,Gext w0 g5 gj5∧∃ (B0:Option Addr) (C0:Nat) (z0:List TK) (v0:Int) (q0:Bool) (k0:Bool) (j0:Bs) (c0:Option Addr) (d0:Nat) (y0:List JN) (V0:List Value),Rep gj5 yTs [.slice B0 z0.length C0] z0∧RepL gj5 yJ V0 y0∧StA 44 [(0,pv bxp 0),(2,pv bs2 0),(3,pv bs3 0)] a∧StW w0 [.blk bxp (.cells #[.slice B0 z0.length C0,iv v0,.bool q0,.bool k0] 48),.blk bs3 (.cells (aM 29 (ptyV0 q4) j0 c0 y0 d0) 24),.own (.slice c0 y0.length d0) 24 4 y0.length V0,.blk bs2 (.cells aZ 24),.own (.slice none jZ.length 0) 24 4 jZ.length ([])] gj5 W∧ptyj5 N K Z q4 z0 v0 q0 k0 j0 y0) ?_ ?_)
 ·
  refine Ok.sr (Ok.b 1 [0,2] [(3,pv bs3 0),(8,pv bxp 0)] ?_)
  obtain ⟨hp19,hF⟩:=hF
  refine Ok.en [3,0,1,2,4,5] ?_
  refine Ok.o (OpOk.ch (pis_c q4.2 BG hR5_2 hp19) fun g20 _ _ O0 hV20=>?_)
  obtain ⟨a20_0,c20_0,rfl,Y1,rfl⟩:=hV20
  replace hL6:=hL6.mono O0.1
  refine Ok.nt (Ok.cw hF (fun j3 hF=>?_) (fun j3 hF=>?_))
  ·refine Ok.sr (Ok.b 1 [0,2,3] [(10,pv bxp 0)] ?_)
   obtain ⟨hp22,hF,hz23⟩:=hF
   refine Ok.o (OpOk.cp (pmu_c (pisS q4.2 BG).2 Bx Y1 hp22) (pT (hx5.trans O0) hz23) fun g24 _ _ u1 hV24=>?_)
   obtain ⟨q23,hq23,a24_0,c24_0,rfl,hR24_0,rfl⟩:=hV24
   replace hF:=hF _ hq23
   replace hL6:=hL6.mono u1.1
   refine Ok.nt (Ok.sr (Ok.b 1 [0,2,3] [(12,pv bxp 0)] ?_))
   obtain ⟨hp25,hF,hz26⟩:=hF
   refine Ok.o (OpOk.cp (pnm_c q23 hR24_0 hp25) (pT ((hx5.trans O0).trans u1) hz26) fun g27 _ _ K1 hV27=>?_)
   obtain ⟨q26,hq26,a27_0,c27_0,rfl,hR27_0,rfl⟩:=hV27
   replace hF:=hF _ hq26
   replace hL6:=hL6.mono K1.1
   refine Ok.b 1 [0,2,3] [(13,sv q26.1),(14,pv bs3 2)] ?_
   refine Ok.o (OpOk.w1 1 ?_)
   refine Ok.b 1 [0,2,3] [(15,pv bs3 1)] ?_
   refine Ok.o (OpOk.w1 1 ?_)
   refine Ok.nt (Ok.sr (Ok.b 1 [0,2,3] [(16,pv bxp 0)] ?_))
   obtain ⟨hp28,hF,hz29⟩:=hF
   refine Ok.o (OpOk.cp (pmu_c q26.2 By hR27_0 hp28) (pT (((hx5.trans O0).trans u1).trans K1) hz29) fun g30 _ _ q1 hV30=>?_)
   obtain ⟨q29,hq29,a30_0,c30_0,rfl,hR30_0,rfl⟩:=hV30
   replace hF:=hF _ hq29
   replace hL6:=hL6.mono q1.1
   refine Ok.nt (Ok.mx (pT ((((hx5.trans O0).trans u1).trans K1).trans q1) id) [0,1,2] [3,4] [0,1,1,1,1,1] [0,1,0,1,1] [(0,true),(1,true),(2,true),(3,false),(4,false),(5,false),(6,true),(7,false)] ?_)
   refine OkME.bat 1 [0,2,3] [(18,pv bs3 3)] ?_
   refine OkME.hd (OpQ.s (v:=.slice (some ⟨b6,0,none⟩) ([q4.1]:List JN).length 1) (Yields.l 0 rfl rfl underlying22 rfl kr) rfl rfl ?_)
   refine OkME.bat 1 [0,2,3] [(19,.slice (some ⟨b6,0,none⟩) ([q4.1]:List JN).length 1),(20,pv bxp 0)] ?_
   obtain ⟨w3,hF,hz32⟩:=hF
   refine OkME.tail rfl rfl (OpOk.cp (ih_pbl _ q29 hR30_0 w3) (pH (Gext.r w0 g30) hz32) fun g33 _ _ k1 hV33=>?_)
   obtain ⟨q32,hq32,U1,J1,a33_2,c33_2,rfl,hR33_0,hR33_2,rfl⟩:=hV33
   replace hF:=hF _ hq32
   replace hL6:=hL6.mono k1.1
   refine OkME.l1 k1.1 ?_
   have h3:RepL g33 yJ ((lJ q32.1 U1 J1):List Value) ([q32.1]:List JN):=(RepL.consN (c:=(lJ q32.1 U1 J1)) (Rep.tree.2 ⟨[iv q32.1.lab.1,iv q32.1.lab.2.1,sv q32.1.lab.2.2],[.slice U1 q32.1.kids.length J1],rfl,⟨[iv q32.1.lab.1],[iv q32.1.lab.2.1,sv q32.1.lab.2.2],rfl,rfl,⟨[iv q32.1.lab.2.1],[sv q32.1.lab.2.2],rfl,rfl,rfl⟩⟩,hR33_0⟩) rfl)
   refine OkME.tail rfl rfl (OpOk.li h3 fun b34=>?_)
   refine OkME.l1 k1.1 ?_
   obtain ⟨hb35,hF⟩:=hF
   refine OkME.tail rfl rfl (OpOk.append' (e:=yJ) 56 2513169434916 4 0 rfl rfl rfl rfl hL6 h3 underlying22 kr kr kr hb35 rfl fun a35 c35 xs35 hL35=>?_)
   refine OkME.l1 k1.1 (OkME.bat 1 [0,2,3] [(23,.slice a35 (([q4.1]:List JN)++([q32.1]:List JN)).length c35),(24,pv bs3 3)] ?_)
   refine OkME.tail rfl rfl (OpOk.w1 2 ?_)
   refine OkME.l1 k1.1 (OkME.nil (Ok.t (Ok.he (E':=.blk bs3 (.cells (aM 29 (ptyV0 q4) q26.1 a35 (([q4.1]:List JN)++([q32.1]:List JN)) c35) 24)) 2 (congrArg (fun l:List Value=>Ent.blk bs3 (.cells ⟨l⟩ 24)) (lcons (rfl) (lcons (congrArg (Value.int .i64) ((if_t j3).symm)) (lcons (rfl) (lcons (rfl) rfl))))) ?_)))
   exact fun _ _ u v=>⟨g33,((((O0.trans u1).trans K1).trans q1).trans k1),a33_2,c33_2,q32.2.1,q32.2.2.1,q32.2.2.2.1,q32.2.2.2.2,q26.1,a35,c35,(([q4.1]:List JN)++([q32.1]:List JN)),xs35,hR33_2,hL35,fA u v hF⟩
  refine Ok.k (Ok.t (Ok.he (E':=.blk bs3 (.cells (aM 29 (ptyV0 q4) Bz (some ⟨b6,0,none⟩) ([q4.1]:List JN) 1) 24)) 1 (congrArg (fun l:List Value=>Ent.blk bs3 (.cells ⟨l⟩ 24)) (lcons (rfl) (lcons (congrArg (Value.int .i64) ((if_f j3).symm)) (lcons (rfl) (lcons (rfl) rfl))))) ?_))
  exact fun _ _ u v=>⟨g20,O0,a20_0,c20_0,(pisS q4.2 BG).2.1,(pisS q4.2 BG).2.2.1,(pisS q4.2 BG).2.2.2.1,(pisS q4.2 BG).2.2.2.2,Bz,(some ⟨b6,0,none⟩),1,([q4.1]:List JN),((lJ q4.1 Y2 U2):List Value),Y1,hL6,fA u v hF⟩
 clear hF
 rintro _ _ ⟨gj5,J2,B0,C0,z0,v0,q0,k0,j0,c0,d0,y0,V0,hRybxp_0j5,f0,q⟩
 refine jn (fun hF=>?_) _ _ q
 refine Ok.cut (fun a W=>∃ W1:Ghost,Gext w0 gj5 W1∧∃ (a0:Option Addr) (i0:Nat) (b0:List TK) (n0:Int) (o0:Bool) (t0:Bool) (x0:Option Addr) (s0:Nat) (u0:List JN) (K0:List Value),Rep W1 yTs [.slice a0 b0.length i0] b0∧RepL W1 yJ K0 u0∧StA 44 [(2,pv bs2 0),(3,pv bs3 0)] a∧StW w0 [.blk bxp (.cells #[.slice a0 b0.length i0,iv n0,.bool o0,.bool t0] 48),.blk bs3 (.cells (aM 29 (ptyV1 q4 z0 v0 q0 k0) j0 x0 u0 s0) 24),.own (.slice x0 u0.length s0) 24 4 u0.length K0,.blk bs2 (.cells aZ 24),.own (.slice none jZ.length 0) 24 4 jZ.length ([])] W1 W∧ptyj17 K Z q4 z0 v0 q0 k0 j0 b0 n0 o0 t0 u0) ?_ ?_
 ·
  refine Ok.sr (Ok.b 1 [0,2,3] [(25,pv bxp 0)] ?_)
  obtain ⟨hp11,hF⟩:=hF
  refine Ok.o (OpOk.ch (pis_c (z0,v0,q0,k0) BH hRybxp_0j5 hp11) fun g12 _ _ X1 hV12=>?_)
  obtain ⟨a12_0,c12_0,rfl,S1,rfl⟩:=hV12
  replace f0:=f0.mono X1.1
  refine Ok.nt (Ok.cw hF (fun x3 hF=>?_) (fun x3 hF=>?_))
  ·refine Ok.sr (Ok.rn 4 [.e 1] [0,2,3] [(29,iv (w6 ((ptyV0 q4)+2))),(30,pv bs3 1)] ?_)
   refine Ok.o (OpOk.w1 1 ?_)
   refine Ok.nt (Ok.mx (pT ((hx5.trans J2).trans X1) id) [0,1,2] [3,4] [0,1,1,1,1] [0,0,1,1] [(0,true),(1,true),(2,true),(3,false),(4,false),(5,false),(6,true),(7,false)] ?_)
   refine OkME.bat 1 [0,2,3] [(31,pv bs3 3)] ?_
   refine OkME.hd (OpQ.s (v:=.slice c0 y0.length d0) (Yields.l 0 rfl rfl underlying22 rfl kr) rfl rfl ?_)
   refine OkME.bat 1 [2,3] [(32,.slice c0 y0.length d0),(33,pv bxp 0)] ?_
   obtain ⟨hp14,hF,hz15⟩:=hF
   refine OkME.tail rfl rfl (OpOk.cp (ih_pbl _ (pisS (z0,v0,q0,k0) BH).2 S1 hp14) (pH (Gext.r w0 g12) hz15) fun g16 _ _ G0 hV16=>?_)
   obtain ⟨q15,hq15,B1,C1,a16_2,c16_2,rfl,hR16_0,hR16_2,rfl⟩:=hV16
   replace hF:=hF _ hq15
   replace f0:=f0.mono G0.1
   refine OkME.l1 G0.1 ?_
   have m3:RepL g16 yJ ((lJ q15.1 B1 C1):List Value) ([q15.1]:List JN):=(RepL.consN (c:=(lJ q15.1 B1 C1)) (Rep.tree.2 ⟨[iv q15.1.lab.1,iv q15.1.lab.2.1,sv q15.1.lab.2.2],[.slice B1 q15.1.kids.length C1],rfl,⟨[iv q15.1.lab.1],[iv q15.1.lab.2.1,sv q15.1.lab.2.2],rfl,rfl,⟨[iv q15.1.lab.2.1],[sv q15.1.lab.2.2],rfl,rfl,rfl⟩⟩,hR16_0⟩) rfl)
   refine OkME.tail rfl rfl (OpOk.li m3 fun b17=>?_)
   refine OkME.l1 G0.1 ?_
   obtain ⟨hb18,hF⟩:=hF
   refine OkME.tail rfl rfl (OpOk.append' (e:=yJ) 56 2513169434916 3 0 rfl rfl rfl rfl f0 m3 underlying22 kr kr kr hb18 rfl fun a18 c18 xs18 hL18=>?_)
   refine OkME.l1 G0.1 (OkME.bat 1 [2,3] [(36,.slice a18 (y0++([q15.1]:List JN)).length c18),(37,pv bs3 3)] ?_)
   refine OkME.tail rfl rfl (OpOk.w1 2 ?_)
   refine OkME.l1 G0.1 (OkME.nil (Ok.t (Ok.he (E':=.blk bs3 (.cells (aM 29 (ptyV1 q4 z0 v0 q0 k0) j0 a18 (y0++([q15.1]:List JN)) c18) 24)) 2 (congrArg (fun l:List Value=>Ent.blk bs3 (.cells ⟨l⟩ 24)) (lcons (rfl) (lcons (congrArg (Value.int .i64) ((if_t x3).symm)) (lcons (rfl) (lcons (rfl) rfl))))) ?_)))
   exact fun _ _ u v=>⟨g16,X1.trans G0,a16_2,c16_2,q15.2.1,q15.2.2.1,q15.2.2.2.1,q15.2.2.2.2,a18,c18,(y0++([q15.1]:List JN)),xs18,hR16_2,hL18,fA u v hF⟩
  refine Ok.k (Ok.t (Ok.he (E':=.blk bs3 (.cells (aM 29 (ptyV1 q4 z0 v0 q0 k0) j0 c0 y0 d0) 24)) 1 (congrArg (fun l:List Value=>Ent.blk bs3 (.cells ⟨l⟩ 24)) (lcons (rfl) (lcons (congrArg (Value.int .i64) ((if_f x3).symm)) (lcons (rfl) (lcons (rfl) rfl))))) ?_))
  exact fun _ _ u v=>⟨g12,X1,a12_0,c12_0,(pisS (z0,v0,q0,k0) BH).2.1,(pisS (z0,v0,q0,k0) BH).2.2.1,(pisS (z0,v0,q0,k0) BH).2.2.2.1,(pisS (z0,v0,q0,k0) BH).2.2.2.2,c0,d0,y0,V0,S1,f0,fA u v hF⟩
 clear hF
 rintro _ _ ⟨W1,D1,a0,i0,b0,n0,o0,t0,x0,s0,u0,K0,W0,hLyown6_0j17,q⟩
 refine jn (fun hF=>?_) _ _ q
 refine Ok.q (Ok.sr (Ok.rn 3 [.e 1] [2,3] [(40,.bool (ptyV1 q4 z0 v0 q0 k0==0))] ?_))
 refine Ok.nt (Ok.cw hF (fun hc9 hF=>?_) (fun hc9 hF=>?_))
 ·refine Ok.r (Ok.b 2 [2,3] [(42,.iface 44 (.agg #[]))] ?_)
  exact Ok.o (OpOk.throw rfl rfl (PanTo.up ((hx5.trans J2).trans D1) (fun z a W hd hW=>panTop z a W hd hW) hF))
 refine Ok.k (Ok.t (Ok.sr (Ok.o (OpOk.s (v:=.agg (aM 29 (ptyV1 q4 z0 v0 q0 k0) j0 x0 u0 s0)) (Yields.loadAgg 1 4 (aM 29 (ptyV1 q4 z0 v0 q0 k0) j0 x0 u0 s0) rfl rfl underlying24 rfl kr kr kr) rfl rfl (Ok.o (OpOk.w 3 ?_))))))
 refine Ok.nt (Ok.ret (Ok.frz 2 rfl hLyown6_0j17 fun g10 s3 hRf10=>?_))
 replace W0:=W0.mono s3.1
 exact Ok.fine (.inl rfl) (Ok.p (vs:=[.agg (aM 29 (ptyV1 q4 z0 v0 q0 k0) j0 x0 u0 s0)]) [0] [.blk bxp (.cells #[.slice a0 b0.length i0,iv n0,.bool o0,.bool t0] 48)] dc rfl (.inl rfl) rfl (.cons (.cellAgg 2 4 (aM 29 (ptyV1 q4 z0 v0 q0 k0) j0 x0 u0 s0) rfl rfl underlying24 rfl kr kr kr) .nil) (((hx5.trans J2).trans D1).trans s3) ⟨(Tree.mk (29,ptyV1 q4 z0 v0 q0 k0,j0) u0),(b0,n0,o0,t0),x0,s0,a0,i0,rfl,hRf10,W0,rfl,hF⟩)
def pstV0 (xp:PS):Bool×PS :=
 (pisS (pisS xp ([108,101,116]:Bs)).2 ([102,110]:Bs))
def pstV1 (xp:PS):Bool×PS :=
 (pisS (pisS (pstV0 xp).2 ([105,102]:Bs)).2 ([119,104,105,108,101]:Bs))
def pstV2 (xp:PS):Bool×PS :=
 (pisS (pisS (pstV1 xp).2 ([102,111,114]:Bs)).2 ([114,101,116,117,114,110]:Bs))
def pstV3 (xp:PS):Bool×PS :=
 (pisS (pisS (pstV2 xp).2 ([98,114,101,97,107]:Bs)).2 ([99,111,110,116,105,110,117,101]:Bs))
def pstV4 (xp:PS):Bool×PS :=
 (pisS (pstV3 xp).2 ([116,104,114,111,119]:Bs))
def pstV5 (xp:PS):Bool :=
 (((ppkS (pisS (pstV4 xp).2 ([116,114,121]:Bs)).2).1==4)&&((ppkS (pisS (pstV4 xp).2 ([116,114,121]:Bs)).2).2.2.2.1==([123]:Bs)))
def pstj89 (N:Nat) (xp:PS) (K:JN→PS→Prop) (Z:Prop):Prop :=
 (pstV5 xp=true→blP N (pisS (pstV4 xp).2 ([116,114,121]:Bs)).2∧(∀ Y0:JN×PS,(blN N (pisS (pstV4 xp).2 ([116,114,121]:Bs)).2)=some Y0→K Y0.1 Y0.2)∧((blN N (pisS (pstV4 xp).2 ([116,114,121]:Bs)).2)=none→Z))∧(pstV5 xp=false→exP N (pisS (pstV4 xp).2 ([116,114,121]:Bs)).2∧(∀ g0:JN×PS,(exN N (pisS (pstV4 xp).2 ([116,114,121]:Bs)).2)=some g0→penP g0.2 (Tree.mk (31,0,([]:Bs)) ([g0.1]:List JN))∧(∀ U0:JN×PS,(penS g0.2 (Tree.mk (31,0,([]:Bs)) ([g0.1]:List JN)))=some U0→K U0.1 U0.2)∧((penS g0.2 (Tree.mk (31,0,([]:Bs)) ([g0.1]:List JN)))=none→Z))∧((exN N (pisS (pstV4 xp).2 ([116,114,121]:Bs)).2)=none→Z))
def pstF (N:Nat) (xp:PS) (K:JN→PS→Prop) (Z:Prop):Prop :=
 psPs xp ([108,101,116]:Bs)∧((pisS xp ([108,101,116]:Bs)).1=true→psP (pisS xp ([108,101,116]:Bs)).2∧(∀ q6:Bs×PS,(pnmS (pisS xp ([108,101,116]:Bs)).2)=some q6→psPs q6.2 ([61]:Bs)∧(∀ q10:PS,pmuS q6.2 ([61]:Bs)=some q10→exP N q10∧(∀ q13:JN×PS,exN N q10=some q13→penP q13.2 (Tree.mk (20,0,q6.1) ([q13.1]:List JN))∧(∀ q18:JN×PS,(penS q13.2 (Tree.mk (20,0,q6.1) ([q13.1]:List JN)))=some q18→K q18.1 q18.2)∧((penS q13.2 (Tree.mk (20,0,q6.1) ([q13.1]:List JN)))=none→Z))∧(exN N q10=none→Z))∧(pmuS q6.2 ([61]:Bs)=none→Z))∧((pnmS (pisS xp ([108,101,116]:Bs)).2)=none→Z))∧((pisS xp ([108,101,116]:Bs)).1=false→psPs (pisS xp ([108,101,116]:Bs)).2 ([102,110]:Bs)∧((pstV0 xp).1=true→psP (pstV0 xp).2∧(∀ q24:Bs×PS,pnmS (pstV0 xp).2=some q24→fnP N q24.2 q24.1∧(∀ q27:JN×PS,fnN N q24.2 q24.1=some q27→K (Tree.mk (21,0,([]:Bs)) ([q27.1]:List JN)) q27.2)∧(fnN N q24.2 q24.1=none→Z))∧(pnmS (pstV0 xp).2=none→Z))∧((pstV0 xp).1=false→psPs (pstV0 xp).2 ([105,102]:Bs)∧((pisS (pstV0 xp).2 ([105,102]:Bs)).1=true→ifP N (pisS (pstV0 xp).2 ([105,102]:Bs)).2∧(∀ q35:JN×PS,(ifN N (pisS (pstV0 xp).2 ([105,102]:Bs)).2)=some q35→K q35.1 q35.2)∧((ifN N (pisS (pstV0 xp).2 ([105,102]:Bs)).2)=none→Z))∧((pisS (pstV0 xp).2 ([105,102]:Bs)).1=false→psPs (pisS (pstV0 xp).2 ([105,102]:Bs)).2 ([119,104,105,108,101]:Bs)∧((pstV1 xp).1=true→inP N (pstV1 xp).2∧(∀ q41:JN×PS,inN N (pstV1 xp).2=some q41→boP N q41.2 false∧(∀ q44:JN×PS,boN N q41.2 false=some q44→K (Tree.mk (23,0,([]:Bs)) ([q41.1,q44.1]:List JN)) q44.2)∧(boN N q41.2 false=none→Z))∧(inN N (pstV1 xp).2=none→Z))∧((pstV1 xp).1=false→psPs (pstV1 xp).2 ([102,111,114]:Bs)∧((pisS (pstV1 xp).2 ([102,111,114]:Bs)).1=true→foP N (pisS (pstV1 xp).2 ([102,111,114]:Bs)).2∧(∀ q52:JN×PS,(foN N (pisS (pstV1 xp).2 ([102,111,114]:Bs)).2)=some q52→K q52.1 q52.2)∧((foN N (pisS (pstV1 xp).2 ([102,111,114]:Bs)).2)=none→Z))∧((pisS (pstV1 xp).2 ([102,111,114]:Bs)).1=false→psPs (pisS (pstV1 xp).2 ([102,111,114]:Bs)).2 ([114,101,116,117,114,110]:Bs)∧((pstV2 xp).1=true→(∀ q57:Unit,pwiS (pstV2 xp).2.2.2.1=some q57→psPs (pstV2 xp).2 ([59]:Bs)∧((pisS (pstV2 xp).2 ([59]:Bs)).1=true→K (Tree.mk (25,0,([]:Bs)) ([])) (pisS (pstV2 xp).2 ([59]:Bs)).2)∧((pisS (pstV2 xp).2 ([59]:Bs)).1=false→exP N (pisS (pstV2 xp).2 ([59]:Bs)).2∧(∀ q63:JN×PS,(exN N (pisS (pstV2 xp).2 ([59]:Bs)).2)=some q63→penP q63.2 (Tree.mk (25,0,([]:Bs)) ([q63.1]:List JN))∧(∀ q68:JN×PS,(penS q63.2 (Tree.mk (25,0,([]:Bs)) ([q63.1]:List JN)))=some q68→K q68.1 q68.2)∧((penS q63.2 (Tree.mk (25,0,([]:Bs)) ([q63.1]:List JN)))=none→Z))∧((exN N (pisS (pstV2 xp).2 ([59]:Bs)).2)=none→Z)))∧(pwiS (pstV2 xp).2.2.2.1=none→Z))∧((pstV2 xp).1=false→psPs (pstV2 xp).2 ([98,114,101,97,107]:Bs)∧((pisS (pstV2 xp).2 ([98,114,101,97,107]:Bs)).1=true→(∀ q73:Unit,(pwiS (pisS (pstV2 xp).2 ([98,114,101,97,107]:Bs)).2.2.2.2)=some q73→penP (pisS (pstV2 xp).2 ([98,114,101,97,107]:Bs)).2 (Tree.mk (26,0,([]:Bs)) ([]))∧(∀ q76:JN×PS,(penS (pisS (pstV2 xp).2 ([98,114,101,97,107]:Bs)).2 (Tree.mk (26,0,([]:Bs)) ([])))=some q76→K q76.1 q76.2)∧((penS (pisS (pstV2 xp).2 ([98,114,101,97,107]:Bs)).2 (Tree.mk (26,0,([]:Bs)) ([])))=none→Z))∧((pwiS (pisS (pstV2 xp).2 ([98,114,101,97,107]:Bs)).2.2.2.2)=none→Z))∧((pisS (pstV2 xp).2 ([98,114,101,97,107]:Bs)).1=false→psPs (pisS (pstV2 xp).2 ([98,114,101,97,107]:Bs)).2 ([99,111,110,116,105,110,117,101]:Bs)∧((pstV3 xp).1=true→(∀ q81:Unit,pwiS (pstV3 xp).2.2.2.2=some q81→penP (pstV3 xp).2 (Tree.mk (27,0,([]:Bs)) ([]))∧(∀ q84:JN×PS,(penS (pstV3 xp).2 (Tree.mk (27,0,([]:Bs)) ([])))=some q84→K q84.1 q84.2)∧((penS (pstV3 xp).2 (Tree.mk (27,0,([]:Bs)) ([])))=none→Z))∧(pwiS (pstV3 xp).2.2.2.2=none→Z))∧((pstV3 xp).1=false→psPs (pstV3 xp).2 ([116,104,114,111,119]:Bs)∧((pstV4 xp).1=true→exP N (pstV4 xp).2∧(∀ q90:JN×PS,exN N (pstV4 xp).2=some q90→penP q90.2 (Tree.mk (28,0,([]:Bs)) ([q90.1]:List JN))∧(∀ q95:JN×PS,(penS q90.2 (Tree.mk (28,0,([]:Bs)) ([q90.1]:List JN)))=some q95→K q95.1 q95.2)∧((penS q90.2 (Tree.mk (28,0,([]:Bs)) ([q90.1]:List JN)))=none→Z))∧(exN N (pstV4 xp).2=none→Z))∧((pstV4 xp).1=false→psPs (pstV4 xp).2 ([116,114,121]:Bs)∧((pisS (pstV4 xp).2 ([116,114,121]:Bs)).1=true→tyP N (pisS (pstV4 xp).2 ([116,114,121]:Bs)).2∧(∀ J0:JN×PS,(tyN N (pisS (pstV4 xp).2 ([116,114,121]:Bs)).2)=some J0→K J0.1 J0.2)∧((tyN N (pisS (pstV4 xp).2 ([116,114,121]:Bs)).2)=none→Z))∧((pisS (pstV4 xp).2 ([116,114,121]:Bs)).1=false→psP (pisS (pstV4 xp).2 ([116,114,121]:Bs)).2∧(((ppkS (pisS (pstV4 xp).2 ([116,114,121]:Bs)).2).1==4)=true→pstj89 N xp K Z)∧(((ppkS (pisS (pstV4 xp).2 ([116,114,121]:Bs)).2).1==4)=false→pstj89 N xp K Z)))))))))))
theorem pst_ok {g:Ghost} (N:Nat) (ih_pst:pst_C N) (ih_pex:pex_C N) (ih_pco:pco_C N) (ih_pbi:pbi_C N) (ih_pun:pun_C N) (ih_pfi:pfi_C N) (ih_pin:pin_C N) (ih_pbl:pbl_C N) (ih_pbo:pbo_C N) (ih_pfn:pfn_C N) (ih_pif:pif_C N) (ih_pfo:pfo_C N) (ih_pty:pty_C N) {bxp:Nat} {A0:Option Addr} {I0:Nat} (xp:PS) (y1:Rep g yTs [.slice A0 xp.1.length I0] xp.1) (Z:Prop) (K:JN→PS→Prop)
  (hF:pstF N xp K Z):CallsP prog 16 #[pv bxp 0] g [.blk bxp (.cells (aP xp A0 I0) 48)] (fun g' H' v=>∃ (r0:JN),∃ (fxp:PS),∃ (z1:Option Addr) (v1:Nat),∃ (E0:Option Addr) (F0:Nat),v=.agg (aJ r0 z1 v1)∧Rep g' yJs [.slice z1 r0.kids.length v1] r0.kids∧Rep g' yTs [.slice E0 fxp.1.length F0] fxp.1∧H'=[.blk bxp (.cells (aP fxp E0 F0) 48)]∧K r0 fxp) Z (.iface 44 (.agg #[])):=by
 refine CallsP.enter 119 [(0,pv bxp 0)] func16 rfl kr kr kr fun w0=>?_
 refine Ok.sr (Ok.o (OpOk.aw aY fun bs2=>?_))
 refine Ok.nt (Ok.q (Ok.block (Ok.sr (Ok.B 1 [(0,pv bxp 0),(2,pv bs2 0),(6,pv bxp 0)] kr ?_))))
 obtain ⟨hp2,hF⟩:=hF
 refine Ok.en [1,0] ?_
 refine Ok.o (OpOk.ch (pis_c xp BC y1 hp2) fun g3 _ _ hx3 hV3=>?_)
 obtain ⟨a3_0,c3_0,rfl,X2,rfl⟩:=hV3
 refine Ok.b 1 [0,2] [(5,.bool (pisS xp BC).1)] ?_
 refine Ok.nt (Ok.cw hF (fun hc4 hF=>?_) (fun hc4 hF=>?_))
 ·refine Ok.sr (Ok.b 1 [0,2] [(8,pv bxp 0)] ?_)
  obtain ⟨hp5,hF,hz6⟩:=hF
  refine Ok.o (OpOk.cp (pnm_c (pisS xp BC).2 X2 hp5) (pT hx3 hz6) fun g7 _ _ hx7 hV7=>?_)
  obtain ⟨q6,hq6,a7_0,c7_0,rfl,hR7_0,rfl⟩:=hV7
  replace hF:=hF _ hq6
  refine Ok.b 1 [0,2] [(10,.agg #[iv 20,iv 0,sv q6.1,.slice none 0 0])] ?_
  refine Ok.o (OpOk.aw aY fun bs3=>?_)
  refine Ok.o (OpOk.w 0 ?_)
  refine Ok.nt (Ok.sr (Ok.b 1 [0,2] [(3,pv bs3 0),(11,pv bxp 0)] ?_))
  obtain ⟨hp9,hF,hz10⟩:=hF
  refine Ok.en [1,0,2] ?_
  refine Ok.o (OpOk.cp (pmu_c q6.2 Bp hR7_0 hp9) (pT (hx3.trans hx7) hz10) fun g11 _ _ b3 hV11=>?_)
  obtain ⟨q10,hq10,a11_0,c11_0,rfl,hR11_0,rfl⟩:=hV11
  replace hF:=hF _ hq10
  refine Ok.nt (Ok.sr (Ok.b 1 [0,2,3] [(13,pv bxp 0)] ?_))
  obtain ⟨hp12,hF,hz13⟩:=hF
  refine Ok.o (OpOk.cp (ih_pex _ q10 hR11_0 hp12) (pT ((hx3.trans hx7).trans b3) hz13) fun g14 _ _ n3 hV14=>?_)
  obtain ⟨q13,hq13,E1,F1,a14_2,c14_2,rfl,hR14_0,j1,rfl⟩:=hV14
  replace hF:=hF _ hq13
  have o3:RepL g14 yJ ((lJ q13.1 E1 F1):List Value) ([q13.1]:List JN):=(RepL.consN (c:=(lJ q13.1 E1 F1)) (Rep.tree.2 ⟨[iv q13.1.lab.1,iv q13.1.lab.2.1,sv q13.1.lab.2.2],[.slice E1 q13.1.kids.length F1],rfl,⟨[iv q13.1.lab.1],[iv q13.1.lab.2.1,sv q13.1.lab.2.2],rfl,rfl,⟨[iv q13.1.lab.2.1],[sv q13.1.lab.2.2],rfl,rfl,rfl⟩⟩,hR14_0⟩) rfl)
  refine Ok.o (OpOk.li o3 fun b15=>?_)
  refine Ok.b 1 [0,2,3] [(15,.slice (some ⟨b15,0,none⟩) ([q13.1]:List JN).length 1),(16,pv bs3 3)] ?_
  refine Ok.o (OpOk.w1 2 ?_)
  refine Ok.nt (Ok.sr (Ok.b 1 [2,3] [(17,pv bxp 0)] ?_))
  refine Ok.o (OpOk.s (v:=.agg (aM 20 0 q6.1 (some ⟨b15,0,none⟩) ([q13.1]:List JN) 1)) (Yields.loadAgg 2 4 (aM 20 0 q6.1 (some ⟨b15,0,none⟩) ([q13.1]:List JN) 1) rfl rfl underlying24 rfl kr kr kr) rfl rfl (Ok.frz 0 rfl o3 fun g16 G0 G1=>?_))
  replace j1:=j1.mono G0.1
  obtain ⟨hp17,hF,hz18⟩:=hF
  refine Ok.o (OpOk.cp (pen_c q13.2 (Tree.mk (20,0,q6.1) ([q13.1]:List JN)) j1 G1 hp17) (pT ((((hx3.trans hx7).trans b3).trans n3).trans G0) hz18) fun g19 _ _ p3 hV19=>?_)
  obtain ⟨q18,hq18,H1,M1,S2,B2,rfl,hR19_0,hR19_2,rfl⟩:=hV19
  replace hF:=hF _ hq18
  refine Ok.o (OpOk.w 2 ?_)
  refine Ok.nt (Ok.ret (Ok.kr (Ok.tr ?_)))
  exact Ok.fine (.inl rfl) (Ok.p (vs:=[.agg (aJ q18.1 H1 M1)]) [0] [.blk bxp (.cells (aP q18.2 S2 B2) 48)] dc rfl (.inl rfl) rfl (.cons (.cellAgg 2 4 (aJ q18.1 H1 M1) rfl rfl underlying24 rfl kr kr kr) .nil) (((((hx3.trans hx7).trans b3).trans n3).trans G0).trans p3) ⟨q18.1,q18.2,H1,M1,S2,B2,rfl,hR19_0,hR19_2,rfl,hF⟩)
 refine Ok.sr (Ok.b 1 [0,2] [(21,pv bxp 0)] ?_)
 obtain ⟨hp20,hF⟩:=hF
 refine Ok.o (OpOk.ch (pis_c (pisS xp BC).2 Bh X2 hp20) fun g21 _ _ e0 hV21=>?_)
 obtain ⟨a21_0,c21_0,rfl,N1,rfl⟩:=hV21
 refine Ok.b 1 [0,2] [(20,.bool (pstV0 xp).1)] ?_
 refine Ok.nt (Ok.cw hF (fun hc22 hF=>?_) (fun hc22 hF=>?_))
 ·refine Ok.sr (Ok.b 2 [2] [(23,pv bxp 0),(24,pv bxp 0)] ?_)
  obtain ⟨hp23,hF,hz24⟩:=hF
  refine Ok.o (OpOk.cp (pnm_c (pstV0 xp).2 N1 hp23) (pT (hx3.trans e0) hz24) fun g25 _ _ r3 hV25=>?_)
  obtain ⟨q24,hq24,a25_0,c25_0,rfl,hR25_0,rfl⟩:=hV25
  replace hF:=hF _ hq24
  obtain ⟨hp26,hF,hz27⟩:=hF
  refine Ok.o (OpOk.cp (ih_pfn _ q24.2 q24.1 hR25_0 hp26) (pT ((hx3.trans e0).trans r3) hz27) fun g28 _ _ hx28 hV28=>?_)
  obtain ⟨q27,hq27,O1,P1,C2,D2,rfl,hR28_0,x1,rfl⟩:=hV28
  replace hF:=hF _ hq27
  have t3:RepL g28 yJ ((lJ q27.1 O1 P1):List Value) ([q27.1]:List JN):=(RepL.consN (c:=(lJ q27.1 O1 P1)) (Rep.tree.2 ⟨[iv q27.1.lab.1,iv q27.1.lab.2.1,sv q27.1.lab.2.2],[.slice O1 q27.1.kids.length P1],rfl,⟨[iv q27.1.lab.1],[iv q27.1.lab.2.1,sv q27.1.lab.2.2],rfl,rfl,⟨[iv q27.1.lab.2.1],[sv q27.1.lab.2.2],rfl,rfl,rfl⟩⟩,hR28_0⟩) rfl)
  refine Ok.o (OpOk.li t3 fun b29=>?_)
  refine Ok.b 1 [2] [(28,.agg (aM 21 0 Bz (some ⟨b29,0,none⟩) ([q27.1]:List JN) 1))] ?_
  refine Ok.o (OpOk.w 2 ?_)
  refine Ok.nt (Ok.ret (Ok.kr (Ok.tr (Ok.frz 0 rfl t3 fun g30 q1 hRf30=>?_))))
  replace x1:=x1.mono q1.1
  exact Ok.fine (.inl rfl) (Ok.p (vs:=[.agg (aM 21 0 Bz (some ⟨b29,0,none⟩) ([q27.1]:List JN) 1)]) [0] [.blk bxp (.cells (aP q27.2 C2 D2) 48)] dc rfl (.inl rfl) rfl (.cons (.cellAgg 1 4 (aM 21 0 Bz (some ⟨b29,0,none⟩) ([q27.1]:List JN) 1) rfl rfl underlying24 rfl kr kr kr) .nil) ((((hx3.trans e0).trans r3).trans hx28).trans q1) ⟨(Tree.mk (21,0,Bz) ([q27.1]:List JN)),q27.2,(some ⟨b29,0,none⟩),1,C2,D2,rfl,hRf30,x1,rfl,hF⟩)
 refine Ok.sr (Ok.b 1 [0,2] [(30,pv bxp 0)] ?_)
 obtain ⟨w3,hF⟩:=hF
 refine Ok.o (OpOk.ch (pis_c (pstV0 xp).2 BB N1 w3) fun g32 _ _ m0 hV32=>?_)
 obtain ⟨a32_0,c32_0,rfl,R1,rfl⟩:=hV32
 refine Ok.b 1 [0,2] [(29,.bool (pisS (pstV0 xp).2 BB).1)] ?_
 refine Ok.nt (Ok.cw hF (fun hc33 hF=>?_) (fun hc33 hF=>?_))
 ·refine Ok.sr (Ok.b 1 [2] [(32,pv bxp 0)] ?_)
  obtain ⟨hp34,hF,hz35⟩:=hF
  refine Ok.o (OpOk.cp (ih_pif _ (pisS (pstV0 xp).2 BB).2 R1 hp34) (pT ((hx3.trans e0).trans m0) hz35) fun g36 _ _ hx36 hV36=>?_)
  obtain ⟨q35,hq35,T1,L1,E2,F2,rfl,hR36_0,hR36_2,rfl⟩:=hV36
  replace hF:=hF _ hq35
  refine Ok.o (OpOk.w 1 ?_)
  refine Ok.nt (Ok.ret (Ok.kr (Ok.tr ?_)))
  exact Ok.fine (.inl rfl) (Ok.p (vs:=[.agg (aJ q35.1 T1 L1)]) [0] [.blk bxp (.cells (aP q35.2 E2 F2) 48)] dc rfl (.inl rfl) rfl (.cons (.cellAgg 1 4 (aJ q35.1 T1 L1) rfl rfl underlying24 rfl kr kr kr) .nil) (((hx3.trans e0).trans m0).trans hx36) ⟨q35.1,q35.2,T1,L1,E2,F2,rfl,hR36_0,hR36_2,rfl,hF⟩)
 refine Ok.sr (Ok.b 1 [0,2] [(35,pv bxp 0)] ?_)
 obtain ⟨hp37,hF⟩:=hF
 refine Ok.o (OpOk.ch (pis_c (pisS (pstV0 xp).2 BB).2 BO R1 hp37) fun g38 _ _ l0 hV38=>?_)
 obtain ⟨a38_0,c38_0,rfl,A1,rfl⟩:=hV38
 refine Ok.b 1 [0,2] [(34,.bool (pstV1 xp).1)] ?_
 refine Ok.nt (Ok.cw hF (fun hc39 hF=>?_) (fun hc39 hF=>?_))
 ·refine Ok.sr (Ok.b 1 [0,2] [(37,pv bxp 0)] ?_)
  obtain ⟨hp40,hF,hz41⟩:=hF
  refine Ok.o (OpOk.cp (ih_pin _ (pstV1 xp).2 A1 hp40) (pT (((hx3.trans e0).trans m0).trans l0) hz41) fun g42 _ _ l3 hV42=>?_)
  obtain ⟨q41,hq41,V1,Q1,a42_2,c42_2,rfl,b1,hR42_2,rfl⟩:=hV42
  replace hF:=hF _ hq41
  refine Ok.b 1 [2] [(38,.agg (aJ q41.1 V1 Q1)),(39,pv bxp 0)] ?_
  obtain ⟨hp43,hF,hz44⟩:=hF
  refine Ok.o (OpOk.cp (ih_pbo _ q41.2 false hR42_2 hp43) (pT ((((hx3.trans e0).trans m0).trans l0).trans l3) hz44) fun g45 _ _ a3 hV45=>?_)
  obtain ⟨q44,hq44,I1,z2,G2,H2,rfl,hR45_0,c1,rfl⟩:=hV45
  replace hF:=hF _ hq44
  replace b1:=b1.mono a3.1
  have i3:RepL g45 yJ ([iv q41.1.lab.1,iv q41.1.lab.2.1,sv q41.1.lab.2.2,.slice V1 q41.1.kids.length Q1,iv q44.1.lab.1,iv q44.1.lab.2.1,sv q44.1.lab.2.2,.slice I1 q44.1.kids.length z2]:List Value) ([q41.1,q44.1]:List JN):=(RepL.consN (c:=(lJ q41.1 V1 Q1)) (Rep.tree.2 ⟨[iv q41.1.lab.1,iv q41.1.lab.2.1,sv q41.1.lab.2.2],[.slice V1 q41.1.kids.length Q1],rfl,⟨[iv q41.1.lab.1],[iv q41.1.lab.2.1,sv q41.1.lab.2.2],rfl,rfl,⟨[iv q41.1.lab.2.1],[sv q41.1.lab.2.2],rfl,rfl,rfl⟩⟩,b1⟩) (RepL.consN (c:=(lJ q44.1 I1 z2)) (Rep.tree.2 ⟨[iv q44.1.lab.1,iv q44.1.lab.2.1,sv q44.1.lab.2.2],[.slice I1 q44.1.kids.length z2],rfl,⟨[iv q44.1.lab.1],[iv q44.1.lab.2.1,sv q44.1.lab.2.2],rfl,rfl,⟨[iv q44.1.lab.2.1],[sv q44.1.lab.2.2],rfl,rfl,rfl⟩⟩,hR45_0⟩) rfl))
  refine Ok.o (OpOk.li i3 fun b46=>?_)
  refine Ok.b 1 [2] [(42,.agg (aM 23 0 Bz (some ⟨b46,0,none⟩) ([q41.1,q44.1]:List JN) 2))] ?_
  refine Ok.o (OpOk.w 2 ?_)
  refine Ok.nt (Ok.ret (Ok.kr (Ok.tr (Ok.frz 0 rfl i3 fun g47 Z3 hRf47=>?_))))
  replace c1:=c1.mono Z3.1
  exact Ok.fine (.inl rfl) (Ok.p (vs:=[.agg (aM 23 0 Bz (some ⟨b46,0,none⟩) ([q41.1,q44.1]:List JN) 2)]) [0] [.blk bxp (.cells (aP q44.2 G2 H2) 48)] dc rfl (.inl rfl) rfl (.cons (.cellAgg 1 4 (aM 23 0 Bz (some ⟨b46,0,none⟩) ([q41.1,q44.1]:List JN) 2) rfl rfl underlying24 rfl kr kr kr) .nil) ((((((hx3.trans e0).trans m0).trans l0).trans l3).trans a3).trans Z3) ⟨(Tree.mk (23,0,Bz) ([q41.1,q44.1]:List JN)),q44.2,(some ⟨b46,0,none⟩),2,G2,H2,rfl,hRf47,c1,rfl,hF⟩)
 refine Ok.sr (Ok.b 1 [0,2] [(44,pv bxp 0)] ?_)
 obtain ⟨hp48,hF⟩:=hF
 refine Ok.o (OpOk.ch (pis_c (pstV1 xp).2 BK A1 hp48) fun g49 _ _ Z0 hV49=>?_)
 obtain ⟨a49_0,c49_0,rfl,v2,rfl⟩:=hV49
 refine Ok.b 1 [0,2] [(43,.bool (pisS (pstV1 xp).2 BK).1)] ?_
 refine Ok.nt (Ok.cw hF (fun hc50 hF=>?_) (fun hc50 hF=>?_))
 ·refine Ok.sr (Ok.b 1 [2] [(46,pv bxp 0)] ?_)
  obtain ⟨hp51,hF,hz52⟩:=hF
  refine Ok.o (OpOk.cp (ih_pfo _ (pisS (pstV1 xp).2 BK).2 v2 hp51) (pT ((((hx3.trans e0).trans m0).trans l0).trans Z0) hz52) fun g53 _ _ hx53 hV53=>?_)
  obtain ⟨q52,hq52,q2,k2,M2,N2,rfl,hR53_0,hR53_2,rfl⟩:=hV53
  replace hF:=hF _ hq52
  refine Ok.o (OpOk.w 1 ?_)
  refine Ok.nt (Ok.ret (Ok.kr (Ok.tr ?_)))
  exact Ok.fine (.inl rfl) (Ok.p (vs:=[.agg (aJ q52.1 q2 k2)]) [0] [.blk bxp (.cells (aP q52.2 M2 N2) 48)] dc rfl (.inl rfl) rfl (.cons (.cellAgg 1 4 (aJ q52.1 q2 k2) rfl rfl underlying24 rfl kr kr kr) .nil) (((((hx3.trans e0).trans m0).trans l0).trans Z0).trans hx53) ⟨q52.1,q52.2,q2,k2,M2,N2,rfl,hR53_0,hR53_2,rfl,hF⟩)
 refine Ok.sr (Ok.b 1 [0,2] [(49,pv bxp 0)] ?_)
 obtain ⟨hp54,hF⟩:=hF
 refine Ok.o (OpOk.ch (pis_c (pisS (pstV1 xp).2 BK).2 BP v2 hp54) fun g55 _ _ Q0 hV55=>?_)
 obtain ⟨a55_0,c55_0,rfl,P0,rfl⟩:=hV55
 refine Ok.b 1 [0,2] [(48,.bool (pstV2 xp).1)] ?_
 refine Ok.nt (Ok.cw hF (fun hc56 hF=>?_) (fun hc56 hF=>?_))
 ·refine Ok.sr (Ok.b 3 [0,2] [(53,pv bxp 2)] ?_)
  refine Ok.o (OpOk.s (v:=.bool (pstV2 xp).2.2.2.1) (Yields.l 0 rfl rfl underlying4 rfl kr) rfl rfl ?_)
  obtain ⟨hF,hz57⟩:=hF
  refine Ok.o (OpOk.cp (pwi_c (pstV2 xp).2.2.2.1) (pT (((((hx3.trans e0).trans m0).trans l0).trans Z0).trans Q0) hz57) fun g58 _ _ y2 hV58=>?_)
  obtain ⟨q57,hq57,rfl,rfl⟩:=hV58
  replace hF:=hF _ hq57
  replace P0:=P0.mono y2.1
  refine Ok.nt (Ok.q (Ok.sr (Ok.b 1 [0,2] [(56,pv bxp 0)] ?_)))
  obtain ⟨hp59,hF⟩:=hF
  refine Ok.o (OpOk.ch (pis_c (pstV2 xp).2 Br P0 hp59) fun g60 _ _ W2 hV60=>?_)
  obtain ⟨O2,P2,rfl,u2,rfl⟩:=hV60
  refine Ok.nt (Ok.cw hF (fun hc61 hF=>?_) (fun hc61 hF=>?_))
  ·refine Ok.sr (Ok.b 1 [2] [(58,.agg #[iv 25,iv 0,sv Bz,.slice none 0 0])] ?_)
   refine Ok.o (OpOk.w 1 ?_)
   refine Ok.nt (Ok.ret (Ok.tr (Ok.kr (Ok.tr ?_))))
   exact Ok.fine (.inl rfl) (Ok.p (vs:=[.agg #[iv 25,iv 0,sv Bz,.slice none 0 0]]) [0] [.blk bxp (.cells (aP (pisS (pstV2 xp).2 Br).2 O2 P2) 48)] dc rfl (.inl rfl) rfl (.cons (.cellAgg 1 4 #[iv 25,iv 0,sv Bz,.slice none 0 0] rfl rfl underlying24 rfl kr kr kr) .nil) (((((((hx3.trans e0).trans m0).trans l0).trans Z0).trans Q0).trans y2).trans W2) ⟨(Tree.mk (25,0,Bz) ([])),(pisS (pstV2 xp).2 Br).2,none,0,O2,P2,rfl,Rep.nil,u2,rfl,hF⟩)
  refine Ok.k (Ok.t (Ok.sr (Ok.b 2 [2] [(59,pv bxp 0),(60,pv bxp 0)] ?_)))
  obtain ⟨hp62,hF,hz63⟩:=hF
  refine Ok.o (OpOk.cp (ih_pex _ (pisS (pstV2 xp).2 Br).2 u2 hp62) (pT (((((((hx3.trans e0).trans m0).trans l0).trans Z0).trans Q0).trans y2).trans W2) hz63) fun g64 _ _ V3 hV64=>?_)
  obtain ⟨q63,hq63,j2,w2,a64_2,c64_2,rfl,hR64_0,d1,rfl⟩:=hV64
  replace hF:=hF _ hq63
  have Q3:RepL g64 yJ ((lJ q63.1 j2 w2):List Value) ([q63.1]:List JN):=(RepL.consN (c:=(lJ q63.1 j2 w2)) (Rep.tree.2 ⟨[iv q63.1.lab.1,iv q63.1.lab.2.1,sv q63.1.lab.2.2],[.slice j2 q63.1.kids.length w2],rfl,⟨[iv q63.1.lab.1],[iv q63.1.lab.2.1,sv q63.1.lab.2.2],rfl,rfl,⟨[iv q63.1.lab.2.1],[sv q63.1.lab.2.2],rfl,rfl,rfl⟩⟩,hR64_0⟩) rfl)
  refine Ok.o (OpOk.li Q3 fun b65=>?_)
  refine Ok.b 1 [2,59] [(63,.agg (aM 25 0 Bz (some ⟨b65,0,none⟩) ([q63.1]:List JN) 1))] ?_
  refine Ok.frz 0 rfl Q3 fun g66 c3 x2=>?_
  replace d1:=d1.mono c3.1
  obtain ⟨hp67,hF,hz68⟩:=hF
  refine Ok.o (OpOk.cp (pen_c q63.2 (Tree.mk (25,0,Bz) ([q63.1]:List JN)) d1 x2 hp67) (pT (((((((((hx3.trans e0).trans m0).trans l0).trans Z0).trans Q0).trans y2).trans W2).trans V3).trans c3) hz68) fun g69 _ _ K3 hV69=>?_)
  obtain ⟨q68,hq68,s2,b2,R2,T2,rfl,hR69_0,hR69_2,rfl⟩:=hV69
  replace hF:=hF _ hq68
  refine Ok.o (OpOk.w 1 ?_)
  refine Ok.nt (Ok.ret (Ok.kr (Ok.tr ?_)))
  exact Ok.fine (.inl rfl) (Ok.p (vs:=[.agg (aJ q68.1 s2 b2)]) [0] [.blk bxp (.cells (aP q68.2 R2 T2) 48)] dc rfl (.inl rfl) rfl (.cons (.cellAgg 1 4 (aJ q68.1 s2 b2) rfl rfl underlying24 rfl kr kr kr) .nil) ((((((((((hx3.trans e0).trans m0).trans l0).trans Z0).trans Q0).trans y2).trans W2).trans V3).trans c3).trans K3) ⟨q68.1,q68.2,s2,b2,R2,T2,rfl,hR69_0,hR69_2,rfl,hF⟩)
 refine Ok.sr (Ok.b 1 [0,2] [(66,pv bxp 0)] ?_)
 obtain ⟨hp70,hF⟩:=hF
 refine Ok.o (OpOk.ch (pis_c (pstV2 xp).2 BJ P0 hp70) fun g71 _ _ S0 hV71=>?_)
 obtain ⟨a71_0,c71_0,rfl,R0,rfl⟩:=hV71
 refine Ok.b 1 [0,2] [(65,.bool (pisS (pstV2 xp).2 BJ).1)] ?_
 refine Ok.nt (Ok.cw hF (fun hc72 hF=>?_) (fun hc72 hF=>?_))
 ·refine Ok.sr (Ok.b 3 [0,2] [(70,pv bxp 3)] ?_)
  refine Ok.o (OpOk.s (v:=.bool (pisS (pstV2 xp).2 BJ).2.2.2.2) (Yields.l 0 rfl rfl underlying4 rfl kr) rfl rfl ?_)
  obtain ⟨hF,hz73⟩:=hF
  refine Ok.o (OpOk.cp (pwi_c (pisS (pstV2 xp).2 BJ).2.2.2.2) (pT ((((((hx3.trans e0).trans m0).trans l0).trans Z0).trans Q0).trans S0) hz73) fun g74 _ _ d3 hV74=>?_)
  obtain ⟨q73,hq73,rfl,rfl⟩:=hV74
  replace hF:=hF _ hq73
  replace R0:=R0.mono d3.1
  refine Ok.nt (Ok.sr (Ok.b 2 [2] [(73,pv bxp 0),(74,.agg #[iv 26,iv 0,sv Bz,.slice none 0 0])] ?_))
  obtain ⟨hp75,hF,hz76⟩:=hF
  refine Ok.o (OpOk.cp (pen_c (pisS (pstV2 xp).2 BJ).2 (Tree.mk (26,0,Bz) ([])) R0 Rep.nil hp75) (pT (((((((hx3.trans e0).trans m0).trans l0).trans Z0).trans Q0).trans S0).trans d3) hz76) fun g77 _ _ hx77 hV77=>?_)
  obtain ⟨q76,hq76,c2,d2,L2,A2,rfl,hR77_0,hR77_2,rfl⟩:=hV77
  replace hF:=hF _ hq76
  refine Ok.o (OpOk.w 1 ?_)
  refine Ok.nt (Ok.ret (Ok.kr (Ok.tr ?_)))
  exact Ok.fine (.inl rfl) (Ok.p (vs:=[.agg (aJ q76.1 c2 d2)]) [0] [.blk bxp (.cells (aP q76.2 L2 A2) 48)] dc rfl (.inl rfl) rfl (.cons (.cellAgg 1 4 (aJ q76.1 c2 d2) rfl rfl underlying24 rfl kr kr kr) .nil) ((((((((hx3.trans e0).trans m0).trans l0).trans Z0).trans Q0).trans S0).trans d3).trans hx77) ⟨q76.1,q76.2,c2,d2,L2,A2,rfl,hR77_0,hR77_2,rfl,hF⟩)
 refine Ok.sr (Ok.b 1 [0,2] [(77,pv bxp 0)] ?_)
 obtain ⟨hp78,hF⟩:=hF
 refine Ok.o (OpOk.ch (pis_c (pisS (pstV2 xp).2 BJ).2 BL R0 hp78) fun g79 _ _ D0 hV79=>?_)
 obtain ⟨a79_0,c79_0,rfl,T0,rfl⟩:=hV79
 refine Ok.b 1 [0,2] [(76,.bool (pstV3 xp).1)] ?_
 refine Ok.nt (Ok.cw hF (fun hc80 hF=>?_) (fun hc80 hF=>?_))
 ·refine Ok.sr (Ok.b 3 [0,2] [(81,pv bxp 3)] ?_)
  refine Ok.o (OpOk.s (v:=.bool (pstV3 xp).2.2.2.2) (Yields.l 0 rfl rfl underlying4 rfl kr) rfl rfl ?_)
  obtain ⟨hF,hz81⟩:=hF
  refine Ok.o (OpOk.cp (pwi_c (pstV3 xp).2.2.2.2) (pT (((((((hx3.trans e0).trans m0).trans l0).trans Z0).trans Q0).trans S0).trans D0) hz81) fun g82 _ _ e3 hV82=>?_)
  obtain ⟨q81,hq81,rfl,rfl⟩:=hV82
  replace hF:=hF _ hq81
  replace T0:=T0.mono e3.1
  refine Ok.nt (Ok.sr (Ok.b 2 [2] [(84,pv bxp 0),(85,.agg #[iv 27,iv 0,sv Bz,.slice none 0 0])] ?_))
  obtain ⟨hp83,hF,hz84⟩:=hF
  refine Ok.o (OpOk.cp (pen_c (pstV3 xp).2 (Tree.mk (27,0,Bz) ([])) T0 Rep.nil hp83) (pT ((((((((hx3.trans e0).trans m0).trans l0).trans Z0).trans Q0).trans S0).trans D0).trans e3) hz84) fun g85 _ _ hx85 hV85=>?_)
  obtain ⟨q84,hq84,e2,f2,I2,z3,rfl,hR85_0,hR85_2,rfl⟩:=hV85
  replace hF:=hF _ hq84
  refine Ok.o (OpOk.w 1 ?_)
  refine Ok.nt (Ok.ret (Ok.kr (Ok.tr ?_)))
  exact Ok.fine (.inl rfl) (Ok.p (vs:=[.agg (aJ q84.1 e2 f2)]) [0] [.blk bxp (.cells (aP q84.2 I2 z3) 48)] dc rfl (.inl rfl) rfl (.cons (.cellAgg 1 4 (aJ q84.1 e2 f2) rfl rfl underlying24 rfl kr kr kr) .nil) (((((((((hx3.trans e0).trans m0).trans l0).trans Z0).trans Q0).trans S0).trans D0).trans e3).trans hx85) ⟨q84.1,q84.2,e2,f2,I2,z3,rfl,hR85_0,hR85_2,rfl,hF⟩)
 refine Ok.sr (Ok.b 1 [0,2] [(88,pv bxp 0)] ?_)
 obtain ⟨hp86,hF⟩:=hF
 refine Ok.o (OpOk.ch (pis_c (pstV3 xp).2 BQ T0 hp86) fun g87 _ _ H0 hV87=>?_)
 obtain ⟨a87_0,c87_0,rfl,g2,rfl⟩:=hV87
 refine Ok.b 1 [0,2] [(87,.bool (pstV4 xp).1)] ?_
 refine Ok.nt (Ok.cw hF (fun hc88 hF=>?_) (fun hc88 hF=>?_))
 ·refine Ok.sr (Ok.b 2 [2] [(90,pv bxp 0),(91,pv bxp 0)] ?_)
  obtain ⟨hp89,hF,hz90⟩:=hF
  refine Ok.o (OpOk.cp (ih_pex _ (pstV4 xp).2 g2 hp89) (pT ((((((((hx3.trans e0).trans m0).trans l0).trans Z0).trans Q0).trans S0).trans D0).trans H0) hz90) fun g91 _ _ Y3 hV91=>?_)
  obtain ⟨q90,hq90,h2,m2,a91_2,c91_2,rfl,hR91_0,e1,rfl⟩:=hV91
  replace hF:=hF _ hq90
  have U3:RepL g91 yJ ((lJ q90.1 h2 m2):List Value) ([q90.1]:List JN):=(RepL.consN (c:=(lJ q90.1 h2 m2)) (Rep.tree.2 ⟨[iv q90.1.lab.1,iv q90.1.lab.2.1,sv q90.1.lab.2.2],[.slice h2 q90.1.kids.length m2],rfl,⟨[iv q90.1.lab.1],[iv q90.1.lab.2.1,sv q90.1.lab.2.2],rfl,rfl,⟨[iv q90.1.lab.2.1],[sv q90.1.lab.2.2],rfl,rfl,rfl⟩⟩,hR91_0⟩) rfl)
  refine Ok.o (OpOk.li U3 fun b92=>?_)
  refine Ok.b 1 [2,90] [(94,.agg (aM 28 0 Bz (some ⟨b92,0,none⟩) ([q90.1]:List JN) 1))] ?_
  refine Ok.frz 0 rfl U3 fun g93 f3 n2=>?_
  replace e1:=e1.mono f3.1
  obtain ⟨hp94,hF,hz95⟩:=hF
  refine Ok.o (OpOk.cp (pen_c q90.2 (Tree.mk (28,0,Bz) ([q90.1]:List JN)) e1 n2 hp94) (pT ((((((((((hx3.trans e0).trans m0).trans l0).trans Z0).trans Q0).trans S0).trans D0).trans H0).trans Y3).trans f3) hz95) fun g96 _ _ J3 hV96=>?_)
  obtain ⟨q95,hq95,o2,p2,v3,q3,rfl,hR96_0,hR96_2,rfl⟩:=hV96
  replace hF:=hF _ hq95
  refine Ok.o (OpOk.w 1 ?_)
  refine Ok.nt (Ok.ret (Ok.kr (Ok.tr ?_)))
  exact Ok.fine (.inl rfl) (Ok.p (vs:=[.agg (aJ q95.1 o2 p2)]) [0] [.blk bxp (.cells (aP q95.2 v3 q3) 48)] dc rfl (.inl rfl) rfl (.cons (.cellAgg 1 4 (aJ q95.1 o2 p2) rfl rfl underlying24 rfl kr kr kr) .nil) (((((((((((hx3.trans e0).trans m0).trans l0).trans Z0).trans Q0).trans S0).trans D0).trans H0).trans Y3).trans f3).trans J3) ⟨q95.1,q95.2,o2,p2,v3,q3,rfl,hR96_0,hR96_2,rfl,hF⟩)
 refine Ok.sr (Ok.b 1 [0,2] [(97,pv bxp 0)] ?_)
 obtain ⟨hp97,hF⟩:=hF
 refine Ok.o (OpOk.ch (pis_c (pstV4 xp).2 BD g2 hp97) fun g98 _ _ f1 hV98=>?_)
 obtain ⟨a98_0,c98_0,rfl,X0,rfl⟩:=hV98
 refine Ok.b 1 [0,2] [(96,.bool (pisS (pstV4 xp).2 BD).1)] ?_
 refine Ok.nt (Ok.cw hF (fun hc99 hF=>?_) (fun hc99 hF=>?_))
 ·refine Ok.sr (Ok.b 1 [2] [(99,pv bxp 0)] ?_)
  obtain ⟨hp100,hF,hz101⟩:=hF
  refine Ok.o (OpOk.cp (ih_pty _ (pisS (pstV4 xp).2 BD).2 X0 hp100) (pT (((((((((hx3.trans e0).trans m0).trans l0).trans Z0).trans Q0).trans S0).trans D0).trans H0).trans f1) hz101) fun g102 _ _ hx102 hV102=>?_)
  obtain ⟨J0,hq101,g1,m1,r2,t2,rfl,hR102_0,hR102_2,rfl⟩:=hV102
  replace hF:=hF _ hq101
  refine Ok.o (OpOk.w 1 ?_)
  refine Ok.nt (Ok.ret (Ok.kr (Ok.tr ?_)))
  exact Ok.fine (.inl rfl) (Ok.p (vs:=[.agg (aJ J0.1 g1 m1)]) [0] [.blk bxp (.cells (aP J0.2 r2 t2) 48)] dc rfl (.inl rfl) rfl (.cons (.cellAgg 1 4 (aJ J0.1 g1 m1) rfl rfl underlying24 rfl kr kr kr) .nil) ((((((((((hx3.trans e0).trans m0).trans l0).trans Z0).trans Q0).trans S0).trans D0).trans H0).trans f1).trans hx102) ⟨J0.1,J0.2,g1,m1,r2,t2,rfl,hR102_0,hR102_2,rfl,hF⟩)
 refine Ok.k (Ok.kn (Ok.t (Ok.q (Ok.sr (Ok.b 1 [0,2] [(101,pv bxp 0)] ?_)))))
 obtain ⟨hp103,hF⟩:=hF
 refine Ok.o (OpOk.ch (ppk_c (pisS (pstV4 xp).2 BD).2 X0 hp103) fun l2 _ _ M0 hV104=>?_)
 obtain ⟨rfl,rfl⟩:=hV104
 replace X0:=X0.mono M0.1
 refine Ok.o (OpOk.aw #[iv 0,iv 0,iv 0,sv Bz,iv 0] fun bs4=>?_)
 refine Ok.o (OpOk.w 0 ?_)
 refine Ok.nt (Ok.cg l2 [(0,pv bxp 0),(2,pv bs2 0),(110,.bool (pstV5 xp))] [.blk bxp (.cells (aP (pisS (pstV4 xp).2 BD).2 a98_0 c98_0) 48),.blk bs2 (.cells aY 24)] (pstj89 N xp K Z) ?_ (fun gj89 N0 hF=>?_))
 ·
  refine Ok.r (Ok.rn 4 [.e 0] [0,2] [(4,pv bs4 0),(106,.bool ((ppkS (pisS (pstV4 xp).2 BD).2).1==4))] ?_)
  refine Ok.bw 106 hF (fun a2 hF=>?_) (fun a2 hF=>?_)
  ·refine Ok.rn 4 [.e 0] [0,2] [(110,.bool ((ppkS (pisS (pstV4 xp).2 BD).2).2.2.2.1==Bc))] ?_
   refine Ok.nt (Ok.rb 110 (pstV5 xp) (mand_t a2) ?_)
   exact fg hF
  refine Ok.b 4 [0,2] [(110,.bool false)] ?_
  refine Ok.nt (Ok.rb 110 (pstV5 xp) (mand_f a2) ?_)
  exact fg hF
 replace X0:=X0.mono N0.1
 refine Ok.cw hF (fun hc106 hF=>?_) (fun hc106 hF=>?_)
 ·refine Ok.sr (Ok.b 1 [2] [(111,pv bxp 0)] ?_)
  obtain ⟨hp107,hF,hz108⟩:=hF
  refine Ok.o (OpOk.cp (ih_pbl _ (pisS (pstV4 xp).2 BD).2 X0 hp107) (pT (((((((((((hx3.trans e0).trans m0).trans l0).trans Z0).trans Q0).trans S0).trans D0).trans H0).trans f1).trans M0).trans N0) hz108) fun g109 _ _ hx109 hV109=>?_)
  obtain ⟨Y0,hq108,n1,o1,i2,Z2,rfl,hR109_0,hR109_2,rfl⟩:=hV109
  replace hF:=hF _ hq108
  refine Ok.o (OpOk.w 1 ?_)
  refine Ok.nt (Ok.ret (Ok.tr ?_))
  exact Ok.fine (.inl rfl) (Ok.p (vs:=[.agg (aJ Y0.1 n1 o1)]) [0] [.blk bxp (.cells (aP Y0.2 i2 Z2) 48)] dc rfl (.inl rfl) rfl (.cons (.cellAgg 1 4 (aJ Y0.1 n1 o1) rfl rfl underlying24 rfl kr kr kr) .nil) ((((((((((((hx3.trans e0).trans m0).trans l0).trans Z0).trans Q0).trans S0).trans D0).trans H0).trans f1).trans M0).trans N0).trans hx109) ⟨Y0.1,Y0.2,n1,o1,i2,Z2,rfl,hR109_0,hR109_2,rfl,hF⟩)
 refine Ok.k (Ok.t (Ok.sr (Ok.b 2 [2] [(113,pv bxp 0),(114,pv bxp 0)] ?_)))
 obtain ⟨hp110,hF,hz111⟩:=hF
 refine Ok.o (OpOk.cp (ih_pex _ (pisS (pstV4 xp).2 BD).2 X0 hp110) (pT (((((((((((hx3.trans e0).trans m0).trans l0).trans Z0).trans Q0).trans S0).trans D0).trans H0).trans f1).trans M0).trans N0) hz111) fun g112 _ _ k3 hV112=>?_)
 obtain ⟨g0,hq111,r1,t1,a112_2,c112_2,rfl,hR112_0,L0,rfl⟩:=hV112
 replace hF:=hF _ hq111
 have y3:RepL g112 yJ ((lJ g0.1 r1 t1):List Value) ([g0.1]:List JN):=(RepL.consN (c:=(lJ g0.1 r1 t1)) (Rep.tree.2 ⟨[iv g0.1.lab.1,iv g0.1.lab.2.1,sv g0.1.lab.2.2],[.slice r1 g0.1.kids.length t1],rfl,⟨[iv g0.1.lab.1],[iv g0.1.lab.2.1,sv g0.1.lab.2.2],rfl,rfl,⟨[iv g0.1.lab.2.1],[sv g0.1.lab.2.2],rfl,rfl,rfl⟩⟩,hR112_0⟩) rfl)
 refine Ok.o (OpOk.li y3 fun b113=>?_)
 refine Ok.b 1 [2,113] [(117,.agg (aM 31 0 Bz (some ⟨b113,0,none⟩) ([g0.1]:List JN) 1))] ?_
 refine Ok.frz 0 rfl y3 fun g114 V2 a1=>?_
 replace L0:=L0.mono V2.1
 obtain ⟨hp115,hF,hz116⟩:=hF
 refine Ok.o (OpOk.cp (pen_c g0.2 (Tree.mk (31,0,Bz) ([g0.1]:List JN)) L0 a1 hp115) (pT (((((((((((((hx3.trans e0).trans m0).trans l0).trans Z0).trans Q0).trans S0).trans D0).trans H0).trans f1).trans M0).trans N0).trans k3).trans V2) hz116) fun g117 _ _ u3 hV117=>?_)
 obtain ⟨U0,hq116,i1,Z1,Q2,K2,rfl,hR117_0,hR117_2,rfl⟩:=hV117
 replace hF:=hF _ hq116
 refine Ok.o (OpOk.w 1 ?_)
 refine Ok.nt (Ok.ret ?_)
 exact Ok.fine (.inl rfl) (Ok.p (vs:=[.agg (aJ U0.1 i1 Z1)]) [0] [.blk bxp (.cells (aP U0.2 Q2 K2) 48)] dc rfl (.inl rfl) rfl (.cons (.cellAgg 1 4 (aJ U0.1 i1 Z1) rfl rfl underlying24 rfl kr kr kr) .nil) ((((((((((((((hx3.trans e0).trans m0).trans l0).trans Z0).trans Q0).trans S0).trans D0).trans H0).trans f1).trans M0).trans N0).trans k3).trans V2).trans u3) ⟨U0.1,U0.2,i1,Z1,Q2,K2,rfl,hR117_0,hR117_2,rfl,hF⟩)
end
end Go.Proofs.YtalnampdiegmoaaDoor.Ps
