/- The parser of scripts: walks. -/
import Derived.Test.YtalnampdiegmoaaDoorPsc
namespace Go.Proofs.YtalnampdiegmoaaDoor.Ps
open _root_.Go.Proofs.Tryd Go Go.Eng Go.RowKit
set_option linter.unusedVariables false
set_option linter.unusedSimpArgs false
set_option maxHeartbeats 4000000
set_option maxRecDepth 100000
noncomputable section
def pfiji48 (o0:Int) (C4x1:Int→(List JN)→List TK→Int→Bool→Bool→Prop) (X0:List TK) (D0:Int) (E0:Bool) (F0:Bool) (Q0:List JN):Prop :=
 C4x1 (w6 (o0+1)) Q0 X0 D0 E0 F0
def pfij13i69 (N:Nat) (Z:Prop) (o0:Int) (n0:List TK) (t0:Int) (l0:Bool) (a0:Bool) (z0:List JN) (C4x1:Int→(List JN)→List TK→Int→Bool→Bool→Prop):Prop :=
 (exP N (n0,t0,l0,a0)∧(∀ q47:JN×PS,exN N (n0,t0,l0,a0)=some q47→(z0++[nZ]).length≤2513169434916∧(0≤(z0.length:Int)∧Int.toNat (z0.length:Int)<(z0++[nZ]).length∧(pfiji48 o0 C4x1 q47.2.1 q47.2.2.1 q47.2.2.2.1 q47.2.2.2.2 ((z0++[nZ]).set (Int.toNat (z0.length:Int)) q47.1))∧(pfiji48 o0 C4x1 q47.2.1 q47.2.2.1 q47.2.2.2.1 q47.2.2.2.2 ((z0++[nZ]).set (Int.toNat (z0.length:Int)) q47.1)))∧(0≤(z0.length:Int)∧Int.toNat (z0.length:Int)<(z0++[nZ]).length∧pfiji48 o0 C4x1 q47.2.1 q47.2.2.1 q47.2.2.2.1 q47.2.2.2.2 ((z0++[nZ]).set (Int.toNat (z0.length:Int)) q47.1)))∧(exN N (n0,t0,l0,a0)=none→Z))∧(exP N (n0,t0,l0,a0)∧(∀ q60:JN×PS,exN N (n0,t0,l0,a0)=some q60→(z0++[nZ]).length≤2513169434916∧(0≤(z0.length:Int)∧Int.toNat (z0.length:Int)<(z0++[nZ]).length∧(pfiji48 o0 C4x1 q60.2.1 q60.2.2.1 q60.2.2.2.1 q60.2.2.2.2 ((z0++[nZ]).set (Int.toNat (z0.length:Int)) q60.1))∧(pfiji48 o0 C4x1 q60.2.1 q60.2.2.1 q60.2.2.2.1 q60.2.2.2.2 ((z0++[nZ]).set (Int.toNat (z0.length:Int)) q60.1)))∧(0≤(z0.length:Int)∧Int.toNat (z0.length:Int)<(z0++[nZ]).length∧pfiji48 o0 C4x1 q60.2.1 q60.2.2.1 q60.2.2.2.1 q60.2.2.2.2 ((z0++[nZ]).set (Int.toNat (z0.length:Int)) q60.1)))∧(exN N (n0,t0,l0,a0)=none→Z))
def pfil4x1b (N:Nat) (K:JN→PS→Prop) (Z:Prop) (o0:Int) (z0:List JN) (q0:List TK) (y0:Int) (u0:Bool) (j0:Bool) (C4x1:Int→(List JN)→List TK→Int→Bool→Bool→Prop):Prop :=
 psPs (q0,y0,u0,j0) ([93]:Bs)∧((!(pisS (q0,y0,u0,j0) ([93]:Bs)).1)=true→(decide (o0>0)=true→psPs (pisS (q0,y0,u0,j0) ([93]:Bs)).2 ([44]:Bs)∧(∀ q72:PS,(pmuS (pisS (q0,y0,u0,j0) ([93]:Bs)).2 ([44]:Bs))=some q72→pfij13i69 N Z o0 q72.1 q72.2.1 q72.2.2.1 q72.2.2.2 z0 C4x1)∧((pmuS (pisS (q0,y0,u0,j0) ([93]:Bs)).2 ([44]:Bs))=none→Z))∧(decide (o0>0)=false→pfij13i69 N Z o0 (pisS (q0,y0,u0,j0) ([93]:Bs)).2.1 (pisS (q0,y0,u0,j0) ([93]:Bs)).2.2.1 (pisS (q0,y0,u0,j0) ([93]:Bs)).2.2.2.1 (pisS (q0,y0,u0,j0) ([93]:Bs)).2.2.2.2 z0 C4x1))∧((!(pisS (q0,y0,u0,j0) ([93]:Bs)).1)=false→K (Tree.mk (6,0,([]:Bs)) z0) (pisS (q0,y0,u0,j0) ([93]:Bs)).2)
def pfil4x1 (N:Nat) (K:JN→PS→Prop) (Z:Prop):Nat→Int→(List JN)→List TK→Int→Bool→Bool→Prop
 | 0,_,_,_,_,_,_=>False
 | k+1,o0,z0,q0,y0,u0,j0=>pfil4x1b N K Z o0 z0 q0 y0 u0 j0 (pfil4x1 N K Z k)
def pfiji58 (Z0:Int) (C4x2:Int→(List JN)→List TK→Int→Bool→Bool→Prop) (S0:List TK) (G0:Int) (H0:Bool) (M0:Bool) (K0:List JN):Prop :=
 C4x2 (w6 (Z0+1)) K0 S0 G0 H0 M0
def pfij13i77 (N:Nat) (Z:Prop) (Z0:Int) (V0:List TK) (Y0:Int) (U0:Bool) (J0:Bool) (v0:List JN) (C4x2:Int→(List JN)→List TK→Int→Bool→Bool→Prop):Prop :=
 psP (V0,Y0,U0,J0)∧(∀ q85:Bs×PS,pnmS (V0,Y0,U0,J0)=some q85→psPs q85.2 ([58]:Bs)∧(∀ q91:PS,pmuS q85.2 ([58]:Bs)=some q91→exP N q91∧(∀ q94:JN×PS,exN N q91=some q94→(v0++[nZ]).length≤2513169434916∧(0≤(v0.length:Int)∧Int.toNat (v0.length:Int)<(v0++[nZ]).length∧(pfiji58 Z0 C4x2 q94.2.1 q94.2.2.1 q94.2.2.2.1 q94.2.2.2.2 ((v0++[nZ]).set (Int.toNat (v0.length:Int)) (Tree.mk (8,0,q85.1) ([q94.1]:List JN))))∧(pfiji58 Z0 C4x2 q94.2.1 q94.2.2.1 q94.2.2.2.1 q94.2.2.2.2 ((v0++[nZ]).set (Int.toNat (v0.length:Int)) (Tree.mk (8,0,q85.1) ([q94.1]:List JN)))))∧(0≤(v0.length:Int)∧Int.toNat (v0.length:Int)<(v0++[nZ]).length∧pfiji58 Z0 C4x2 q94.2.1 q94.2.2.1 q94.2.2.2.1 q94.2.2.2.2 ((v0++[nZ]).set (Int.toNat (v0.length:Int)) (Tree.mk (8,0,q85.1) ([q94.1]:List JN)))))∧(exN N q91=none→Z))∧(pmuS q85.2 ([58]:Bs)=none→Z))∧(pnmS (V0,Y0,U0,J0)=none→Z)
def pfil4x2b (N:Nat) (K:JN→PS→Prop) (Z:Prop) (Z0:Int) (v0:List JN) (k0:List TK) (x0:Int) (s0:Bool) (b0:Bool) (C4x2:Int→(List JN)→List TK→Int→Bool→Bool→Prop):Prop :=
 psPs (k0,x0,s0,b0) ([125]:Bs)∧((!(pisS (k0,x0,s0,b0) ([125]:Bs)).1)=true→(decide (Z0>0)=true→psPs (pisS (k0,x0,s0,b0) ([125]:Bs)).2 ([44]:Bs)∧(∀ P1:PS,(pmuS (pisS (k0,x0,s0,b0) ([125]:Bs)).2 ([44]:Bs))=some P1→pfij13i77 N Z Z0 P1.1 P1.2.1 P1.2.2.1 P1.2.2.2 v0 C4x2)∧((pmuS (pisS (k0,x0,s0,b0) ([125]:Bs)).2 ([44]:Bs))=none→Z))∧(decide (Z0>0)=false→pfij13i77 N Z Z0 (pisS (k0,x0,s0,b0) ([125]:Bs)).2.1 (pisS (k0,x0,s0,b0) ([125]:Bs)).2.2.1 (pisS (k0,x0,s0,b0) ([125]:Bs)).2.2.2.1 (pisS (k0,x0,s0,b0) ([125]:Bs)).2.2.2.2 v0 C4x2))∧((!(pisS (k0,x0,s0,b0) ([125]:Bs)).1)=false→K (Tree.mk (7,0,([]:Bs)) v0) (pisS (k0,x0,s0,b0) ([125]:Bs)).2)
def pfil4x2 (N:Nat) (K:JN→PS→Prop) (Z:Prop):Nat→Int→(List JN)→List TK→Int→Bool→Bool→Prop
 | 0,_,_,_,_,_,_=>False
 | k+1,Z0,v0,k0,x0,s0,b0=>pfil4x2b N K Z Z0 v0 k0 x0 s0 b0 (pfil4x2 N K Z k)
def pfiF (N:Nat) (xp:PS) (K:JN→PS→Prop) (Z:Prop):Prop :=
 psP xp∧(((ppkS xp).1==2)=true→K (Tree.mk (1,(ppkS xp).2.2.2.2,([]:Bs)) jZ) (xp.1,w6 (xp.2.1+1),xp.2.2.1,xp.2.2.2))∧(((ppkS xp).1==2)=false→(((ppkS xp).1==3)=true→K (Tree.mk (2,0,(ppkS xp).2.2.2.1) jZ) (xp.1,w6 (xp.2.1+1),xp.2.2.1,xp.2.2.2))∧(((ppkS xp).1==3)=false→(((ppkS xp).1==1)=true→K (Tree.mk (5,0,(ppkS xp).2.2.2.1) jZ) (xp.1,w6 (xp.2.1+1),xp.2.2.1,xp.2.2.2))∧(((ppkS xp).1==1)=false→psPs xp ([116,114,117,101]:Bs)∧((pisS xp ([116,114,117,101]:Bs)).1=true→K (Tree.mk (3,1,([]:Bs)) jZ) (pisS xp ([116,114,117,101]:Bs)).2)∧((pisS xp ([116,114,117,101]:Bs)).1=false→psPs (pisS xp ([116,114,117,101]:Bs)).2 ([102,97,108,115,101]:Bs)∧((pisS (pisS xp ([116,114,117,101]:Bs)).2 ([102,97,108,115,101]:Bs)).1=true→K (Tree.mk (3,0,([]:Bs)) jZ) (pisS (pisS xp ([116,114,117,101]:Bs)).2 ([102,97,108,115,101]:Bs)).2)∧((pisS (pisS xp ([116,114,117,101]:Bs)).2 ([102,97,108,115,101]:Bs)).1=false→psPs (pisS (pisS xp ([116,114,117,101]:Bs)).2 ([102,97,108,115,101]:Bs)).2 ([110,117,108,108]:Bs)∧((pisS (pisS (pisS xp ([116,114,117,101]:Bs)).2 ([102,97,108,115,101]:Bs)).2 ([110,117,108,108]:Bs)).1=true→K (Tree.mk (4,0,([]:Bs)) jZ) (pisS (pisS (pisS xp ([116,114,117,101]:Bs)).2 ([102,97,108,115,101]:Bs)).2 ([110,117,108,108]:Bs)).2)∧((pisS (pisS (pisS xp ([116,114,117,101]:Bs)).2 ([102,97,108,115,101]:Bs)).2 ([110,117,108,108]:Bs)).1=false→psPs (pisS (pisS (pisS xp ([116,114,117,101]:Bs)).2 ([102,97,108,115,101]:Bs)).2 ([110,117,108,108]:Bs)).2 ([102,110]:Bs)∧((pisS (pisS (pisS (pisS xp ([116,114,117,101]:Bs)).2 ([102,97,108,115,101]:Bs)).2 ([110,117,108,108]:Bs)).2 ([102,110]:Bs)).1=true→fnP N (pisS (pisS (pisS (pisS xp ([116,114,117,101]:Bs)).2 ([102,97,108,115,101]:Bs)).2 ([110,117,108,108]:Bs)).2 ([102,110]:Bs)).2 ([]:Bs)∧(∀ q35:JN×PS,(fnN N (pisS (pisS (pisS (pisS xp ([116,114,117,101]:Bs)).2 ([102,97,108,115,101]:Bs)).2 ([110,117,108,108]:Bs)).2 ([102,110]:Bs)).2 ([]:Bs))=some q35→K q35.1 q35.2)∧((fnN N (pisS (pisS (pisS (pisS xp ([116,114,117,101]:Bs)).2 ([102,97,108,115,101]:Bs)).2 ([110,117,108,108]:Bs)).2 ([102,110]:Bs)).2 ([]:Bs))=none→Z))∧((pisS (pisS (pisS (pisS xp ([116,114,117,101]:Bs)).2 ([102,97,108,115,101]:Bs)).2 ([110,117,108,108]:Bs)).2 ([102,110]:Bs)).1=false→psPs (pisS (pisS (pisS (pisS xp ([116,114,117,101]:Bs)).2 ([102,97,108,115,101]:Bs)).2 ([110,117,108,108]:Bs)).2 ([102,110]:Bs)).2 ([91]:Bs)∧((pisS (pisS (pisS (pisS (pisS xp ([116,114,117,101]:Bs)).2 ([102,97,108,115,101]:Bs)).2 ([110,117,108,108]:Bs)).2 ([102,110]:Bs)).2 ([91]:Bs)).1=true→∃ k,pfil4x1 N K Z k 0 jZ (pisS (pisS (pisS (pisS (pisS xp ([116,114,117,101]:Bs)).2 ([102,97,108,115,101]:Bs)).2 ([110,117,108,108]:Bs)).2 ([102,110]:Bs)).2 ([91]:Bs)).2.1 (pisS (pisS (pisS (pisS (pisS xp ([116,114,117,101]:Bs)).2 ([102,97,108,115,101]:Bs)).2 ([110,117,108,108]:Bs)).2 ([102,110]:Bs)).2 ([91]:Bs)).2.2.1 (pisS (pisS (pisS (pisS (pisS xp ([116,114,117,101]:Bs)).2 ([102,97,108,115,101]:Bs)).2 ([110,117,108,108]:Bs)).2 ([102,110]:Bs)).2 ([91]:Bs)).2.2.2.1 (pisS (pisS (pisS (pisS (pisS xp ([116,114,117,101]:Bs)).2 ([102,97,108,115,101]:Bs)).2 ([110,117,108,108]:Bs)).2 ([102,110]:Bs)).2 ([91]:Bs)).2.2.2.2)∧((pisS (pisS (pisS (pisS (pisS xp ([116,114,117,101]:Bs)).2 ([102,97,108,115,101]:Bs)).2 ([110,117,108,108]:Bs)).2 ([102,110]:Bs)).2 ([91]:Bs)).1=false→psPs (pisS (pisS (pisS (pisS (pisS xp ([116,114,117,101]:Bs)).2 ([102,97,108,115,101]:Bs)).2 ([110,117,108,108]:Bs)).2 ([102,110]:Bs)).2 ([91]:Bs)).2 ([123]:Bs)∧((pisS (pisS (pisS (pisS (pisS (pisS xp ([116,114,117,101]:Bs)).2 ([102,97,108,115,101]:Bs)).2 ([110,117,108,108]:Bs)).2 ([102,110]:Bs)).2 ([91]:Bs)).2 ([123]:Bs)).1=true→∃ k,pfil4x2 N K Z k 0 jZ (pisS (pisS (pisS (pisS (pisS (pisS xp ([116,114,117,101]:Bs)).2 ([102,97,108,115,101]:Bs)).2 ([110,117,108,108]:Bs)).2 ([102,110]:Bs)).2 ([91]:Bs)).2 ([123]:Bs)).2.1 (pisS (pisS (pisS (pisS (pisS (pisS xp ([116,114,117,101]:Bs)).2 ([102,97,108,115,101]:Bs)).2 ([110,117,108,108]:Bs)).2 ([102,110]:Bs)).2 ([91]:Bs)).2 ([123]:Bs)).2.2.1 (pisS (pisS (pisS (pisS (pisS (pisS xp ([116,114,117,101]:Bs)).2 ([102,97,108,115,101]:Bs)).2 ([110,117,108,108]:Bs)).2 ([102,110]:Bs)).2 ([91]:Bs)).2 ([123]:Bs)).2.2.2.1 (pisS (pisS (pisS (pisS (pisS (pisS xp ([116,114,117,101]:Bs)).2 ([102,97,108,115,101]:Bs)).2 ([110,117,108,108]:Bs)).2 ([102,110]:Bs)).2 ([91]:Bs)).2 ([123]:Bs)).2.2.2.2)∧((pisS (pisS (pisS (pisS (pisS (pisS xp ([116,114,117,101]:Bs)).2 ([102,97,108,115,101]:Bs)).2 ([110,117,108,108]:Bs)).2 ([102,110]:Bs)).2 ([91]:Bs)).2 ([123]:Bs)).1=false→inP N (pisS (pisS (pisS (pisS (pisS (pisS xp ([116,114,117,101]:Bs)).2 ([102,97,108,115,101]:Bs)).2 ([110,117,108,108]:Bs)).2 ([102,110]:Bs)).2 ([91]:Bs)).2 ([123]:Bs)).2∧(∀ g1:JN×PS,(inN N (pisS (pisS (pisS (pisS (pisS (pisS xp ([116,114,117,101]:Bs)).2 ([102,97,108,115,101]:Bs)).2 ([110,117,108,108]:Bs)).2 ([102,110]:Bs)).2 ([91]:Bs)).2 ([123]:Bs)).2)=some g1→K g1.1 g1.2)∧((inN N (pisS (pisS (pisS (pisS (pisS (pisS xp ([116,114,117,101]:Bs)).2 ([102,97,108,115,101]:Bs)).2 ([110,117,108,108]:Bs)).2 ([102,110]:Bs)).2 ([91]:Bs)).2 ([123]:Bs)).2)=none→Z))))))))))
theorem pfi_ok {g:Ghost} (N:Nat) (ih_pst:pst_C N) (ih_pex:pex_C N) (ih_pco:pco_C N) (ih_pbi:pbi_C N) (ih_pun:pun_C N) (ih_pfi:pfi_C N) (ih_pin:pin_C N) (ih_pbl:pbl_C N) (ih_pbo:pbo_C N) (ih_pfn:pfn_C N) (ih_pif:pif_C N) (ih_pfo:pfo_C N) (ih_pty:pty_C N) {bxp:Nat} {S1:Option Addr} {B1:Nat} (xp:PS) (N0:Rep g yTs [.slice S1 xp.1.length B1] xp.1) (Z:Prop) (K:JN→PS→Prop)
  (hF:pfiF N xp K Z):CallsP prog 93 #[pv bxp 0] g [.blk bxp (.cells (aP xp S1 B1) 48)] (fun g' H' v=>∃ (r0:JN),∃ (fxp:PS),∃ (f3:Option Addr) (g3:Nat),∃ (E2:Option Addr) (F2:Nat),v=.agg (aJ r0 f3 g3)∧Rep g' yJs [.slice f3 r0.kids.length g3] r0.kids∧Rep g' yTs [.slice E2 fxp.1.length F2] fxp.1∧H'=[.blk bxp (.cells (aP fxp E2 F2) 48)]∧K r0 fxp) Z (.iface 44 (.agg #[])):=by
 refine CallsP.enter 81 [(0,pv bxp 0)] func93 rfl kr kr kr fun w0=>?_
 refine Ok.sr (Ok.o (OpOk.box (v:=pv bxp 0) (cs:=#[pv bxp 0]) rfl kr rfl fun bs1=>?_))
 have hL2:RepL g yJ [] []:=rfl
 refine Ok.ownNil 24 4 (Ok.o (OpOk.aw aZ fun bs2=>?_))
 refine Ok.nt (Ok.q (Ok.sr (Ok.o (OpOk.s (v:=pv bxp 0) (Yields.l 2 rfl rfl underlying46 rfl kr) rfl rfl ?_))))
 obtain ⟨hp4,hF⟩:=hF
 refine Ok.en [3,0,1,2] ?_
 refine Ok.o (OpOk.ch (ppk_c xp N0 hp4) fun g5 _ _ hx5 hV5=>?_)
 obtain ⟨rfl,rfl⟩:=hV5
 replace N0:=N0.mono hx5.1
 refine Ok.o (OpOk.aw #[iv 0,iv 0,iv 0,sv Bz,iv 0] fun bs3=>?_)
 refine Ok.o (OpOk.w 0 ?_)
 refine Ok.nt (Ok.sr (Ok.B 1 [(1,pv bs1 0),(2,pv bs2 0),(3,pv bs3 0),(8,pv bs3 0)] kr (Ok.o (OpOk.s (v:=iv (ppkS xp).1) (Yields.l 0 rfl rfl underlying3 rfl kr) rfl rfl (Ok.nt (Ok.block (Ok.sr (Ok.b 2 [1,2,3] [(9,iv (ppkS xp).1),(10,.bool ((ppkS xp).1==2))] ?_))))))))
 refine Ok.nt (Ok.cw hF (fun hc7 hF=>?_) (fun hc7 hF=>?_))
 ·refine Ok.sr (Ok.rn 7 [.e 4,.e 1] [2,3] [(16,iv (w6 (xp.2.1+1))),(18,pv bxp 1)] ?_)
  refine Ok.o (OpOk.w1 1 ?_)
  refine Ok.nt (Ok.sr (Ok.rn 3 [.e 0] [2] [(21,.agg #[iv 1,iv (ppkS xp).2.2.2.2,sv Bz,.slice none 0 0])] ?_))
  have hL8:RepL g5 yJ [] []:=rfl
  refine Ok.ownNil 24 4 (Ok.o (OpOk.w 3 ?_))
  refine Ok.nt (Ok.ret (Ok.kr (Ok.tr (Ok.frz 0 rfl hL8 fun g9 hx9 hRf9=>?_))))
  replace N0:=N0.mono hx9.1
  exact Ok.fine (.inl rfl) (Ok.p (vs:=[.agg (aM 1 (ppkS xp).2.2.2.2 Bz none jZ 0)]) [1] [.blk bxp (.cells #[.slice S1 xp.1.length B1,iv (w6 (xp.2.1+1)),.bool xp.2.2.1,.bool xp.2.2.2] 48)] dc rfl (.inl rfl) rfl (.cons (.cellAgg 2 4 (aM 1 (ppkS xp).2.2.2.2 Bz none jZ 0) rfl rfl underlying24 rfl kr kr kr) .nil) (hx5.trans hx9) ⟨(Tree.mk (1,(ppkS xp).2.2.2.2,Bz) jZ),(xp.1,w6 (xp.2.1+1),xp.2.2.1,xp.2.2.2),none,0,S1,B1,rfl,hRf9,N0,rfl,hF⟩)
 refine Ok.sr (Ok.b 2 [1,2,3,9] [(22,.bool ((ppkS xp).1==3))] ?_)
 refine Ok.nt (Ok.cw hF (fun hc10 hF=>?_) (fun hc10 hF=>?_))
 ·refine Ok.sr (Ok.rn 7 [.e 4,.e 1] [2,3] [(28,iv (w6 (xp.2.1+1))),(30,pv bxp 1)] ?_)
  refine Ok.o (OpOk.w1 1 ?_)
  refine Ok.nt (Ok.sr (Ok.rn 3 [.e 0] [2] [(33,.agg #[iv 2,iv 0,sv ((ppkS xp).2.2.2.1),.slice none 0 0])] ?_))
  have hL11:RepL g5 yJ [] []:=rfl
  refine Ok.ownNil 24 4 (Ok.o (OpOk.w 3 ?_))
  refine Ok.nt (Ok.ret (Ok.kr (Ok.tr (Ok.frz 0 rfl hL11 fun g12 Q3 hRf12=>?_))))
  replace N0:=N0.mono Q3.1
  exact Ok.fine (.inl rfl) (Ok.p (vs:=[.agg (aM 2 0 ((ppkS xp).2.2.2.1) none jZ 0)]) [1] [.blk bxp (.cells #[.slice S1 xp.1.length B1,iv (w6 (xp.2.1+1)),.bool xp.2.2.1,.bool xp.2.2.2] 48)] dc rfl (.inl rfl) rfl (.cons (.cellAgg 2 4 (aM 2 0 ((ppkS xp).2.2.2.1) none jZ 0) rfl rfl underlying24 rfl kr kr kr) .nil) (hx5.trans Q3) ⟨(Tree.mk (2,0,(ppkS xp).2.2.2.1) jZ),(xp.1,w6 (xp.2.1+1),xp.2.2.1,xp.2.2.2),none,0,S1,B1,rfl,hRf12,N0,rfl,hF⟩)
 refine Ok.sr (Ok.b 2 [1,2,3] [(34,.bool ((ppkS xp).1==1))] ?_)
 refine Ok.nt (Ok.cw hF (fun hc13 hF=>?_) (fun hc13 hF=>?_))
 ·refine Ok.sr (Ok.rn 7 [.e 4,.e 1] [2,3] [(40,iv (w6 (xp.2.1+1))),(42,pv bxp 1)] ?_)
  refine Ok.o (OpOk.w1 1 ?_)
  refine Ok.nt (Ok.sr (Ok.rn 3 [.e 0] [2] [(45,.agg #[iv 5,iv 0,sv ((ppkS xp).2.2.2.1),.slice none 0 0])] ?_))
  have hL14:RepL g5 yJ [] []:=rfl
  refine Ok.ownNil 24 4 (Ok.o (OpOk.w 3 ?_))
  refine Ok.nt (Ok.ret (Ok.kr (Ok.tr (Ok.frz 0 rfl hL14 fun g15 K3 hRf15=>?_))))
  replace N0:=N0.mono K3.1
  exact Ok.fine (.inl rfl) (Ok.p (vs:=[.agg (aM 5 0 ((ppkS xp).2.2.2.1) none jZ 0)]) [1] [.blk bxp (.cells #[.slice S1 xp.1.length B1,iv (w6 (xp.2.1+1)),.bool xp.2.2.1,.bool xp.2.2.2] 48)] dc rfl (.inl rfl) rfl (.cons (.cellAgg 2 4 (aM 5 0 ((ppkS xp).2.2.2.1) none jZ 0) rfl rfl underlying24 rfl kr kr kr) .nil) (hx5.trans K3) ⟨(Tree.mk (5,0,(ppkS xp).2.2.2.1) jZ),(xp.1,w6 (xp.2.1+1),xp.2.2.1,xp.2.2.2),none,0,S1,B1,rfl,hRf15,N0,rfl,hF⟩)
 refine Ok.k (Ok.kn (Ok.t (Ok.q (Ok.block (Ok.sr (Ok.o (OpOk.s (v:=pv bxp 0) (Yields.l 4 rfl rfl underlying46 rfl kr) rfl rfl ?_)))))))
 obtain ⟨hp16,hF⟩:=hF
 refine Ok.en [1,0,2,3,4] ?_
 refine Ok.o (OpOk.ch (pis_c xp Bq N0 hp16) fun g17 _ _ m1 hV17=>?_)
 obtain ⟨h3,m3,rfl,L1,rfl⟩:=hV17
 refine Ok.b 1 [1,2] [(46,.bool (pisS xp Bq).1)] ?_
 refine Ok.nt (Ok.cw hF (fun hc18 hF=>?_) (fun hc18 hF=>?_))
 ·refine Ok.sr (Ok.b 1 [2] [(49,.agg #[iv 3,iv 1,sv Bz,.slice none 0 0])] ?_)
  have hL19:RepL g17 yJ [] []:=rfl
  refine Ok.ownNil 24 4 (Ok.o (OpOk.w 3 ?_))
  refine Ok.nt (Ok.ret (Ok.kr (Ok.tr (Ok.frz 0 rfl hL19 fun g20 Y3 hRf20=>?_))))
  replace L1:=L1.mono Y3.1
  exact Ok.fine (.inl rfl) (Ok.p (vs:=[.agg (aM 3 1 Bz none jZ 0)]) [0] [.blk bxp (.cells (aP (pisS xp Bq).2 h3 m3) 48)] dc rfl (.inl rfl) rfl (.cons (.cellAgg 2 4 (aM 3 1 Bz none jZ 0) rfl rfl underlying24 rfl kr kr kr) .nil) ((hx5.trans m1).trans Y3) ⟨(Tree.mk (3,1,Bz) jZ),(pisS xp Bq).2,none,0,h3,m3,rfl,hRf20,L1,rfl,hF⟩)
 refine Ok.sr (Ok.o (OpOk.s (v:=pv bxp 0) (Yields.l 4 rfl rfl underlying46 rfl kr) rfl rfl ?_))
 obtain ⟨hp21,hF⟩:=hF
 refine Ok.o (OpOk.ch (pis_c (pisS xp Bq).2 Bn L1 hp21) fun g22 _ _ o1 hV22=>?_)
 obtain ⟨n3,o3,rfl,A1,rfl⟩:=hV22
 refine Ok.b 1 [1,2] [(50,.bool (pisS (pisS xp Bq).2 Bn).1)] ?_
 refine Ok.nt (Ok.cw hF (fun hc23 hF=>?_) (fun hc23 hF=>?_))
 ·refine Ok.sr (Ok.b 1 [2] [(53,.agg #[iv 3,iv 0,sv Bz,.slice none 0 0])] ?_)
  have hL24:RepL g22 yJ [] []:=rfl
  refine Ok.ownNil 24 4 (Ok.o (OpOk.w 3 ?_))
  refine Ok.nt (Ok.ret (Ok.kr (Ok.tr (Ok.frz 0 rfl hL24 fun g25 U3 hRf25=>?_))))
  replace A1:=A1.mono U3.1
  exact Ok.fine (.inl rfl) (Ok.p (vs:=[.agg (aM 3 0 Bz none jZ 0)]) [0] [.blk bxp (.cells (aP (pisS (pisS xp Bq).2 Bn).2 n3 o3) 48)] dc rfl (.inl rfl) rfl (.cons (.cellAgg 2 4 (aM 3 0 Bz none jZ 0) rfl rfl underlying24 rfl kr kr kr) .nil) (((hx5.trans m1).trans o1).trans U3) ⟨(Tree.mk (3,0,Bz) jZ),(pisS (pisS xp Bq).2 Bn).2,none,0,n3,o3,rfl,hRf25,A1,rfl,hF⟩)
 refine Ok.sr (Ok.o (OpOk.s (v:=pv bxp 0) (Yields.l 4 rfl rfl underlying46 rfl kr) rfl rfl ?_))
 obtain ⟨hp26,hF⟩:=hF
 refine Ok.o (OpOk.ch (pis_c (pisS (pisS xp Bq).2 Bn).2 Bg A1 hp26) fun g27 _ _ K1 hV27=>?_)
 obtain ⟨p3,r3,rfl,I1,rfl⟩:=hV27
 refine Ok.b 1 [1,2] [(54,.bool (pisS (pisS (pisS xp Bq).2 Bn).2 Bg).1)] ?_
 refine Ok.nt (Ok.cw hF (fun hc28 hF=>?_) (fun hc28 hF=>?_))
 ·refine Ok.sr (Ok.b 1 [2] [(57,.agg #[iv 4,iv 0,sv Bz,.slice none 0 0])] ?_)
  have hL29:RepL g27 yJ [] []:=rfl
  refine Ok.ownNil 24 4 (Ok.o (OpOk.w 3 ?_))
  refine Ok.nt (Ok.ret (Ok.kr (Ok.tr (Ok.frz 0 rfl hL29 fun g30 J3 hRf30=>?_))))
  replace I1:=I1.mono J3.1
  exact Ok.fine (.inl rfl) (Ok.p (vs:=[.agg (aM 4 0 Bz none jZ 0)]) [0] [.blk bxp (.cells (aP (pisS (pisS (pisS xp Bq).2 Bn).2 Bg).2 p3 r3) 48)] dc rfl (.inl rfl) rfl (.cons (.cellAgg 2 4 (aM 4 0 Bz none jZ 0) rfl rfl underlying24 rfl kr kr kr) .nil) ((((hx5.trans m1).trans o1).trans K1).trans J3) ⟨(Tree.mk (4,0,Bz) jZ),(pisS (pisS (pisS xp Bq).2 Bn).2 Bg).2,none,0,p3,r3,rfl,hRf30,I1,rfl,hF⟩)
 refine Ok.sr (Ok.o (OpOk.s (v:=pv bxp 0) (Yields.l 4 rfl rfl underlying46 rfl kr) rfl rfl ?_))
 obtain ⟨hp31,hF⟩:=hF
 refine Ok.o (OpOk.ch (pis_c (pisS (pisS (pisS xp Bq).2 Bn).2 Bg).2 Bh I1 hp31) fun g32 _ _ U1 hV32=>?_)
 obtain ⟨a32_0,c32_0,rfl,G2,rfl⟩:=hV32
 refine Ok.b 1 [1,2] [(58,.bool (pisS (pisS (pisS (pisS xp Bq).2 Bn).2 Bg).2 Bh).1)] ?_
 refine Ok.nt (Ok.cw hF (fun hc33 hF=>?_) (fun hc33 hF=>?_))
 ·refine Ok.sr (Ok.o (OpOk.s (v:=pv bxp 0) (Yields.l 4 rfl rfl underlying46 rfl kr) rfl rfl ?_))
  obtain ⟨hp34,hF,hz35⟩:=hF
  refine Ok.o (OpOk.cp (ih_pfn _ (pisS (pisS (pisS (pisS xp Bq).2 Bn).2 Bg).2 Bh).2 Bz G2 hp34) (pT ((((hx5.trans m1).trans o1).trans K1).trans U1) hz35) fun g36 _ _ C3 hV36=>?_)
  obtain ⟨q35,hq35,H2,M2,t3,l3,rfl,hR36_0,hR36_2,rfl⟩:=hV36
  replace hF:=hF _ hq35
  refine Ok.o (OpOk.w 2 ?_)
  refine Ok.nt (Ok.ret (Ok.kr (Ok.tr ?_)))
  exact Ok.fine (.inl rfl) (Ok.p (vs:=[.agg (aJ q35.1 H2 M2)]) [0] [.blk bxp (.cells (aP q35.2 t3 l3) 48)] dc rfl (.inl rfl) rfl (.cons (.cellAgg 2 4 (aJ q35.1 H2 M2) rfl rfl underlying24 rfl kr kr kr) .nil) (((((hx5.trans m1).trans o1).trans K1).trans U1).trans C3) ⟨q35.1,q35.2,H2,M2,t3,l3,rfl,hR36_0,hR36_2,rfl,hF⟩)
 refine Ok.sr (Ok.o (OpOk.s (v:=pv bxp 0) (Yields.l 4 rfl rfl underlying46 rfl kr) rfl rfl ?_))
 obtain ⟨hp37,hF⟩:=hF
 refine Ok.o (OpOk.ch (pis_c (pisS (pisS (pisS (pisS xp Bq).2 Bn).2 Bg).2 Bh).2 Bw G2 hp37) fun g38 _ _ C1 hV38=>?_)
 obtain ⟨a38_0,c38_0,rfl,N2,rfl⟩:=hV38
 refine Ok.b 1 [1,2] [(63,.bool (pisS (pisS (pisS (pisS (pisS xp Bq).2 Bn).2 Bg).2 Bh).2 Bw).1)] ?_
 refine Ok.nt (Ok.cw hF (fun hc39 hF=>?_) (fun hc39 hF=>?_))
 ·refine Ok.sr (Ok.b 1 [1,2] [(66,.agg #[iv 6,iv 0,sv Bz,.slice none 0 0])] ?_)
  have hL40:RepL g38 yJ [] []:=rfl
  refine Ok.ownNil 24 4 (Ok.o (OpOk.aw aZ fun bs4=>?_))
  have hL42:RepL g38 yJ [] []:=rfl
  refine Ok.ownNil 24 4 (Ok.o (OpOk.w 1 ?_))
  refine Ok.nt (Ok.sr (Ok.rn 2 [.e 7] [2] [(4,pv bs4 0),(67,pv bxp 0),(68,.func (.func 95) #[] #[pv bs4 0,pv bs1 0])] ?_))
  refine Ok.o (OpOk.inlineP (pv:=.iface 44 (.agg #[])) (args:=#[pv bxp 0,sv Bu,.func (.func 95) #[] #[pv bs4 0,pv bs1 0]]) 19 [(0,pv bxp 0),(1,sv Bu),(2,.func (.func 95) #[] #[pv bs4 0,pv bs1 0])] enr func65 rfl rfl rfl rfl (Ok.sr (Ok.B 1 [(0,pv bxp 0),(1,sv Bu),(2,.func (.func 95) #[] #[pv bs4 0,pv bs1 0]),(6,iv 0)] kr (Ok.nt (Ok.block ?_)))))
  obtain ⟨k,hF⟩:=hF
  refine Ok.L (fun k a W=>∃ D1:Ghost,Gext w0 g38 D1∧∃ (o0:Int) (f0:Option Addr) (g0:Nat) (z0:List JN) (W0:List Value) (c1:Option Addr) (d1:Nat) (q0:List TK) (y0:Int) (u0:Bool) (j0:Bool),RepL D1 yJ W0 z0∧Rep D1 yTs [.slice c1 q0.length d1] q0∧StA 19 [(0,pv bxp 0),(1,sv Bu),(2,.func (.func 95) #[] #[pv bs4 0,pv bs1 0]),(6,iv o0)] a∧StW w0 [.own (.slice f0 z0.length g0) 24 4 z0.length W0,.blk bs4 (.cells (aM 6 0 Bz f0 z0 g0) 24),.blk bxp (.cells #[.slice c1 q0.length d1,iv y0,.bool u0,.bool j0] 48),.blk bs2 (.cells aZ 24),.own (.slice none jZ.length 0) 24 4 jZ.length ([]),.blk bs1 (.cells #[pv bxp 0] 46)] D1 W∧pfil4x1 N K Z k o0 z0 q0 y0 u0 j0) k ?_ ?_
  ·
   exact fun _ _ u v=>⟨g38,Gext.r w0 g38,0,none,0,jZ,[],a38_0,c38_0,(pisS (pisS (pisS (pisS (pisS xp Bq).2 Bn).2 Bg).2 Bh).2 Bw).2.1,(pisS (pisS (pisS (pisS (pisS xp Bq).2 Bn).2 Bg).2 Bh).2 Bw).2.2.1,(pisS (pisS (pisS (pisS (pisS xp Bq).2 Bn).2 Bg).2 Bh).2 Bw).2.2.2.1,(pisS (pisS (pisS (pisS (pisS xp Bq).2 Bn).2 Bg).2 Bh).2 Bw).2.2.2.2,hL42,N2,fA u v hF⟩
  clear hF
  rintro (_ | k4x1) _ _ ⟨D1,J1,o0,f0,g0,z0,W0,c1,d1,q0,y0,u0,j0,m0,hRybxp_0l4i69,q⟩
  exact (q.2.2:False).elim
  refine jn (fun hF=>?_) _ _ q
  refine Ok.q (Ok.sr (Ok.b 2 [0,1,2,6] [(7,pv bxp 0),(8,sv Bu)] ?_))
  obtain ⟨hp43,hF⟩:=hF
  refine Ok.en [2,0,1,3,4,5] ?_
  refine Ok.o (OpOk.ch (pis_c (q0,y0,u0,j0) Bu hRybxp_0l4i69 hp43) fun g44 _ _ B2 hV44=>?_)
  obtain ⟨V2,Q2,rfl,E1,rfl⟩:=hV44
  replace m0:=m0.mono B2.1
  refine Ok.b 1 [0,1,2,6] [(10,.bool (!(pisS (q0,y0,u0,j0) Bu).1))] ?_
  refine Ok.nt (Ok.cw hF (fun hc45 hF=>?_) (fun hc45 hF=>?_))
  ·refine Ok.k (Ok.t (Ok.q (Ok.block (Ok.cut (fun a W=>∃ I0:Ghost,Gext w0 g44 I0∧∃ (x1:Option Addr) (b1:Nat) (n0:List TK) (t0:Int) (l0:Bool) (a0:Bool),Rep I0 yTs [.slice x1 n0.length b1] n0∧StA 19 [(0,pv bxp 0),(1,sv Bu),(2,.func (.func 95) #[] #[pv bs4 0,pv bs1 0]),(6,iv o0)] a∧StW w0 [.blk bxp (.cells #[.slice x1 n0.length b1,iv t0,.bool l0,.bool a0] 48),.own (.slice f0 z0.length g0) 24 4 z0.length W0,.blk bs4 (.cells (aM 6 0 Bz f0 z0 g0) 24),.blk bs2 (.cells aZ 24),.own (.slice none jZ.length 0) 24 4 jZ.length ([]),.blk bs1 (.cells #[pv bxp 0] 46)] I0 W∧pfij13i69 N Z o0 n0 t0 l0 a0 z0 (pfil4x1 N K Z k4x1)) ?_ ?_))))
   ·
    refine Ok.sr (Ok.b 2 [0,1,2,6] [(14,.bool (decide (o0>0)))] ?_)
    refine Ok.nt (Ok.cw hF (fun hc70 hF=>?_) (fun hc70 hF=>?_))
    ·refine Ok.r (Ok.b 1 [0,1,2,6] [(15,pv bxp 0)] ?_)
     obtain ⟨hp71,hF,hz72⟩:=hF
     refine Ok.o (OpOk.callP [.blk bxp (.cells (aP (pisS (q0,y0,u0,j0) Bu).2 V2 Q2) 48)] [.own (.slice f0 z0.length g0) 24 4 z0.length W0,.blk bs4 (.cells (aM 6 0 Bz f0 z0 g0) 24),.blk bs2 (.cells aZ 24),.own (.slice none jZ.length 0) 24 4 jZ.length ([]),.blk bs1 (.cells #[pv bxp 0] 46)] enr rfl (pmu_c (pisS (q0,y0,u0,j0) Bu).2 Bo E1 hp71) rfl (PanTo.up (((((((hx5.trans m1).trans o1).trans K1).trans U1).trans C1).trans J1).trans B2) (fun z a W hd hW=>panIn a hd (fun a1 hA1=>panTop (hz72 z) a1 W hA1.defers hW))) fun g73 _ _ W3 hV73=>?_)
     obtain ⟨q72,hq72,a73_0,c73_0,rfl,hR73_0,rfl⟩:=hV73
     replace hF:=hF _ hq72
     replace m0:=m0.mono W3.1
     refine Ok.j (Ok.t ?_)
     exact fun _ _ u v=>⟨g73,W3,a73_0,c73_0,q72.1,q72.2.1,q72.2.2.1,q72.2.2.2,hR73_0,fA u v hF⟩
    refine Ok.k (Ok.t ?_)
    exact fun _ _ u v=>⟨g44,Gext.r w0 g44,V2,Q2,(pisS (q0,y0,u0,j0) Bu).2.1,(pisS (q0,y0,u0,j0) Bu).2.2.1,(pisS (q0,y0,u0,j0) Bu).2.2.2.1,(pisS (q0,y0,u0,j0) Bu).2.2.2.2,E1,fA u v hF⟩
   clear hF
   rintro _ _ ⟨I0,W1,x1,b1,n0,t0,l0,a0,n1,q⟩
   refine jn (fun hF=>?_) _ _ q
   replace m0:=m0.mono W1.1
   refine Ok.r (Ok.b 1 [0,1,2,6] [(17,.func (.func 95) #[] #[pv bs4 0,pv bs1 0])] ?_)
   refine Ok.o (OpOk.cutQ (fun a W=>∃ R1:Ghost,Gext w0 I0 R1∧∃ (q1:Option Addr) (k1:Nat) (X0:List TK) (D0:Int) (E0:Bool) (F0:Bool) (O0:Option Addr) (P0:Nat) (Q0:List JN) (B0:List Value),Rep R1 yTs [.slice q1 X0.length k1] X0∧RepL R1 yJ B0 Q0∧StA 19 [(0,pv bxp 0),(1,sv Bu),(2,.func (.func 95) #[] #[pv bs4 0,pv bs1 0]),(6,iv o0)] a∧StW w0 [.blk bxp (.cells #[.slice q1 X0.length k1,iv D0,.bool E0,.bool F0] 48),.own (.slice O0 Q0.length P0) 24 4 Q0.length B0,.blk bs4 (.cells (aM 6 0 Bz O0 Q0 P0) 24),.blk bs2 (.cells aZ 24),.own (.slice none jZ.length 0) 24 4 jZ.length ([]),.blk bs1 (.cells #[pv bxp 0] 46)] R1 W∧pfiji48 o0 (pfil4x1 N K Z k4x1) X0 D0 E0 F0 Q0) ?_ ?_)
   ·
    refine OpOk.inlineP (pv:=.iface 44 (.agg #[])) (args:=#[pv bs4 0,pv bs1 0]) 11 [(0,pv bs4 0),(1,pv bs1 0)] enr func95 rfl rfl rfl rfl (Ok.plE (E:=Thr 11 w0 I0 Z (.iface 44 (.agg #[]))) Thr.put (Thr.to (PanTo.up ((((((((hx5.trans m1).trans o1).trans K1).trans U1).trans C1).trans J1).trans B2).trans W1) (fun z a W hd hW=>panIn a hd (fun a1 hA1=>panIn a1 hA1.defers (fun a2 hA2=>panTop z a2 W hA2.defers hW))))) [0,1,2,4] [3,5] [.own (.slice f0 z0.length g0) 24 4 z0.length W0,.blk bs4 (.cells (aM 6 0 Bz f0 z0 g0) 24),.blk bs2 (.cells aZ 24),.own (.slice none jZ.length 0) 24 4 jZ.length ([]),.blk bs1 (.cells #[pv bxp 0] 46)] [.blk bs2 (.cells aZ 24),.own (.slice none jZ.length 0) 24 4 jZ.length ([]),.blk bs1 (.cells #[pv bxp 0] 46)] [(0,true),(1,true),(2,true),(4,true)] 3 (.fork [(5,false),(6,false),(9,true)] 7 (.fork [] 8 (.leaf [(10,false)]) 10 (.leaf [(8,false)])) 10 (.leaf [(7,false),(8,false)])) 5 (.fork [(3,false),(6,false),(9,true)] 7 (.fork [] 8 (.leaf [(10,false)]) 10 (.leaf [(8,false)])) 10 (.leaf [(7,false),(8,false)])) kr kr (.cons _ (.cons _ (.cons_cons _ (.cons_cons _ (.cons_cons _ .slnil))))) (.cons _ (.cons_cons _ (.cons_cons _ (.cons_cons _ (.cons_cons _ (.cons_cons _ .slnil)))))) ?_)
    refine OkME.batch 1 [(0,pv bs4 0),(1,pv bs1 0),(2,pv bs4 3)] kr (OkME.hd (OpQ.s (v:=.slice f0 z0.length g0) (Yields.l 1 rfl rfl underlying22 rfl kr) rfl rfl ?_))
    refine OkME.hd (OpQ.s (v:=pv bxp 0) (Yields.l 4 rfl rfl underlying46 rfl kr) rfl rfl ?_)
    refine OkME.bat 1 [0] [(3,.slice f0 z0.length g0),(4,pv bxp 0),(6,iv (z0.length:Int))] ?_
    refine OkME.nil (Ok.bothE rfl rfl ?_ ?_)
    ·replace hF:=hF.1
     obtain ⟨hp46,hF,hz47⟩:=hF
     refine OkME.tail rfl rfl (OpOk.cp (ih_pex _ (n0,t0,l0,a0) n1 hp46) (pH (Gext.r w0 I0) hz47) fun g48 _ _ r1 hV48=>?_)
     obtain ⟨q47,hq47,i1,Z1,O2,P2,rfl,h2,m2,rfl⟩:=hV48
     replace hF:=hF _ hq47
     replace m0:=m0.mono r1.1
     refine OkME.l1 r1.1 ?_
     have D3:RepL g48 yJ (lY:List Value) [nZ]:=(RepL.consN (c:=lY) (Rep.tree.2 ⟨[iv 0,iv 0,sv Bz],[.slice none 0 0],rfl,⟨[iv 0],[iv 0,sv Bz],rfl,rfl,⟨[iv 0],[sv Bz],rfl,rfl,rfl⟩⟩,Rep.nil⟩) rfl)
     refine OkME.tail rfl rfl (OpOk.li D3 fun b49=>?_)
     refine OkME.l1 r1.1 ?_
     obtain ⟨hb50,hF⟩:=hF
     refine OkME.tail rfl rfl (OpOk.append' (e:=yJ) 56 2513169434916 2 0 rfl rfl rfl rfl m0 D3 underlying22 kr kr kr hb50 rfl fun a50 c50 E3 R2=>?_)
     refine OkME.l1 r1.1 (OkME.batch 1 [(5,.agg (aJ q47.1 i1 Z1)),(6,iv (z0.length:Int)),(8,.slice a50 (z0++[nZ]).length c50),(10,pv bs4 3)] kr (OkME.nil (Ok.bothE rfl rfl ?_ ?_)))
     ·replace hF:=hF.1
      obtain ⟨h052,h152,hF⟩:=hF
      have F3:=get_of (l:=(z0++[nZ])) default h152
      generalize G3:((z0++[nZ]).getD (Int.toNat (z0.length:Int)) default)=e52 at F3 hF ⊢
      refine OkME.tail rfl rfl (OpOk.indexOwn (e:=yJ) 2 rfl R2 rfl rfl underlying22 kr kr h052 F3 rfl fun cs51 _ hr51 c3=>?_)
      have n2:=hr51
      replace n2:=Rep.tree.1 n2
      obtain ⟨_,_,rfl,⟨_,_,rfl,rfl,⟨_,_,rfl,rfl,rfl⟩⟩,⟨x2,s2,rfl,hm51_3,hr51_3⟩⟩:=n2
      have hR51_3:Rep g48 yJs [.slice x2 e52.kids.length s2] e52.kids:=⟨x2,s2,rfl,hm51_3,hr51_3⟩
      replace c3:∀ j v,((lJ e52 x2 s2):List Value)[j]? = some v→E3[Int.toNat (z0.length:Int) * 4+j]? = some v:=c3
      refine OkME.l1 r1.1 (OkME.nil (Ok.bothE rfl rfl ?_ ?_))
      ·replace hF:=hF.1
       refine OkME.tail rfl rfl (OpOk.storeOwn (e:=yJ) (q:=Int.toNat (z0.length:Int)) (cells:=(lJ e52 x2 s2)) (vs:=(lJ q47.1 i1 Z1)) (el':=q47.1) 2 0 4 rfl R2 c3 kr rfl rfl rfl kr kr kr kr kr (show Rep _ _ (lJ q47.1 i1 Z1) _ from (Rep.tree.2 ⟨[iv q47.1.lab.1,iv q47.1.lab.2.1,sv q47.1.lab.2.2],[.slice i1 q47.1.kids.length Z1],rfl,⟨[iv q47.1.lab.1],[iv q47.1.lab.2.1,sv q47.1.lab.2.2],rfl,rfl,⟨[iv q47.1.lab.2.1],[sv q47.1.lab.2.2],rfl,rfl,rfl⟩⟩,h2⟩)) fun xs53 hL53=>?_)
       rw [show (z0++[nZ]).length=((z0++[nZ]).set (Int.toNat (z0.length:Int)) q47.1).length from (List.length_set ..).symm]
       refine OkME.l1 r1.1 (OkME.tail rfl rfl (OpOk.w1 3 ?_))
       refine OkME.l1 r1.1 (OkME.nil (Ok.leafE (Ok.fine (.inr rfl) (Ok.back (vs:=[]) (.inr rfl) rfl .nil rfl ?_))))
       subst G3
       exact fun _ _ u v=>⟨g48,r1,O2,P2,q47.2.1,q47.2.2.1,q47.2.2.2.1,q47.2.2.2.2,a50,c50,((z0++[nZ]).set (Int.toNat (z0.length:Int)) q47.1),xs53,m2,hL53,fA u v hF⟩
      replace hF:=hF.2
      refine OkME.tail rfl rfl (OpOk.w1 3 ?_)
      refine OkME.l1 r1.1 (OkME.tail rfl rfl (OpOk.storeOwn (e:=yJ) (q:=Int.toNat (z0.length:Int)) (cells:=(lJ e52 x2 s2)) (vs:=(lJ q47.1 i1 Z1)) (el':=q47.1) 2 0 4 rfl R2 c3 kr rfl rfl rfl kr kr kr kr kr (show Rep _ _ (lJ q47.1 i1 Z1) _ from (Rep.tree.2 ⟨[iv q47.1.lab.1,iv q47.1.lab.2.1,sv q47.1.lab.2.2],[.slice i1 q47.1.kids.length Z1],rfl,⟨[iv q47.1.lab.1],[iv q47.1.lab.2.1,sv q47.1.lab.2.2],rfl,rfl,⟨[iv q47.1.lab.2.1],[sv q47.1.lab.2.2],rfl,rfl,rfl⟩⟩,h2⟩)) fun xs54 hL54=>?_))
      rw [show (z0++[nZ]).length=((z0++[nZ]).set (Int.toNat (z0.length:Int)) q47.1).length from (List.length_set ..).symm]
      refine OkME.l1 r1.1 (OkME.nil (Ok.leafE (Ok.fine (.inr rfl) (Ok.back (vs:=[]) (.inr rfl) rfl .nil rfl ?_))))
      subst G3
      exact fun _ _ u v=>⟨g48,r1,O2,P2,q47.2.1,q47.2.2.1,q47.2.2.2.1,q47.2.2.2.2,a50,c50,((z0++[nZ]).set (Int.toNat (z0.length:Int)) q47.1),xs54,m2,hL54,fA u v hF⟩
     replace hF:=hF.2
     refine OkME.tail rfl rfl (OpOk.w1 3 ?_)
     refine OkME.l1 r1.1 ?_
     obtain ⟨h056,h156,hF⟩:=hF
     have H3:=get_of (l:=(z0++[nZ])) default h156
     generalize hg56:((z0++[nZ]).getD (Int.toNat (z0.length:Int)) default)=e56 at H3 hF ⊢
     refine OkME.tail rfl rfl (OpOk.indexOwn (e:=yJ) 2 rfl R2 rfl rfl underlying22 kr kr h056 H3 rfl fun cs55 _ hr55 X3=>?_)
     have o2:=hr55
     replace o2:=Rep.tree.1 o2
     obtain ⟨_,_,rfl,⟨_,_,rfl,rfl,⟨_,_,rfl,rfl,rfl⟩⟩,⟨K2,Y2,rfl,hm55_3,hr55_3⟩⟩:=o2
     have hR55_3:Rep g48 yJs [.slice K2 e56.kids.length Y2] e56.kids:=⟨K2,Y2,rfl,hm55_3,hr55_3⟩
     replace X3:∀ j v,((lJ e56 K2 Y2):List Value)[j]? = some v→E3[Int.toNat (z0.length:Int) * 4+j]? = some v:=X3
     refine OkME.l1 r1.1 (OkME.tail rfl rfl (OpOk.storeOwn (e:=yJ) (q:=Int.toNat (z0.length:Int)) (cells:=(lJ e56 K2 Y2)) (vs:=(lJ q47.1 i1 Z1)) (el':=q47.1) 2 0 4 rfl R2 X3 kr rfl rfl rfl kr kr kr kr kr (show Rep _ _ (lJ q47.1 i1 Z1) _ from (Rep.tree.2 ⟨[iv q47.1.lab.1,iv q47.1.lab.2.1,sv q47.1.lab.2.2],[.slice i1 q47.1.kids.length Z1],rfl,⟨[iv q47.1.lab.1],[iv q47.1.lab.2.1,sv q47.1.lab.2.2],rfl,rfl,⟨[iv q47.1.lab.2.1],[sv q47.1.lab.2.2],rfl,rfl,rfl⟩⟩,h2⟩)) fun xs57 hL57=>?_))
     rw [show (z0++[nZ]).length=((z0++[nZ]).set (Int.toNat (z0.length:Int)) q47.1).length from (List.length_set ..).symm]
     refine OkME.l1 r1.1 (OkME.nil (Ok.leafE (Ok.fine (.inr rfl) (Ok.back (vs:=[]) (.inr rfl) rfl .nil rfl ?_))))
     subst hg56
     exact fun _ _ u v=>⟨g48,r1,O2,P2,q47.2.1,q47.2.2.1,q47.2.2.2.1,q47.2.2.2.2,a50,c50,((z0++[nZ]).set (Int.toNat (z0.length:Int)) q47.1),xs57,m2,hL57,fA u v hF⟩
    replace hF:=hF.2
    have d3:RepL I0 yJ (lY:List Value) [nZ]:=(RepL.consN (c:=lY) (Rep.tree.2 ⟨[iv 0,iv 0,sv Bz],[.slice none 0 0],rfl,⟨[iv 0],[iv 0,sv Bz],rfl,rfl,⟨[iv 0],[sv Bz],rfl,rfl,rfl⟩⟩,Rep.nil⟩) rfl)
    refine OkME.tail rfl rfl (OpOk.li d3 fun b58=>?_)
    refine OkME.l1 (Gle.refl _) ?_
    obtain ⟨hp59,hF,hz60⟩:=hF
    refine OkME.en [1,0,2,3,4,5,6] ?_
    refine OkME.tail rfl rfl (OpOk.cp (ih_pex _ (n0,t0,l0,a0) n1 hp59) (pH (Gext.r w0 I0) hz60) fun g61 _ _ t1 hV61=>?_)
    obtain ⟨q60,hq60,V1,Q1,T2,L2,rfl,p2,r2,rfl⟩:=hV61
    replace hF:=hF _ hq60
    replace m0:=m0.mono t1.1
    replace d3:=d3.mono t1.1
    refine OkME.l1 t1.1 ?_
    obtain ⟨hb62,hF⟩:=hF
    refine OkME.tail rfl rfl (OpOk.append' (e:=yJ) 56 2513169434916 2 1 rfl rfl rfl rfl m0 d3 underlying22 kr kr kr hb62 rfl fun a62 c62 M3 A2=>?_)
    refine OkME.l1 t1.1 (OkME.batch 1 [(5,.agg (aJ q60.1 V1 Q1)),(6,iv (z0.length:Int)),(8,.slice a62 (z0++[nZ]).length c62),(10,pv bs4 3)] kr (OkME.nil (Ok.bothE rfl rfl ?_ ?_)))
    ·replace hF:=hF.1
     obtain ⟨h064,h164,hF⟩:=hF
     have N3:=get_of (l:=(z0++[nZ])) default h164
     generalize O3:((z0++[nZ]).getD (Int.toNat (z0.length:Int)) default)=e64 at N3 hF ⊢
     refine OkME.tail rfl rfl (OpOk.indexOwn (e:=yJ) 2 rfl A2 rfl rfl underlying22 kr kr h064 N3 rfl fun cs63 _ hr63 e3=>?_)
     have t2:=hr63
     replace t2:=Rep.tree.1 t2
     obtain ⟨_,_,rfl,⟨_,_,rfl,rfl,⟨_,_,rfl,rfl,rfl⟩⟩,⟨b2,c2,rfl,hm63_3,hr63_3⟩⟩:=t2
     have hR63_3:Rep g61 yJs [.slice b2 e64.kids.length c2] e64.kids:=⟨b2,c2,rfl,hm63_3,hr63_3⟩
     replace e3:∀ j v,((lJ e64 b2 c2):List Value)[j]? = some v→M3[Int.toNat (z0.length:Int) * 4+j]? = some v:=e3
     refine OkME.l1 t1.1 (OkME.nil (Ok.bothE rfl rfl ?_ ?_))
     ·replace hF:=hF.1
      refine OkME.tail rfl rfl (OpOk.storeOwn (e:=yJ) (q:=Int.toNat (z0.length:Int)) (cells:=(lJ e64 b2 c2)) (vs:=(lJ q60.1 V1 Q1)) (el':=q60.1) 2 0 4 rfl A2 e3 kr rfl rfl rfl kr kr kr kr kr (show Rep _ _ (lJ q60.1 V1 Q1) _ from (Rep.tree.2 ⟨[iv q60.1.lab.1,iv q60.1.lab.2.1,sv q60.1.lab.2.2],[.slice V1 q60.1.kids.length Q1],rfl,⟨[iv q60.1.lab.1],[iv q60.1.lab.2.1,sv q60.1.lab.2.2],rfl,rfl,⟨[iv q60.1.lab.2.1],[sv q60.1.lab.2.2],rfl,rfl,rfl⟩⟩,p2⟩)) fun xs65 hL65=>?_)
      rw [show (z0++[nZ]).length=((z0++[nZ]).set (Int.toNat (z0.length:Int)) q60.1).length from (List.length_set ..).symm]
      refine OkME.l1 t1.1 (OkME.tail rfl rfl (OpOk.w1 3 ?_))
      refine OkME.l1 t1.1 (OkME.nil (Ok.leafE (Ok.fine (.inr rfl) (Ok.back (vs:=[]) (.inr rfl) rfl .nil rfl ?_))))
      subst O3
      exact fun _ _ u v=>⟨g61,t1,T2,L2,q60.2.1,q60.2.2.1,q60.2.2.2.1,q60.2.2.2.2,a62,c62,((z0++[nZ]).set (Int.toNat (z0.length:Int)) q60.1),xs65,r2,hL65,fA u v hF⟩
     replace hF:=hF.2
     refine OkME.tail rfl rfl (OpOk.w1 3 ?_)
     refine OkME.l1 t1.1 (OkME.tail rfl rfl (OpOk.storeOwn (e:=yJ) (q:=Int.toNat (z0.length:Int)) (cells:=(lJ e64 b2 c2)) (vs:=(lJ q60.1 V1 Q1)) (el':=q60.1) 2 0 4 rfl A2 e3 kr rfl rfl rfl kr kr kr kr kr (show Rep _ _ (lJ q60.1 V1 Q1) _ from (Rep.tree.2 ⟨[iv q60.1.lab.1,iv q60.1.lab.2.1,sv q60.1.lab.2.2],[.slice V1 q60.1.kids.length Q1],rfl,⟨[iv q60.1.lab.1],[iv q60.1.lab.2.1,sv q60.1.lab.2.2],rfl,rfl,⟨[iv q60.1.lab.2.1],[sv q60.1.lab.2.2],rfl,rfl,rfl⟩⟩,p2⟩)) fun xs66 hL66=>?_))
     rw [show (z0++[nZ]).length=((z0++[nZ]).set (Int.toNat (z0.length:Int)) q60.1).length from (List.length_set ..).symm]
     refine OkME.l1 t1.1 (OkME.nil (Ok.leafE (Ok.fine (.inr rfl) (Ok.back (vs:=[]) (.inr rfl) rfl .nil rfl ?_))))
     subst O3
     exact fun _ _ u v=>⟨g61,t1,T2,L2,q60.2.1,q60.2.2.1,q60.2.2.2.1,q60.2.2.2.2,a62,c62,((z0++[nZ]).set (Int.toNat (z0.length:Int)) q60.1),xs66,r2,hL66,fA u v hF⟩
    replace hF:=hF.2
    refine OkME.tail rfl rfl (OpOk.w1 3 ?_)
    refine OkME.l1 t1.1 ?_
    obtain ⟨h068,h168,hF⟩:=hF
    have P3:=get_of (l:=(z0++[nZ])) default h168
    generalize hg68:((z0++[nZ]).getD (Int.toNat (z0.length:Int)) default)=e68 at P3 hF ⊢
    refine OkME.tail rfl rfl (OpOk.indexOwn (e:=yJ) 2 rfl A2 rfl rfl underlying22 kr kr h068 P3 rfl fun cs67 _ hr67 S3=>?_)
    have l2:=hr67
    replace l2:=Rep.tree.1 l2
    obtain ⟨_,_,rfl,⟨_,_,rfl,rfl,⟨_,_,rfl,rfl,rfl⟩⟩,⟨U2,J2,rfl,hm67_3,hr67_3⟩⟩:=l2
    have hR67_3:Rep g61 yJs [.slice U2 e68.kids.length J2] e68.kids:=⟨U2,J2,rfl,hm67_3,hr67_3⟩
    replace S3:∀ j v,((lJ e68 U2 J2):List Value)[j]? = some v→M3[Int.toNat (z0.length:Int) * 4+j]? = some v:=S3
    refine OkME.l1 t1.1 (OkME.tail rfl rfl (OpOk.storeOwn (e:=yJ) (q:=Int.toNat (z0.length:Int)) (cells:=(lJ e68 U2 J2)) (vs:=(lJ q60.1 V1 Q1)) (el':=q60.1) 2 0 4 rfl A2 S3 kr rfl rfl rfl kr kr kr kr kr (show Rep _ _ (lJ q60.1 V1 Q1) _ from (Rep.tree.2 ⟨[iv q60.1.lab.1,iv q60.1.lab.2.1,sv q60.1.lab.2.2],[.slice V1 q60.1.kids.length Q1],rfl,⟨[iv q60.1.lab.1],[iv q60.1.lab.2.1,sv q60.1.lab.2.2],rfl,rfl,⟨[iv q60.1.lab.2.1],[sv q60.1.lab.2.2],rfl,rfl,rfl⟩⟩,p2⟩)) fun xs69 hL69=>?_))
    rw [show (z0++[nZ]).length=((z0++[nZ]).set (Int.toNat (z0.length:Int)) q60.1).length from (List.length_set ..).symm]
    refine OkME.l1 t1.1 (OkME.nil (Ok.leafE (Ok.fine (.inr rfl) (Ok.back (vs:=[]) (.inr rfl) rfl .nil rfl ?_))))
    subst hg68
    exact fun _ _ u v=>⟨g61,t1,T2,L2,q60.2.1,q60.2.2.1,q60.2.2.2.1,q60.2.2.2.2,a62,c62,((z0++[nZ]).set (Int.toNat (z0.length:Int)) q60.1),xs69,r2,hL69,fA u v hF⟩
   clear hF
   rintro _ _ ⟨R1,I2,q1,k1,X0,D0,E0,F0,O0,P0,Q0,B0,hRybxp_0ji48,hLyown42_0ji48,q⟩
   refine jn (fun hF=>?_) _ _ q
   refine Ok.j (Ok.kn (Ok.t (Ok.r (Ok.b 3 [0,1,2] [(6,iv (w6 (o0+1)))] ?_))))
   refine Ok.j (Ok.t ?_)
   exact fun a W hA hW=>⟨k4x1,nl,R1,(((J1.trans B2).trans W1).trans I2),w6 (o0+1),O0,P0,Q0,B0,q1,k1,X0,D0,E0,F0,hLyown42_0ji48,hRybxp_0ji48,hA.sub kr,hW.pick [1,2,0,3,4,5] _ dc rfl,hF⟩
  refine Ok.x (Ok.thenE (Ok.thenE (Ok.blockHit (Ok.fine (.inr rfl) (Ok.back (vs:=[]) (.inr rfl) rfl .nil rfl (Ok.nt (Ok.sr (Ok.o (OpOk.s (v:=.agg (aM 6 0 Bz f0 z0 g0)) (Yields.loadAgg 2 4 (aM 6 0 Bz f0 z0 g0) rfl rfl underlying24 rfl kr kr kr) rfl rfl (Ok.o (OpOk.w 3 ?_)))))))))))
  refine Ok.nt (Ok.ret (Ok.kr (Ok.tr (Ok.frz 1 rfl m0 fun g74 B3 hRf74=>?_))))
  replace E1:=E1.mono B3.1
  exact Ok.fine (.inl rfl) (Ok.p (vs:=[.agg (aM 6 0 Bz f0 z0 g0)]) [0] [.blk bxp (.cells (aP (pisS (q0,y0,u0,j0) Bu).2 V2 Q2) 48)] dc rfl (.inl rfl) rfl (.cons (.cellAgg 2 4 (aM 6 0 Bz f0 z0 g0) rfl rfl underlying24 rfl kr kr kr) .nil) ((((((((hx5.trans m1).trans o1).trans K1).trans U1).trans C1).trans J1).trans B2).trans B3) ⟨(Tree.mk (6,0,Bz) z0),(pisS (q0,y0,u0,j0) Bu).2,f0,g0,V2,Q2,rfl,hRf74,E1,rfl,hF⟩)
 refine Ok.sr (Ok.o (OpOk.s (v:=pv bxp 0) (Yields.l 4 rfl rfl underlying46 rfl kr) rfl rfl ?_))
 obtain ⟨hp75,hF⟩:=hF
 refine Ok.o (OpOk.ch (pis_c (pisS (pisS (pisS (pisS (pisS xp Bq).2 Bn).2 Bg).2 Bh).2 Bw).2 Bc N2 hp75) fun g76 _ _ z2 hV76=>?_)
 obtain ⟨a76_0,c76_0,rfl,z3,rfl⟩:=hV76
 refine Ok.b 1 [1,2] [(71,.bool (pisS (pisS (pisS (pisS (pisS (pisS xp Bq).2 Bn).2 Bg).2 Bh).2 Bw).2 Bc).1)] ?_
 refine Ok.nt (Ok.cw hF (fun hc77 hF=>?_) (fun hc77 hF=>?_))
 ·refine Ok.sr (Ok.b 1 [1,2] [(74,.agg #[iv 7,iv 0,sv Bz,.slice none 0 0])] ?_)
  have hL78:RepL g76 yJ [] []:=rfl
  refine Ok.ownNil 24 4 (Ok.o (OpOk.aw aZ fun bs5=>?_))
  have hL80:RepL g76 yJ [] []:=rfl
  refine Ok.ownNil 24 4 (Ok.o (OpOk.w 1 ?_))
  refine Ok.nt (Ok.sr (Ok.rn 2 [.e 7] [2] [(5,pv bs5 0),(75,pv bxp 0),(76,.func (.func 96) #[] #[pv bs1 0,pv bs5 0])] ?_))
  refine Ok.o (OpOk.inlineP (pv:=.iface 44 (.agg #[])) (args:=#[pv bxp 0,sv Bv,.func (.func 96) #[] #[pv bs1 0,pv bs5 0]]) 19 [(0,pv bxp 0),(1,sv Bv),(2,.func (.func 96) #[] #[pv bs1 0,pv bs5 0])] enr func65 rfl rfl rfl rfl (Ok.sr (Ok.B 1 [(0,pv bxp 0),(1,sv Bv),(2,.func (.func 96) #[] #[pv bs1 0,pv bs5 0]),(6,iv 0)] kr (Ok.nt (Ok.block ?_)))))
  obtain ⟨k,hF⟩:=hF
  refine Ok.L (fun k a W=>∃ F1:Ghost,Gext w0 g76 F1∧∃ (Z0:Int) (c0:Option Addr) (d0:Nat) (v0:List JN) (i0:List Value) (e1:Option Addr) (f1:Nat) (k0:List TK) (x0:Int) (s0:Bool) (b0:Bool),RepL F1 yJ i0 v0∧Rep F1 yTs [.slice e1 k0.length f1] k0∧StA 19 [(0,pv bxp 0),(1,sv Bv),(2,.func (.func 96) #[] #[pv bs1 0,pv bs5 0]),(6,iv Z0)] a∧StW w0 [.own (.slice c0 v0.length d0) 24 4 v0.length i0,.blk bs5 (.cells (aM 7 0 Bz c0 v0 d0) 24),.blk bxp (.cells #[.slice e1 k0.length f1,iv x0,.bool s0,.bool b0] 48),.blk bs2 (.cells aZ 24),.own (.slice none jZ.length 0) 24 4 jZ.length ([]),.blk bs1 (.cells #[pv bxp 0] 46)] F1 W∧pfil4x2 N K Z k Z0 v0 k0 x0 s0 b0) k ?_ ?_
  ·
   exact fun _ _ u v=>⟨g76,Gext.r w0 g76,0,none,0,jZ,[],a76_0,c76_0,(pisS (pisS (pisS (pisS (pisS (pisS xp Bq).2 Bn).2 Bg).2 Bh).2 Bw).2 Bc).2.1,(pisS (pisS (pisS (pisS (pisS (pisS xp Bq).2 Bn).2 Bg).2 Bh).2 Bw).2 Bc).2.2.1,(pisS (pisS (pisS (pisS (pisS (pisS xp Bq).2 Bn).2 Bg).2 Bh).2 Bw).2 Bc).2.2.2.1,(pisS (pisS (pisS (pisS (pisS (pisS xp Bq).2 Bn).2 Bg).2 Bh).2 Bw).2 Bc).2.2.2.2,hL80,z3,fA u v hF⟩
  clear hF
  rintro (_ | k4x2) _ _ ⟨F1,y1,Z0,c0,d0,v0,i0,e1,f1,k0,x0,s0,b0,e0,hRybxp_0l4i77,q⟩
  exact (q.2.2:False).elim
  refine jn (fun hF=>?_) _ _ q
  refine Ok.q (Ok.sr (Ok.b 2 [0,1,2,6] [(7,pv bxp 0),(8,sv Bv)] ?_))
  obtain ⟨hp81,hF⟩:=hF
  refine Ok.en [2,0,1,3,4,5] ?_
  refine Ok.o (OpOk.ch (pis_c (k0,x0,s0,b0) Bv hRybxp_0l4i77 hp81) fun g82 _ _ v2 hV82=>?_)
  obtain ⟨W2,X2,rfl,G1,rfl⟩:=hV82
  replace e0:=e0.mono v2.1
  refine Ok.b 1 [0,1,2,6] [(10,.bool (!(pisS (k0,x0,s0,b0) Bv).1))] ?_
  refine Ok.nt (Ok.cw hF (fun hc83 hF=>?_) (fun hc83 hF=>?_))
  ·refine Ok.k (Ok.t (Ok.q (Ok.block (Ok.cut (fun a W=>∃ X1:Ghost,Gext w0 g82 X1∧∃ (R0:Option Addr) (T0:Nat) (V0:List TK) (Y0:Int) (U0:Bool) (J0:Bool),Rep X1 yTs [.slice R0 V0.length T0] V0∧StA 19 [(0,pv bxp 0),(1,sv Bv),(2,.func (.func 96) #[] #[pv bs1 0,pv bs5 0]),(6,iv Z0)] a∧StW w0 [.blk bxp (.cells #[.slice R0 V0.length T0,iv Y0,.bool U0,.bool J0] 48),.own (.slice c0 v0.length d0) 24 4 v0.length i0,.blk bs5 (.cells (aM 7 0 Bz c0 v0 d0) 24),.blk bs2 (.cells aZ 24),.own (.slice none jZ.length 0) 24 4 jZ.length ([]),.blk bs1 (.cells #[pv bxp 0] 46)] X1 W∧pfij13i77 N Z Z0 V0 Y0 U0 J0 v0 (pfil4x2 N K Z k4x2)) ?_ ?_))))
   ·
    refine Ok.sr (Ok.b 2 [0,1,2,6] [(14,.bool (decide (Z0>0)))] ?_)
    refine Ok.nt (Ok.cw hF (fun hc107 hF=>?_) (fun hc107 hF=>?_))
    ·refine Ok.r (Ok.b 1 [0,1,2,6] [(15,pv bxp 0)] ?_)
     obtain ⟨hp108,hF,hz109⟩:=hF
     refine Ok.o (OpOk.callP [.blk bxp (.cells (aP (pisS (k0,x0,s0,b0) Bv).2 W2 X2) 48)] [.own (.slice c0 v0.length d0) 24 4 v0.length i0,.blk bs5 (.cells (aM 7 0 Bz c0 v0 d0) 24),.blk bs2 (.cells aZ 24),.own (.slice none jZ.length 0) 24 4 jZ.length ([]),.blk bs1 (.cells #[pv bxp 0] 46)] enr rfl (pmu_c (pisS (k0,x0,s0,b0) Bv).2 Bo G1 hp108) rfl (PanTo.up ((((((((hx5.trans m1).trans o1).trans K1).trans U1).trans C1).trans z2).trans y1).trans v2) (fun z a W hd hW=>panIn a hd (fun a1 hA1=>panTop (hz109 z) a1 W hA1.defers hW))) fun g110 _ _ v3 hV110=>?_)
     obtain ⟨P1,hq109,a110_0,c110_0,rfl,hR110_0,rfl⟩:=hV110
     replace hF:=hF _ hq109
     replace e0:=e0.mono v3.1
     refine Ok.j (Ok.t ?_)
     exact fun _ _ u v=>⟨g110,v3,a110_0,c110_0,P1.1,P1.2.1,P1.2.2.1,P1.2.2.2,hR110_0,fA u v hF⟩
    refine Ok.k (Ok.t ?_)
    exact fun _ _ u v=>⟨g82,Gext.r w0 g82,W2,X2,(pisS (k0,x0,s0,b0) Bv).2.1,(pisS (k0,x0,s0,b0) Bv).2.2.1,(pisS (k0,x0,s0,b0) Bv).2.2.2.1,(pisS (k0,x0,s0,b0) Bv).2.2.2.2,G1,fA u v hF⟩
   clear hF
   rintro _ _ ⟨X1,v1,R0,T0,V0,Y0,U0,J0,hRybxp_0j13i77,q⟩
   refine jn (fun hF=>?_) _ _ q
   replace e0:=e0.mono v1.1
   refine Ok.r (Ok.b 1 [0,1,2,6] [(17,.func (.func 96) #[] #[pv bs1 0,pv bs5 0])] ?_)
   refine Ok.o (OpOk.cutQ (fun a W=>∃ T1:Ghost,Gext w0 X1 T1∧∃ (u1:Option Addr) (j1:Nat) (S0:List TK) (G0:Int) (H0:Bool) (M0:Bool) (L0:Option Addr) (A0:Nat) (K0:List JN) (C0:List Value),Rep T1 yTs [.slice u1 S0.length j1] S0∧RepL T1 yJ C0 K0∧StA 19 [(0,pv bxp 0),(1,sv Bv),(2,.func (.func 96) #[] #[pv bs1 0,pv bs5 0]),(6,iv Z0)] a∧StW w0 [.blk bxp (.cells #[.slice u1 S0.length j1,iv G0,.bool H0,.bool M0] 48),.own (.slice L0 K0.length A0) 24 4 K0.length C0,.blk bs5 (.cells (aM 7 0 Bz L0 K0 A0) 24),.blk bs2 (.cells aZ 24),.own (.slice none jZ.length 0) 24 4 jZ.length ([]),.blk bs1 (.cells #[pv bxp 0] 46)] T1 W∧pfiji58 Z0 (pfil4x2 N K Z k4x2) S0 G0 H0 M0 K0) ?_ ?_)
   ·
    refine OpOk.inlineP (pv:=.iface 44 (.agg #[])) (args:=#[pv bs1 0,pv bs5 0]) 20 [(0,pv bs1 0),(1,pv bs5 0)] enr func96 rfl rfl rfl rfl (Ok.sr (Ok.o (OpOk.s (v:=pv bxp 0) (Yields.l 5 rfl rfl underlying46 rfl kr) rfl rfl ?_)))
    obtain ⟨hp84,hF,hz85⟩:=hF
    refine Ok.o (OpOk.callP [.blk bxp (.cells #[.slice R0 V0.length T0,iv Y0,.bool U0,.bool J0] 48)] [.own (.slice c0 v0.length d0) 24 4 v0.length i0,.blk bs5 (.cells (aM 7 0 Bz c0 v0 d0) 24),.blk bs2 (.cells aZ 24),.own (.slice none jZ.length 0) 24 4 jZ.length ([]),.blk bs1 (.cells #[pv bxp 0] 46)] enr rfl (pnm_c (V0,Y0,U0,J0) hRybxp_0j13i77 hp84) rfl (PanTo.up (((((((((hx5.trans m1).trans o1).trans K1).trans U1).trans C1).trans z2).trans y1).trans v2).trans v1) (fun z a W hd hW=>panIn a hd (fun a1 hA1=>panIn a1 hA1.defers (fun a2 hA2=>panTop (hz85 z) a2 W hA2.defers hW)))) fun g86 _ _ d2 hV86=>?_)
    obtain ⟨q85,hq85,a86_0,c86_0,rfl,hR86_0,rfl⟩:=hV86
    replace hF:=hF _ hq85
    replace e0:=e0.mono d2.1
    refine Ok.B 1 [(0,pv bs1 0),(1,pv bs5 0),(5,.agg #[iv 8,iv 0,sv q85.1,.slice none 0 0])] kr ?_
    have C2:RepL g86 yJ [] []:=rfl
    refine Ok.ownNil 24 4 (Ok.o (OpOk.aw aZ fun z1=>?_))
    have D2:RepL g86 yJ [] []:=rfl
    refine Ok.ownNil 24 4 (Ok.o (OpOk.w 1 ?_))
    refine Ok.nt (Ok.sr (Ok.o (OpOk.s (v:=pv bxp 0) (Yields.l 8 rfl rfl underlying46 rfl kr) rfl rfl ?_)))
    obtain ⟨hp90,hF,hz91⟩:=hF
    refine Ok.en [3,0,1,2,4,5,6,7,8] ?_
    refine Ok.o (OpOk.callP [.blk bxp (.cells (aP q85.2 a86_0 c86_0) 48)] [.own (.slice none jZ.length 0) 24 4 jZ.length ([]),.blk z1 (.cells (aM 8 0 q85.1 none jZ 0) 24),.own (.slice none jZ.length 0) 24 4 jZ.length ([]),.own (.slice c0 v0.length d0) 24 4 v0.length i0,.blk bs5 (.cells (aM 7 0 Bz c0 v0 d0) 24),.blk bs2 (.cells aZ 24),.own (.slice none jZ.length 0) 24 4 jZ.length ([]),.blk bs1 (.cells #[pv bxp 0] 46)] enr rfl (pmu_c q85.2 Ba hR86_0 hp90) rfl (PanTo.up ((((((((((hx5.trans m1).trans o1).trans K1).trans U1).trans C1).trans z2).trans y1).trans v2).trans v1).trans d2) (fun z a W hd hW=>panIn a hd (fun a1 hA1=>panIn a1 hA1.defers (fun a2 hA2=>panTop (hz91 z) a2 W hA2.defers hW)))) fun g92 _ _ q2 hV92=>?_)
    obtain ⟨q91,hq91,a92_0,c92_0,rfl,hR92_0,rfl⟩:=hV92
    replace hF:=hF _ hq91
    replace e0:=e0.mono q2.1
    refine Ok.nt (Ok.sr (Ok.o (OpOk.s (v:=pv bxp 0) (Yields.l 8 rfl rfl underlying46 rfl kr) rfl rfl ?_)))
    obtain ⟨hp93,hF,hz94⟩:=hF
    refine Ok.o (OpOk.callP [.blk bxp (.cells (aP q91 a92_0 c92_0) 48)] [.own (.slice none jZ.length 0) 24 4 jZ.length ([]),.blk z1 (.cells (aM 8 0 q85.1 none jZ 0) 24),.own (.slice none jZ.length 0) 24 4 jZ.length ([]),.own (.slice c0 v0.length d0) 24 4 v0.length i0,.blk bs5 (.cells (aM 7 0 Bz c0 v0 d0) 24),.blk bs2 (.cells aZ 24),.own (.slice none jZ.length 0) 24 4 jZ.length ([]),.blk bs1 (.cells #[pv bxp 0] 46)] enr rfl (ih_pex _ q91 hR92_0 hp93) rfl (PanTo.up (((((((((((hx5.trans m1).trans o1).trans K1).trans U1).trans C1).trans z2).trans y1).trans v2).trans v1).trans d2).trans q2) (fun z a W hd hW=>panIn a hd (fun a1 hA1=>panIn a1 hA1.defers (fun a2 hA2=>panTop (hz94 z) a2 W hA2.defers hW)))) fun g95 _ _ e2 hV95=>?_)
    obtain ⟨q94,hq94,q3,k3,f2,g2,rfl,hR95_0,H1,rfl⟩:=hV95
    replace hF:=hF _ hq94
    replace e0:=e0.mono e2.1
    have R3:RepL g95 yJ ((lJ q94.1 q3 k3):List Value) ([q94.1]:List JN):=(RepL.consN (c:=(lJ q94.1 q3 k3)) (Rep.tree.2 ⟨[iv q94.1.lab.1,iv q94.1.lab.2.1,sv q94.1.lab.2.2],[.slice q3 q94.1.kids.length k3],rfl,⟨[iv q94.1.lab.1],[iv q94.1.lab.2.1,sv q94.1.lab.2.2],rfl,rfl,⟨[iv q94.1.lab.2.1],[sv q94.1.lab.2.2],rfl,rfl,rfl⟩⟩,hR95_0⟩) rfl)
    refine Ok.o (OpOk.li R3 fun b96=>?_)
    refine Ok.b 1 [1] [(2,pv z1 0),(10,.slice (some ⟨b96,0,none⟩) ([q94.1]:List JN).length 1),(11,pv z1 3)] ?_
    refine Ok.o (OpOk.w1 3 ?_)
    refine Ok.j (Ok.frz 0 rfl R3 fun g97 k2 y3=>?_)
    replace H1:=H1.mono k2.1
    replace e0:=e0.mono k2.1
    refine Ok.t (Ok.plE (E:=Thr 20 w0 g97 Z (.iface 44 (.agg #[]))) Thr.put (Thr.to (PanTo.up (((((((((((((hx5.trans m1).trans o1).trans K1).trans U1).trans C1).trans z2).trans y1).trans v2).trans v1).trans d2).trans q2).trans e2).trans k2) (fun z a W hd hW=>panIn a hd (fun a1 hA1=>panIn a1 hA1.defers (fun a2 hA2=>panTop z a2 W hA2.defers hW))))) [0,1,2,3] [4] [.blk bxp (.cells (aP q94.2 f2 g2) 48),.own (.slice none jZ.length 0) 24 4 jZ.length ([]),.blk z1 (.cells (aM 8 0 q85.1 (some ⟨b96,0,none⟩) ([q94.1]:List JN) 1) 24),.own (.slice none jZ.length 0) 24 4 jZ.length ([]),.own (.slice c0 v0.length d0) 24 4 v0.length i0,.blk bs5 (.cells (aM 7 0 Bz c0 v0 d0) 24),.blk bs2 (.cells aZ 24),.own (.slice none jZ.length 0) 24 4 jZ.length ([]),.blk bs1 (.cells #[pv bxp 0] 46)] [.blk bxp (.cells (aP q94.2 f2 g2) 48),.own (.slice none jZ.length 0) 24 4 jZ.length ([]),.blk z1 (.cells (aM 8 0 q85.1 (some ⟨b96,0,none⟩) ([q94.1]:List JN) 1) 24),.own (.slice none jZ.length 0) 24 4 jZ.length ([]),.blk bs2 (.cells aZ 24),.own (.slice none jZ.length 0) 24 4 jZ.length ([]),.blk bs1 (.cells #[pv bxp 0] 46)] [(0,true),(1,true),(2,true),(3,true),(4,false),(5,false),(8,true)] 6 (.fork [] 7 (.leaf [(9,false)]) 9 (.leaf [(7,false)])) 9 (.leaf [(6,false),(7,false)]) kr kr (.cons_cons _ (.cons_cons _ (.cons_cons _ (.cons_cons _ (.cons _ (.cons _ (.cons_cons _ (.cons_cons _ (.cons_cons _ .slnil))))))))) (List.Sublist.refl _) ?_)
    refine OkME.bat 1 [1,2] [(12,pv bs5 3)] ?_
    refine OkME.hd (OpQ.s (v:=.slice c0 v0.length d0) (Yields.l 5 rfl rfl underlying22 rfl kr) rfl rfl ?_)
    refine OkME.hd (OpQ.s (v:=.agg (aM 8 0 q85.1 (some ⟨b96,0,none⟩) ([q94.1]:List JN) 1)) (Yields.loadAgg 2 4 (aM 8 0 q85.1 (some ⟨b96,0,none⟩) ([q94.1]:List JN) 1) rfl rfl underlying24 rfl kr kr kr) rfl rfl ?_)
    refine OkME.bat 1 [1] [(13,.slice c0 v0.length d0),(14,.agg (aM 8 0 q85.1 (some ⟨b96,0,none⟩) ([q94.1]:List JN) 1)),(15,iv (v0.length:Int))] ?_
    have T3:RepL g97 yJ (lY:List Value) [nZ]:=(RepL.consN (c:=lY) (Rep.tree.2 ⟨[iv 0,iv 0,sv Bz],[.slice none 0 0],rfl,⟨[iv 0],[iv 0,sv Bz],rfl,rfl,⟨[iv 0],[sv Bz],rfl,rfl,rfl⟩⟩,Rep.nil⟩) rfl)
    refine OkME.tail rfl rfl (OpOk.li T3 fun b98=>?_)
    refine OkME.l1 (Gle.refl _) ?_
    obtain ⟨hb99,hF⟩:=hF
    refine OkME.tail rfl rfl (OpOk.append' (e:=yJ) 56 2513169434916 5 0 rfl rfl rfl rfl e0 T3 underlying22 kr kr kr hb99 rfl fun a99 c99 L3 u3=>?_)
    refine OkME.l1 (Gle.refl _) (OkME.bat 1 [14,15] [(17,.slice a99 (v0++[nZ]).length c99),(19,pv bs5 3)] ?_)
    refine OkME.nil (Ok.bothE rfl rfl ?_ ?_)
    ·replace hF:=hF.1
     obtain ⟨h0101,h1101,hF⟩:=hF
     have a3:=get_of (l:=(v0++[nZ])) default h1101
     generalize i3:((v0++[nZ]).getD (Int.toNat (v0.length:Int)) default)=Y1 at a3 hF ⊢
     refine OkME.tail rfl rfl (OpOk.indexOwn (e:=yJ) 5 rfl u3 rfl rfl underlying22 kr kr h0101 a3 rfl fun cs100 _ hr100 S2=>?_)
     have y2:=hr100
     replace y2:=Rep.tree.1 y2
     obtain ⟨_,_,rfl,⟨_,_,rfl,rfl,⟨_,_,rfl,rfl,rfl⟩⟩,⟨M1,N1,rfl,hm100_3,hr100_3⟩⟩:=y2
     have hR100_3:Rep g97 yJs [.slice M1 Y1.kids.length N1] Y1.kids:=⟨M1,N1,rfl,hm100_3,hr100_3⟩
     replace S2:∀ j v,((lJ Y1 M1 N1):List Value)[j]? = some v→L3[Int.toNat (v0.length:Int) * 4+j]? = some v:=S2
     refine OkME.l1 (Gle.refl _) (OkME.nil (Ok.bothE rfl rfl ?_ ?_))
     ·replace hF:=hF.1
      refine OkME.tail rfl rfl (OpOk.storeOwn (e:=yJ) (q:=Int.toNat (v0.length:Int)) (cells:=(lJ Y1 M1 N1)) (vs:=(lM 8 0 q85.1 (some ⟨b96,0,none⟩) ([q94.1]:List JN) 1)) (el':=(Tree.mk (8,0,q85.1) ([q94.1]:List JN))) 5 0 4 rfl u3 S2 kr rfl rfl rfl kr kr kr kr kr (show Rep _ _ (lM 8 0 q85.1 (some ⟨b96,0,none⟩) ([q94.1]:List JN) 1) _ from (Rep.tree.2 ⟨[iv 8,iv 0,sv q85.1],[.slice (some ⟨b96,0,none⟩) ([q94.1]:List JN).length 1],rfl,⟨[iv 8],[iv 0,sv q85.1],rfl,rfl,⟨[iv 0],[sv q85.1],rfl,rfl,rfl⟩⟩,y3⟩)) fun xs102 hL102=>?_)
      rw [show (v0++[nZ]).length=((v0++[nZ]).set (Int.toNat (v0.length:Int)) (Tree.mk (8,0,q85.1) ([q94.1]:List JN))).length from (List.length_set ..).symm]
      refine OkME.l1 (Gle.refl _) (OkME.tail rfl rfl (OpOk.w1 6 ?_))
      refine OkME.l1 (Gle.refl _) (OkME.nil (Ok.leafE (Ok.fine (.inr rfl) (Ok.back (vs:=[]) (.inr rfl) rfl .nil rfl ?_))))
      subst i3
      exact fun _ _ u v=>⟨g97,(((d2.trans q2).trans e2).trans k2),f2,g2,q94.2.1,q94.2.2.1,q94.2.2.2.1,q94.2.2.2.2,a99,c99,((v0++[nZ]).set (Int.toNat (v0.length:Int)) (Tree.mk (8,0,q85.1) ([q94.1]:List JN))),xs102,H1,hL102,fA u v hF⟩
     replace hF:=hF.2
     refine OkME.tail rfl rfl (OpOk.w1 6 ?_)
     refine OkME.l1 (Gle.refl _) (OkME.tail rfl rfl (OpOk.storeOwn (e:=yJ) (q:=Int.toNat (v0.length:Int)) (cells:=(lJ Y1 M1 N1)) (vs:=(lM 8 0 q85.1 (some ⟨b96,0,none⟩) ([q94.1]:List JN) 1)) (el':=(Tree.mk (8,0,q85.1) ([q94.1]:List JN))) 5 0 4 rfl u3 S2 kr rfl rfl rfl kr kr kr kr kr (show Rep _ _ (lM 8 0 q85.1 (some ⟨b96,0,none⟩) ([q94.1]:List JN) 1) _ from (Rep.tree.2 ⟨[iv 8,iv 0,sv q85.1],[.slice (some ⟨b96,0,none⟩) ([q94.1]:List JN).length 1],rfl,⟨[iv 8],[iv 0,sv q85.1],rfl,rfl,⟨[iv 0],[sv q85.1],rfl,rfl,rfl⟩⟩,y3⟩)) fun xs103 hL103=>?_))
     rw [show (v0++[nZ]).length=((v0++[nZ]).set (Int.toNat (v0.length:Int)) (Tree.mk (8,0,q85.1) ([q94.1]:List JN))).length from (List.length_set ..).symm]
     refine OkME.l1 (Gle.refl _) (OkME.nil (Ok.leafE (Ok.fine (.inr rfl) (Ok.back (vs:=[]) (.inr rfl) rfl .nil rfl ?_))))
     subst i3
     exact fun _ _ u v=>⟨g97,(((d2.trans q2).trans e2).trans k2),f2,g2,q94.2.1,q94.2.2.1,q94.2.2.2.1,q94.2.2.2.2,a99,c99,((v0++[nZ]).set (Int.toNat (v0.length:Int)) (Tree.mk (8,0,q85.1) ([q94.1]:List JN))),xs103,H1,hL103,fA u v hF⟩
    replace hF:=hF.2
    refine OkME.tail rfl rfl (OpOk.w1 6 ?_)
    refine OkME.l1 (Gle.refl _) ?_
    obtain ⟨h0105,h1105,hF⟩:=hF
    have Z3:=get_of (l:=(v0++[nZ])) default h1105
    generalize hg105:((v0++[nZ]).getD (Int.toNat (v0.length:Int)) default)=O1 at Z3 hF ⊢
    refine OkME.tail rfl rfl (OpOk.indexOwn (e:=yJ) 5 rfl u3 rfl rfl underlying22 kr kr h0105 Z3 rfl fun cs104 _ hr104 j3=>?_)
    have u2:=hr104
    replace u2:=Rep.tree.1 u2
    obtain ⟨_,_,rfl,⟨_,_,rfl,rfl,⟨_,_,rfl,rfl,rfl⟩⟩,⟨j2,w2,rfl,hm104_3,hr104_3⟩⟩:=u2
    have hR104_3:Rep g97 yJs [.slice j2 O1.kids.length w2] O1.kids:=⟨j2,w2,rfl,hm104_3,hr104_3⟩
    replace j3:∀ j v,((lJ O1 j2 w2):List Value)[j]? = some v→L3[Int.toNat (v0.length:Int) * 4+j]? = some v:=j3
    refine OkME.l1 (Gle.refl _) (OkME.tail rfl rfl (OpOk.storeOwn (e:=yJ) (q:=Int.toNat (v0.length:Int)) (cells:=(lJ O1 j2 w2)) (vs:=(lM 8 0 q85.1 (some ⟨b96,0,none⟩) ([q94.1]:List JN) 1)) (el':=(Tree.mk (8,0,q85.1) ([q94.1]:List JN))) 5 0 4 rfl u3 j3 kr rfl rfl rfl kr kr kr kr kr (show Rep _ _ (lM 8 0 q85.1 (some ⟨b96,0,none⟩) ([q94.1]:List JN) 1) _ from (Rep.tree.2 ⟨[iv 8,iv 0,sv q85.1],[.slice (some ⟨b96,0,none⟩) ([q94.1]:List JN).length 1],rfl,⟨[iv 8],[iv 0,sv q85.1],rfl,rfl,⟨[iv 0],[sv q85.1],rfl,rfl,rfl⟩⟩,y3⟩)) fun xs106 hL106=>?_))
    rw [show (v0++[nZ]).length=((v0++[nZ]).set (Int.toNat (v0.length:Int)) (Tree.mk (8,0,q85.1) ([q94.1]:List JN))).length from (List.length_set ..).symm]
    refine OkME.l1 (Gle.refl _) (OkME.nil (Ok.leafE (Ok.fine (.inr rfl) (Ok.back (vs:=[]) (.inr rfl) rfl .nil rfl ?_))))
    subst hg105
    exact fun _ _ u v=>⟨g97,(((d2.trans q2).trans e2).trans k2),f2,g2,q94.2.1,q94.2.2.1,q94.2.2.2.1,q94.2.2.2.2,a99,c99,((v0++[nZ]).set (Int.toNat (v0.length:Int)) (Tree.mk (8,0,q85.1) ([q94.1]:List JN))),xs106,H1,hL106,fA u v hF⟩
   clear hF
   rintro _ _ ⟨T1,w3,u1,j1,S0,G0,H0,M0,L0,A0,K0,C0,hRybxp_0ji58,hLyown80_0ji58,q⟩
   refine jn (fun hF=>?_) _ _ q
   refine Ok.j (Ok.kn (Ok.t (Ok.r (Ok.b 3 [0,1,2] [(6,iv (w6 (Z0+1)))] ?_))))
   refine Ok.j (Ok.t ?_)
   exact fun a W hA hW=>⟨k4x2,nl,T1,(((y1.trans v2).trans v1).trans w3),w6 (Z0+1),L0,A0,K0,C0,u1,j1,S0,G0,H0,M0,hLyown80_0ji58,hRybxp_0ji58,hA.sub kr,hW.pick [1,2,0,3,4,5] _ dc rfl,hF⟩
  refine Ok.x (Ok.thenE (Ok.thenE (Ok.blockHit (Ok.fine (.inr rfl) (Ok.back (vs:=[]) (.inr rfl) rfl .nil rfl (Ok.nt (Ok.sr (Ok.o (OpOk.s (v:=.agg (aM 7 0 Bz c0 v0 d0)) (Yields.loadAgg 2 4 (aM 7 0 Bz c0 v0 d0) rfl rfl underlying24 rfl kr kr kr) rfl rfl (Ok.o (OpOk.w 3 ?_)))))))))))
  refine Ok.nt (Ok.ret (Ok.kr (Ok.tr (Ok.frz 1 rfl e0 fun g111 x3 hRf111=>?_))))
  replace G1:=G1.mono x3.1
  exact Ok.fine (.inl rfl) (Ok.p (vs:=[.agg (aM 7 0 Bz c0 v0 d0)]) [0] [.blk bxp (.cells (aP (pisS (k0,x0,s0,b0) Bv).2 W2 X2) 48)] dc rfl (.inl rfl) rfl (.cons (.cellAgg 2 4 (aM 7 0 Bz c0 v0 d0) rfl rfl underlying24 rfl kr kr kr) .nil) (((((((((hx5.trans m1).trans o1).trans K1).trans U1).trans C1).trans z2).trans y1).trans v2).trans x3) ⟨(Tree.mk (7,0,Bz) v0),(pisS (k0,x0,s0,b0) Bv).2,c0,d0,W2,X2,rfl,hRf111,G1,rfl,hF⟩)
 refine Ok.k (Ok.kn (Ok.t (Ok.sr (Ok.o (OpOk.s (v:=pv bxp 0) (Yields.l 4 rfl rfl underlying46 rfl kr) rfl rfl ?_)))))
 obtain ⟨hp112,hF,hz113⟩:=hF
 refine Ok.o (OpOk.cp (ih_pin _ (pisS (pisS (pisS (pisS (pisS (pisS xp Bq).2 Bn).2 Bg).2 Bh).2 Bw).2 Bc).2 z3 hp112) (pT ((((((hx5.trans m1).trans o1).trans K1).trans U1).trans C1).trans z2) hz113) fun g114 _ _ V3 hV114=>?_)
 obtain ⟨g1,hq113,i2,Z2,s3,b3,rfl,hR114_0,hR114_2,rfl⟩:=hV114
 replace hF:=hF _ hq113
 refine Ok.o (OpOk.w 2 ?_)
 refine Ok.nt (Ok.ret ?_)
 exact Ok.fine (.inl rfl) (Ok.p (vs:=[.agg (aJ g1.1 i2 Z2)]) [0] [.blk bxp (.cells (aP g1.2 s3 b3) 48)] dc rfl (.inl rfl) rfl (.cons (.cellAgg 2 4 (aJ g1.1 i2 Z2) rfl rfl underlying24 rfl kr kr kr) .nil) (((((((hx5.trans m1).trans o1).trans K1).trans U1).trans C1).trans z2).trans V3) ⟨g1.1,g1.2,i2,Z2,s3,b3,rfl,hR114_0,hR114_2,rfl,hF⟩)
end
end Go.Proofs.YtalnampdiegmoaaDoor.Ps
