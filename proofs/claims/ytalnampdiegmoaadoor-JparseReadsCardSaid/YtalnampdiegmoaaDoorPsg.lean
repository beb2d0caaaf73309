/- The parser of scripts: walks. -/
import Derived.Test.YtalnampdiegmoaaDoorPsc
namespace Go.Proofs.YtalnampdiegmoaaDoor.Ps
open _root_.Go.Proofs.Tryd Go Go.Eng Go.RowKit
set_option linter.unusedVariables false
set_option linter.unusedSimpArgs false
set_option maxHeartbeats 4000000
set_option maxRecDepth 100000
noncomputable section
def punji32 (Q0:Int) (C4x3:Int→(List JN)→List TK→Int→Bool→Bool→Prop) (X0:List TK) (C0:Int) (D0:Bool) (E0:Bool) (J0:List JN):Prop :=
 C4x3 (w6 (Q0+1)) J0 X0 C0 D0 E0
def punj13i30 (N:Nat) (Z:Prop) (Q0:Int) (V0:List TK) (K0:Int) (Y0:Bool) (U0:Bool) (z0:List JN) (C4x3:Int→(List JN)→List TK→Int→Bool→Bool→Prop):Prop :=
 (exP N (V0,K0,Y0,U0)∧(∀ q28:JN×PS,exN N (V0,K0,Y0,U0)=some q28→(z0++[nZ]).length≤2513169434916∧(0≤(z0.length:Int)∧Int.toNat (z0.length:Int)<(z0++[nZ]).length∧(punji32 Q0 C4x3 q28.2.1 q28.2.2.1 q28.2.2.2.1 q28.2.2.2.2 ((z0++[nZ]).set (Int.toNat (z0.length:Int)) q28.1))∧(punji32 Q0 C4x3 q28.2.1 q28.2.2.1 q28.2.2.2.1 q28.2.2.2.2 ((z0++[nZ]).set (Int.toNat (z0.length:Int)) q28.1)))∧(0≤(z0.length:Int)∧Int.toNat (z0.length:Int)<(z0++[nZ]).length∧punji32 Q0 C4x3 q28.2.1 q28.2.2.1 q28.2.2.2.1 q28.2.2.2.2 ((z0++[nZ]).set (Int.toNat (z0.length:Int)) q28.1)))∧(exN N (V0,K0,Y0,U0)=none→Z))∧(exP N (V0,K0,Y0,U0)∧(∀ q41:JN×PS,exN N (V0,K0,Y0,U0)=some q41→(z0++[nZ]).length≤2513169434916∧(0≤(z0.length:Int)∧Int.toNat (z0.length:Int)<(z0++[nZ]).length∧(punji32 Q0 C4x3 q41.2.1 q41.2.2.1 q41.2.2.2.1 q41.2.2.2.2 ((z0++[nZ]).set (Int.toNat (z0.length:Int)) q41.1))∧(punji32 Q0 C4x3 q41.2.1 q41.2.2.1 q41.2.2.2.1 q41.2.2.2.2 ((z0++[nZ]).set (Int.toNat (z0.length:Int)) q41.1)))∧(0≤(z0.length:Int)∧Int.toNat (z0.length:Int)<(z0++[nZ]).length∧punji32 Q0 C4x3 q41.2.1 q41.2.2.1 q41.2.2.2.1 q41.2.2.2.2 ((z0++[nZ]).set (Int.toNat (z0.length:Int)) q41.1)))∧(exN N (V0,K0,Y0,U0)=none→Z))
def punl4x3b (N:Nat) (Z:Prop) (C29:Int→Int→Bs→(List JN)→List TK→Int→Bool→Bool→Prop) (Q0:Int) (z0:List JN) (b0:List TK) (c0:Int) (d0:Bool) (e0:Bool) (C4x3:Int→(List JN)→List TK→Int→Bool→Bool→Prop):Prop :=
 psPs (b0,c0,d0,e0) ([41]:Bs)∧((!(pisS (b0,c0,d0,e0) ([41]:Bs)).1)=true→(decide (Q0>0)=true→psPs (pisS (b0,c0,d0,e0) ([41]:Bs)).2 ([44]:Bs)∧(∀ q53:PS,(pmuS (pisS (b0,c0,d0,e0) ([41]:Bs)).2 ([44]:Bs))=some q53→punj13i30 N Z Q0 q53.1 q53.2.1 q53.2.2.1 q53.2.2.2 z0 C4x3)∧((pmuS (pisS (b0,c0,d0,e0) ([41]:Bs)).2 ([44]:Bs))=none→Z))∧(decide (Q0>0)=false→punj13i30 N Z Q0 (pisS (b0,c0,d0,e0) ([41]:Bs)).2.1 (pisS (b0,c0,d0,e0) ([41]:Bs)).2.2.1 (pisS (b0,c0,d0,e0) ([41]:Bs)).2.2.2.1 (pisS (b0,c0,d0,e0) ([41]:Bs)).2.2.2.2 z0 C4x3))∧((!(pisS (b0,c0,d0,e0) ([41]:Bs)).1)=false→C29 11 0 ([]:Bs) z0 (pisS (b0,c0,d0,e0) ([41]:Bs)).2.1 (pisS (b0,c0,d0,e0) ([41]:Bs)).2.2.1 (pisS (b0,c0,d0,e0) ([41]:Bs)).2.2.2.1 (pisS (b0,c0,d0,e0) ([41]:Bs)).2.2.2.2)
def punl4x3 (N:Nat) (Z:Prop) (C29:Int→Int→Bs→(List JN)→List TK→Int→Bool→Bool→Prop):Nat→Int→(List JN)→List TK→Int→Bool→Bool→Prop
 | 0,_,_,_,_,_,_=>False
 | k+1,Q0,z0,b0,c0,d0,e0=>punl4x3b N Z C29 Q0 z0 b0 c0 d0 e0 (punl4x3 N Z C29 k)
def punl29b (N:Nat) (K:JN→PS→Prop) (Z:Prop) (k0:Int) (v0:Int) (q0:Bs) (y0:List JN) (u0:List TK) (j0:Int) (x0:Bool) (s0:Bool) (C29:Int→Int→Bs→(List JN)→List TK→Int→Bool→Bool→Prop):Prop :=
 psPs (u0,j0,x0,s0) ([40]:Bs)∧((pisS (u0,j0,x0,s0) ([40]:Bs)).1=true→∃ k,punl4x3 N Z C29 k 0 ([Tree.mk (k0,v0,q0) y0]:List JN) (pisS (u0,j0,x0,s0) ([40]:Bs)).2.1 (pisS (u0,j0,x0,s0) ([40]:Bs)).2.2.1 (pisS (u0,j0,x0,s0) ([40]:Bs)).2.2.2.1 (pisS (u0,j0,x0,s0) ([40]:Bs)).2.2.2.2)∧((pisS (u0,j0,x0,s0) ([40]:Bs)).1=false→psPs (pisS (u0,j0,x0,s0) ([40]:Bs)).2 ([91]:Bs)∧((pisS (pisS (u0,j0,x0,s0) ([40]:Bs)).2 ([91]:Bs)).1=true→exP N (pisS (pisS (u0,j0,x0,s0) ([40]:Bs)).2 ([91]:Bs)).2∧(∀ q60:JN×PS,(exN N (pisS (pisS (u0,j0,x0,s0) ([40]:Bs)).2 ([91]:Bs)).2)=some q60→psPs q60.2 ([93]:Bs)∧(∀ q64:PS,pmuS q60.2 ([93]:Bs)=some q64→C29 12 0 ([]:Bs) ([Tree.mk (k0,v0,q0) y0,q60.1]:List JN) q64.1 q64.2.1 q64.2.2.1 q64.2.2.2)∧(pmuS q60.2 ([93]:Bs)=none→Z))∧((exN N (pisS (pisS (u0,j0,x0,s0) ([40]:Bs)).2 ([91]:Bs)).2)=none→Z))∧((pisS (pisS (u0,j0,x0,s0) ([40]:Bs)).2 ([91]:Bs)).1=false→psPs (pisS (pisS (u0,j0,x0,s0) ([40]:Bs)).2 ([91]:Bs)).2 ([46]:Bs)∧((pisS (pisS (pisS (u0,j0,x0,s0) ([40]:Bs)).2 ([91]:Bs)).2 ([46]:Bs)).1=true→(psP (pisS (pisS (pisS (u0,j0,x0,s0) ([40]:Bs)).2 ([91]:Bs)).2 ([46]:Bs)).2∧(∀ q71:Bs×PS,(pnmS (pisS (pisS (pisS (u0,j0,x0,s0) ([40]:Bs)).2 ([91]:Bs)).2 ([46]:Bs)).2)=some q71→C29 13 0 q71.1 ([Tree.mk (k0,v0,q0) y0]:List JN) q71.2.1 q71.2.2.1 q71.2.2.2.1 q71.2.2.2.2)∧((pnmS (pisS (pisS (pisS (u0,j0,x0,s0) ([40]:Bs)).2 ([91]:Bs)).2 ([46]:Bs)).2)=none→Z))∧((psP (pisS (pisS (pisS (u0,j0,x0,s0) ([40]:Bs)).2 ([91]:Bs)).2 ([46]:Bs)).2∧(∀ q76:Bs×PS,(pnmS (pisS (pisS (pisS (u0,j0,x0,s0) ([40]:Bs)).2 ([91]:Bs)).2 ([46]:Bs)).2)=some q76→C29 13 0 q76.1 ([Tree.mk (k0,v0,q0) y0]:List JN) q76.2.1 q76.2.2.1 q76.2.2.2.1 q76.2.2.2.2)∧((pnmS (pisS (pisS (pisS (u0,j0,x0,s0) ([40]:Bs)).2 ([91]:Bs)).2 ([46]:Bs)).2)=none→Z))∧(psP (pisS (pisS (pisS (u0,j0,x0,s0) ([40]:Bs)).2 ([91]:Bs)).2 ([46]:Bs)).2∧(∀ q82:Bs×PS,(pnmS (pisS (pisS (pisS (u0,j0,x0,s0) ([40]:Bs)).2 ([91]:Bs)).2 ([46]:Bs)).2)=some q82→C29 13 0 q82.1 ([Tree.mk (k0,v0,q0) y0]:List JN) q82.2.1 q82.2.2.1 q82.2.2.2.1 q82.2.2.2.2)∧((pnmS (pisS (pisS (pisS (u0,j0,x0,s0) ([40]:Bs)).2 ([91]:Bs)).2 ([46]:Bs)).2)=none→Z))))∧((pisS (pisS (pisS (u0,j0,x0,s0) ([40]:Bs)).2 ([91]:Bs)).2 ([46]:Bs)).1=false→K (Tree.mk (k0,v0,q0) y0) (pisS (pisS (pisS (u0,j0,x0,s0) ([40]:Bs)).2 ([91]:Bs)).2 ([46]:Bs)).2)))
def punl29 (N:Nat) (K:JN→PS→Prop) (Z:Prop):Nat→Int→Int→Bs→(List JN)→List TK→Int→Bool→Bool→Prop
 | 0,_,_,_,_,_,_,_,_=>False
 | k+1,k0,v0,q0,y0,u0,j0,x0,s0=>punl29b N K Z k0 v0 q0 y0 u0 j0 x0 s0 (punl29 N K Z k)
def punl7b (N:Nat) (K:JN→PS→Prop) (Z:Prop) (S0:Int) (o0:List TK) (t0:Int) (l0:Bool) (a0:Bool) (C7:Int→List TK→Int→Bool→Bool→Prop):Prop :=
 (decide (S0<2)=true→(0:Int)≤S0∧Int.toNat S0<([([33]:Bs),([45]:Bs)]:List Bs).length∧psPs (o0,t0,l0,a0) (([([33]:Bs),([45]:Bs)]:List Bs).getD (Int.toNat S0) default)∧((pisS (o0,t0,l0,a0) (([([33]:Bs),([45]:Bs)]:List Bs).getD (Int.toNat S0) default)).1=true→unP N (pisS (o0,t0,l0,a0) (([([33]:Bs),([45]:Bs)]:List Bs).getD (Int.toNat S0) default)).2∧(∀ q11:JN×PS,(unN N (pisS (o0,t0,l0,a0) (([([33]:Bs),([45]:Bs)]:List Bs).getD (Int.toNat S0) default)).2)=some q11→K (Tree.mk (14,0,(([([33]:Bs),([45]:Bs)]:List Bs).getD (Int.toNat S0) default)) ([q11.1]:List JN)) q11.2)∧((unN N (pisS (o0,t0,l0,a0) (([([33]:Bs),([45]:Bs)]:List Bs).getD (Int.toNat S0) default)).2)=none→Z))∧((pisS (o0,t0,l0,a0) (([([33]:Bs),([45]:Bs)]:List Bs).getD (Int.toNat S0) default)).1=false→C7 (w6 (S0+1)) (pisS (o0,t0,l0,a0) (([([33]:Bs),([45]:Bs)]:List Bs).getD (Int.toNat S0) default)).2.1 (pisS (o0,t0,l0,a0) (([([33]:Bs),([45]:Bs)]:List Bs).getD (Int.toNat S0) default)).2.2.1 (pisS (o0,t0,l0,a0) (([([33]:Bs),([45]:Bs)]:List Bs).getD (Int.toNat S0) default)).2.2.2.1 (pisS (o0,t0,l0,a0) (([([33]:Bs),([45]:Bs)]:List Bs).getD (Int.toNat S0) default)).2.2.2.2))∧(decide (S0<2)=false→fiP N (o0,t0,l0,a0)∧(∀ q16:JN×PS,fiN N (o0,t0,l0,a0)=some q16→∃ k,punl29 N K Z k q16.1.lab.1 q16.1.lab.2.1 q16.1.lab.2.2 q16.1.kids q16.2.1 q16.2.2.1 q16.2.2.2.1 q16.2.2.2.2)∧(fiN N (o0,t0,l0,a0)=none→Z))
def punl7 (N:Nat) (K:JN→PS→Prop) (Z:Prop):Nat→Int→List TK→Int→Bool→Bool→Prop
 | 0,_,_,_,_,_=>False
 | k+1,S0,o0,t0,l0,a0=>punl7b N K Z S0 o0 t0 l0 a0 (punl7 N K Z k)
def punF (N:Nat) (xp:PS) (K:JN→PS→Prop) (Z:Prop):Prop :=
 ∃ k,punl7 N K Z k 0 xp.1 xp.2.1 xp.2.2.1 xp.2.2.2
theorem pun_ok {g:Ghost} (N:Nat) (ih_pst:pst_C N) (ih_pex:pex_C N) (ih_pco:pco_C N) (ih_pbi:pbi_C N) (ih_pun:pun_C N) (ih_pfi:pfi_C N) (ih_pin:pin_C N) (ih_pbl:pbl_C N) (ih_pbo:pbo_C N) (ih_pfn:pfn_C N) (ih_pif:pif_C N) (ih_pfo:pfo_C N) (ih_pty:pty_C N) {bxp:Nat} {v2:Option Addr} {q2:Nat} (xp:PS) (hRxp_0:Rep g yTs [.slice v2 xp.1.length q2] xp.1) (Z:Prop) (K:JN→PS→Prop)
  (hF:punF N xp K Z):CallsP prog 86 #[pv bxp 0] g [.blk bxp (.cells (aP xp v2 q2) 48)] (fun g' H' v=>∃ (r0:JN),∃ (fxp:PS),∃ (V2:Option Addr) (Q2:Nat),∃ (k2:Option Addr) (y2:Nat),v=.agg (aJ r0 V2 Q2)∧Rep g' yJs [.slice V2 r0.kids.length Q2] r0.kids∧Rep g' yTs [.slice k2 fxp.1.length y2] fxp.1∧H'=[.blk bxp (.cells (aP fxp k2 y2) 48)]∧K r0 fxp) Z (.iface 44 (.agg #[])):=by
 refine CallsP.enter 49 [(0,pv bxp 0)] func86 rfl kr kr kr fun w0=>?_
 refine Ok.sr (Ok.o (OpOk.box (v:=pv bxp 0) (cs:=#[pv bxp 0]) rfl kr rfl fun bs1=>?_))
 have hL2:RepL g yJ [] []:=rfl
 refine Ok.ownNil 24 4 (Ok.o (OpOk.aw aZ fun bs2=>?_))
 refine Ok.nt (Ok.q (Ok.sr (Ok.B 2 [(1,pv bs1 0),(2,pv bs2 0),(6,.agg #[sv BF,sv Bd]),(7,iv 0)] kr (Ok.nt (Ok.block ?_)))))
 obtain ⟨k,hF⟩:=hF
 refine Ok.L (fun k a W=>∃ gl7:Ghost,Gext w0 g gl7∧∃ (S0:Int) (c1:Option Addr) (d1:Nat) (o0:List TK) (t0:Int) (l0:Bool) (a0:Bool),Rep gl7 yTs [.slice c1 o0.length d1] o0∧StA 49 [(1,pv bs1 0),(2,pv bs2 0),(6,.agg #[sv BF,sv Bd]),(7,iv S0)] a∧StW w0 [.blk bs2 (.cells aZ 24),.own (.slice none jZ.length 0) 24 4 jZ.length ([]),.blk bs1 (.cells #[pv bxp 0] 46),.blk bxp (.cells #[.slice c1 o0.length d1,iv t0,.bool l0,.bool a0] 48)] gl7 W∧punl7 N K Z k S0 o0 t0 l0 a0) k ?_ ?_
 ·
  exact fun _ _ u v=>⟨g,Gext.r w0 g,0,v2,q2,xp.1,xp.2.1,xp.2.2.1,xp.2.2.2,hRxp_0,fA u v hF⟩
 clear hF
 rintro (_ | k7) _ _ ⟨gl7,f1,S0,c1,d1,o0,t0,l0,a0,g1,q⟩
 exact (q.2.2:False).elim
 refine jn (fun hF=>?_) _ _ q
 refine Ok.sr (Ok.b 1 [1,2,6,7] [(8,.bool (decide (S0<2)))] ?_)
 refine Ok.nt (Ok.q (Ok.cw hF (fun hc4 hF=>?_) (fun hc4 hF=>?_)))
 ·refine Ok.k (Ok.t (Ok.q (Ok.block (Ok.q (Ok.r ?_)))))
  obtain ⟨h05,h15,hF⟩:=hF
  have he5:=get_of (l:=([BF,Bd]:List Bs)) default h15
  generalize hg5:(([BF,Bd]:List Bs).getD (Int.toNat S0) default)=e5 at he5 hF ⊢
  have he6':(#[sv BF,sv Bd]:Array Value)[Int.toNat S0]? = some (sv e5):=by have:=congrArg (Option.map (fun s:Bs=>Value.string ⟨⟨s⟩⟩)) he5; rw [← List.getElem?_map] at this; exact (List.getElem?_toArray ..).trans this
  have hl6:S0<(2:Int):=by have:=(List.getElem?_eq_some_iff.1 he5).1; have:([BF,Bd]:List Bs).length=2:=rfl; omega
  refine Ok.o (OpOk.s (v:=sv e5) (Yields.indexAgg (i:=S0) rfl rfl underlying113 underlying9 rfl kr h05 hl6 he6') rfl rfl (Ok.b 1 [1,2,6,7] [(4,sv e5)] ?_))
  refine Ok.nt (Ok.sr (Ok.rn 2 [.e 2] [1,2,4,6,7] [(10,pv bxp 0),(11,sv e5)] ?_))
  obtain ⟨hp7,hF⟩:=hF
  refine Ok.en [3,0,1,2] ?_
  refine Ok.o (OpOk.ch (pis_c (o0,t0,l0,a0) e5 g1 hp7) fun g8 _ _ hx8 hV8=>?_)
  obtain ⟨a8_0,c8_0,rfl,K2,rfl⟩:=hV8
  refine Ok.nt (Ok.cn hF rfl (fun hc9=>?_) (fun hc9=>?_))
  ·replace hF:=hF.1 hc9
   refine Ok.sr (Ok.b 1 [1,2] [(13,sv e5)] ?_)
   refine Ok.o (OpOk.s (v:=pv bxp 0) (Yields.l 3 rfl rfl underlying46 rfl kr) rfl rfl ?_)
   obtain ⟨hp10,hF,hz11⟩:=hF
   refine Ok.o (OpOk.cp (ih_pun _ (pisS (o0,t0,l0,a0) e5).2 K2 hp10) (pT (f1.trans hx8) hz11) fun g12 _ _ N2 hV12=>?_)
   obtain ⟨q11,hq11,u2,j2,Y2,U2,rfl,hR12_0,K1,rfl⟩:=hV12
   replace hF:=hF _ hq11
   have O2:RepL g12 yJ ((lJ q11.1 u2 j2):List Value) ([q11.1]:List JN):=(RepL.consN (c:=(lJ q11.1 u2 j2)) (Rep.tree.2 ⟨[iv q11.1.lab.1,iv q11.1.lab.2.1,sv q11.1.lab.2.2],[.slice u2 q11.1.kids.length j2],rfl,⟨[iv q11.1.lab.1],[iv q11.1.lab.2.1,sv q11.1.lab.2.2],rfl,rfl,⟨[iv q11.1.lab.2.1],[sv q11.1.lab.2.2],rfl,rfl,rfl⟩⟩,hR12_0⟩) rfl)
   refine Ok.o (OpOk.li O2 fun b13=>?_)
   refine Ok.b 1 [2] [(17,.agg (aM 14 0 e5 (some ⟨b13,0,none⟩) ([q11.1]:List JN) 1))] ?_
   refine Ok.o (OpOk.w 2 ?_)
   refine Ok.nt (Ok.ret (Ok.kr (Ok.tr (Ok.tr (Ok.kr (Ok.tr (Ok.frz 0 rfl O2 fun g14 X2 hRf14=>?_)))))))
   replace K1:=K1.mono X2.1
   exact Ok.fine (.inl rfl) (Ok.p (vs:=[.agg (aM 14 0 e5 (some ⟨b13,0,none⟩) ([q11.1]:List JN) 1)]) [0] [.blk bxp (.cells (aP q11.2 Y2 U2) 48)] dc rfl (.inl rfl) rfl (.cons (.cellAgg 1 4 (aM 14 0 e5 (some ⟨b13,0,none⟩) ([q11.1]:List JN) 1) rfl rfl underlying24 rfl kr kr kr) .nil) (((f1.trans hx8).trans N2).trans X2) ⟨(Tree.mk (14,0,e5) ([q11.1]:List JN)),q11.2,(some ⟨b13,0,none⟩),1,Y2,U2,rfl,hRf14,K1,rfl,hF⟩)
  replace hF:=hF.2 hc9
  refine Ok.k (Ok.kn (Ok.t (Ok.r (Ok.b 2 [1,2,6] [(7,iv (w6 (S0+1)))] ?_))))
  refine Ok.j (Ok.t ?_)
  subst hg5
  exact fun a W hA hW=>⟨k7,nl,g8,f1.trans hx8,w6 (S0+1),a8_0,c8_0,(pisS (o0,t0,l0,a0) (([BF,Bd]:List Bs).getD (Int.toNat S0) default)).2.1,(pisS (o0,t0,l0,a0) (([BF,Bd]:List Bs).getD (Int.toNat S0) default)).2.2.1,(pisS (o0,t0,l0,a0) (([BF,Bd]:List Bs).getD (Int.toNat S0) default)).2.2.2.1,(pisS (o0,t0,l0,a0) (([BF,Bd]:List Bs).getD (Int.toNat S0) default)).2.2.2.2,K2,hA.sub kr,hW.pick [1,2,3,0] _ dc rfl,hF⟩
 refine Ok.x (Ok.thenE (Ok.thenE (Ok.blockHit (Ok.t (Ok.sr (Ok.o (OpOk.s (v:=pv bxp 0) (Yields.l 2 rfl rfl underlying46 rfl kr) rfl rfl ?_)))))))
 obtain ⟨hp15,hF,hz16⟩:=hF
 refine Ok.en [3,0,1,2] ?_
 refine Ok.o (OpOk.cp (ih_pfi _ (o0,t0,l0,a0) g1 hp15) (pT f1 hz16) fun g17 _ _ Y1 hV17=>?_)
 obtain ⟨q16,hq16,a17_0,c17_0,a17_2,c17_2,rfl,hR17_0,hR17_2,rfl⟩:=hV17
 replace hF:=hF _ hq16
 have hL18:RepL g17 yJ [] []:=rfl
 refine Ok.ownNil 24 4 (Ok.o (OpOk.aw aZ fun bs5=>?_))
 refine Ok.o (OpOk.w 0 ?_)
 refine Ok.nt (Ok.block ?_)
 obtain ⟨k,hF⟩:=hF
 refine Ok.L (fun k a W=>∃ w2:Ghost,Gext w0 g17 w2∧∃ (k0:Int) (v0:Int) (q0:Bs) (f0:Option Addr) (g0:Nat) (y0:List JN) (u1:Option Addr) (j1:Nat) (u0:List TK) (j0:Int) (x0:Bool) (s0:Bool),Rep w2 yJs [.slice f0 y0.length g0] y0∧Rep w2 yTs [.slice u1 u0.length j1] u0∧StA 49 [(1,pv bs1 0),(2,pv bs2 0),(5,pv bs5 0)] a∧StW w0 [.blk bs5 (.cells (aM k0 v0 q0 f0 y0 g0) 24),.blk bxp (.cells #[.slice u1 u0.length j1,iv j0,.bool x0,.bool s0] 48),.blk bs2 (.cells aZ 24),.own (.slice none jZ.length 0) 24 4 jZ.length ([]),.blk bs1 (.cells #[pv bxp 0] 46)] w2 W∧punl29 N K Z k k0 v0 q0 y0 u0 j0 x0 s0) k ?_ ?_
 ·
  exact fun _ _ u v=>⟨g17,Gext.r w0 g17,q16.1.lab.1,q16.1.lab.2.1,q16.1.lab.2.2,a17_0,c17_0,q16.1.kids,a17_2,c17_2,q16.2.1,q16.2.2.1,q16.2.2.2.1,q16.2.2.2.2,hR17_0,hR17_2,fA u v hF⟩
 clear hF
 rintro (_ | k29) _ _ ⟨w2,L0,k0,v0,q0,f0,g0,y0,u1,j1,u0,j0,x0,s0,m0,hRybxp_0l29,q⟩
 exact (q.2.2:False).elim
 refine jn (fun hF=>?_) _ _ q
 refine Ok.block (Ok.block (Ok.sr (Ok.o (OpOk.s (v:=pv bxp 0) (Yields.l 4 rfl rfl underlying46 rfl kr) rfl rfl ?_))))
 obtain ⟨hp20,hF⟩:=hF
 refine Ok.en [1,0,2,3,4] ?_
 refine Ok.o (OpOk.ch (pis_c (u0,j0,x0,s0) Bx hRybxp_0l29 hp20) fun g21 _ _ e1 hV21=>?_)
 obtain ⟨a21_0,c21_0,rfl,x2,rfl⟩:=hV21
 replace m0:=m0.mono e1.1
 refine Ok.b 1 [1,2,5] [(22,.bool (pisS (u0,j0,x0,s0) Bx).1)] ?_
 refine Ok.nt (Ok.cw hF (fun hc22 hF=>?_) (fun hc22 hF=>?_))
 ·refine Ok.sr (Ok.o (OpOk.s (v:=.agg (aM k0 v0 q0 f0 y0 g0)) (Yields.loadAgg 1 4 (aM k0 v0 q0 f0 y0 g0) rfl rfl underlying24 rfl kr kr kr) rfl rfl ?_))
  have P2:RepL g21 yJ ((lM k0 v0 q0 f0 y0 g0):List Value) ([Tree.mk (k0,v0,q0) y0]:List JN):=(RepL.consN (c:=(lM k0 v0 q0 f0 y0 g0)) (Rep.tree.2 ⟨[iv k0,iv v0,sv q0],[.slice f0 y0.length g0],rfl,⟨[iv k0],[iv v0,sv q0],rfl,rfl,⟨[iv v0],[sv q0],rfl,rfl,rfl⟩⟩,m0⟩) rfl)
  refine Ok.o (OpOk.li P2 fun b23=>?_)
  refine Ok.b 1 [1,2,5] [(27,.agg (aM 11 0 Bz (some ⟨b23,0,none⟩) ([Tree.mk (k0,v0,q0) y0]:List JN) 1))] ?_
  refine Ok.o (OpOk.w 2 ?_)
  refine Ok.nt (Ok.r (Ok.rn 2 [.e 5] [1,2,5] [(28,pv bxp 0),(29,.func (.func 94) #[] #[pv bs5 0,pv bs1 0])] ?_))
  refine Ok.o (OpOk.inlineP (pv:=.iface 44 (.agg #[])) (args:=#[pv bxp 0,sv By,.func (.func 94) #[] #[pv bs5 0,pv bs1 0]]) 19 [(0,pv bxp 0),(1,sv By),(2,.func (.func 94) #[] #[pv bs5 0,pv bs1 0])] enr func65 rfl rfl rfl rfl (Ok.sr (Ok.B 1 [(0,pv bxp 0),(1,sv By),(2,.func (.func 94) #[] #[pv bs5 0,pv bs1 0]),(6,iv 0)] kr (Ok.nt (Ok.block ?_)))))
  obtain ⟨k,hF⟩:=hF
  refine Ok.L (fun k a W=>∃ m1:Ghost,Gext w0 g21 m1∧∃ (Q0:Int) (i0:Option Addr) (Z0:Nat) (z0:List JN) (W0:List Value) (R0:Option Addr) (T0:Nat) (b0:List TK) (c0:Int) (d0:Bool) (e0:Bool),RepL m1 yJ W0 z0∧Rep m1 yTs [.slice R0 b0.length T0] b0∧StA 19 [(0,pv bxp 0),(1,sv By),(2,.func (.func 94) #[] #[pv bs5 0,pv bs1 0]),(6,iv Q0)] a∧StW w0 [.own (.slice i0 z0.length Z0) 24 4 z0.length W0,.blk bxp (.cells #[.slice R0 b0.length T0,iv c0,.bool d0,.bool e0] 48),.blk bs5 (.cells (aM 11 0 Bz i0 z0 Z0) 24),.blk bs2 (.cells aZ 24),.own (.slice none jZ.length 0) 24 4 jZ.length ([]),.blk bs1 (.cells #[pv bxp 0] 46)] m1 W∧punl4x3 N Z (punl29 N K Z k29) k Q0 z0 b0 c0 d0 e0) k ?_ ?_
  ·
   exact fun _ _ u v=>⟨g21,Gext.r w0 g21,0,(some ⟨b23,0,none⟩),1,([Tree.mk (k0,v0,q0) y0]:List JN),((lM k0 v0 q0 f0 y0 g0):List Value),a21_0,c21_0,(pisS (u0,j0,x0,s0) Bx).2.1,(pisS (u0,j0,x0,s0) Bx).2.2.1,(pisS (u0,j0,x0,s0) Bx).2.2.2.1,(pisS (u0,j0,x0,s0) Bx).2.2.2.2,P2,x2,fA u v hF⟩
  clear hF
  rintro (_ | k4x3) _ _ ⟨m1,x1,Q0,i0,Z0,z0,W0,R0,T0,b0,c0,d0,e0,n0,hRybxp_0l4i30,q⟩
  exact (q.2.2:False).elim
  refine jn (fun hF=>?_) _ _ q
  refine Ok.q (Ok.sr (Ok.b 2 [0,1,2,6] [(7,pv bxp 0),(8,sv By)] ?_))
  obtain ⟨hp24,hF⟩:=hF
  refine Ok.en [1,0,2,3,4,5] ?_
  refine Ok.o (OpOk.ch (pis_c (b0,c0,d0,e0) By hRybxp_0l4i30 hp24) fun g25 _ _ A1 hV25=>?_)
  obtain ⟨s2,b2,rfl,n1,rfl⟩:=hV25
  replace n0:=n0.mono A1.1
  refine Ok.b 1 [0,1,2,6] [(10,.bool (!(pisS (b0,c0,d0,e0) By).1))] ?_
  refine Ok.nt (Ok.cw hF (fun hc26 hF=>?_) (fun hc26 hF=>?_))
  ·refine Ok.k (Ok.t (Ok.q (Ok.block (Ok.cut (fun a W=>∃ H0:Ghost,Gext w0 g25 H0∧∃ (O0:Option Addr) (P0:Nat) (V0:List TK) (K0:Int) (Y0:Bool) (U0:Bool),Rep H0 yTs [.slice O0 V0.length P0] V0∧StA 19 [(0,pv bxp 0),(1,sv By),(2,.func (.func 94) #[] #[pv bs5 0,pv bs1 0]),(6,iv Q0)] a∧StW w0 [.blk bxp (.cells #[.slice O0 V0.length P0,iv K0,.bool Y0,.bool U0] 48),.own (.slice i0 z0.length Z0) 24 4 z0.length W0,.blk bs5 (.cells (aM 11 0 Bz i0 z0 Z0) 24),.blk bs2 (.cells aZ 24),.own (.slice none jZ.length 0) 24 4 jZ.length ([]),.blk bs1 (.cells #[pv bxp 0] 46)] H0 W∧punj13i30 N Z Q0 V0 K0 Y0 U0 z0 (punl4x3 N Z (punl29 N K Z k29) k4x3)) ?_ ?_))))
   ·
    refine Ok.sr (Ok.b 2 [0,1,2,6] [(14,.bool (decide (Q0>0)))] ?_)
    refine Ok.nt (Ok.cw hF (fun hc51 hF=>?_) (fun hc51 hF=>?_))
    ·refine Ok.r (Ok.b 1 [0,1,2,6] [(15,pv bxp 0)] ?_)
     obtain ⟨hp52,hF,hz53⟩:=hF
     refine Ok.o (OpOk.callP [.blk bxp (.cells (aP (pisS (b0,c0,d0,e0) By).2 s2 b2) 48)] [.own (.slice i0 z0.length Z0) 24 4 z0.length W0,.blk bs5 (.cells (aM 11 0 Bz i0 z0 Z0) 24),.blk bs2 (.cells aZ 24),.own (.slice none jZ.length 0) 24 4 jZ.length ([]),.blk bs1 (.cells #[pv bxp 0] 46)] enr rfl (pmu_c (pisS (b0,c0,d0,e0) By).2 Bo n1 hp52) rfl (PanTo.up (((((f1.trans Y1).trans L0).trans e1).trans x1).trans A1) (fun z a W hd hW=>panIn a hd (fun a1 hA1=>panTop (hz53 z) a1 W hA1.defers hW))) fun g54 _ _ S2 hV54=>?_)
     obtain ⟨q53,hq53,a54_0,c54_0,rfl,hR54_0,rfl⟩:=hV54
     replace hF:=hF _ hq53
     replace n0:=n0.mono S2.1
     refine Ok.j (Ok.t ?_)
     exact fun _ _ u v=>⟨g54,S2,a54_0,c54_0,q53.1,q53.2.1,q53.2.2.1,q53.2.2.2,hR54_0,fA u v hF⟩
    refine Ok.k (Ok.t ?_)
    exact fun _ _ u v=>⟨g25,Gext.r w0 g25,s2,b2,(pisS (b0,c0,d0,e0) By).2.1,(pisS (b0,c0,d0,e0) By).2.2.1,(pisS (b0,c0,d0,e0) By).2.2.2.1,(pisS (b0,c0,d0,e0) By).2.2.2.2,n1,fA u v hF⟩
   clear hF
   rintro _ _ ⟨H0,b1,O0,P0,V0,K0,Y0,U0,A0,q⟩
   refine jn (fun hF=>?_) _ _ q
   replace n0:=n0.mono b1.1
   refine Ok.r (Ok.b 1 [0,1,2,6] [(17,.func (.func 94) #[] #[pv bs5 0,pv bs1 0])] ?_)
   refine Ok.o (OpOk.cutQ (fun a W=>∃ r1:Ghost,Gext w0 H0 r1∧∃ (M0:Option Addr) (N0:Nat) (X0:List TK) (C0:Int) (D0:Bool) (E0:Bool) (F0:Option Addr) (G0:Nat) (J0:List JN) (B0:List Value),Rep r1 yTs [.slice M0 X0.length N0] X0∧RepL r1 yJ B0 J0∧StA 19 [(0,pv bxp 0),(1,sv By),(2,.func (.func 94) #[] #[pv bs5 0,pv bs1 0]),(6,iv Q0)] a∧StW w0 [.blk bxp (.cells #[.slice M0 X0.length N0,iv C0,.bool D0,.bool E0] 48),.own (.slice F0 J0.length G0) 24 4 J0.length B0,.blk bs5 (.cells (aM 11 0 Bz F0 J0 G0) 24),.blk bs2 (.cells aZ 24),.own (.slice none jZ.length 0) 24 4 jZ.length ([]),.blk bs1 (.cells #[pv bxp 0] 46)] r1 W∧punji32 Q0 (punl4x3 N Z (punl29 N K Z k29) k4x3) X0 C0 D0 E0 J0) ?_ ?_)
   ·
    refine OpOk.inlineP (pv:=.iface 44 (.agg #[])) (args:=#[pv bs5 0,pv bs1 0]) 11 [(0,pv bs5 0),(1,pv bs1 0)] enr func94 rfl rfl rfl rfl (Ok.plE (E:=Thr 11 w0 H0 Z (.iface 44 (.agg #[]))) Thr.put (Thr.to (PanTo.up ((((((f1.trans Y1).trans L0).trans e1).trans x1).trans A1).trans b1) (fun z a W hd hW=>panIn a hd (fun a1 hA1=>panIn a1 hA1.defers (fun a2 hA2=>panTop z a2 W hA2.defers hW))))) [0,1,2,4] [3,5] [.own (.slice i0 z0.length Z0) 24 4 z0.length W0,.blk bs5 (.cells (aM 11 0 Bz i0 z0 Z0) 24),.blk bs2 (.cells aZ 24),.own (.slice none jZ.length 0) 24 4 jZ.length ([]),.blk bs1 (.cells #[pv bxp 0] 46)] [.blk bs2 (.cells aZ 24),.own (.slice none jZ.length 0) 24 4 jZ.length ([]),.blk bs1 (.cells #[pv bxp 0] 46)] [(0,true),(1,true),(2,true),(4,true)] 3 (.fork [(5,false),(6,false),(9,true)] 7 (.fork [] 8 (.leaf [(10,false)]) 10 (.leaf [(8,false)])) 10 (.leaf [(7,false),(8,false)])) 5 (.fork [(3,false),(6,false),(9,true)] 7 (.fork [] 8 (.leaf [(10,false)]) 10 (.leaf [(8,false)])) 10 (.leaf [(7,false),(8,false)])) kr kr (.cons _ (.cons _ (.cons_cons _ (.cons_cons _ (.cons_cons _ .slnil))))) (.cons _ (.cons_cons _ (.cons_cons _ (.cons_cons _ (.cons_cons _ (.cons_cons _ .slnil)))))) ?_)
    refine OkME.batch 1 [(0,pv bs5 0),(1,pv bs1 0),(2,pv bs5 3)] kr (OkME.hd (OpQ.s (v:=.slice i0 z0.length Z0) (Yields.l 1 rfl rfl underlying22 rfl kr) rfl rfl ?_))
    refine OkME.hd (OpQ.s (v:=pv bxp 0) (Yields.l 4 rfl rfl underlying46 rfl kr) rfl rfl ?_)
    refine OkME.bat 1 [0] [(3,.slice i0 z0.length Z0),(4,pv bxp 0),(6,iv (z0.length:Int))] ?_
    refine OkME.nil (Ok.bothE rfl rfl ?_ ?_)
    ·replace hF:=hF.1
     obtain ⟨hp27,hF,hz28⟩:=hF
     refine OkME.tail rfl rfl (OpOk.cp (ih_pex _ (V0,K0,Y0,U0) A0 hp27) (pH (Gext.r w0 H0) hz28) fun g29 _ _ I0 hV29=>?_)
     obtain ⟨q28,hq28,v1,q1,c2,d2,rfl,U1,J1,rfl⟩:=hV29
     replace hF:=hF _ hq28
     replace n0:=n0.mono I0.1
     refine OkME.l1 I0.1 ?_
     have R2:RepL g29 yJ (lY:List Value) [nZ]:=(RepL.consN (c:=lY) (Rep.tree.2 ⟨[iv 0,iv 0,sv Bz],[.slice none 0 0],rfl,⟨[iv 0],[iv 0,sv Bz],rfl,rfl,⟨[iv 0],[sv Bz],rfl,rfl,rfl⟩⟩,Rep.nil⟩) rfl)
     refine OkME.tail rfl rfl (OpOk.li R2 fun b30=>?_)
     refine OkME.l1 I0.1 ?_
     obtain ⟨hb31,hF⟩:=hF
     refine OkME.tail rfl rfl (OpOk.append' (e:=yJ) 56 2513169434916 2 0 rfl rfl rfl rfl n0 R2 underlying22 kr kr kr hb31 rfl fun a31 c31 T2 e2=>?_)
     refine OkME.l1 I0.1 (OkME.batch 1 [(5,.agg (aJ q28.1 v1 q1)),(6,iv (z0.length:Int)),(8,.slice a31 (z0++[nZ]).length c31),(10,pv bs5 3)] kr (OkME.nil (Ok.bothE rfl rfl ?_ ?_)))
     ·replace hF:=hF.1
      obtain ⟨h033,h133,hF⟩:=hF
      have L2:=get_of (l:=(z0++[nZ])) default h133
      generalize A2:((z0++[nZ]).getD (Int.toNat (z0.length:Int)) default)=e33 at L2 hF ⊢
      refine OkME.tail rfl rfl (OpOk.indexOwn (e:=yJ) 2 rfl e2 rfl rfl underlying22 kr kr h033 L2 rfl fun cs32 _ hr32 r2=>?_)
      have W1:=hr32
      replace W1:=Rep.tree.1 W1
      obtain ⟨_,_,rfl,⟨_,_,rfl,rfl,⟨_,_,rfl,rfl,rfl⟩⟩,⟨i1,Z1,rfl,hm32_3,hr32_3⟩⟩:=W1
      have hR32_3:Rep g29 yJs [.slice i1 e33.kids.length Z1] e33.kids:=⟨i1,Z1,rfl,hm32_3,hr32_3⟩
      replace r2:∀ j v,((lJ e33 i1 Z1):List Value)[j]? = some v→T2[Int.toNat (z0.length:Int) * 4+j]? = some v:=r2
      refine OkME.l1 I0.1 (OkME.nil (Ok.bothE rfl rfl ?_ ?_))
      ·replace hF:=hF.1
       refine OkME.tail rfl rfl (OpOk.storeOwn (e:=yJ) (q:=Int.toNat (z0.length:Int)) (cells:=(lJ e33 i1 Z1)) (vs:=(lJ q28.1 v1 q1)) (el':=q28.1) 2 0 4 rfl e2 r2 kr rfl rfl rfl kr kr kr kr kr (show Rep _ _ (lJ q28.1 v1 q1) _ from (Rep.tree.2 ⟨[iv q28.1.lab.1,iv q28.1.lab.2.1,sv q28.1.lab.2.2],[.slice v1 q28.1.kids.length q1],rfl,⟨[iv q28.1.lab.1],[iv q28.1.lab.2.1,sv q28.1.lab.2.2],rfl,rfl,⟨[iv q28.1.lab.2.1],[sv q28.1.lab.2.2],rfl,rfl,rfl⟩⟩,U1⟩)) fun xs34 hL34=>?_)
       rw [show (z0++[nZ]).length=((z0++[nZ]).set (Int.toNat (z0.length:Int)) q28.1).length from (List.length_set ..).symm]
       refine OkME.l1 I0.1 (OkME.tail rfl rfl (OpOk.w1 3 ?_))
       refine OkME.l1 I0.1 (OkME.nil (Ok.leafE (Ok.fine (.inr rfl) (Ok.back (vs:=[]) (.inr rfl) rfl .nil rfl ?_))))
       subst A2
       exact fun _ _ u v=>⟨g29,I0,c2,d2,q28.2.1,q28.2.2.1,q28.2.2.2.1,q28.2.2.2.2,a31,c31,((z0++[nZ]).set (Int.toNat (z0.length:Int)) q28.1),xs34,J1,hL34,fA u v hF⟩
      replace hF:=hF.2
      refine OkME.tail rfl rfl (OpOk.w1 3 ?_)
      refine OkME.l1 I0.1 (OkME.tail rfl rfl (OpOk.storeOwn (e:=yJ) (q:=Int.toNat (z0.length:Int)) (cells:=(lJ e33 i1 Z1)) (vs:=(lJ q28.1 v1 q1)) (el':=q28.1) 2 0 4 rfl e2 r2 kr rfl rfl rfl kr kr kr kr kr (show Rep _ _ (lJ q28.1 v1 q1) _ from (Rep.tree.2 ⟨[iv q28.1.lab.1,iv q28.1.lab.2.1,sv q28.1.lab.2.2],[.slice v1 q28.1.kids.length q1],rfl,⟨[iv q28.1.lab.1],[iv q28.1.lab.2.1,sv q28.1.lab.2.2],rfl,rfl,⟨[iv q28.1.lab.2.1],[sv q28.1.lab.2.2],rfl,rfl,rfl⟩⟩,U1⟩)) fun xs35 hL35=>?_))
      rw [show (z0++[nZ]).length=((z0++[nZ]).set (Int.toNat (z0.length:Int)) q28.1).length from (List.length_set ..).symm]
      refine OkME.l1 I0.1 (OkME.nil (Ok.leafE (Ok.fine (.inr rfl) (Ok.back (vs:=[]) (.inr rfl) rfl .nil rfl ?_))))
      subst A2
      exact fun _ _ u v=>⟨g29,I0,c2,d2,q28.2.1,q28.2.2.1,q28.2.2.2.1,q28.2.2.2.2,a31,c31,((z0++[nZ]).set (Int.toNat (z0.length:Int)) q28.1),xs35,J1,hL35,fA u v hF⟩
     replace hF:=hF.2
     refine OkME.tail rfl rfl (OpOk.w1 3 ?_)
     refine OkME.l1 I0.1 ?_
     obtain ⟨h037,h137,hF⟩:=hF
     have I2:=get_of (l:=(z0++[nZ])) default h137
     generalize hg37:((z0++[nZ]).getD (Int.toNat (z0.length:Int)) default)=e37 at I2 hF ⊢
     refine OkME.tail rfl rfl (OpOk.indexOwn (e:=yJ) 2 rfl e2 rfl rfl underlying22 kr kr h037 I2 rfl fun cs36 _ hr36 B2=>?_)
     have X1:=hr36
     replace X1:=Rep.tree.1 X1
     obtain ⟨_,_,rfl,⟨_,_,rfl,rfl,⟨_,_,rfl,rfl,rfl⟩⟩,⟨P1,R1,rfl,hm36_3,hr36_3⟩⟩:=X1
     have hR36_3:Rep g29 yJs [.slice P1 e37.kids.length R1] e37.kids:=⟨P1,R1,rfl,hm36_3,hr36_3⟩
     replace B2:∀ j v,((lJ e37 P1 R1):List Value)[j]? = some v→T2[Int.toNat (z0.length:Int) * 4+j]? = some v:=B2
     refine OkME.l1 I0.1 (OkME.tail rfl rfl (OpOk.storeOwn (e:=yJ) (q:=Int.toNat (z0.length:Int)) (cells:=(lJ e37 P1 R1)) (vs:=(lJ q28.1 v1 q1)) (el':=q28.1) 2 0 4 rfl e2 B2 kr rfl rfl rfl kr kr kr kr kr (show Rep _ _ (lJ q28.1 v1 q1) _ from (Rep.tree.2 ⟨[iv q28.1.lab.1,iv q28.1.lab.2.1,sv q28.1.lab.2.2],[.slice v1 q28.1.kids.length q1],rfl,⟨[iv q28.1.lab.1],[iv q28.1.lab.2.1,sv q28.1.lab.2.2],rfl,rfl,⟨[iv q28.1.lab.2.1],[sv q28.1.lab.2.2],rfl,rfl,rfl⟩⟩,U1⟩)) fun xs38 hL38=>?_))
     rw [show (z0++[nZ]).length=((z0++[nZ]).set (Int.toNat (z0.length:Int)) q28.1).length from (List.length_set ..).symm]
     refine OkME.l1 I0.1 (OkME.nil (Ok.leafE (Ok.fine (.inr rfl) (Ok.back (vs:=[]) (.inr rfl) rfl .nil rfl ?_))))
     subst hg37
     exact fun _ _ u v=>⟨g29,I0,c2,d2,q28.2.1,q28.2.2.1,q28.2.2.2.1,q28.2.2.2.2,a31,c31,((z0++[nZ]).set (Int.toNat (z0.length:Int)) q28.1),xs38,J1,hL38,fA u v hF⟩
    replace hF:=hF.2
    have t2:RepL H0 yJ (lY:List Value) [nZ]:=(RepL.consN (c:=lY) (Rep.tree.2 ⟨[iv 0,iv 0,sv Bz],[.slice none 0 0],rfl,⟨[iv 0],[iv 0,sv Bz],rfl,rfl,⟨[iv 0],[sv Bz],rfl,rfl,rfl⟩⟩,Rep.nil⟩) rfl)
    refine OkME.tail rfl rfl (OpOk.li t2 fun b39=>?_)
    refine OkME.l1 (Gle.refl _) ?_
    obtain ⟨hp40,hF,hz41⟩:=hF
    refine OkME.en [1,0,2,3,4,5,6] ?_
    refine OkME.tail rfl rfl (OpOk.cp (ih_pex _ (V0,K0,Y0,U0) A0 hp40) (pH (Gext.r w0 H0) hz41) fun g42 _ _ z1 hV42=>?_)
    obtain ⟨q41,hq41,k1,y1,f2,g2,rfl,S1,B1,rfl⟩:=hV42
    replace hF:=hF _ hq41
    replace n0:=n0.mono z1.1
    replace t2:=t2.mono z1.1
    refine OkME.l1 z1.1 ?_
    obtain ⟨hb43,hF⟩:=hF
    refine OkME.tail rfl rfl (OpOk.append' (e:=yJ) 56 2513169434916 2 1 rfl rfl rfl rfl n0 t2 underlying22 kr kr kr hb43 rfl fun a43 c43 z3 h2=>?_)
    refine OkME.l1 z1.1 (OkME.batch 1 [(5,.agg (aJ q41.1 k1 y1)),(6,iv (z0.length:Int)),(8,.slice a43 (z0++[nZ]).length c43),(10,pv bs5 3)] kr (OkME.nil (Ok.bothE rfl rfl ?_ ?_)))
    ·replace hF:=hF.1
     obtain ⟨h045,h145,hF⟩:=hF
     have v3:=get_of (l:=(z0++[nZ])) default h145
     generalize q3:((z0++[nZ]).getD (Int.toNat (z0.length:Int)) default)=e45 at v3 hF ⊢
     refine OkME.tail rfl rfl (OpOk.indexOwn (e:=yJ) 2 rfl h2 rfl rfl underlying22 kr kr h045 v3 rfl fun cs44 _ hr44 l2=>?_)
     have C1:=hr44
     replace C1:=Rep.tree.1 C1
     obtain ⟨_,_,rfl,⟨_,_,rfl,rfl,⟨_,_,rfl,rfl,rfl⟩⟩,⟨V1,Q1,rfl,hm44_3,hr44_3⟩⟩:=C1
     have hR44_3:Rep g42 yJs [.slice V1 e45.kids.length Q1] e45.kids:=⟨V1,Q1,rfl,hm44_3,hr44_3⟩
     replace l2:∀ j v,((lJ e45 V1 Q1):List Value)[j]? = some v→z3[Int.toNat (z0.length:Int) * 4+j]? = some v:=l2
     refine OkME.l1 z1.1 (OkME.nil (Ok.bothE rfl rfl ?_ ?_))
     ·replace hF:=hF.1
      refine OkME.tail rfl rfl (OpOk.storeOwn (e:=yJ) (q:=Int.toNat (z0.length:Int)) (cells:=(lJ e45 V1 Q1)) (vs:=(lJ q41.1 k1 y1)) (el':=q41.1) 2 0 4 rfl h2 l2 kr rfl rfl rfl kr kr kr kr kr (show Rep _ _ (lJ q41.1 k1 y1) _ from (Rep.tree.2 ⟨[iv q41.1.lab.1,iv q41.1.lab.2.1,sv q41.1.lab.2.2],[.slice k1 q41.1.kids.length y1],rfl,⟨[iv q41.1.lab.1],[iv q41.1.lab.2.1,sv q41.1.lab.2.2],rfl,rfl,⟨[iv q41.1.lab.2.1],[sv q41.1.lab.2.2],rfl,rfl,rfl⟩⟩,S1⟩)) fun xs46 hL46=>?_)
      rw [show (z0++[nZ]).length=((z0++[nZ]).set (Int.toNat (z0.length:Int)) q41.1).length from (List.length_set ..).symm]
      refine OkME.l1 z1.1 (OkME.tail rfl rfl (OpOk.w1 3 ?_))
      refine OkME.l1 z1.1 (OkME.nil (Ok.leafE (Ok.fine (.inr rfl) (Ok.back (vs:=[]) (.inr rfl) rfl .nil rfl ?_))))
      subst q3
      exact fun _ _ u v=>⟨g42,z1,f2,g2,q41.2.1,q41.2.2.1,q41.2.2.2.1,q41.2.2.2.2,a43,c43,((z0++[nZ]).set (Int.toNat (z0.length:Int)) q41.1),xs46,B1,hL46,fA u v hF⟩
     replace hF:=hF.2
     refine OkME.tail rfl rfl (OpOk.w1 3 ?_)
     refine OkME.l1 z1.1 (OkME.tail rfl rfl (OpOk.storeOwn (e:=yJ) (q:=Int.toNat (z0.length:Int)) (cells:=(lJ e45 V1 Q1)) (vs:=(lJ q41.1 k1 y1)) (el':=q41.1) 2 0 4 rfl h2 l2 kr rfl rfl rfl kr kr kr kr kr (show Rep _ _ (lJ q41.1 k1 y1) _ from (Rep.tree.2 ⟨[iv q41.1.lab.1,iv q41.1.lab.2.1,sv q41.1.lab.2.2],[.slice k1 q41.1.kids.length y1],rfl,⟨[iv q41.1.lab.1],[iv q41.1.lab.2.1,sv q41.1.lab.2.2],rfl,rfl,⟨[iv q41.1.lab.2.1],[sv q41.1.lab.2.2],rfl,rfl,rfl⟩⟩,S1⟩)) fun xs47 hL47=>?_))
     rw [show (z0++[nZ]).length=((z0++[nZ]).set (Int.toNat (z0.length:Int)) q41.1).length from (List.length_set ..).symm]
     refine OkME.l1 z1.1 (OkME.nil (Ok.leafE (Ok.fine (.inr rfl) (Ok.back (vs:=[]) (.inr rfl) rfl .nil rfl ?_))))
     subst q3
     exact fun _ _ u v=>⟨g42,z1,f2,g2,q41.2.1,q41.2.2.1,q41.2.2.2.1,q41.2.2.2.2,a43,c43,((z0++[nZ]).set (Int.toNat (z0.length:Int)) q41.1),xs47,B1,hL47,fA u v hF⟩
    replace hF:=hF.2
    refine OkME.tail rfl rfl (OpOk.w1 3 ?_)
    refine OkME.l1 z1.1 ?_
    obtain ⟨h049,h149,hF⟩:=hF
    have k3:=get_of (l:=(z0++[nZ])) default h149
    generalize hg49:((z0++[nZ]).getD (Int.toNat (z0.length:Int)) default)=e49 at k3 hF ⊢
    refine OkME.tail rfl rfl (OpOk.indexOwn (e:=yJ) 2 rfl h2 rfl rfl underlying22 kr kr h049 k3 rfl fun cs48 _ hr48 C2=>?_)
    have D1:=hr48
    replace D1:=Rep.tree.1 D1
    obtain ⟨_,_,rfl,⟨_,_,rfl,rfl,⟨_,_,rfl,rfl,rfl⟩⟩,⟨T1,L1,rfl,hm48_3,hr48_3⟩⟩:=D1
    have hR48_3:Rep g42 yJs [.slice T1 e49.kids.length L1] e49.kids:=⟨T1,L1,rfl,hm48_3,hr48_3⟩
    replace C2:∀ j v,((lJ e49 T1 L1):List Value)[j]? = some v→z3[Int.toNat (z0.length:Int) * 4+j]? = some v:=C2
    refine OkME.l1 z1.1 (OkME.tail rfl rfl (OpOk.storeOwn (e:=yJ) (q:=Int.toNat (z0.length:Int)) (cells:=(lJ e49 T1 L1)) (vs:=(lJ q41.1 k1 y1)) (el':=q41.1) 2 0 4 rfl h2 C2 kr rfl rfl rfl kr kr kr kr kr (show Rep _ _ (lJ q41.1 k1 y1) _ from (Rep.tree.2 ⟨[iv q41.1.lab.1,iv q41.1.lab.2.1,sv q41.1.lab.2.2],[.slice k1 q41.1.kids.length y1],rfl,⟨[iv q41.1.lab.1],[iv q41.1.lab.2.1,sv q41.1.lab.2.2],rfl,rfl,⟨[iv q41.1.lab.2.1],[sv q41.1.lab.2.2],rfl,rfl,rfl⟩⟩,S1⟩)) fun xs50 hL50=>?_))
    rw [show (z0++[nZ]).length=((z0++[nZ]).set (Int.toNat (z0.length:Int)) q41.1).length from (List.length_set ..).symm]
    refine OkME.l1 z1.1 (OkME.nil (Ok.leafE (Ok.fine (.inr rfl) (Ok.back (vs:=[]) (.inr rfl) rfl .nil rfl ?_))))
    subst hg49
    exact fun _ _ u v=>⟨g42,z1,f2,g2,q41.2.1,q41.2.2.1,q41.2.2.2.1,q41.2.2.2.2,a43,c43,((z0++[nZ]).set (Int.toNat (z0.length:Int)) q41.1),xs50,B1,hL50,fA u v hF⟩
   clear hF
   rintro _ _ ⟨r1,m2,M0,N0,X0,C0,D0,E0,F0,G0,J0,B0,hRybxp_0ji32,hLyown23_0ji32,q⟩
   refine jn (fun hF=>?_) _ _ q
   refine Ok.j (Ok.kn (Ok.t (Ok.r (Ok.b 3 [0,1,2] [(6,iv (w6 (Q0+1)))] ?_))))
   refine Ok.j (Ok.t ?_)
   exact fun a W hA hW=>⟨k4x3,nl,r1,(((x1.trans A1).trans b1).trans m2),w6 (Q0+1),F0,G0,J0,B0,M0,N0,X0,C0,D0,E0,hLyown23_0ji32,hRybxp_0ji32,hA.sub kr,hW.pick [1,0,2,3,4,5] _ dc rfl,hF⟩
  refine Ok.x (Ok.thenE (Ok.thenE (Ok.blockHit (Ok.fine (.inr rfl) (Ok.back (vs:=[]) (.inr rfl) rfl .nil rfl (Ok.j (Ok.kn (Ok.kn (Ok.t (Ok.frz 1 rfl n0 fun g55 D2 hRf55=>?_))))))))))
  replace n1:=n1.mono D2.1
  exact fun a W hA hW=>⟨k29,nl,g55,((((L0.trans e1).trans x1).trans A1).trans D2),11,0,Bz,i0,Z0,z0,s2,b2,(pisS (b0,c0,d0,e0) By).2.1,(pisS (b0,c0,d0,e0) By).2.2.1,(pisS (b0,c0,d0,e0) By).2.2.2.1,(pisS (b0,c0,d0,e0) By).2.2.2.2,hRf55,n1,hA.sub kr,hW.pick [1,0,2,3,4] _ dc rfl,hF⟩
 refine Ok.sr (Ok.o (OpOk.s (v:=pv bxp 0) (Yields.l 4 rfl rfl underlying46 rfl kr) rfl rfl ?_))
 obtain ⟨hp56,hF⟩:=hF
 refine Ok.o (OpOk.ch (pis_c (pisS (u0,j0,x0,s0) Bx).2 Bw x2 hp56) fun g57 _ _ o1 hV57=>?_)
 obtain ⟨a57_0,c57_0,rfl,n2,rfl⟩:=hV57
 replace m0:=m0.mono o1.1
 refine Ok.b 1 [1,2,5] [(31,.bool (pisS (pisS (u0,j0,x0,s0) Bx).2 Bw).1)] ?_
 refine Ok.nt (Ok.cw hF (fun hc58 hF=>?_) (fun hc58 hF=>?_))
 ·refine Ok.q (Ok.mx (pT ((((f1.trans Y1).trans L0).trans e1).trans o1) id) [0,1,4] [2,3] [0,1,1,1,1] [0,1,1,1] [(0,true),(1,true),(2,false),(3,false),(4,true),(5,false)] ?_)
  refine OkME.hd (OpQ.s (v:=.agg (aM k0 v0 q0 f0 y0 g0)) (Yields.loadAgg 0 4 (aM k0 v0 q0 f0 y0 g0) rfl rfl underlying24 rfl kr kr kr) rfl rfl ?_)
  refine OkME.hd (OpQ.s (v:=pv bxp 0) (Yields.l 3 rfl rfl underlying46 rfl kr) rfl rfl ?_)
  obtain ⟨hp59,hF,hz60⟩:=hF
  refine OkME.tail rfl rfl (OpOk.cp (ih_pex _ (pisS (pisS (u0,j0,x0,s0) Bx).2 Bw).2 n2 hp59) (pH (Gext.r w0 g57) hz60) fun g61 _ _ E1 hV61=>?_)
  obtain ⟨q60,hq60,o2,p2,a61_2,c61_2,rfl,hR61_0,hR61_2,rfl⟩:=hV61
  replace hF:=hF _ hq60
  replace m0:=m0.mono E1.1
  refine OkME.l1 E1.1 ?_
  have i2:RepL g61 yJ ([iv k0,iv v0,sv q0,.slice f0 y0.length g0,iv q60.1.lab.1,iv q60.1.lab.2.1,sv q60.1.lab.2.2,.slice o2 q60.1.kids.length p2]:List Value) ([Tree.mk (k0,v0,q0) y0,q60.1]:List JN):=(RepL.consN (c:=(lM k0 v0 q0 f0 y0 g0)) (Rep.tree.2 ⟨[iv k0,iv v0,sv q0],[.slice f0 y0.length g0],rfl,⟨[iv k0],[iv v0,sv q0],rfl,rfl,⟨[iv v0],[sv q0],rfl,rfl,rfl⟩⟩,m0⟩) (RepL.consN (c:=(lJ q60.1 o2 p2)) (Rep.tree.2 ⟨[iv q60.1.lab.1,iv q60.1.lab.2.1,sv q60.1.lab.2.2],[.slice o2 q60.1.kids.length p2],rfl,⟨[iv q60.1.lab.1],[iv q60.1.lab.2.1,sv q60.1.lab.2.2],rfl,rfl,⟨[iv q60.1.lab.2.1],[sv q60.1.lab.2.2],rfl,rfl,rfl⟩⟩,hR61_0⟩) rfl))
  refine OkME.tail rfl rfl (OpOk.li i2 fun b62=>?_)
  refine OkME.l1 E1.1 (OkME.bat 1 [1,2,5] [(38,.agg (aM 12 0 Bz (some ⟨b62,0,none⟩) ([Tree.mk (k0,v0,q0) y0,q60.1]:List JN) 2))] ?_)
  refine OkME.tail rfl rfl (OpOk.w 2 ?_)
  refine OkME.l1 E1.1 (OkME.nil (Ok.t (Ok.r (Ok.o (OpOk.s (v:=pv bxp 0) (Yields.l 5 rfl rfl underlying46 rfl kr) rfl rfl ?_)))))
  obtain ⟨hp63,hF,hz64⟩:=hF
  refine Ok.en [1,0,2,3,4,5] ?_
  refine Ok.o (OpOk.cp (pmu_c q60.2 Bu hR61_2 hp63) (pT (((((f1.trans Y1).trans L0).trans e1).trans o1).trans E1) hz64) fun g65 _ _ E2 hV65=>?_)
  obtain ⟨q64,hq64,a65_0,c65_0,rfl,F1,rfl⟩:=hV65
  replace hF:=hF _ hq64
  replace i2:=i2.mono E2.1
  refine Ok.j (Ok.kn (Ok.kn (Ok.t (Ok.frz 1 rfl i2 fun g66 F2 hRf66=>?_))))
  replace F1:=F1.mono F2.1
  exact fun a W hA hW=>⟨k29,nl,g66,(((((L0.trans e1).trans o1).trans E1).trans E2).trans F2),12,0,Bz,(some ⟨b62,0,none⟩),2,([Tree.mk (k0,v0,q0) y0,q60.1]:List JN),a65_0,c65_0,q64.1,q64.2.1,q64.2.2.1,q64.2.2.2,hRf66,F1,hA.sub kr,hW.pick [1,0,2,3,4] _ dc rfl,hF⟩
 refine Ok.sr (Ok.o (OpOk.s (v:=pv bxp 0) (Yields.l 4 rfl rfl underlying46 rfl kr) rfl rfl ?_))
 obtain ⟨hp67,hF⟩:=hF
 refine Ok.o (OpOk.ch (pis_c (pisS (pisS (u0,j0,x0,s0) Bx).2 Bw).2 Bt n2 hp67) fun g68 _ _ G1 hV68=>?_)
 obtain ⟨J2,W2,rfl,t1,rfl⟩:=hV68
 replace m0:=m0.mono G1.1
 refine Ok.b 1 [1,2,5] [(41,.bool (pisS (pisS (pisS (u0,j0,x0,s0) Bx).2 Bw).2 Bt).1)] ?_
 refine Ok.nt (Ok.cw hF (fun hc69 hF=>?_) (fun hc69 hF=>?_))
 ·refine Ok.px (pT (((((f1.trans Y1).trans L0).trans e1).trans o1).trans G1) id) [] [] [1,1,1,1,1] [0,0,1,1,1] [(0,true)] 1 (.leaf [(2,false),(3,false),(4,true),(5,false)]) 2 (.fork [] 1 (.leaf [(3,false),(4,true),(5,false)]) 3 (.leaf [(1,false),(4,true),(5,false)])) ?_
  refine OkME.hd (OpQ.s (v:=pv bxp 0) (Yields.l 2 rfl rfl underlying46 rfl kr) rfl rfl ?_)
  refine OkME.nil (Ok.bothE rfl rfl ?_ ?_)
  ·replace hF:=hF.1
   obtain ⟨hp70,hF,hz71⟩:=hF
   refine OkME.tail rfl rfl (OpOk.cp (pnm_c (pisS (pisS (pisS (u0,j0,x0,s0) Bx).2 Bw).2 Bt).2 t1 hp70) (pH (Gext.r w0 g68) hz71) fun g72 _ _ H1 hV72=>?_)
   obtain ⟨q71,hq71,a72_0,c72_0,rfl,M1,rfl⟩:=hV72
   replace hF:=hF _ hq71
   replace m0:=m0.mono H1.1
   refine OkME.l1 H1.1 (OkME.tail rfl rfl (OpOk.s (v:=.agg (aM k0 v0 q0 f0 y0 g0)) (Yields.loadAgg 1 4 (aM k0 v0 q0 f0 y0 g0) rfl rfl underlying24 rfl kr kr kr) rfl rfl (OkME.l1 H1.1 ?_)))
   have y3:RepL g72 yJ ((lM k0 v0 q0 f0 y0 g0):List Value) ([Tree.mk (k0,v0,q0) y0]:List JN):=(RepL.consN (c:=(lM k0 v0 q0 f0 y0 g0)) (Rep.tree.2 ⟨[iv k0,iv v0,sv q0],[.slice f0 y0.length g0],rfl,⟨[iv k0],[iv v0,sv q0],rfl,rfl,⟨[iv v0],[sv q0],rfl,rfl,rfl⟩⟩,m0⟩) rfl)
   refine OkME.tail rfl rfl (OpOk.li y3 fun b73=>?_)
   refine OkME.l1 H1.1 (OkME.batch 1 [(1,pv bs1 0),(2,pv bs2 0),(5,pv bs5 0),(48,.agg (aM 13 0 q71.1 (some ⟨b73,0,none⟩) ([Tree.mk (k0,v0,q0) y0]:List JN) 1))] kr (OkME.tail rfl rfl (OpOk.w 2 ?_)))
   refine OkME.l1 H1.1 (OkME.nil (Ok.leafE (Ok.kn (Ok.kn (Ok.t (Ok.frz 0 rfl y3 fun g74 G2 hRf74=>?_))))))
   replace M1:=M1.mono G2.1
   exact fun a W hA hW=>⟨k29,nl,g74,(((((L0.trans e1).trans o1).trans G1).trans H1).trans G2),13,0,q71.1,(some ⟨b73,0,none⟩),1,([Tree.mk (k0,v0,q0) y0]:List JN),a72_0,c72_0,q71.2.1,q71.2.2.1,q71.2.2.2.1,q71.2.2.2.2,hRf74,M1,hA.sub kr,hW.pick [1,0,2,3,4] _ dc rfl,hF⟩
  replace hF:=hF.2
  refine OkME.tail rfl rfl (OpOk.s (v:=.agg (aM k0 v0 q0 f0 y0 g0)) (Yields.loadAgg 1 4 (aM k0 v0 q0 f0 y0 g0) rfl rfl underlying24 rfl kr kr kr) rfl rfl (OkME.l1 (Gle.refl _) (OkME.nil (Ok.bothE rfl rfl ?_ ?_))))
  ·replace hF:=hF.1
   obtain ⟨hp75,hF,hz76⟩:=hF
   refine OkME.tail rfl rfl (OpOk.cp (pnm_c (pisS (pisS (pisS (u0,j0,x0,s0) Bx).2 Bw).2 Bt).2 t1 hp75) (pH (Gext.r w0 g68) hz76) fun g77 _ _ I1 hV77=>?_)
   obtain ⟨q76,hq76,a77_0,c77_0,rfl,N1,rfl⟩:=hV77
   replace hF:=hF _ hq76
   replace m0:=m0.mono I1.1
   refine OkME.l1 I1.1 ?_
   have u3:RepL g77 yJ ((lM k0 v0 q0 f0 y0 g0):List Value) ([Tree.mk (k0,v0,q0) y0]:List JN):=(RepL.consN (c:=(lM k0 v0 q0 f0 y0 g0)) (Rep.tree.2 ⟨[iv k0,iv v0,sv q0],[.slice f0 y0.length g0],rfl,⟨[iv k0],[iv v0,sv q0],rfl,rfl,⟨[iv v0],[sv q0],rfl,rfl,rfl⟩⟩,m0⟩) rfl)
   refine OkME.tail rfl rfl (OpOk.li u3 fun b78=>?_)
   refine OkME.l1 I1.1 (OkME.batch 1 [(1,pv bs1 0),(2,pv bs2 0),(5,pv bs5 0),(48,.agg (aM 13 0 q76.1 (some ⟨b78,0,none⟩) ([Tree.mk (k0,v0,q0) y0]:List JN) 1))] kr (OkME.tail rfl rfl (OpOk.w 2 ?_)))
   refine OkME.l1 I1.1 (OkME.nil (Ok.leafE (Ok.kn (Ok.kn (Ok.t (Ok.frz 0 rfl u3 fun g79 H2 hRf79=>?_))))))
   replace N1:=N1.mono H2.1
   exact fun a W hA hW=>⟨k29,nl,g79,(((((L0.trans e1).trans o1).trans G1).trans I1).trans H2),13,0,q76.1,(some ⟨b78,0,none⟩),1,([Tree.mk (k0,v0,q0) y0]:List JN),a77_0,c77_0,q76.2.1,q76.2.2.1,q76.2.2.2.1,q76.2.2.2.2,hRf79,N1,hA.sub kr,hW.pick [1,0,2,3,4] _ dc rfl,hF⟩
  replace hF:=hF.2
  have Z2:RepL g68 yJ ((lM k0 v0 q0 f0 y0 g0):List Value) ([Tree.mk (k0,v0,q0) y0]:List JN):=(RepL.consN (c:=(lM k0 v0 q0 f0 y0 g0)) (Rep.tree.2 ⟨[iv k0,iv v0,sv q0],[.slice f0 y0.length g0],rfl,⟨[iv k0],[iv v0,sv q0],rfl,rfl,⟨[iv v0],[sv q0],rfl,rfl,rfl⟩⟩,m0⟩) rfl)
  refine OkME.tail rfl rfl (OpOk.li Z2 fun b80=>?_)
  refine OkME.l1 (Gle.refl _) ?_
  obtain ⟨hp81,hF,hz82⟩:=hF
  refine OkME.en [1,0,2,3,4,5] ?_
  refine OkME.tail rfl rfl (OpOk.cp (pnm_c (pisS (pisS (pisS (u0,j0,x0,s0) Bx).2 Bw).2 Bt).2 t1 hp81) (pH (Gext.r w0 g68) hz82) fun g83 _ _ z2 hV83=>?_)
  obtain ⟨q82,hq82,a83_0,c83_0,rfl,O1,rfl⟩:=hV83
  replace hF:=hF _ hq82
  replace Z2:=Z2.mono z2.1
  replace m0:=m0.mono z2.1
  refine OkME.l1 z2.1 (OkME.batch 1 [(1,pv bs1 0),(2,pv bs2 0),(5,pv bs5 0),(48,.agg (aM 13 0 q82.1 (some ⟨b80,0,none⟩) ([Tree.mk (k0,v0,q0) y0]:List JN) 1))] kr (OkME.tail rfl rfl (OpOk.w 2 ?_)))
  refine OkME.l1 z2.1 (OkME.nil (Ok.leafE (Ok.kn (Ok.kn (Ok.t (Ok.frz 1 rfl Z2 fun g84 M2 hRf84=>?_))))))
  replace O1:=O1.mono M2.1
  exact fun a W hA hW=>⟨k29,nl,g84,(((((L0.trans e1).trans o1).trans G1).trans z2).trans M2),13,0,q82.1,(some ⟨b80,0,none⟩),1,([Tree.mk (k0,v0,q0) y0]:List JN),a83_0,c83_0,q82.2.1,q82.2.2.1,q82.2.2.2.1,q82.2.2.2.2,hRf84,O1,hA.sub kr,hW.pick [1,0,2,3,4] _ dc rfl,hF⟩
 refine Ok.sr (Ok.o (OpOk.s (v:=.agg (aM k0 v0 q0 f0 y0 g0)) (Yields.loadAgg 1 4 (aM k0 v0 q0 f0 y0 g0) rfl rfl underlying24 rfl kr kr kr) rfl rfl (Ok.o (OpOk.w 2 ?_))))
 refine Ok.nt (Ok.ret (Ok.kr (Ok.kr (Ok.tr (Ok.kr ?_)))))
 exact Ok.fine (.inl rfl) (Ok.p (vs:=[.agg (aM k0 v0 q0 f0 y0 g0)]) [0] [.blk bxp (.cells (aP (pisS (pisS (pisS (u0,j0,x0,s0) Bx).2 Bw).2 Bt).2 J2 W2) 48)] dc rfl (.inl rfl) rfl (.cons (.cellAgg 2 4 (aM k0 v0 q0 f0 y0 g0) rfl rfl underlying24 rfl kr kr kr) .nil) (((((f1.trans Y1).trans L0).trans e1).trans o1).trans G1) ⟨Tree.mk (k0,v0,q0) y0,(pisS (pisS (pisS (u0,j0,x0,s0) Bx).2 Bw).2 Bt).2,f0,g0,J2,W2,rfl,m0,t1,rfl,hF⟩)
end
end Go.Proofs.YtalnampdiegmoaaDoor.Ps
