/- The document's reader of scripts: walks. -/
import Derived.Test.YtalnampdiegmoaaDoorRtb
namespace Go.Proofs.YtalnampdiegmoaaDoor.Rf
open _root_.Go.Proofs.Tryd Go Go.Eng Go.RowKit Ps
set_option linter.unusedVariables false
set_option linter.unusedSimpArgs false
set_option maxHeartbeats 4000000
set_option maxRecDepth 100000
noncomputable section
def rbrF (N:Nat) (xt:TT) (K:JN→TT→Prop):Prop :=
 waP xt ([([40]:Bs)]:List Bs)∧rexP N (neS xt ([([40]:Bs)]:List Bs)) 0∧∀ q7:JN×TT,(rexR (neS xt ([([40]:Bs)]:List Bs)) 0) q7→waP q7.2 ([([41]:Bs)]:List Bs)∧K q7.1 (neS q7.2 ([([41]:Bs)]:List Bs))
theorem rbr_ok {g:Ghost} (N:Nat) (ih_rst:rst_C N) (ih_rbl:rbl_C N) (ih_rfn:rfn_C N) (ih_rbr:rbr_C N) (ih_rex:rex_C N) (ih_run:run_C N) (ih_rfi:rfi_C N) {bxt:Nat} {A0:Option Addr} {I0:Nat} (xt:TT) (Y0:Rep g yTs [.slice A0 xt.1.length I0] xt.1) (K:JN→TT→Prop)
  (hF:rbrF N xt K):CallsH prog 56 #[pv bxt 0] g [.blk bxt (.cells (aT xt A0 I0) 58)] (fun g' H' v=>∃ (r0:JN),∃ (fxt:TT),∃ (z1:Option Addr) (v1:Nat),∃ (B0:Option Addr) (C0:Nat),v=.agg (aJ r0 z1 v1)∧Rep g' yJs [.slice z1 r0.kids.length v1] r0.kids∧Rep g' yTs [.slice B0 fxt.1.length C0] fxt.1∧H'=[.blk bxt (.cells (aT fxt B0 C0) 58)]∧K r0 fxt):=by
 refine CallsH.en 13 func56 rfl fun w0=>?_
 refine Ok.sr (Ok.o (OpOk.aw aY fun bs2=>?_))
 refine Ok.nt (Ok.sr (Ok.B 1 [(0,pv bxt 0),(2,pv bs2 0),(4,pv bxt 0)] kr ?_))
 have hL2:RepL g (.str) ([sv Bx]:List Value) ([Bx]:List Bs):=(RepL.consN (c:=[sv Bx]) rfl rfl)
 refine Ok.o (OpOk.li hL2 fun b2=>?_)
 refine Ok.frz 0 rfl hL2 fun g3 hx3 W2=>?_
 replace Y0:=Y0.mono hx3.1
 obtain ⟨hp4,hF⟩:=hF
 refine Ok.en [1,0] ?_
 refine Ok.o (OpOk.ch (rne_c xt ([Bx]:List Bs) Y0 W2 hp4) fun g5 _ _ hx5 hV5=>?_)
 obtain ⟨a5_0,c5_0,rfl,hR5_0,rfl⟩:=hV5
 refine Ok.nt (Ok.sr (Ok.b 1 [0,2] [(7,pv bxt 0)] ?_))
 obtain ⟨hp6,hF⟩:=hF
 refine Ok.o (OpOk.ch (ih_rex _ (neS xt ([Bx]:List Bs)) 0 hR5_0 hp6) fun g8 _ _ hx8 hV8=>?_)
 obtain ⟨q7,hq7,y2,u2,a8_2,c8_2,rfl,C1,j2,rfl⟩:=hV8
 replace hF:=hF _ hq7
 refine Ok.o (OpOk.aw aY fun bs3=>?_)
 refine Ok.o (OpOk.w 0 ?_)
 refine Ok.nt (Ok.sr (Ok.b 1 [2] [(3,pv bs3 0),(9,pv bxt 0)] ?_))
 have O1:RepL g8 (.str) ([sv By]:List Value) ([By]:List Bs):=(RepL.consN (c:=[sv By]) rfl rfl)
 refine Ok.o (OpOk.li O1 fun b10=>?_)
 refine Ok.frz 0 rfl O1 fun g11 X2 w2=>?_
 replace C1:=C1.mono X2.1
 replace j2:=j2.mono X2.1
 obtain ⟨hp12,hF⟩:=hF
 refine Ok.en [1,0,2] ?_
 refine Ok.o (OpOk.ch (rne_c q7.2 ([By]:List Bs) j2 w2 hp12) fun g13 _ _ o1 S2=>?_)
 obtain ⟨Y1,U1,rfl,P1,rfl⟩:=S2
 replace C1:=C1.mono o1.1
 refine Ok.nt (Ok.sr (Ok.o (OpOk.s (v:=.agg (aJ q7.1 y2 u2)) (Yields.loadAgg 1 4 (aJ q7.1 y2 u2) rfl rfl underlying24 rfl kr kr kr) rfl rfl (Ok.o (OpOk.w 2 ?_)))))
 refine Ok.nt (Ok.ret ?_)
 exact Ok.p (vs:=[.agg (aJ q7.1 y2 u2)]) [0] [.blk bxt (.cells (aT (neS q7.2 ([By]:List Bs)) Y1 U1) 58)] dc rfl (.inl rfl) rfl (.cons (.cellAgg 2 4 (aJ q7.1 y2 u2) rfl rfl underlying24 rfl kr kr kr) .nil) ((((hx3.trans hx5).trans hx8).trans X2).trans o1) ⟨q7.1,(neS q7.2 ([By]:List Bs)),y2,u2,Y1,U1,rfl,C1,P1,rfl,hF⟩
def rblV3 (d0:List TK) (c0:Bool):Bool :=
 ((!c0)&&(decide ((waS (d0,c0) ([([125]:Bs)]:List Bs)).1<0)))
def rblV4 (d0:List TK) (c0:Bool):List TK :=
 (if (!c0)=true then (waS (d0,c0) ([([125]:Bs)]:List Bs)).2.1 else d0)
def rblV5 (d0:List TK) (c0:Bool):Bool :=
 (if (!c0)=true then (waS (d0,c0) ([([125]:Bs)]:List Bs)).2.2 else c0)
def rblj11 (N:Nat) (xwhere:Int) (K:JN→TT→Prop) (m0:List JN) (d0:List TK) (c0:Bool) (C9:(List JN)→List TK→Bool→Prop):Prop :=
 (rblV3 d0 c0=true→rstP N (rblV4 d0 c0,rblV5 d0 c0) xwhere∧∀ q12:JN×TT,(rstR (rblV4 d0 c0,rblV5 d0 c0) xwhere) q12→(m0++([q12.1]:List JN)).length≤2513169434916∧C9 (m0++([q12.1]:List JN)) q12.2.1 q12.2.2)∧(rblV3 d0 c0=false→K (Tree.mk (30,0,([]:Bs)) m0) (rblV4 d0 c0,rblV5 d0 c0))
def rbll9b (N:Nat) (xwhere:Int) (K:JN→TT→Prop) (m0:List JN) (d0:List TK) (c0:Bool) (C9:(List JN)→List TK→Bool→Prop):Prop :=
 ((!c0)=true→waP (d0,c0) ([([125]:Bs)]:List Bs)∧rblj11 N xwhere K m0 d0 c0 C9)∧((!c0)=false→rblj11 N xwhere K m0 d0 c0 C9)
def rbll9 (N:Nat) (xwhere:Int) (K:JN→TT→Prop):Nat→(List JN)→List TK→Bool→Prop
 | 0,_,_,_=>False
 | k+1,m0,d0,c0=>rbll9b N xwhere K m0 d0 c0 (rbll9 N xwhere K k)
def rblF (N:Nat) (xt:TT) (xwhere:Int) (K:JN→TT→Prop):Prop :=
 waP xt ([([123]:Bs)]:List Bs)∧∃ k,rbll9 N xwhere K k jZ (neS xt ([([123]:Bs)]:List Bs)).1 (neS xt ([([123]:Bs)]:List Bs)).2
theorem rbl_ok {g:Ghost} (N:Nat) (ih_rst:rst_C N) (ih_rbl:rbl_C N) (ih_rfn:rfn_C N) (ih_rbr:rbr_C N) (ih_rex:rex_C N) (ih_run:run_C N) (ih_rfi:rfi_C N) {bxt:Nat} {A0:Option Addr} {I0:Nat} (xt:TT) (xwhere:Int) (Y0:Rep g yTs [.slice A0 xt.1.length I0] xt.1) (K:JN→TT→Prop)
  (hF:rblF N xt xwhere K):CallsH prog 57 #[pv bxt 0,iv xwhere] g [.blk bxt (.cells (aT xt A0 I0) 58)] (fun g' H' v=>∃ (r0:JN),∃ (fxt:TT),∃ (z1:Option Addr) (v1:Nat),∃ (B0:Option Addr) (C0:Nat),v=.agg (aJ r0 z1 v1)∧Rep g' yJs [.slice z1 r0.kids.length v1] r0.kids∧Rep g' yTs [.slice B0 fxt.1.length C0] fxt.1∧H'=[.blk bxt (.cells (aT fxt B0 C0) 58)]∧K r0 fxt):=by
 refine CallsH.en 30 func57 rfl fun w0=>?_
 refine Ok.q (Ok.r ?_)
 have hL1:RepL g yJ [] []:=rfl
 refine Ok.ownNil 24 4 (Ok.o (OpOk.aw aZ fun bs4=>?_))
 refine Ok.nt (Ok.sr (Ok.B 1 [(0,pv bxt 0),(1,iv xwhere),(4,pv bs4 0),(6,pv bxt 0)] kr ?_))
 have hL3:RepL g (.str) ([sv Bc]:List Value) ([Bc]:List Bs):=(RepL.consN (c:=[sv Bc]) rfl rfl)
 refine Ok.o (OpOk.li hL3 fun b3=>?_)
 refine Ok.frz 0 rfl hL3 fun g4 hx4 B2=>?_
 replace Y0:=Y0.mono hx4.1
 obtain ⟨hp5,hF⟩:=hF
 refine Ok.en [2,0,1] ?_
 refine Ok.o (OpOk.ch (rne_c xt ([Bc]:List Bs) Y0 B2 hp5) fun g6 _ _ hx6 hV6=>?_)
 obtain ⟨a6_0,c6_0,rfl,hR6_0,rfl⟩:=hV6
 refine Ok.nt (Ok.sr (Ok.b 1 [0,1,4] [(9,.agg #[iv 30,iv 0,sv Bz,.slice none 0 0])] ?_))
 have hL7:RepL g6 yJ [] []:=rfl
 refine Ok.ownNil 24 4 (Ok.o (OpOk.aw aZ fun bs5=>?_))
 have hL9:RepL g6 yJ [] []:=rfl
 refine Ok.ownNil 24 4 (Ok.o (OpOk.w 1 ?_))
 refine Ok.nt (Ok.q (Ok.block ?_))
 obtain ⟨k,hF⟩:=hF
 refine Ok.L (fun k a W=>∃ gl9:Ghost,Gext w0 g6 gl9∧∃ (t0:Option Addr) (l0:Nat) (m0:List JN) (S0:List Value) (U0:Option Addr) (J0:Nat) (d0:List TK) (c0:Bool),RepL gl9 yJ S0 m0∧Rep gl9 yTs [.slice U0 d0.length J0] d0∧StA 30 [(0,pv bxt 0),(1,iv xwhere),(4,pv bs4 0),(5,pv bs5 0)] a∧StW w0 [.own (.slice t0 m0.length l0) 24 4 m0.length S0,.blk bs5 (.cells (aM 30 0 Bz t0 m0 l0) 24),.blk bxt (.cells #[.slice U0 d0.length J0,.bool c0] 58),.blk bs4 (.cells aZ 24),.own (.slice none jZ.length 0) 24 4 jZ.length ([])] gl9 W∧rbll9 N xwhere K k m0 d0 c0) k ?_ ?_
 ·
  exact fun _ _ u v=>⟨g6,Gext.r w0 g6,none,0,jZ,[],a6_0,c6_0,(neS xt ([Bc]:List Bs)).1,(neS xt ([Bc]:List Bs)).2,hL9,hR6_0,fA u v hF⟩
 clear hF
 rintro (_ | k9) _ _ ⟨gl9,C2,t0,l0,m0,S0,U0,J0,d0,c0,i0,N0,q⟩
 exact (q.2.2:False).elim
 refine jn (fun hF=>?_) _ _ q
 refine Ok.q (Ok.cut (fun a W=>∃ l2:Ghost,Gext w0 gl9 l2∧∃ (D0:Option Addr) (E0:Nat),Rep l2 yTs [.slice D0 (rblV4 d0 c0).length E0] (rblV4 d0 c0)∧StA 30 [(0,pv bxt 0),(1,iv xwhere),(4,pv bs4 0),(5,pv bs5 0),(20,.bool (rblV3 d0 c0))] a∧StW w0 [.blk bxt (.cells #[.slice D0 (rblV4 d0 c0).length E0,.bool (rblV5 d0 c0)] 58),.own (.slice t0 m0.length l0) 24 4 m0.length S0,.blk bs5 (.cells (aM 30 0 Bz t0 m0 l0) 24),.blk bs4 (.cells aZ 24),.own (.slice none jZ.length 0) 24 4 jZ.length ([])] l2 W∧rblj11 N xwhere K m0 d0 c0 (rbll9 N xwhere K k9)) ?_ ?_)
 ·
  refine Ok.r (Ok.rn 6 [.e 2] [0,1,4,5] [(15,.bool (!c0))] ?_)
  refine Ok.bw 15 hF (fun q1 hF=>?_) (fun q1 hF=>?_)
  ·refine Ok.b 1 [0,1,4,5] [(15,.bool true),(16,pv bxt 0)] ?_
   have D1:RepL gl9 (.str) ([sv Bv]:List Value) ([Bv]:List Bs):=(RepL.consN (c:=[sv Bv]) rfl rfl)
   refine Ok.oy (OpOk.li D1 fun b18=>?_)
   refine Ok.frz 0 rfl D1 fun g19 b1 k1=>?_
   replace i0:=i0.mono b1.1
   replace N0:=N0.mono b1.1
   obtain ⟨x2,hF⟩:=hF
   refine Ok.en [2,0,1,3,4] ?_
   refine Ok.oy (OpOk.ch (rwa_c (d0,c0) ([Bv]:List Bs) N0 k1 x2) fun g21 _ _ c1 s2=>?_)
   obtain ⟨y1,u1,rfl,r1,rfl⟩:=s2
   replace i0:=i0.mono c1.1
   refine Ok.b 2 [0,1,4,5] [(20,.bool (decide ((waS (d0,c0) ([Bv]:List Bs)).1<0)))] ?_
   refine Ok.nt (Ok.rb 20 (rblV3 d0 c0) (mand_t q1) (Ok.he (E':=.blk bxt (.cells #[.slice y1 (rblV4 d0 c0).length u1,.bool (rblV5 d0 c0)] 58)) 0 (congrArg (fun l:List Value=>Ent.blk bxt (.cells ⟨l⟩ 58)) (lcons (congrArg (fun l:List TK=>Value.slice y1 l.length u1) ((if_t q1).symm)) (lcons (congrArg (Value.bool) ((if_t q1).symm)) rfl))) ?_))
   exact fun _ _ u v=>⟨g21,b1.trans c1,y1,u1,(Eq.mp (congrArg (fun l:List TK=>Rep g21 yTs [.slice y1 l.length u1] l) ((if_t q1).symm)) r1),fA u v hF⟩
  refine Ok.b 5 [0,1,4,5] [(20,.bool false)] ?_
  refine Ok.nt (Ok.rb 20 (rblV3 d0 c0) (mand_f q1) (Ok.he (E':=.blk bxt (.cells #[.slice U0 (rblV4 d0 c0).length J0,.bool (rblV5 d0 c0)] 58)) 2 (congrArg (fun l:List Value=>Ent.blk bxt (.cells ⟨l⟩ 58)) (lcons (congrArg (fun l:List TK=>Value.slice U0 l.length J0) ((if_f q1).symm)) (lcons (congrArg (Value.bool) ((if_f q1).symm)) rfl))) ?_))
  exact fun a W hA hW=>⟨gl9,Gext.r w0 gl9,U0,J0,(Eq.mp (congrArg (fun l:List TK=>Rep gl9 yTs [.slice U0 l.length J0] l) ((if_f q1).symm)) N0),hA.sub kr,hW.pick [2,0,1,3,4] _ dc rfl,hF⟩
 clear hF
 rintro _ _ ⟨l2,z2,D0,E0,F0,q⟩
 refine jn (fun hF=>?_) _ _ q
 replace i0:=i0.mono z2.1
 refine Ok.cw hF (fun hc10 hF=>?_) (fun hc10 hF=>?_)
 ·refine Ok.k (Ok.t (Ok.block (Ok.mixs [0,1,2,3] [4,5] [.own (.slice t0 m0.length l0) 24 4 m0.length S0,.blk bs5 (.cells (aM 30 0 Bz t0 m0 l0) 24),.blk bs4 (.cells aZ 24),.own (.slice none jZ.length 0) 24 4 jZ.length ([])] [.blk bs4 (.cells aZ 24),.own (.slice none jZ.length 0) 24 4 jZ.length ([])] [(0,true),(1,true),(2,true),(3,true),(4,false),(5,false),(6,false),(7,true),(8,false)] kr kr (.cons _ (.cons _ (.cons_cons _ (.cons_cons _ .slnil)))) (.cons _ (.cons_cons _ (.cons_cons _ (.cons_cons _ (.cons_cons _ .slnil))))) (OkM.B 1 [(0,pv bxt 0),(1,iv xwhere),(4,pv bs4 0),(5,pv bs5 0),(21,pv bs5 3)] kr (OkM.hd (OpQ.s (v:=.slice t0 m0.length l0) (Yields.l 1 rfl rfl underlying22 rfl kr) rfl rfl ?_))))))
  refine OkM.b 2 [0,1,4,5] [(22,.slice t0 m0.length l0),(23,pv bxt 0),(24,iv xwhere)] ?_
  obtain ⟨D2,hF⟩:=hF
  refine OkM.t rfl rfl (OpOk.ch (ih_rst _ (rblV4 d0 c0,rblV5 d0 c0) xwhere F0 D2) fun g13 _ _ o1 S2=>?_)
  obtain ⟨q12,hq12,Y1,U1,a13_2,c13_2,rfl,P1,hR13_2,rfl⟩:=S2
  replace hF:=hF _ hq12
  replace i0:=i0.mono o1.1
  refine OkM.l1 o1.1 ?_
  have v3:RepL g13 yJ ((lJ q12.1 Y1 U1):List Value) ([q12.1]:List JN):=(RepL.consN (c:=(lJ q12.1 Y1 U1)) (Rep.tree.2 ⟨[iv q12.1.lab.1,iv q12.1.lab.2.1,sv q12.1.lab.2.2],[.slice Y1 q12.1.kids.length U1],rfl,⟨[iv q12.1.lab.1],[iv q12.1.lab.2.1,sv q12.1.lab.2.2],rfl,rfl,⟨[iv q12.1.lab.2.1],[sv q12.1.lab.2.2],rfl,rfl,rfl⟩⟩,P1⟩) rfl)
  refine OkM.t rfl rfl (OpOk.li v3 fun b14=>?_)
  refine OkM.l1 o1.1 ?_
  obtain ⟨hb15,hF⟩:=hF
  refine OkM.t rfl rfl (OpOk.append' (e:=yJ) 56 2513169434916 2 0 rfl rfl rfl rfl i0 v3 underlying22 kr kr kr hb15 rfl fun a15 c15 xs15 a2=>?_)
  refine OkM.l1 o1.1 (OkM.b 1 [0,1,4,5] [(27,.slice a15 (m0++([q12.1]:List JN)).length c15),(28,pv bs5 3)] ?_)
  refine OkM.t rfl rfl (OpOk.w1 3 ?_)
  refine OkM.l1 o1.1 (OkM.nil (Ok.kn (Ok.t ?_)))
  exact fun a W hA hW=>⟨k9,nl,g13,((C2.trans z2).trans o1),a15,c15,(m0++([q12.1]:List JN)),xs15,a13_2,c13_2,q12.2.1,q12.2.2,a2,hR13_2,hA.sub kr,hW.pick [2,3,1,4,5] _ dc rfl,hF⟩
 refine Ok.x (Ok.thenE (Ok.thenE (Ok.blockHit (Ok.t (Ok.sr (Ok.o (OpOk.s (v:=.agg (aM 30 0 Bz t0 m0 l0)) (Yields.loadAgg 2 4 (aM 30 0 Bz t0 m0 l0) rfl rfl underlying24 rfl kr kr kr) rfl rfl (Ok.o (OpOk.w 3 ?_)))))))))
 refine Ok.nt (Ok.ret (Ok.frz 1 rfl i0 fun g16 q2 hRf16=>?_))
 replace F0:=F0.mono q2.1
 exact Ok.p (vs:=[.agg (aM 30 0 Bz t0 m0 l0)]) [0] [.blk bxt (.cells #[.slice D0 (rblV4 d0 c0).length E0,.bool (rblV5 d0 c0)] 58)] dc rfl (.inl rfl) rfl (.cons (.cellAgg 2 4 (aM 30 0 Bz t0 m0 l0) rfl rfl underlying24 rfl kr kr kr) .nil) ((((hx4.trans hx6).trans C2).trans z2).trans q2) ⟨(Tree.mk (30,0,Bz) m0),(rblV4 d0 c0,rblV5 d0 c0),t0,l0,D0,E0,rfl,hRf16,F0,rfl,hF⟩
def rfnV3 (k0:List TK) (y0:Bool):Bool :=
 ((decide ((waS (k0,y0) ([([41]:Bs)]:List Bs)).1<0))&&(!(waS (k0,y0) ([([41]:Bs)]:List Bs)).2.2))
def rfnV6 (k0:List TK) (y0:Bool):List TK :=
 (waS (k0,y0) ([([41]:Bs)]:List Bs)).2.1
def rfnV7 (q0:List JN) (k0:List TK) (y0:Bool):List TK :=
 (if (decide ((q0.length:Int)>0))=true then (neS (rfnV6 k0 y0,(waS (k0,y0) ([([41]:Bs)]:List Bs)).2.2) ([([44]:Bs)]:List Bs)).1 else (rfnV6 k0 y0))
def rfnV8 (q0:List JN) (k0:List TK) (y0:Bool):Bool :=
 (if (decide ((q0.length:Int)>0))=true then (neS (rfnV6 k0 y0,(waS (k0,y0) ([([41]:Bs)]:List Bs)).2.2) ([([44]:Bs)]:List Bs)).2 else (waS (k0,y0) ([([41]:Bs)]:List Bs)).2.2)
def rfnj15i11 (q0:List JN) (k0:List TK) (y0:Bool) (C7x1:(List JN)→List TK→Bool→Prop):Prop :=
 (q0++([(Tree.mk (10,0,(rnmS (rfnV7 q0 k0 y0,rfnV8 q0 k0 y0)).1) jZ)]:List JN)).length≤2513169434916∧C7x1 (q0++([(Tree.mk (10,0,(rnmS (rfnV7 q0 k0 y0,rfnV8 q0 k0 y0)).1) jZ)]:List JN)) (rnmS (rfnV7 q0 k0 y0,rfnV8 q0 k0 y0)).2.1 (rnmS (rfnV7 q0 k0 y0,rfnV8 q0 k0 y0)).2.2
def rfnj9i11 (N:Nat) (xname:Bs) (K:JN→TT→Prop) (q0:List JN) (k0:List TK) (y0:Bool) (C7x1:(List JN)→List TK→Bool→Prop):Prop :=
 (rfnV3 k0 y0=true→((decide ((q0.length:Int)>0))=true→waP (rfnV6 k0 y0,(waS (k0,y0) ([([41]:Bs)]:List Bs)).2.2) ([([44]:Bs)]:List Bs)∧rfnj15i11 q0 k0 y0 C7x1)∧((decide ((q0.length:Int)>0))=false→rfnj15i11 q0 k0 y0 C7x1))∧(rfnV3 k0 y0=false→rblP N (rfnV6 k0 y0,(waS (k0,y0) ([([41]:Bs)]:List Bs)).2.2) 1∧∀ q23:JN×TT,(rblR (rfnV6 k0 y0,(waS (k0,y0) ([([41]:Bs)]:List Bs)).2.2) 1) q23→(q0++([q23.1]:List JN)).length≤2513169434916∧K (Tree.mk (9,0,xname) (q0++([q23.1]:List JN))) q23.2)
def rfnl7x1b (N:Nat) (xname:Bs) (K:JN→TT→Prop) (q0:List JN) (k0:List TK) (y0:Bool) (C7x1:(List JN)→List TK→Bool→Prop):Prop :=
 waP (k0,y0) ([([41]:Bs)]:List Bs)∧((decide ((waS (k0,y0) ([([41]:Bs)]:List Bs)).1<0))=true→rfnj9i11 N xname K q0 k0 y0 C7x1)∧((decide ((waS (k0,y0) ([([41]:Bs)]:List Bs)).1<0))=false→rfnj9i11 N xname K q0 k0 y0 C7x1)
def rfnl7x1 (N:Nat) (xname:Bs) (K:JN→TT→Prop):Nat→(List JN)→List TK→Bool→Prop
 | 0,_,_,_=>False
 | k+1,q0,k0,y0=>rfnl7x1b N xname K q0 k0 y0 (rfnl7x1 N xname K k)
def rfnF (N:Nat) (xt:TT) (xname:Bs) (K:JN→TT→Prop):Prop :=
 waP xt ([([40]:Bs)]:List Bs)∧∃ k,rfnl7x1 N xname K k jZ (neS xt ([([40]:Bs)]:List Bs)).1 (neS xt ([([40]:Bs)]:List Bs)).2
theorem rfn_ok {g:Ghost} (N:Nat) (ih_rst:rst_C N) (ih_rbl:rbl_C N) (ih_rfn:rfn_C N) (ih_rbr:rbr_C N) (ih_rex:rex_C N) (ih_run:run_C N) (ih_rfi:rfi_C N) {bxt:Nat} {A0:Option Addr} {I0:Nat} (xt:TT) (xname:Bs) (Y0:Rep g yTs [.slice A0 xt.1.length I0] xt.1) (K:JN→TT→Prop)
  (hF:rfnF N xt xname K):CallsH prog 55 #[pv bxt 0,sv xname] g [.blk bxt (.cells (aT xt A0 I0) 58)] (fun g' H' v=>∃ (r0:JN),∃ (fxt:TT),∃ (z1:Option Addr) (v1:Nat),∃ (B0:Option Addr) (C0:Nat),v=.agg (aJ r0 z1 v1)∧Rep g' yJs [.slice z1 r0.kids.length v1] r0.kids∧Rep g' yTs [.slice B0 fxt.1.length C0] fxt.1∧H'=[.blk bxt (.cells (aT fxt B0 C0) 58)]∧K r0 fxt):=by
 refine CallsH.en 19 func55 rfl fun w0=>?_
 refine Ok.sr (Ok.o (OpOk.box (v:=pv bxt 0) (cs:=#[pv bxt 0]) rfl kr rfl fun bs2=>?_))
 have hL2:RepL g yJ [] []:=rfl
 refine Ok.ownNil 24 4 (Ok.o (OpOk.aw aZ fun bs4=>?_))
 refine Ok.nt (Ok.sr (Ok.o (OpOk.s (v:=pv bxt 0) (Yields.l 2 rfl rfl underlying56 rfl kr) rfl rfl ?_)))
 have hL4:RepL g (.str) ([sv Bx]:List Value) ([Bx]:List Bs):=(RepL.consN (c:=[sv Bx]) rfl rfl)
 refine Ok.o (OpOk.li hL4 fun b4=>?_)
 refine Ok.frz 0 rfl hL4 fun g5 hx5 E2=>?_
 replace Y0:=Y0.mono hx5.1
 obtain ⟨hp6,hF⟩:=hF
 refine Ok.en [3,0,1,2] ?_
 refine Ok.o (OpOk.ch (rne_c xt ([Bx]:List Bs) Y0 E2 hp6) fun g7 _ _ hx7 hV7=>?_)
 obtain ⟨a7_0,c7_0,rfl,hR7_0,rfl⟩:=hV7
 refine Ok.nt (Ok.sr (Ok.rn 2 [.e 3] [] [(1,sv xname),(2,pv bs2 0),(4,pv bs4 0),(9,pv bxt 0),(10,.func (.func 72) #[] #[pv bs2 0])] ?_))
 refine Ok.o (OpOk.i (args:=#[pv bxt 0,sv By,.func (.func 72) #[] #[pv bs2 0]]) 32 [(0,pv bxt 0),(1,sv By),(2,.func (.func 72) #[] #[pv bs2 0])] enr func71 rfl rfl rfl rfl (Ok.sr (Ok.B 1 [(0,pv bxt 0),(1,sv By),(2,.func (.func 72) #[] #[pv bs2 0])] kr (Ok.nt (Ok.sr (Ok.b 1 [0,1,2] [(7,.slice none 0 0)] ?_))))))
 have hL8:RepL g7 yJ [] []:=rfl
 refine Ok.ownNil 24 4 (Ok.nt (Ok.q (Ok.block ?_)))
 obtain ⟨k,hF⟩:=hF
 refine Ok.L (fun k a W=>∃ j1:Ghost,Gext w0 g7 j1∧∃ (n0:Option Addr) (o0:Nat) (q0:List JN) (Q0:List Value) (O0:Option Addr) (P0:Nat) (k0:List TK) (y0:Bool),RepL j1 yJ Q0 q0∧Rep j1 yTs [.slice O0 k0.length P0] k0∧StA 32 [(0,pv bxt 0),(1,sv By),(2,.func (.func 72) #[] #[pv bs2 0]),(7,.slice n0 q0.length o0)] a∧StW w0 [.own (.slice n0 q0.length o0) 24 4 q0.length Q0,.blk bxt (.cells #[.slice O0 k0.length P0,.bool y0] 58),.blk bs4 (.cells aZ 24),.own (.slice none jZ.length 0) 24 4 jZ.length ([]),.blk bs2 (.cells #[pv bxt 0] 56)] j1 W∧rfnl7x1 N xname K k q0 k0 y0) k ?_ ?_
 ·
  exact fun _ _ u v=>⟨g7,Gext.r w0 g7,none,0,jZ,[],a7_0,c7_0,(neS xt ([Bx]:List Bs)).1,(neS xt ([Bx]:List Bs)).2,hL8,hR7_0,fA u v hF⟩
 clear hF
 rintro (_ | k7x1) _ _ ⟨j1,S1,n0,o0,q0,Q0,O0,P0,k0,y0,e0,G0,q⟩
 exact (q.2.2:False).elim
 refine jn (fun hF=>?_) _ _ q
 refine Ok.q (Ok.cut (fun a W=>∃ R0:Ghost,Gext w0 j1 R0∧∃ (Z0:Option Addr) (V0:Nat),Rep R0 yTs [.slice Z0 (rfnV6 k0 y0).length V0] (rfnV6 k0 y0)∧StA 32 [(0,pv bxt 0),(1,sv By),(2,.func (.func 72) #[] #[pv bs2 0]),(7,.slice n0 q0.length o0),(19,.bool (rfnV3 k0 y0))] a∧StW w0 [.blk bxt (.cells #[.slice Z0 (rfnV6 k0 y0).length V0,.bool (waS (k0,y0) ([By]:List Bs)).2.2] 58),.own (.slice n0 q0.length o0) 24 4 q0.length Q0,.blk bs4 (.cells aZ 24),.own (.slice none jZ.length 0) 24 4 jZ.length ([]),.blk bs2 (.cells #[pv bxt 0] 56)] R0 W∧rfnj9i11 N xname K q0 k0 y0 (rfnl7x1 N xname K k7x1)) ?_ ?_)
 ·
  refine Ok.r (Ok.b 2 [0,1,2,7] [(8,pv bxt 0),(9,sv By)] ?_)
  have k3:RepL j1 (.str) ([sv By]:List Value) ([By]:List Bs):=(RepL.consN (c:=[sv By]) rfl rfl)
  refine Ok.o (OpOk.li k3 fun b28=>?_)
  refine Ok.frz 0 rfl k3 fun g29 c2 d2=>?_
  replace e0:=e0.mono c2.1
  replace G0:=G0.mono c2.1
  obtain ⟨hp30,hF⟩:=hF
  refine Ok.en [1,0,2,3,4] ?_
  refine Ok.o (OpOk.ch (rwa_c (k0,y0) ([By]:List Bs) G0 d2 hp30) fun g31 _ _ t1 F2=>?_)
  obtain ⟨J1,W1,rfl,B1,rfl⟩:=F2
  replace e0:=e0.mono t1.1
  refine Ok.b 2 [0,1,2,7] [(13,.bool (decide ((waS (k0,y0) ([By]:List Bs)).1<0)))] ?_
  refine Ok.bw 13 hF (fun G2 hF=>?_) (fun G2 hF=>?_)
  ·refine Ok.rn 6 [.e 0] [0,1,2,7] [(19,.bool (!(waS (k0,y0) ([By]:List Bs)).2.2))] ?_
   refine Ok.nt (Ok.rb 19 (rfnV3 k0 y0) (mand_t G2) ?_)
   exact fun _ _ u v=>⟨g31,c2.trans t1,J1,W1,B1,fA u v hF⟩
  refine Ok.b 6 [0,1,2,7] [(19,.bool false)] ?_
  refine Ok.nt (Ok.rb 19 (rfnV3 k0 y0) (mand_f G2) ?_)
  exact fun _ _ u v=>⟨g31,c2.trans t1,J1,W1,B1,fA u v hF⟩
 clear hF
 rintro _ _ ⟨R0,n1,Z0,V0,K0,q⟩
 refine jn (fun hF=>?_) _ _ q
 replace e0:=e0.mono n1.1
 refine Ok.cw hF (fun hc9 hF=>?_) (fun hc9 hF=>?_)
 ·refine Ok.k (Ok.t (Ok.block (Ok.cut (fun a W=>∃ d1:Ghost,Gext w0 R0 d1∧∃ (H0:Option Addr) (M0:Nat),Rep d1 yTs [.slice H0 (rfnV7 q0 k0 y0).length M0] (rfnV7 q0 k0 y0)∧StA 32 [(0,pv bxt 0),(1,sv By),(2,.func (.func 72) #[] #[pv bs2 0]),(7,.slice n0 q0.length o0)] a∧StW w0 [.blk bxt (.cells #[.slice H0 (rfnV7 q0 k0 y0).length M0,.bool (rfnV8 q0 k0 y0)] 58),.own (.slice n0 q0.length o0) 24 4 q0.length Q0,.blk bs4 (.cells aZ 24),.own (.slice none jZ.length 0) 24 4 jZ.length ([]),.blk bs2 (.cells #[pv bxt 0] 56)] d1 W∧rfnj15i11 q0 k0 y0 (rfnl7x1 N xname K k7x1)) ?_ ?_)))
  ·
   refine Ok.sr (Ok.b 3 [0,1,2,7] [(22,.bool (decide ((q0.length:Int)>0)))] ?_)
   refine Ok.nt (Ok.cw hF (fun q1 hF=>?_) (fun q1 hF=>?_))
   ·refine Ok.r (Ok.b 1 [0,1,2,7] [(23,pv bxt 0)] ?_)
    have D1:RepL R0 (.str) ([sv Bo]:List Value) ([Bo]:List Bs):=(RepL.consN (c:=[sv Bo]) rfl rfl)
    refine Ok.o (OpOk.li D1 fun b18=>?_)
    refine Ok.frz 0 rfl D1 fun g19 b1 k1=>?_
    replace e0:=e0.mono b1.1
    replace K0:=K0.mono b1.1
    obtain ⟨x2,hF⟩:=hF
    refine Ok.o (OpOk.ch (rne_c (rfnV6 k0 y0,(waS (k0,y0) ([By]:List Bs)).2.2) ([Bo]:List Bs) K0 k1 x2) fun g21 _ _ c1 s2=>?_)
    obtain ⟨y1,u1,rfl,r1,rfl⟩:=s2
    replace e0:=e0.mono c1.1
    refine Ok.nt (Ok.he (E':=.blk bxt (.cells #[.slice y1 (rfnV7 q0 k0 y0).length u1,.bool (rfnV8 q0 k0 y0)] 58)) 0 (congrArg (fun l:List Value=>Ent.blk bxt (.cells ⟨l⟩ 58)) (lcons (congrArg (fun l:List TK=>Value.slice y1 l.length u1) ((if_t q1).symm)) (lcons (congrArg (Value.bool) ((if_t q1).symm)) rfl))) ?_)
    exact fun _ _ u v=>⟨g21,b1.trans c1,y1,u1,(Eq.mp (congrArg (fun l:List TK=>Rep g21 yTs [.slice y1 l.length u1] l) ((if_t q1).symm)) r1),fA u v hF⟩
   refine Ok.k (Ok.t (Ok.he (E':=.blk bxt (.cells #[.slice Z0 (rfnV7 q0 k0 y0).length V0,.bool (rfnV8 q0 k0 y0)] 58)) 0 (congrArg (fun l:List Value=>Ent.blk bxt (.cells ⟨l⟩ 58)) (lcons (congrArg (fun l:List TK=>Value.slice Z0 l.length V0) ((if_f q1).symm)) (lcons (congrArg (Value.bool) ((if_f q1).symm)) rfl))) ?_))
   exact fun _ _ u v=>⟨R0,Gext.r w0 R0,Z0,V0,(Eq.mp (congrArg (fun l:List TK=>Rep R0 yTs [.slice Z0 l.length V0] l) ((if_f q1).symm)) K0),fA u v hF⟩
  clear hF
  rintro _ _ ⟨d1,a1,H0,M0,hRybxt_0j15i11,q⟩
  refine jn (fun hF=>?_) _ _ q
  replace e0:=e0.mono a1.1
  refine Ok.r (Ok.b 2 [0,1,2] [(26,.slice n0 q0.length o0),(27,.func (.func 72) #[] #[pv bs2 0])] ?_)
  refine Ok.o (OpOk.i (args:=#[pv bs2 0]) 5 [(0,pv bs2 0)] enr func72 rfl rfl rfl rfl (Ok.q (Ok.r ?_)))
  have O1:RepL d1 yJ [] []:=rfl
  refine Ok.ownNil 24 4 (Ok.o (OpOk.aw aZ fun bs1i11i28=>?_))
  refine Ok.nt (Ok.sr (Ok.o (OpOk.s (v:=pv bxt 0) (Yields.l 6 rfl rfl underlying56 rfl kr) rfl rfl (Ok.en [2,0,1,3,4,5,6] ?_))))
  refine Ok.o (OpOk.ch (rnm_c (rfnV7 q0 k0 y0,rfnV8 q0 k0 y0) hRybxt_0j15i11) fun g12 _ _ Q1 H2=>?_)
  obtain ⟨e1,f1,rfl,T0,rfl⟩:=H2
  replace e0:=e0.mono Q1.1
  refine Ok.B 1 [(1,pv bs1i11i28 0),(4,.agg #[iv 10,iv 0,sv ((rnmS (rfnV7 q0 k0 y0,rfnV8 q0 k0 y0)).1),.slice none 0 0])] kr ?_
  have hL13:RepL g12 yJ [] []:=rfl
  refine Ok.ownNil 24 4 (Ok.o (OpOk.w 2 ?_))
  refine Ok.nt (Ok.ret (Ok.back (vs:=[.agg (aM 10 0 ((rnmS (rfnV7 q0 k0 y0,rfnV8 q0 k0 y0)).1) none jZ 0)]) (.inl rfl) rfl (.cons (.cellAgg 2 4 (aM 10 0 ((rnmS (rfnV7 q0 k0 y0,rfnV8 q0 k0 y0)).1) none jZ 0) rfl rfl underlying24 rfl kr kr kr) .nil) rfl (Ok.frz 0 rfl hL13 fun g14 e2 hRf14=>?_)))
  replace e0:=e0.mono e2.1
  replace T0:=T0.mono e2.1
  have a2:RepL g14 yJ ((lM 10 0 ((rnmS (rfnV7 q0 k0 y0,rfnV8 q0 k0 y0)).1) none jZ 0):List Value) ([(Tree.mk (10,0,(rnmS (rfnV7 q0 k0 y0,rfnV8 q0 k0 y0)).1) jZ)]:List JN):=(RepL.consN (c:=(lM 10 0 ((rnmS (rfnV7 q0 k0 y0,rfnV8 q0 k0 y0)).1) none jZ 0)) (Rep.tree.2 ⟨[iv 10,iv 0,sv ((rnmS (rfnV7 q0 k0 y0,rfnV8 q0 k0 y0)).1)],[.slice none jZ.length 0],rfl,⟨[iv 10],[iv 0,sv ((rnmS (rfnV7 q0 k0 y0,rfnV8 q0 k0 y0)).1)],rfl,rfl,⟨[iv 0],[sv ((rnmS (rfnV7 q0 k0 y0,rfnV8 q0 k0 y0)).1)],rfl,rfl,rfl⟩⟩,hRf14⟩) rfl)
  refine Ok.o (OpOk.li a2 fun b15=>?_)
  obtain ⟨hb16,hF⟩:=hF
  refine Ok.o (OpOk.append' (e:=yJ) 56 2513169434916 4 0 rfl rfl rfl rfl e0 a2 underlying22 kr kr kr hb16 rfl fun a16 c16 xs16 hL16=>?_)
  refine Ok.B 1 [(0,pv bxt 0),(1,sv By),(2,.func (.func 72) #[] #[pv bs2 0]),(7,.slice a16 (q0++([(Tree.mk (10,0,(rnmS (rfnV7 q0 k0 y0,rfnV8 q0 k0 y0)).1) jZ)]:List JN)).length c16)] kr (Ok.j (Ok.kn (Ok.t ?_)))
  exact fun a W hA hW=>⟨k7x1,nl,g14,((((S1.trans n1).trans a1).trans Q1).trans e2),a16,c16,(q0++([(Tree.mk (10,0,(rnmS (rfnV7 q0 k0 y0,rfnV8 q0 k0 y0)).1) jZ)]:List JN)),xs16,e1,f1,(rnmS (rfnV7 q0 k0 y0,rfnV8 q0 k0 y0)).2.1,(rnmS (rfnV7 q0 k0 y0,rfnV8 q0 k0 y0)).2.2,hL16,T0,hA.sub kr,hW.pick [4,1,5,6,7] _ dc rfl,hF⟩
 refine Ok.x (Ok.thenE (Ok.thenE (Ok.blockHit (Ok.t (Ok.sr (Ok.B 2 [(6,.slice n0 q0.length o0)] kr (Ok.nt (Ok.ret (Ok.back (vs:=[.slice n0 q0.length o0]) (.inl rfl) rfl (.cons (.tmp rfl) .nil) rfl (Ok.B 1 [(1,sv xname),(2,pv bs2 0),(4,pv bs4 0),(5,.slice n0 q0.length o0)] kr (Ok.nt (Ok.sr (Ok.b 2 [2,4] [(12,sv xname),(13,.slice n0 q0.length o0)] ?_)))))))))))))
 refine Ok.o (OpOk.s (v:=pv bxt 0) (Yields.l 4 rfl rfl underlying56 rfl kr) rfl rfl ?_)
 obtain ⟨M2,hF⟩:=hF
 refine Ok.o (OpOk.ch (ih_rbl _ (rfnV6 k0 y0,(waS (k0,y0) ([By]:List Bs)).2.2) 1 K0 M2) fun g24 _ _ R1 N2=>?_)
 obtain ⟨q23,O2,g1,m1,E1,F1,rfl,i1,x1,rfl⟩:=N2
 replace hF:=hF _ O2
 replace e0:=e0.mono R1.1
 have i2:RepL g24 yJ ((lJ q23.1 g1 m1):List Value) ([q23.1]:List JN):=(RepL.consN (c:=(lJ q23.1 g1 m1)) (Rep.tree.2 ⟨[iv q23.1.lab.1,iv q23.1.lab.2.1,sv q23.1.lab.2.2],[.slice g1 q23.1.kids.length m1],rfl,⟨[iv q23.1.lab.1],[iv q23.1.lab.2.1,sv q23.1.lab.2.2],rfl,rfl,⟨[iv q23.1.lab.2.1],[sv q23.1.lab.2.2],rfl,rfl,rfl⟩⟩,i1⟩) rfl)
 refine Ok.o (OpOk.li i2 fun b25=>?_)
 obtain ⟨hb26,hF⟩:=hF
 refine Ok.o (OpOk.append' (e:=yJ) 56 2513169434916 2 0 rfl rfl rfl rfl e0 i2 underlying22 kr kr kr hb26 rfl fun a26 c26 xs26 Z2=>?_)
 refine Ok.b 1 [4] [(18,.agg (aM 9 0 xname a26 (q0++([q23.1]:List JN)) c26))] ?_
 refine Ok.o (OpOk.w 3 ?_)
 refine Ok.nt (Ok.ret (Ok.frz 2 rfl Z2 fun g27 K1 f2=>?_))
 replace x1:=x1.mono K1.1
 exact Ok.p (vs:=[.agg (aM 9 0 xname a26 (q0++([q23.1]:List JN)) c26)]) [1] [.blk bxt (.cells (aT q23.2 E1 F1) 58)] dc rfl (.inl rfl) rfl (.cons (.cellAgg 2 4 (aM 9 0 xname a26 (q0++([q23.1]:List JN)) c26) rfl rfl underlying24 rfl kr kr kr) .nil) (((((hx5.trans hx7).trans S1).trans n1).trans R1).trans K1) ⟨(Tree.mk (9,0,xname) (q0++([q23.1]:List JN))),q23.2,a26,c26,E1,F1,rfl,f2,x1,rfl,hF⟩
def rexV3 (xleast:Int) (v0:List TK) (z0:Bool):Bool :=
 ((((sgS (rwdS (v0,z0)))==0)||(decide ((sgS (rwdS (v0,z0)))<xleast)))||z0)
def rexV4 (v0:List TK) (z0:Bool):Int :=
 (if (rwdS (v0,z0)==([124,124]:Bs))=true then 17 else (if (rwdS (v0,z0)==([38,38]:Bs))=true then 16 else 15))
def rexV5 (v0:List TK) (z0:Bool):Bs :=
 (if (rwdS (v0,z0)==([124,124]:Bs))=true then ([]:Bs) else (if (rwdS (v0,z0)==([38,38]:Bs))=true then ([]:Bs) else (rwdS (v0,z0))))
def rexV6 (u0:Int) (v0:List TK) (z0:Bool):Bool :=
 ((waS (v0,z0) ([([63]:Bs),([61]:Bs)]:List Bs)).2.2||((u0 != 5)&&((u0 != 12)&&(u0 != 13))))
def rexj66 (N:Nat) (K:JN→TT→Prop) (u0:Int) (j0:Int) (x0:Bs) (s0:List JN) (v0:List TK) (z0:Bool):Prop :=
 rexP N ((waS (v0,z0) ([([63]:Bs),([61]:Bs)]:List Bs)).2.1,rexV6 u0 v0 z0) 0∧∀ q30:JN×TT,(rexR ((waS (v0,z0) ([([63]:Bs),([61]:Bs)]:List Bs)).2.1,rexV6 u0 v0 z0) 0) q30→K (Tree.mk (19,0,([]:Bs)) ([Tree.mk (u0,j0,x0) s0,q30.1]:List JN)) q30.2
def rexj40 (N:Nat) (xleast:Int) (K:JN→TT→Prop) (u0:Int) (j0:Int) (x0:Bs) (s0:List JN) (v0:List TK) (z0:Bool):Prop :=
 ((decide (xleast>0)||z0)=true→K (Tree.mk (u0,j0,x0) s0) (v0,z0))∧((decide (xleast>0)||z0)=false→waP (v0,z0) ([([63]:Bs),([61]:Bs)]:List Bs)∧(((waS (v0,z0) ([([63]:Bs),([61]:Bs)]:List Bs)).1==0)=true→rexP N (waS (v0,z0) ([([63]:Bs),([61]:Bs)]:List Bs)).2 0∧∀ q15:JN×TT,(rexR (waS (v0,z0) ([([63]:Bs),([61]:Bs)]:List Bs)).2 0) q15→waP q15.2 ([([58]:Bs)]:List Bs)∧rexP N (neS q15.2 ([([58]:Bs)]:List Bs)) 0∧∀ q23:JN×TT,(rexR (neS q15.2 ([([58]:Bs)]:List Bs)) 0) q23→K (Tree.mk (18,0,([]:Bs)) ([Tree.mk (u0,j0,x0) s0,q15.1,q23.1]:List JN)) q23.2)∧(((waS (v0,z0) ([([63]:Bs),([61]:Bs)]:List Bs)).1==0)=false→(((waS (v0,z0) ([([63]:Bs),([61]:Bs)]:List Bs)).1==1)=true→((waS (v0,z0) ([([63]:Bs),([61]:Bs)]:List Bs)).2.2=true→rexj66 N K u0 j0 x0 s0 v0 z0)∧((waS (v0,z0) ([([63]:Bs),([61]:Bs)]:List Bs)).2.2=false→((u0 != 5)=true→((u0 != 12)=true→rexj66 N K u0 j0 x0 s0 v0 z0)∧((u0 != 12)=false→rexj66 N K u0 j0 x0 s0 v0 z0))∧((u0 != 5)=false→rexj66 N K u0 j0 x0 s0 v0 z0)))∧(((waS (v0,z0) ([([63]:Bs),([61]:Bs)]:List Bs)).1==1)=false→K (Tree.mk (u0,j0,x0) s0) (waS (v0,z0) ([([63]:Bs),([61]:Bs)]:List Bs)).2)))
def rexj25 (u0:Int) (j0:Int) (x0:Bs) (s0:List JN) (v0:List TK) (z0:Bool) (C7:Int→Int→Bs→(List JN)→List TK→Bool→Prop) (q43:JN×TT):Prop :=
 C7 (rexV4 v0 z0) 0 (rexV5 v0 z0) ([Tree.mk (u0,j0,x0) s0,q43.1]:List JN) q43.2.1 q43.2.2
def rexj14 (N:Nat) (xleast:Int) (K:JN→TT→Prop) (u0:Int) (j0:Int) (x0:Bs) (s0:List JN) (v0:List TK) (z0:Bool) (C7:Int→Int→Bs→(List JN)→List TK→Bool→Prop):Prop :=
 (rexV3 xleast v0 z0=true→(decide (xleast>0)=true→rexj40 N xleast K u0 j0 x0 s0 v0 z0)∧(decide (xleast>0)=false→rexj40 N xleast K u0 j0 x0 s0 v0 z0))∧(rexV3 xleast v0 z0=false→waP (v0,z0) ([rwdS (v0,z0)]:List Bs)∧rexP N (neS (v0,z0) ([rwdS (v0,z0)]:List Bs)) (w6 ((sgS (rwdS (v0,z0)))+1))∧∀ q43:JN×TT,(rexR (neS (v0,z0) ([rwdS (v0,z0)]:List Bs)) (w6 ((sgS (rwdS (v0,z0)))+1))) q43→((rwdS (v0,z0)==([124,124]:Bs))=true→rexj25 u0 j0 x0 s0 v0 z0 C7 q43)∧((rwdS (v0,z0)==([124,124]:Bs))=false→((rwdS (v0,z0)==([38,38]:Bs))=true→rexj25 u0 j0 x0 s0 v0 z0 C7 q43)∧((rwdS (v0,z0)==([38,38]:Bs))=false→rexj25 u0 j0 x0 s0 v0 z0 C7 q43)))
def rexl7b (N:Nat) (xleast:Int) (K:JN→TT→Prop) (u0:Int) (j0:Int) (x0:Bs) (s0:List JN) (v0:List TK) (z0:Bool) (C7:Int→Int→Bs→(List JN)→List TK→Bool→Prop):Prop :=
 ((((sgS (rwdS (v0,z0)))==0)||(decide ((sgS (rwdS (v0,z0)))<xleast)))=true→rexj14 N xleast K u0 j0 x0 s0 v0 z0 C7)∧((((sgS (rwdS (v0,z0)))==0)||(decide ((sgS (rwdS (v0,z0)))<xleast)))=false→rexj14 N xleast K u0 j0 x0 s0 v0 z0 C7)
def rexl7 (N:Nat) (xleast:Int) (K:JN→TT→Prop):Nat→Int→Int→Bs→(List JN)→List TK→Bool→Prop
 | 0,_,_,_,_,_,_=>False
 | k+1,u0,j0,x0,s0,v0,z0=>rexl7b N xleast K u0 j0 x0 s0 v0 z0 (rexl7 N xleast K k)
def rexF (N:Nat) (xt:TT) (xleast:Int) (K:JN→TT→Prop):Prop :=
 runP N xt∧∀ q3:JN×TT,(runR xt) q3→∃ k,rexl7 N xleast K k q3.1.lab.1 q3.1.lab.2.1 q3.1.lab.2.2 q3.1.kids q3.2.1 q3.2.2
theorem rex_ok {g:Ghost} (N:Nat) (ih_rst:rst_C N) (ih_rbl:rbl_C N) (ih_rfn:rfn_C N) (ih_rbr:rbr_C N) (ih_rex:rex_C N) (ih_run:run_C N) (ih_rfi:rfi_C N) {bxt:Nat} {A0:Option Addr} {I0:Nat} (xt:TT) (xleast:Int) (Y0:Rep g yTs [.slice A0 xt.1.length I0] xt.1) (K:JN→TT→Prop)
  (hF:rexF N xt xleast K):CallsH prog 54 #[pv bxt 0,iv xleast] g [.blk bxt (.cells (aT xt A0 I0) 58)] (fun g' H' v=>∃ (r0:JN),∃ (fxt:TT),∃ (z1:Option Addr) (v1:Nat),∃ (B0:Option Addr) (C0:Nat),v=.agg (aJ r0 z1 v1)∧Rep g' yJs [.slice z1 r0.kids.length v1] r0.kids∧Rep g' yTs [.slice B0 fxt.1.length C0] fxt.1∧H'=[.blk bxt (.cells (aT fxt B0 C0) 58)]∧K r0 fxt):=by
 refine CallsH.en 110 func54 rfl fun w0=>?_
 refine Ok.sr (Ok.o (OpOk.aw aY fun bs4=>?_))
 refine Ok.nt (Ok.sr (Ok.B 1 [(0,pv bxt 0),(1,iv xleast),(4,pv bs4 0),(12,pv bxt 0)] kr ?_))
 obtain ⟨hp2,hF⟩:=hF
 refine Ok.en [1,0] ?_
 refine Ok.o (OpOk.ch (ih_run _ xt Y0 hp2) fun g4 _ _ hx4 hV4=>?_)
 obtain ⟨q3,hq3,a4_0,c4_0,a4_2,c4_2,rfl,hR4_0,hR4_2,rfl⟩:=hV4
 replace hF:=hF _ hq3
 refine Ok.o (OpOk.aw aY fun bs5=>?_)
 refine Ok.o (OpOk.w 0 ?_)
 refine Ok.nt (Ok.q (Ok.block ?_))
 obtain ⟨k,hF⟩:=hF
 refine Ok.L (fun k a W=>∃ gl7:Ghost,Gext w0 g4 gl7∧∃ (u0:Int) (j0:Int) (x0:Bs) (f0:Option Addr) (g0:Nat) (s0:List JN) (W0:Option Addr) (X0:Nat) (v0:List TK) (z0:Bool),Rep gl7 yJs [.slice f0 s0.length g0] s0∧Rep gl7 yTs [.slice W0 v0.length X0] v0∧StA 110 [(0,pv bxt 0),(1,iv xleast),(4,pv bs4 0),(5,pv bs5 0)] a∧StW w0 [.blk bs5 (.cells (aM u0 j0 x0 f0 s0 g0) 24),.blk bxt (.cells #[.slice W0 v0.length X0,.bool z0] 58),.blk bs4 (.cells aY 24)] gl7 W∧rexl7 N xleast K k u0 j0 x0 s0 v0 z0) k ?_ ?_
 ·
  exact fun _ _ u v=>⟨g4,Gext.r w0 g4,q3.1.lab.1,q3.1.lab.2.1,q3.1.lab.2.2,a4_0,c4_0,q3.1.kids,a4_2,c4_2,q3.2.1,q3.2.2,hR4_0,hR4_2,fA u v hF⟩
 clear hF
 rintro (_ | k7) _ _ ⟨gl7,g2,u0,j0,x0,f0,g0,s0,W0,X0,v0,z0,b0,a0,q⟩
 exact (q.2.2:False).elim
 refine jn (fun hF=>?_) _ _ q
 refine Ok.block (Ok.sr (Ok.b 1 [0,1,4,5] [(14,pv bxt 0)] ?_))
 refine Ok.en [1,0,2] ?_
 refine Ok.o (OpOk.ch (rwd_c (v0,z0) a0) fun g6 _ _ hx6 hV6=>?_)
 obtain ⟨rfl,rfl⟩:=hV6
 replace a0:=a0.mono hx6.1
 replace b0:=b0.mono hx6.1
 refine Ok.b 1 [0,1,4,5] [(6,sv (rwdS (v0,z0)))] ?_
 refine Ok.nt (Ok.sr (Ok.rn 3 [.k (rsg_c (rwdS (v0,z0)))] [0,1,4,5,6] [(7,iv (sgS (rwdS (v0,z0))))] ?_))
 refine Ok.nt (Ok.q (Ok.cg g6 [(0,pv bxt 0),(1,iv xleast),(4,pv bs4 0),(5,pv bs5 0),(6,sv (rwdS (v0,z0))),(7,iv (sgS (rwdS (v0,z0)))),(30,.bool (rexV3 xleast v0 z0))] [.blk bxt (.cells #[.slice W0 v0.length X0,.bool z0] 58),.blk bs5 (.cells (aM u0 j0 x0 f0 s0 g0) 24),.blk bs4 (.cells aY 24)] (rexj14 N xleast K u0 j0 x0 s0 v0 z0 (rexl7 N xleast K k7)) ?_ (fun k2 Z1 hF=>?_)))
 ·
  refine Ok.r (Ok.b 3 [0,1,4,5,6,7] [(20,.bool ((sgS (rwdS (v0,z0)))==0))] ?_)
  refine Ok.w 4 [(0,pv bxt 0),(1,iv xleast),(4,pv bs4 0),(5,pv bs5 0),(6,sv (rwdS (v0,z0))),(7,iv (sgS (rwdS (v0,z0)))),(24,.bool (((sgS (rwdS (v0,z0)))==0)||(decide ((sgS (rwdS (v0,z0)))<xleast))))] (fun y3=>?_) ?_
  ·refine Ok.a 20 ((sgS (rwdS (v0,z0)))==0) rfl (fun P2=>?_) (fun P2=>?_)
   ·skip
    refine Ok.b 4 [0,1,4,5,6,7] [(24,.bool true)] ?_
    refine Ok.rb 24 (((sgS (rwdS (v0,z0)))==0)||(decide ((sgS (rwdS (v0,z0)))<xleast))) (mor_t P2) (Ok.b 0 [0,1,4,5,6,7] [(24,.bool (((sgS (rwdS (v0,z0)))==0)||(decide ((sgS (rwdS (v0,z0)))<xleast))))] ?_)
    exact y3
   skip
   refine Ok.b 4 [0,1,4,5,6,7] [(24,.bool (decide ((sgS (rwdS (v0,z0)))<xleast)))] ?_
   refine Ok.rb 24 (((sgS (rwdS (v0,z0)))==0)||(decide ((sgS (rwdS (v0,z0)))<xleast))) (mor_f P2) (Ok.b 0 [0,1,4,5,6,7] [(24,.bool (((sgS (rwdS (v0,z0)))==0)||(decide ((sgS (rwdS (v0,z0)))<xleast))))] ?_)
   exact y3
  refine Ok.b 1 [0,1,4,5,6,7] [(25,.bool (((sgS (rwdS (v0,z0)))==0)||(decide ((sgS (rwdS (v0,z0)))<xleast))))] ?_
  refine Ok.bw 25 hF (fun R2 hF=>?_) (fun R2 hF=>?_)
  ·refine Ok.b 5 [0,1,4,5,6,7] [(30,.bool true)] ?_
   refine Ok.nt (Ok.rb 30 (rexV3 xleast v0 z0) (mor_t R2) ?_)
   exact fg hF
  refine Ok.rn 5 [.e 0] [0,1,4,5,6,7] [(30,.bool z0)] ?_
  refine Ok.nt (Ok.rb 30 (rexV3 xleast v0 z0) (mor_f R2) ?_)
  exact fg hF
 replace a0:=a0.mono Z1.1
 replace b0:=b0.mono Z1.1
 refine Ok.cw hF (fun hc7 hF=>?_) (fun hc7 hF=>?_)
 ·refine Ok.x (Ok.thenE (Ok.blockMiss rfl (Ok.thenE (Ok.blockHit (Ok.t (Ok.q (Ok.cg k2 [(0,pv bxt 0),(4,pv bs4 0),(5,pv bs5 0),(61,.bool (decide (xleast>0)||z0))] [.blk bxt (.cells #[.slice W0 v0.length X0,.bool z0] 58),.blk bs5 (.cells (aM u0 j0 x0 f0 s0 g0) 24),.blk bs4 (.cells aY 24)] (rexj40 N xleast K u0 j0 x0 s0 v0 z0) ?_ (fun gj40 X1 hF=>?_))))))))
  ·
   refine Ok.r (Ok.b 3 [0,4,5] [(56,.bool (decide (xleast>0)))] ?_)
   refine Ok.bw 56 hF (fun T2 hF=>?_) (fun T2 hF=>?_)
   ·refine Ok.b 5 [0,4,5] [(61,.bool true)] ?_
    refine Ok.nt (Ok.rb 61 (decide (xleast>0)||z0) (mor_t T2) ?_)
    exact fg hF
   refine Ok.rn 5 [.e 0] [0,4,5] [(61,.bool z0)] ?_
   refine Ok.nt (Ok.rb 61 (decide (xleast>0)||z0) (mor_f T2) ?_)
   exact fg hF
  replace a0:=a0.mono X1.1
  replace b0:=b0.mono X1.1
  refine Ok.cw hF (fun hc8 hF=>?_) (fun hc8 hF=>?_)
  ·refine Ok.sr (Ok.o (OpOk.s (v:=.agg (aM u0 j0 x0 f0 s0 g0)) (Yields.loadAgg 1 4 (aM u0 j0 x0 f0 s0 g0) rfl rfl underlying24 rfl kr kr kr) rfl rfl (Ok.o (OpOk.w 2 ?_))))
   refine Ok.nt (Ok.ret (Ok.tr ?_))
   exact Ok.p (vs:=[.agg (aM u0 j0 x0 f0 s0 g0)]) [0] [.blk bxt (.cells #[.slice W0 v0.length X0,.bool z0] 58)] dc rfl (.inl rfl) rfl (.cons (.cellAgg 2 4 (aM u0 j0 x0 f0 s0 g0) rfl rfl underlying24 rfl kr kr kr) .nil) ((((hx4.trans g2).trans hx6).trans Z1).trans X1) ⟨Tree.mk (u0,j0,x0) s0,(v0,z0),f0,g0,W0,X0,rfl,b0,a0,rfl,hF⟩
  refine Ok.k (Ok.t (Ok.q (Ok.sr (Ok.b 1 [0,4,5] [(63,pv bxt 0)] ?_))))
  have hL9:RepL gj40 (.str) ([sv Bk,sv Bp]:List Value) ([Bk,Bp]:List Bs):=(RepL.consN (c:=[sv Bk]) rfl (RepL.consN (c:=[sv Bp]) rfl rfl))
  refine Ok.o (OpOk.li hL9 fun b9=>?_)
  refine Ok.frz 0 rfl hL9 fun g10 h2 m2=>?_
  replace a0:=a0.mono h2.1
  replace b0:=b0.mono h2.1
  obtain ⟨D2,hF⟩:=hF
  refine Ok.o (OpOk.ch (rwa_c (v0,z0) ([Bk,Bp]:List Bs) a0 m2 D2) fun g12 _ _ Q1 H2=>?_)
  obtain ⟨e1,f1,rfl,T0,rfl⟩:=H2
  replace b0:=b0.mono Q1.1
  refine Ok.nt (Ok.block (Ok.sr (Ok.b 2 [0,4,5] [(65,iv (waS (v0,z0) ([Bk,Bp]:List Bs)).1),(66,.bool ((waS (v0,z0) ([Bk,Bp]:List Bs)).1==0))] ?_)))
  refine Ok.nt (Ok.cw hF (fun hc13 hF=>?_) (fun hc13 hF=>?_))
  ·refine Ok.sr (Ok.b 1 [0,4,5] [(68,pv bxt 0)] ?_)
   obtain ⟨hp14,hF⟩:=hF
   refine Ok.o (OpOk.ch (ih_rex _ (waS (v0,z0) ([Bk,Bp]:List Bs)).2 0 T0 hp14) fun g16 _ _ q2 hV16=>?_)
   obtain ⟨q15,hq15,G1,H1,a16_2,c16_2,rfl,L0,T1,rfl⟩:=hV16
   replace hF:=hF _ hq15
   replace b0:=b0.mono q2.1
   refine Ok.o (OpOk.aw aY fun bs10=>?_)
   refine Ok.o (OpOk.w 0 ?_)
   refine Ok.nt (Ok.sr (Ok.b 1 [0,4,5] [(10,pv bs10 0),(70,pv bxt 0)] ?_))
   have D1:RepL g16 (.str) ([sv Ba]:List Value) ([Ba]:List Bs):=(RepL.consN (c:=[sv Ba]) rfl rfl)
   refine Ok.o (OpOk.li D1 fun b18=>?_)
   refine Ok.frz 0 rfl D1 fun g19 b1 k1=>?_
   replace L0:=L0.mono b1.1
   replace T1:=T1.mono b1.1
   replace b0:=b0.mono b1.1
   obtain ⟨x2,hF⟩:=hF
   refine Ok.en [1,0,2,3] ?_
   refine Ok.o (OpOk.ch (rne_c q15.2 ([Ba]:List Bs) T1 k1 x2) fun g21 _ _ c1 s2=>?_)
   obtain ⟨y1,u1,rfl,r1,rfl⟩:=s2
   replace L0:=L0.mono c1.1
   replace b0:=b0.mono c1.1
   refine Ok.nt (Ok.sr (Ok.b 1 [4,5,10] [(73,pv bxt 0)] ?_))
   obtain ⟨M2,hF⟩:=hF
   refine Ok.o (OpOk.ch (ih_rex _ (neS q15.2 ([Ba]:List Bs)) 0 r1 M2) fun g24 _ _ R1 N2=>?_)
   obtain ⟨q23,O2,g1,m1,E1,F1,rfl,i1,x1,rfl⟩:=N2
   replace hF:=hF _ O2
   replace L0:=L0.mono R1.1
   replace b0:=b0.mono R1.1
   refine Ok.o (OpOk.aw aY fun bs11=>?_)
   refine Ok.o (OpOk.w 0 ?_)
   refine Ok.nt (Ok.sr (Ok.o (OpOk.s (v:=.agg (aM u0 j0 x0 f0 s0 g0)) (Yields.loadAgg 3 4 (aM u0 j0 x0 f0 s0 g0) rfl rfl underlying24 rfl kr kr kr) rfl rfl (Ok.o (OpOk.s (v:=.agg (aJ q15.1 G1 H1)) (Yields.loadAgg 2 4 (aJ q15.1 G1 H1) rfl rfl underlying24 rfl kr kr kr) rfl rfl (Ok.o (OpOk.s (v:=.agg (aJ q23.1 g1 m1)) (Yields.loadAgg 0 4 (aJ q23.1 g1 m1) rfl rfl underlying24 rfl kr kr kr) rfl rfl ?_)))))))
   have Z2:RepL g24 yJ ([iv u0,iv j0,sv x0,.slice f0 s0.length g0,iv q15.1.lab.1,iv q15.1.lab.2.1,sv q15.1.lab.2.2,.slice G1 q15.1.kids.length H1,iv q23.1.lab.1,iv q23.1.lab.2.1,sv q23.1.lab.2.2,.slice g1 q23.1.kids.length m1]:List Value) ([Tree.mk (u0,j0,x0) s0,q15.1,q23.1]:List JN):=(RepL.consN (c:=(lM u0 j0 x0 f0 s0 g0)) (Rep.tree.2 ⟨[iv u0,iv j0,sv x0],[.slice f0 s0.length g0],rfl,⟨[iv u0],[iv j0,sv x0],rfl,rfl,⟨[iv j0],[sv x0],rfl,rfl,rfl⟩⟩,b0⟩) (RepL.consN (c:=(lJ q15.1 G1 H1)) (Rep.tree.2 ⟨[iv q15.1.lab.1,iv q15.1.lab.2.1,sv q15.1.lab.2.2],[.slice G1 q15.1.kids.length H1],rfl,⟨[iv q15.1.lab.1],[iv q15.1.lab.2.1,sv q15.1.lab.2.2],rfl,rfl,⟨[iv q15.1.lab.2.1],[sv q15.1.lab.2.2],rfl,rfl,rfl⟩⟩,L0⟩) (RepL.consN (c:=(lJ q23.1 g1 m1)) (Rep.tree.2 ⟨[iv q23.1.lab.1,iv q23.1.lab.2.1,sv q23.1.lab.2.2],[.slice g1 q23.1.kids.length m1],rfl,⟨[iv q23.1.lab.1],[iv q23.1.lab.2.1,sv q23.1.lab.2.2],rfl,rfl,⟨[iv q23.1.lab.2.1],[sv q23.1.lab.2.2],rfl,rfl,rfl⟩⟩,i1⟩) rfl)))
   refine Ok.o (OpOk.li Z2 fun b26=>?_)
   refine Ok.b 1 [4] [(79,.agg (aM 18 0 Bz (some ⟨b26,0,none⟩) ([Tree.mk (u0,j0,x0) s0,q15.1,q23.1]:List JN) 3))] ?_
   refine Ok.o (OpOk.w 5 ?_)
   refine Ok.j (Ok.frz 0 rfl Z2 fun g27 K1 f2=>?_)
   replace x1:=x1.mono K1.1
   replace b0:=b0.mono K1.1
   refine Ok.t (Ok.ret (Ok.kr (Ok.tr ?_)))
   exact Ok.p (vs:=[.agg (aM 18 0 Bz (some ⟨b26,0,none⟩) ([Tree.mk (u0,j0,x0) s0,q15.1,q23.1]:List JN) 3)]) [1] [.blk bxt (.cells (aT q23.2 E1 F1) 58)] dc rfl (.inl rfl) rfl (.cons (.cellAgg 4 4 (aM 18 0 Bz (some ⟨b26,0,none⟩) ([Tree.mk (u0,j0,x0) s0,q15.1,q23.1]:List JN) 3) rfl rfl underlying24 rfl kr kr kr) .nil) (((((((((((hx4.trans g2).trans hx6).trans Z1).trans X1).trans h2).trans Q1).trans q2).trans b1).trans c1).trans R1).trans K1) ⟨(Tree.mk (18,0,Bz) ([Tree.mk (u0,j0,x0) s0,q15.1,q23.1]:List JN)),q23.2,(some ⟨b26,0,none⟩),3,E1,F1,rfl,f2,x1,rfl,hF⟩
  refine Ok.sr (Ok.b 2 [0,4,5] [(80,.bool ((waS (v0,z0) ([Bk,Bp]:List Bs)).1==1))] ?_)
  refine Ok.nt (Ok.cw hF (fun hc28 hF=>?_) (fun hc28 hF=>?_))
  ·refine Ok.cg g12 [(0,pv bxt 0),(4,pv bs4 0),(5,pv bs5 0)] [.blk bxt (.cells #[.slice e1 (waS (v0,z0) ([Bk,Bp]:List Bs)).2.1.length f1,.bool (rexV6 u0 v0 z0)] 58),.blk bs5 (.cells (aM u0 j0 x0 f0 s0 g0) 24),.blk bs4 (.cells aY 24)] (rexj66 N K u0 j0 x0 s0 v0 z0) ?_ (fun gj66 n2 hF=>?_)
   ·
    refine Ok.r (Ok.rn 6 [.e 0] [0,4,5] [(82,pv bxt 0),(87,.bool (waS (v0,z0) ([Bk,Bp]:List Bs)).2.2)] ?_)
    refine Ok.bw 87 hF (fun o2 hF=>?_) (fun o2 hF=>?_)
    ·refine Ok.b 16 [0,4,5] [(101,.bool true),(103,pv bxt 1)] ?_
     refine Ok.o (OpOk.w1 0 ?_)
     refine Ok.nt (Ok.he (E':=.blk bxt (.cells #[.slice e1 (waS (v0,z0) ([Bk,Bp]:List Bs)).2.1.length f1,.bool (rexV6 u0 v0 z0)] 58)) 0 (congrArg (fun l:List Value=>Ent.blk bxt (.cells ⟨l⟩ 58)) (lcons (rfl) (lcons (congrArg (Value.bool) (mor_t o2)) rfl))) ?_)
     exact fg hF
    refine Ok.rn 4 [.e 1] [0,4,5,82] [(87,.bool false),(91,.bool (u0 != 5))] ?_
    refine Ok.bw 91 hF (fun V2 hF=>?_) (fun V2 hF=>?_)
    ·refine Ok.rn 5 [.e 1] [0,4,5,82,87] [(96,.bool (u0 != 12))] ?_
     refine Ok.bw 96 hF (fun L2 hF=>?_) (fun L2 hF=>?_)
     ·refine Ok.rn 7 [.e 1] [0,4,5] [(101,.bool (u0 != 13)),(103,pv bxt 1)] ?_
      refine Ok.o (OpOk.w1 0 ?_)
      refine Ok.nt (Ok.he (E':=.blk bxt (.cells #[.slice e1 (waS (v0,z0) ([Bk,Bp]:List Bs)).2.1.length f1,.bool (rexV6 u0 v0 z0)] 58)) 0 (congrArg (fun l:List Value=>Ent.blk bxt (.cells ⟨l⟩ 58)) (lcons (rfl) (lcons (congrArg (Value.bool) (Eq.trans (Eq.trans (mand_t L2) (mand_t V2)) (mor_f o2))) rfl))) ?_)
      exact fg hF
     refine Ok.b 7 [0,4,5] [(101,.bool false),(103,pv bxt 1)] ?_
     refine Ok.o (OpOk.w1 0 ?_)
     refine Ok.nt (Ok.he (E':=.blk bxt (.cells #[.slice e1 (waS (v0,z0) ([Bk,Bp]:List Bs)).2.1.length f1,.bool (rexV6 u0 v0 z0)] 58)) 0 (congrArg (fun l:List Value=>Ent.blk bxt (.cells ⟨l⟩ 58)) (lcons (rfl) (lcons (congrArg (Value.bool) (Eq.trans (Eq.trans (mand_f L2) (mand_t V2)) (mor_f o2))) rfl))) ?_)
     exact fg hF
    refine Ok.b 12 [0,4,5] [(101,.bool false),(103,pv bxt 1)] ?_
    refine Ok.o (OpOk.w1 0 ?_)
    refine Ok.nt (Ok.he (E':=.blk bxt (.cells #[.slice e1 (waS (v0,z0) ([Bk,Bp]:List Bs)).2.1.length f1,.bool (rexV6 u0 v0 z0)] 58)) 0 (congrArg (fun l:List Value=>Ent.blk bxt (.cells ⟨l⟩ 58)) (lcons (rfl) (lcons (congrArg (Value.bool) (Eq.trans (mand_f V2) (mor_f o2))) rfl))) ?_)
    exact fg hF
   replace T0:=T0.mono n2.1
   replace b0:=b0.mono n2.1
   refine Ok.q (Ok.mi [] [] [0,1,0] [(0,true),(1,true),(2,false),(3,false),(4,true),(5,false)] ?_)
   refine OkM.hd (OpQ.s (v:=.agg (aM u0 j0 x0 f0 s0 g0)) (Yields.loadAgg 0 4 (aM u0 j0 x0 f0 s0 g0) rfl rfl underlying24 rfl kr kr kr) rfl rfl ?_)
   refine OkM.b 1 [4] [(104,.agg (aM u0 j0 x0 f0 s0 g0)),(105,pv bxt 0)] ?_
   obtain ⟨hp29,hF⟩:=hF
   refine OkM.t rfl rfl (OpOk.ch (ih_rex _ ((waS (v0,z0) ([Bk,Bp]:List Bs)).2.1,rexV6 u0 v0 z0) 0 T0 hp29) fun g31 _ _ t1 F2=>?_)
   obtain ⟨q30,hq30,J1,W1,K2,Y2,rfl,B1,L1,rfl⟩:=F2
   replace hF:=hF _ hq30
   replace b0:=b0.mono t1.1
   refine OkM.l1 t1.1 ?_
   have u3:RepL g31 yJ ([iv u0,iv j0,sv x0,.slice f0 s0.length g0,iv q30.1.lab.1,iv q30.1.lab.2.1,sv q30.1.lab.2.2,.slice J1 q30.1.kids.length W1]:List Value) ([Tree.mk (u0,j0,x0) s0,q30.1]:List JN):=(RepL.consN (c:=(lM u0 j0 x0 f0 s0 g0)) (Rep.tree.2 ⟨[iv u0,iv j0,sv x0],[.slice f0 s0.length g0],rfl,⟨[iv u0],[iv j0,sv x0],rfl,rfl,⟨[iv j0],[sv x0],rfl,rfl,rfl⟩⟩,b0⟩) (RepL.consN (c:=(lJ q30.1 J1 W1)) (Rep.tree.2 ⟨[iv q30.1.lab.1,iv q30.1.lab.2.1,sv q30.1.lab.2.2],[.slice J1 q30.1.kids.length W1],rfl,⟨[iv q30.1.lab.1],[iv q30.1.lab.2.1,sv q30.1.lab.2.2],rfl,rfl,⟨[iv q30.1.lab.2.1],[sv q30.1.lab.2.2],rfl,rfl,rfl⟩⟩,B1⟩) rfl))
   refine OkM.t rfl rfl (OpOk.li u3 fun b32=>?_)
   refine OkM.l1 t1.1 (OkM.b 1 [4] [(108,.agg (aM 19 0 Bz (some ⟨b32,0,none⟩) ([Tree.mk (u0,j0,x0) s0,q30.1]:List JN) 2))] ?_)
   refine OkM.t rfl rfl (OpOk.w 3 ?_)
   refine OkM.l1 t1.1 (OkM.nil (Ok.frz 0 rfl u3 fun g33 A2 hRf33=>?_))
   replace L1:=L1.mono A2.1
   replace b0:=b0.mono A2.1
   refine Ok.t (Ok.ret (Ok.kr (Ok.tr ?_)))
   exact Ok.p (vs:=[.agg (aM 19 0 Bz (some ⟨b32,0,none⟩) ([Tree.mk (u0,j0,x0) s0,q30.1]:List JN) 2)]) [0] [.blk bxt (.cells (aT q30.2 K2 Y2) 58)] dc rfl (.inl rfl) rfl (.cons (.cellAgg 2 4 (aM 19 0 Bz (some ⟨b32,0,none⟩) ([Tree.mk (u0,j0,x0) s0,q30.1]:List JN) 2) rfl rfl underlying24 rfl kr kr kr) .nil) (((((((((hx4.trans g2).trans hx6).trans Z1).trans X1).trans h2).trans Q1).trans n2).trans t1).trans A2) ⟨(Tree.mk (19,0,Bz) ([Tree.mk (u0,j0,x0) s0,q30.1]:List JN)),q30.2,(some ⟨b32,0,none⟩),2,K2,Y2,rfl,hRf33,L1,rfl,hF⟩
  refine Ok.k (Ok.kn (Ok.t (Ok.sr (Ok.o (OpOk.s (v:=.agg (aM u0 j0 x0 f0 s0 g0)) (Yields.loadAgg 1 4 (aM u0 j0 x0 f0 s0 g0) rfl rfl underlying24 rfl kr kr kr) rfl rfl (Ok.o (OpOk.w 2 ?_)))))))
  refine Ok.nt (Ok.ret ?_)
  exact Ok.p (vs:=[.agg (aM u0 j0 x0 f0 s0 g0)]) [0] [.blk bxt (.cells (aT (waS (v0,z0) ([Bk,Bp]:List Bs)).2 e1 f1) 58)] dc rfl (.inl rfl) rfl (.cons (.cellAgg 2 4 (aM u0 j0 x0 f0 s0 g0) rfl rfl underlying24 rfl kr kr kr) .nil) ((((((hx4.trans g2).trans hx6).trans Z1).trans X1).trans h2).trans Q1) ⟨Tree.mk (u0,j0,x0) s0,(waS (v0,z0) ([Bk,Bp]:List Bs)).2,f0,g0,e1,f1,rfl,b0,T0,rfl,hF⟩
 refine Ok.k (Ok.t (Ok.sr (Ok.b 2 [0,1,4,5,6,7] [(31,pv bxt 0),(32,sv (rwdS (v0,z0)))] ?_)))
 have j3:RepL k2 (.str) ([sv (rwdS (v0,z0))]:List Value) ([rwdS (v0,z0)]:List Bs):=(RepL.consN (c:=[sv (rwdS (v0,z0))]) rfl rfl)
 refine Ok.o (OpOk.li j3 fun b38=>?_)
 refine Ok.frz 0 rfl j3 fun g39 I2 p2=>?_
 replace a0:=a0.mono I2.1
 replace b0:=b0.mono I2.1
 obtain ⟨hp40,hF⟩:=hF
 refine Ok.o (OpOk.ch (rne_c (v0,z0) ([rwdS (v0,z0)]:List Bs) a0 p2 hp40) fun g41 _ _ z3 hV41=>?_)
 obtain ⟨a41_0,c41_0,rfl,hR41_0,rfl⟩:=hV41
 replace b0:=b0.mono z3.1
 refine Ok.nt (Ok.sr (Ok.b 3 [0,1,4,5,6] [(35,pv bxt 0),(37,iv (w6 ((sgS (rwdS (v0,z0)))+1)))] ?_))
 obtain ⟨hp42,hF⟩:=hF
 refine Ok.o (OpOk.ch (ih_rex _ (neS (v0,z0) ([rwdS (v0,z0)]:List Bs)) (w6 ((sgS (rwdS (v0,z0)))+1)) hR41_0 hp42) fun g44 _ _ w3 hV44=>?_)
 obtain ⟨q43,hq43,M1,N1,U2,J2,rfl,A1,V1,rfl⟩:=hV44
 replace hF:=hF _ hq43
 replace b0:=b0.mono w3.1
 refine Ok.o (OpOk.aw aY fun bs8=>?_)
 refine Ok.o (OpOk.w 0 ?_)
 refine Ok.nt (Ok.sr (Ok.b 1 [0,1,4,5,6] [(8,pv bs8 0),(39,sv (rwdS (v0,z0)))] ?_))
 refine Ok.o (OpOk.s (v:=.agg (aM u0 j0 x0 f0 s0 g0)) (Yields.loadAgg 2 4 (aM u0 j0 x0 f0 s0 g0) rfl rfl underlying24 rfl kr kr kr) rfl rfl (Ok.o (OpOk.s (v:=.agg (aJ q43.1 M1 N1)) (Yields.loadAgg 0 4 (aJ q43.1 M1 N1) rfl rfl underlying24 rfl kr kr kr) rfl rfl ?_)))
 have x3:RepL g44 yJ ([iv u0,iv j0,sv x0,.slice f0 s0.length g0,iv q43.1.lab.1,iv q43.1.lab.2.1,sv q43.1.lab.2.2,.slice M1 q43.1.kids.length N1]:List Value) ([Tree.mk (u0,j0,x0) s0,q43.1]:List JN):=(RepL.consN (c:=(lM u0 j0 x0 f0 s0 g0)) (Rep.tree.2 ⟨[iv u0,iv j0,sv x0],[.slice f0 s0.length g0],rfl,⟨[iv u0],[iv j0,sv x0],rfl,rfl,⟨[iv j0],[sv x0],rfl,rfl,rfl⟩⟩,b0⟩) (RepL.consN (c:=(lJ q43.1 M1 N1)) (Rep.tree.2 ⟨[iv q43.1.lab.1,iv q43.1.lab.2.1,sv q43.1.lab.2.2],[.slice M1 q43.1.kids.length N1],rfl,⟨[iv q43.1.lab.1],[iv q43.1.lab.2.1,sv q43.1.lab.2.2],rfl,rfl,⟨[iv q43.1.lab.2.1],[sv q43.1.lab.2.2],rfl,rfl,rfl⟩⟩,A1⟩) rfl))
 refine Ok.o (OpOk.li x3 fun b46=>?_)
 refine Ok.b 1 [0,1,4,5,6] [(43,.agg (aM 15 0 (rwdS (v0,z0)) (some ⟨b46,0,none⟩) ([Tree.mk (u0,j0,x0) s0,q43.1]:List JN) 2))] ?_
 refine Ok.o (OpOk.aw aY fun bs9=>?_)
 refine Ok.o (OpOk.w 0 ?_)
 refine Ok.j (Ok.frz 1 rfl x3 fun g48 Q2 r2=>?_)
 replace V1:=V1.mono Q2.1
 refine Ok.t (Ok.cg g48 [(0,pv bxt 0),(1,iv xleast),(4,pv bs4 0),(5,pv bs5 0),(9,pv bs9 0)] [.blk bs9 (.cells (aM (rexV4 v0 z0) 0 (rexV5 v0 z0) (some ⟨b46,0,none⟩) ([Tree.mk (u0,j0,x0) s0,q43.1]:List JN) 2) 24),.blk bxt (.cells (aT q43.2 U2 J2) 58),.blk bs5 (.cells (aM u0 j0 x0 f0 s0 g0) 24),.blk bs4 (.cells aY 24)] (rexj25 u0 j0 x0 s0 v0 z0 (rexl7 N xleast K k7) q43) ?_ (fun gj25 v2 hF=>?_))
 ·
  refine Ok.sr (Ok.b 1 [0,1,4,5] [(9,pv bs9 0),(44,sv (rwdS (v0,z0)))] ?_)
  refine Ok.nt (Ok.block (Ok.sr (Ok.rn 2 [] [0,1,4,5,9,44] [(45,.bool (rwdS (v0,z0)==Bm))] ?_)))
  refine Ok.nt (Ok.cw hF (fun I1 hF=>?_) (fun I1 hF=>?_))
  ·refine Ok.r (Ok.b 1 [0,1,4,5,9] [(47,pv bs9 0)] ?_)
   refine Ok.o (OpOk.w1 0 ?_)
   refine Ok.b 1 [0,1,4,5,9] [(48,pv bs9 2)] ?_
   refine Ok.o (OpOk.w1 0 ?_)
   refine Ok.j (Ok.kn (Ok.t (Ok.he (E':=.blk bs9 (.cells (aM (rexV4 v0 z0) 0 (rexV5 v0 z0) (some ⟨b46,0,none⟩) ([Tree.mk (u0,j0,x0) s0,q43.1]:List JN) 2) 24)) 0 (congrArg (fun l:List Value=>Ent.blk bs9 (.cells ⟨l⟩ 24)) (lcons (congrArg (Value.int .i64) ((if_t I1).symm)) (lcons (rfl) (lcons (congrArg (fun s:Bs=>Value.string ⟨⟨s⟩⟩) ((if_t I1).symm)) (lcons (rfl) rfl))))) ?_)))
   exact fg hF
  refine Ok.sr (Ok.rn 2 [] [0,1,4,5,9] [(49,.bool (rwdS (v0,z0)==Bl))] ?_)
  refine Ok.nt (Ok.cw hF (fun t2 hF=>?_) (fun t2 hF=>?_))
  ·refine Ok.r (Ok.b 1 [0,1,4,5,9] [(51,pv bs9 0)] ?_)
   refine Ok.o (OpOk.w1 0 ?_)
   refine Ok.b 1 [0,1,4,5,9] [(52,pv bs9 2)] ?_
   refine Ok.o (OpOk.w1 0 ?_)
   refine Ok.j (Ok.kn (Ok.t (Ok.he (E':=.blk bs9 (.cells (aM (rexV4 v0 z0) 0 (rexV5 v0 z0) (some ⟨b46,0,none⟩) ([Tree.mk (u0,j0,x0) s0,q43.1]:List JN) 2) 24)) 0 (congrArg (fun l:List Value=>Ent.blk bs9 (.cells ⟨l⟩ 24)) (lcons (congrArg (Value.int .i64) (Eq.trans ((if_t t2).symm) ((if_f I1).symm))) (lcons (rfl) (lcons (congrArg (fun s:Bs=>Value.string ⟨⟨s⟩⟩) (Eq.trans ((if_t t2).symm) ((if_f I1).symm))) (lcons (rfl) rfl))))) ?_)))
   exact fg hF
  refine Ok.k (Ok.kn (Ok.t (Ok.he (E':=.blk bs9 (.cells (aM (rexV4 v0 z0) 0 (rexV5 v0 z0) (some ⟨b46,0,none⟩) ([Tree.mk (u0,j0,x0) s0,q43.1]:List JN) 2) 24)) 0 (congrArg (fun l:List Value=>Ent.blk bs9 (.cells ⟨l⟩ 24)) (lcons (congrArg (Value.int .i64) (Eq.trans ((if_f t2).symm) ((if_f I1).symm))) (lcons (rfl) (lcons (congrArg (fun s:Bs=>Value.string ⟨⟨s⟩⟩) (Eq.trans ((if_f t2).symm) ((if_f I1).symm))) (lcons (rfl) rfl))))) ?_)))
  exact fg hF
 replace r2:=r2.mono v2.1
 replace V1:=V1.mono v2.1
 refine Ok.r (Ok.o (OpOk.s (v:=.agg (aM (rexV4 v0 z0) 0 (rexV5 v0 z0) (some ⟨b46,0,none⟩) ([Tree.mk (u0,j0,x0) s0,q43.1]:List JN) 2)) (Yields.loadAgg 0 4 (aM (rexV4 v0 z0) 0 (rexV5 v0 z0) (some ⟨b46,0,none⟩) ([Tree.mk (u0,j0,x0) s0,q43.1]:List JN) 2) rfl rfl underlying24 rfl kr kr kr) rfl rfl (Ok.o (OpOk.w 2 ?_))))
 refine Ok.j (Ok.kn (Ok.t ?_))
 exact fun a W hA hW=>⟨k7,nl,gj25,(((((((g2.trans hx6).trans Z1).trans I2).trans z3).trans w3).trans Q2).trans v2),rexV4 v0 z0,0,rexV5 v0 z0,(some ⟨b46,0,none⟩),2,([Tree.mk (u0,j0,x0) s0,q43.1]:List JN),U2,J2,q43.2.1,q43.2.2,r2,V1,hA.sub kr,hW.pick [2,1,3] _ dc rfl,hF⟩
end
end Go.Proofs.YtalnampdiegmoaaDoor.Rf
