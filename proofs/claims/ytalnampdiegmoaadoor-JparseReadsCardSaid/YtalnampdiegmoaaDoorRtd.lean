/- The document's reader of scripts: walks. -/
import Derived.Test.YtalnampdiegmoaaDoorRtb
namespace Go.Proofs.YtalnampdiegmoaaDoor.Rf
open _root_.Go.Proofs.Tryd Go Go.Eng Go.RowKit Ps
set_option linter.unusedVariables false
set_option linter.unusedSimpArgs false
set_option maxHeartbeats 4000000
set_option maxRecDepth 100000
noncomputable section
def runV0 (xt:TT):Bool :=
 ((!xt.2)&&((rwdS xt==([33]:Bs))||(rwdS xt==([45]:Bs))))
def runV4 (z0:List TK) (v0:Bool):Bool :=
 ((decide ((waS (z0,v0) ([([41]:Bs)]:List Bs)).1<0))&&(!(waS (z0,v0) ([([41]:Bs)]:List Bs)).2.2))
def runV14 (z0:List TK) (v0:Bool):List TK :=
 (waS (z0,v0) ([([41]:Bs)]:List Bs)).2.1
def runV15 (e0:List JN) (z0:List TK) (v0:Bool):List TK :=
 (if (decide ((e0.length:Int)>0))=true then (neS (runV14 z0 v0,(waS (z0,v0) ([([41]:Bs)]:List Bs)).2.2) ([([44]:Bs)]:List Bs)).1 else (runV14 z0 v0))
def runV16 (e0:List JN) (z0:List TK) (v0:Bool):Bool :=
 (if (decide ((e0.length:Int)>0))=true then (neS (runV14 z0 v0,(waS (z0,v0) ([([41]:Bs)]:List Bs)).2.2) ([([44]:Bs)]:List Bs)).2 else (waS (z0,v0) ([([41]:Bs)]:List Bs)).2.2)
def runV19 (z0:List TK) (v0:Bool) (f0:List JN):List TK :=
 (if (decide ((f0.length:Int)>0))=true then (neS (runV14 z0 v0,(waS (z0,v0) ([([41]:Bs)]:List Bs)).2.2) ([([44]:Bs)]:List Bs)).1 else (runV14 z0 v0))
def runV20 (z0:List TK) (v0:Bool) (f0:List JN):Bool :=
 (if (decide ((f0.length:Int)>0))=true then (neS (runV14 z0 v0,(waS (z0,v0) ([([41]:Bs)]:List Bs)).2.2) ([([44]:Bs)]:List Bs)).2 else (waS (z0,v0) ([([41]:Bs)]:List Bs)).2.2)
def runV23 (z0:List TK) (v0:Bool) (g0:List JN):List TK :=
 (if (decide ((g0.length:Int)>0))=true then (neS (runV14 z0 v0,(waS (z0,v0) ([([41]:Bs)]:List Bs)).2.2) ([([44]:Bs)]:List Bs)).1 else (runV14 z0 v0))
def runV24 (z0:List TK) (v0:Bool) (g0:List JN):Bool :=
 (if (decide ((g0.length:Int)>0))=true then (neS (runV14 z0 v0,(waS (z0,v0) ([([41]:Bs)]:List Bs)).2.2) ([([44]:Bs)]:List Bs)).2 else (waS (z0,v0) ([([41]:Bs)]:List Bs)).2.2)
def runj15i47 (N:Nat) (e0:List JN) (z0:List TK) (v0:Bool) (C7x2:(List JN)→List TK→Bool→Prop):Prop :=
 rexP N (runV15 e0 z0 v0,runV16 e0 z0 v0) 0∧∀ q28:JN×TT,(rexR (runV15 e0 z0 v0,runV16 e0 z0 v0) 0) q28→(e0++([q28.1]:List JN)).length≤2513169434916∧C7x2 (e0++([q28.1]:List JN)) q28.2.1 q28.2.2
def runj9i47 (N:Nat) (e0:List JN) (z0:List TK) (v0:Bool) (u0:Int) (q0:Int) (k0:Bs) (j0:List JN) (C19:Int→Int→Bs→(List JN)→List TK→Bool→Prop) (C7x2:(List JN)→List TK→Bool→Prop):Prop :=
 (runV4 z0 v0=true→((decide ((e0.length:Int)>0))=true→waP (runV14 z0 v0,(waS (z0,v0) ([([41]:Bs)]:List Bs)).2.2) ([([44]:Bs)]:List Bs)∧runj15i47 N e0 z0 v0 C7x2)∧((decide ((e0.length:Int)>0))=false→runj15i47 N e0 z0 v0 C7x2))∧(runV4 z0 v0=false→(([Tree.mk (u0,q0,k0) j0]:List JN)++e0).length≤2513169434916∧C19 11 0 ([]:Bs) (([Tree.mk (u0,q0,k0) j0]:List JN)++e0) (runV14 z0 v0) (waS (z0,v0) ([([41]:Bs)]:List Bs)).2.2)
def runl7x2b (N:Nat) (u0:Int) (q0:Int) (k0:Bs) (j0:List JN) (C19:Int→Int→Bs→(List JN)→List TK→Bool→Prop) (e0:List JN) (z0:List TK) (v0:Bool) (C7x2:(List JN)→List TK→Bool→Prop):Prop :=
 waP (z0,v0) ([([41]:Bs)]:List Bs)∧((decide ((waS (z0,v0) ([([41]:Bs)]:List Bs)).1<0))=true→runj9i47 N e0 z0 v0 u0 q0 k0 j0 C19 C7x2)∧((decide ((waS (z0,v0) ([([41]:Bs)]:List Bs)).1<0))=false→runj9i47 N e0 z0 v0 u0 q0 k0 j0 C19 C7x2)
def runl7x2 (N:Nat) (u0:Int) (q0:Int) (k0:Bs) (j0:List JN) (C19:Int→Int→Bs→(List JN)→List TK→Bool→Prop):Nat→(List JN)→List TK→Bool→Prop
 | 0,_,_,_=>False
 | k+1,e0,z0,v0=>runl7x2b N u0 q0 k0 j0 C19 e0 z0 v0 (runl7x2 N u0 q0 k0 j0 C19 k)
def runj15i47a (N:Nat) (z0:List TK) (v0:Bool) (f0:List JN) (C7x3:(List JN)→List TK→Bool→Prop):Prop :=
 rexP N (runV19 z0 v0 f0,runV20 z0 v0 f0) 0∧∀ q49:JN×TT,(rexR (runV19 z0 v0 f0,runV20 z0 v0 f0) 0) q49→(f0++([q49.1]:List JN)).length≤2513169434916∧C7x3 (f0++([q49.1]:List JN)) q49.2.1 q49.2.2
def runj9i47a (N:Nat) (z0:List TK) (v0:Bool) (u0:Int) (q0:Int) (k0:Bs) (j0:List JN) (C19:Int→Int→Bs→(List JN)→List TK→Bool→Prop) (f0:List JN) (C7x3:(List JN)→List TK→Bool→Prop):Prop :=
 (runV4 z0 v0=true→((decide ((f0.length:Int)>0))=true→waP (runV14 z0 v0,(waS (z0,v0) ([([41]:Bs)]:List Bs)).2.2) ([([44]:Bs)]:List Bs)∧runj15i47a N z0 v0 f0 C7x3)∧((decide ((f0.length:Int)>0))=false→runj15i47a N z0 v0 f0 C7x3))∧(runV4 z0 v0=false→(([Tree.mk (u0,q0,k0) j0]:List JN)++f0).length≤2513169434916∧C19 11 0 ([]:Bs) (([Tree.mk (u0,q0,k0) j0]:List JN)++f0) (runV14 z0 v0) (waS (z0,v0) ([([41]:Bs)]:List Bs)).2.2)
def runl7x3yb (N:Nat) (u0:Int) (q0:Int) (k0:Bs) (j0:List JN) (C19:Int→Int→Bs→(List JN)→List TK→Bool→Prop) (f0:List JN) (z0:List TK) (v0:Bool) (C7x3:(List JN)→List TK→Bool→Prop):Prop :=
 waP (z0,v0) ([([41]:Bs)]:List Bs)∧((decide ((waS (z0,v0) ([([41]:Bs)]:List Bs)).1<0))=true→runj9i47a N z0 v0 u0 q0 k0 j0 C19 f0 C7x3)∧((decide ((waS (z0,v0) ([([41]:Bs)]:List Bs)).1<0))=false→runj9i47a N z0 v0 u0 q0 k0 j0 C19 f0 C7x3)
def runl7x3y (N:Nat) (u0:Int) (q0:Int) (k0:Bs) (j0:List JN) (C19:Int→Int→Bs→(List JN)→List TK→Bool→Prop):Nat→(List JN)→List TK→Bool→Prop
 | 0,_,_,_=>False
 | k+1,f0,z0,v0=>runl7x3yb N u0 q0 k0 j0 C19 f0 z0 v0 (runl7x3y N u0 q0 k0 j0 C19 k)
def runj15i47b (N:Nat) (z0:List TK) (v0:Bool) (g0:List JN) (C7x4:(List JN)→List TK→Bool→Prop):Prop :=
 rexP N (runV23 z0 v0 g0,runV24 z0 v0 g0) 0∧∀ q71:JN×TT,(rexR (runV23 z0 v0 g0,runV24 z0 v0 g0) 0) q71→(g0++([q71.1]:List JN)).length≤2513169434916∧C7x4 (g0++([q71.1]:List JN)) q71.2.1 q71.2.2
def runj9i47b (N:Nat) (z0:List TK) (v0:Bool) (u0:Int) (q0:Int) (k0:Bs) (j0:List JN) (C19:Int→Int→Bs→(List JN)→List TK→Bool→Prop) (g0:List JN) (C7x4:(List JN)→List TK→Bool→Prop):Prop :=
 (runV4 z0 v0=true→((decide ((g0.length:Int)>0))=true→waP (runV14 z0 v0,(waS (z0,v0) ([([41]:Bs)]:List Bs)).2.2) ([([44]:Bs)]:List Bs)∧runj15i47b N z0 v0 g0 C7x4)∧((decide ((g0.length:Int)>0))=false→runj15i47b N z0 v0 g0 C7x4))∧(runV4 z0 v0=false→(([Tree.mk (u0,q0,k0) j0]:List JN)++g0).length≤2513169434916∧C19 11 0 ([]:Bs) (([Tree.mk (u0,q0,k0) j0]:List JN)++g0) (runV14 z0 v0) (waS (z0,v0) ([([41]:Bs)]:List Bs)).2.2)
def runl7x4yb (N:Nat) (u0:Int) (q0:Int) (k0:Bs) (j0:List JN) (C19:Int→Int→Bs→(List JN)→List TK→Bool→Prop) (g0:List JN) (z0:List TK) (v0:Bool) (C7x4:(List JN)→List TK→Bool→Prop):Prop :=
 waP (z0,v0) ([([41]:Bs)]:List Bs)∧((decide ((waS (z0,v0) ([([41]:Bs)]:List Bs)).1<0))=true→runj9i47b N z0 v0 u0 q0 k0 j0 C19 g0 C7x4)∧((decide ((waS (z0,v0) ([([41]:Bs)]:List Bs)).1<0))=false→runj9i47b N z0 v0 u0 q0 k0 j0 C19 g0 C7x4)
def runl7x4y (N:Nat) (u0:Int) (q0:Int) (k0:Bs) (j0:List JN) (C19:Int→Int→Bs→(List JN)→List TK→Bool→Prop):Nat→(List JN)→List TK→Bool→Prop
 | 0,_,_,_=>False
 | k+1,g0,z0,v0=>runl7x4yb N u0 q0 k0 j0 C19 g0 z0 v0 (runl7x4y N u0 q0 k0 j0 C19 k)
def runl19b (N:Nat) (K:JN→TT→Prop) (u0:Int) (q0:Int) (k0:Bs) (j0:List JN) (o0:List TK) (n0:Bool) (C19:Int→Int→Bs→(List JN)→List TK→Bool→Prop):Prop :=
 ((!n0)=true→waP (o0,n0) ([([40]:Bs),([91]:Bs),([46]:Bs)]:List Bs)∧(((waS (o0,n0) ([([40]:Bs),([91]:Bs),([46]:Bs)]:List Bs)).1==0)=true→((∃ k,runl7x2 N u0 q0 k0 j0 C19 k jZ (waS (o0,n0) ([([40]:Bs),([91]:Bs),([46]:Bs)]:List Bs)).2.1 (waS (o0,n0) ([([40]:Bs),([91]:Bs),([46]:Bs)]:List Bs)).2.2)∧(∃ k,runl7x3y N u0 q0 k0 j0 C19 k jZ (waS (o0,n0) ([([40]:Bs),([91]:Bs),([46]:Bs)]:List Bs)).2.1 (waS (o0,n0) ([([40]:Bs),([91]:Bs),([46]:Bs)]:List Bs)).2.2))∧(∃ k,runl7x4y N u0 q0 k0 j0 C19 k jZ (waS (o0,n0) ([([40]:Bs),([91]:Bs),([46]:Bs)]:List Bs)).2.1 (waS (o0,n0) ([([40]:Bs),([91]:Bs),([46]:Bs)]:List Bs)).2.2))∧(((waS (o0,n0) ([([40]:Bs),([91]:Bs),([46]:Bs)]:List Bs)).1==0)=false→(((waS (o0,n0) ([([40]:Bs),([91]:Bs),([46]:Bs)]:List Bs)).1==1)=true→rexP N (waS (o0,n0) ([([40]:Bs),([91]:Bs),([46]:Bs)]:List Bs)).2 0∧∀ q92:JN×TT,(rexR (waS (o0,n0) ([([40]:Bs),([91]:Bs),([46]:Bs)]:List Bs)).2 0) q92→waP q92.2 ([([93]:Bs)]:List Bs)∧C19 12 0 ([]:Bs) ([Tree.mk (u0,q0,k0) j0,q92.1]:List JN) (neS q92.2 ([([93]:Bs)]:List Bs)).1 (neS q92.2 ([([93]:Bs)]:List Bs)).2)∧(((waS (o0,n0) ([([40]:Bs),([91]:Bs),([46]:Bs)]:List Bs)).1==1)=false→(((waS (o0,n0) ([([40]:Bs),([91]:Bs),([46]:Bs)]:List Bs)).1==2)=true→(C19 13 0 (rnmS (waS (o0,n0) ([([40]:Bs),([91]:Bs),([46]:Bs)]:List Bs)).2).1 ([Tree.mk (u0,q0,k0) j0]:List JN) (rnmS (waS (o0,n0) ([([40]:Bs),([91]:Bs),([46]:Bs)]:List Bs)).2).2.1 (rnmS (waS (o0,n0) ([([40]:Bs),([91]:Bs),([46]:Bs)]:List Bs)).2).2.2)∧((C19 13 0 (rnmS (waS (o0,n0) ([([40]:Bs),([91]:Bs),([46]:Bs)]:List Bs)).2).1 ([Tree.mk (u0,q0,k0) j0]:List JN) (rnmS (waS (o0,n0) ([([40]:Bs),([91]:Bs),([46]:Bs)]:List Bs)).2).2.1 (rnmS (waS (o0,n0) ([([40]:Bs),([91]:Bs),([46]:Bs)]:List Bs)).2).2.2)∧(C19 13 0 (rnmS (waS (o0,n0) ([([40]:Bs),([91]:Bs),([46]:Bs)]:List Bs)).2).1 ([Tree.mk (u0,q0,k0) j0]:List JN) (rnmS (waS (o0,n0) ([([40]:Bs),([91]:Bs),([46]:Bs)]:List Bs)).2).2.1 (rnmS (waS (o0,n0) ([([40]:Bs),([91]:Bs),([46]:Bs)]:List Bs)).2).2.2)))∧(((waS (o0,n0) ([([40]:Bs),([91]:Bs),([46]:Bs)]:List Bs)).1==2)=false→K (Tree.mk (u0,q0,k0) j0) (waS (o0,n0) ([([40]:Bs),([91]:Bs),([46]:Bs)]:List Bs)).2))))∧((!n0)=false→K (Tree.mk (u0,q0,k0) j0) (o0,n0))
def runl19 (N:Nat) (K:JN→TT→Prop):Nat→Int→Int→Bs→(List JN)→List TK→Bool→Prop
 | 0,_,_,_,_,_,_=>False
 | k+1,u0,q0,k0,j0,o0,n0=>runl19b N K u0 q0 k0 j0 o0 n0 (runl19 N K k)
def runj4 (N:Nat) (xt:TT) (K:JN→TT→Prop):Prop :=
 (runV0 xt=true→runP N (rpaS xt).2∧∀ q7:JN×TT,(runR (rpaS xt).2) q7→K (Tree.mk (14,0,(rpaS xt).1.2.2.2.1) ([q7.1]:List JN)) q7.2)∧(runV0 xt=false→rfiP N xt∧∀ q12:JN×TT,(rfiR xt) q12→∃ k,runl19 N K k q12.1.lab.1 q12.1.lab.2.1 q12.1.lab.2.2 q12.1.kids q12.2.1 q12.2.2)
def runF (N:Nat) (xt:TT) (K:JN→TT→Prop) (Z:Prop):Prop :=
 ((!xt.2)=true→((rwdS xt==([33]:Bs))=true→runj4 N xt K)∧((rwdS xt==([33]:Bs))=false→runj4 N xt K))∧((!xt.2)=false→runj4 N xt K)
theorem run_ok {g:Ghost} (N:Nat) (ih_rst:rst_C N) (ih_rbl:rbl_C N) (ih_rfn:rfn_C N) (ih_rbr:rbr_C N) (ih_rex:rex_C N) (ih_run:run_C N) (ih_rfi:rfi_C N) {bxt:Nat} {m2:Option Addr} {n2:Nat} (xt:TT) (m1:Rep g yTs [.slice m2 xt.1.length n2] xt.1) (Z:Prop) (K:JN→TT→Prop)
  (hF:runF N xt K Z):CallsP prog 69 #[pv bxt 0] g [.blk bxt (.cells (aT xt m2 n2) 58)] (fun g' H' v=>∃ (r0:JN),∃ (fxt:TT),∃ (U2:Option Addr) (J2:Nat),∃ (q2:Option Addr) (k2:Nat),v=.agg (aJ r0 U2 J2)∧Rep g' yJs [.slice U2 r0.kids.length J2] r0.kids∧Rep g' yTs [.slice q2 fxt.1.length k2] fxt.1∧H'=[.blk bxt (.cells (aT fxt q2 k2) 58)]∧K r0 fxt) Z (.iface 44 (.agg #[])):=by
 refine CallsP.enter 68 [(0,pv bxt 0)] func69 rfl kr kr kr fun w0=>?_
 refine Ok.sr (Ok.o (OpOk.box (v:=pv bxt 0) (cs:=#[pv bxt 0]) rfl kr rfl fun bs1=>?_))
 have hL2:RepL g yJ [] []:=rfl
 refine Ok.ownNil 24 4 (Ok.o (OpOk.aw aZ fun bs2=>?_))
 refine Ok.nt (Ok.q (Ok.cg g [(1,pv bs1 0),(2,pv bs2 0),(20,.bool (runV0 xt))] [.blk bxt (.cells (aT xt m2 n2) 58),.blk bs2 (.cells aZ 24),.own (.slice none jZ.length 0) 24 4 jZ.length ([]),.blk bs1 (.cells #[pv bxt 0] 56)] (runj4 N xt K) ?_ (fun gj4 W2 hF=>?_)))
 ·
  refine Ok.r (Ok.rn 6 [.e 2,.e 3] [] [(1,pv bs1 0),(2,pv bs2 0),(11,.bool (!xt.2))] ?_)
  refine Ok.bw 11 hF (fun f3 hF=>?_) (fun f3 hF=>?_)
  ·refine Ok.oy (OpOk.s (v:=pv bxt 0) (Yields.l 2 rfl rfl underlying56 rfl kr) rfl rfl (Ok.en [3,0,1,2] ?_))
   refine Ok.oy (OpOk.ch (rwd_c xt m1) fun g111 _ _ g3 hV111=>?_)
   obtain ⟨rfl,rfl⟩:=hV111
   replace m1:=m1.mono g3.1
   refine Ok.rn 2 [] [1,2] [(11,.bool true),(15,.bool (rwdS xt==BF))] ?_
   refine Ok.bw 15 hF (fun D3 hF=>?_) (fun D3 hF=>?_)
   ·refine Ok.b 5 [1,2] [(20,.bool true)] ?_
    refine Ok.nt (Ok.rb 20 (runV0 xt) (Eq.trans (mor_t D3) (mand_t f3)) ?_)
    exact fun _ _ u v=>⟨g111,g3,fA u v hF⟩
   refine Ok.oy (OpOk.s (v:=pv bxt 0) (Yields.l 3 rfl rfl underlying56 rfl kr) rfl rfl (Ok.oy (OpOk.ch (rwd_c xt m1) fun g113 _ _ E3 hV113=>?_)))
   obtain ⟨rfl,rfl⟩:=hV113
   replace m1:=m1.mono E3.1
   refine Ok.rn 3 [] [1,2] [(20,.bool (rwdS xt==Bd))] ?_
   refine Ok.nt (Ok.rb 20 (runV0 xt) (Eq.trans (mor_f D3) (mand_t f3)) ?_)
   exact fun _ _ u v=>⟨g113,g3.trans E3,fA u v hF⟩
  refine Ok.b 9 [1,2] [(20,.bool false)] ?_
  refine Ok.nt (Ok.rb 20 (runV0 xt) (mand_f f3) ?_)
  exact fun a W hA hW=>⟨g,Gext.r w0 g,hA.sub kr,hW.pick [3,0,1,2] _ dc rfl,hF⟩
 replace m1:=m1.mono W2.1
 refine Ok.cw hF (fun hc4 hF=>?_) (fun hc4 hF=>?_)
 ·refine Ok.sr (Ok.o (OpOk.s (v:=pv bxt 0) (Yields.l 3 rfl rfl underlying56 rfl kr) rfl rfl (Ok.o (OpOk.ch (rpa_c xt m1) fun g5 _ _ hx5 hV5=>?_))))
  obtain ⟨D1,E1,rfl,x1,rfl⟩:=hV5
  refine Ok.b 2 [1,2] [(3,sv ((rpaS xt).1.2.2.2.1))] ?_
  refine Ok.nt (Ok.sr (Ok.b 1 [1,2] [(24,sv ((rpaS xt).1.2.2.2.1))] ?_))
  refine Ok.o (OpOk.s (v:=pv bxt 0) (Yields.l 3 rfl rfl underlying56 rfl kr) rfl rfl ?_)
  obtain ⟨hp6,hF⟩:=hF
  refine Ok.o (OpOk.ch (ih_run _ (rpaS xt).2 x1 hp6) fun g8 _ _ hx8 hV8=>?_)
  obtain ⟨q7,hq7,P4,R4,c5,d5,rfl,hR8_0,F3,rfl⟩:=hV8
  replace hF:=hF _ hq7
  have hL9:RepL g8 yJ ((lJ q7.1 P4 R4):List Value) ([q7.1]:List JN):=(RepL.consN (c:=(lJ q7.1 P4 R4)) (Rep.tree.2 ⟨[iv q7.1.lab.1,iv q7.1.lab.2.1,sv q7.1.lab.2.2],[.slice P4 q7.1.kids.length R4],rfl,⟨[iv q7.1.lab.1],[iv q7.1.lab.2.1,sv q7.1.lab.2.2],rfl,rfl,⟨[iv q7.1.lab.2.1],[sv q7.1.lab.2.2],rfl,rfl,rfl⟩⟩,hR8_0⟩) rfl)
  refine Ok.o (OpOk.li hL9 fun b9=>?_)
  refine Ok.b 1 [2] [(28,.agg (aM 14 0 ((rpaS xt).1.2.2.2.1) (some ⟨b9,0,none⟩) ([q7.1]:List JN) 1))] ?_
  refine Ok.o (OpOk.w 2 ?_)
  refine Ok.nt (Ok.ret (Ok.tr (Ok.frz 0 rfl hL9 fun g10 T4 hRf10=>?_)))
  replace F3:=F3.mono T4.1
  exact Ok.fine (.inl rfl) (Ok.p (vs:=[.agg (aM 14 0 ((rpaS xt).1.2.2.2.1) (some ⟨b9,0,none⟩) ([q7.1]:List JN) 1)]) [0] [.blk bxt (.cells (aT q7.2 c5 d5) 58)] dc rfl (.inl rfl) rfl (.cons (.cellAgg 1 4 (aM 14 0 ((rpaS xt).1.2.2.2.1) (some ⟨b9,0,none⟩) ([q7.1]:List JN) 1) rfl rfl underlying24 rfl kr kr kr) .nil) (((W2.trans hx5).trans hx8).trans T4) ⟨(Tree.mk (14,0,(rpaS xt).1.2.2.2.1) ([q7.1]:List JN)),q7.2,(some ⟨b9,0,none⟩),1,c5,d5,rfl,hRf10,F3,rfl,hF⟩)
 refine Ok.k (Ok.t (Ok.sr (Ok.o (OpOk.s (v:=pv bxt 0) (Yields.l 3 rfl rfl underlying56 rfl kr) rfl rfl ?_))))
 obtain ⟨hp11,hF⟩:=hF
 refine Ok.o (OpOk.ch (ih_rfi _ xt m1 hp11) fun g13 _ _ i3 hV13=>?_)
 obtain ⟨q12,hq12,a13_0,c13_0,a13_2,c13_2,rfl,hR13_0,hR13_2,rfl⟩:=hV13
 replace hF:=hF _ hq12
 have e5:RepL g13 yJ [] []:=rfl
 refine Ok.ownNil 24 4 (Ok.o (OpOk.aw aZ fun bs4=>?_))
 refine Ok.o (OpOk.w 0 ?_)
 refine Ok.nt (Ok.sr (Ok.b 2 [1,2] [(4,pv bs4 0),(5,.func (.func 83) #[] #[pv bs1 0])] ?_))
 refine Ok.nt (Ok.q (Ok.block ?_))
 obtain ⟨k,hF⟩:=hF
 refine Ok.L (fun k a W=>∃ Z3:Ghost,Gext w0 g13 Z3∧∃ (u0:Int) (q0:Int) (k0:Bs) (t0:Option Addr) (l0:Nat) (j0:List JN) (n1:Option Addr) (o1:Nat) (o0:List TK) (n0:Bool),Rep Z3 yJs [.slice t0 j0.length l0] j0∧Rep Z3 yTs [.slice n1 o0.length o1] o0∧StA 68 [(1,pv bs1 0),(2,pv bs2 0),(4,pv bs4 0),(5,.func (.func 83) #[] #[pv bs1 0])] a∧StW w0 [.blk bs4 (.cells (aM u0 q0 k0 t0 j0 l0) 24),.blk bxt (.cells #[.slice n1 o0.length o1,.bool n0] 58),.blk bs2 (.cells aZ 24),.own (.slice none jZ.length 0) 24 4 jZ.length ([]),.blk bs1 (.cells #[pv bxt 0] 56)] Z3 W∧runl19 N K k u0 q0 k0 j0 o0 n0) k ?_ ?_
 ·
  exact fun _ _ u v=>⟨g13,Gext.r w0 g13,q12.1.lab.1,q12.1.lab.2.1,q12.1.lab.2.2,a13_0,c13_0,q12.1.kids,a13_2,c13_2,q12.2.1,q12.2.2,hR13_0,hR13_2,fA u v hF⟩
 clear hF
 rintro (_ | k19) _ _ ⟨Z3,K1,u0,q0,k0,t0,l0,j0,n1,o1,o0,n0,b0,r1,q⟩
 exact (q.2.2:False).elim
 refine jn (fun hF=>?_) _ _ q
 refine Ok.q (Ok.sr (Ok.rn 5 [.e 4,.e 1] [1,2,4,5] [(36,.bool (!n0))] ?_))
 refine Ok.nt (Ok.cw hF (fun L4 hF=>?_) (fun L4 hF=>?_))
 ·refine Ok.k (Ok.t (Ok.block (Ok.sr (Ok.o (OpOk.s (v:=pv bxt 0) (Yields.l 4 rfl rfl underlying56 rfl kr) rfl rfl ?_)))))
  have m4:RepL Z3 (.str) ([sv Bx,sv Bw,sv Bt]:List Value) ([Bx,Bw,Bt]:List Bs):=(RepL.consN (c:=[sv Bx]) rfl (RepL.consN (c:=[sv Bw]) rfl (RepL.consN (c:=[sv Bt]) rfl rfl)))
  refine Ok.o (OpOk.li m4 fun b17=>?_)
  refine Ok.frz 0 rfl m4 fun g18 B1 X2=>?_
  replace b0:=b0.mono B1.1
  replace r1:=r1.mono B1.1
  obtain ⟨hp19,hF⟩:=hF
  refine Ok.en [1,0,2,3,4] ?_
  refine Ok.o (OpOk.ch (rwa_c (o0,n0) ([Bx,Bw,Bt]:List Bs) r1 X2 hp19) fun g20 _ _ P1 hV20=>?_)
  obtain ⟨S2,B2,rfl,F1,rfl⟩:=hV20
  replace b0:=b0.mono P1.1
  refine Ok.nt (Ok.block (Ok.sr (Ok.b 2 [1,2,4,5] [(39,iv (waS (o0,n0) ([Bx,Bw,Bt]:List Bs)).1),(41,.bool ((waS (o0,n0) ([Bx,Bw,Bt]:List Bs)).1==0))] ?_)))
  refine Ok.nt (Ok.cw hF (fun hc21 hF=>?_) (fun hc21 hF=>?_))
  ·refine Ok.px (pT ((((W2.trans i3).trans K1).trans B1).trans P1) id) [] [] [1,1,1,1,1] [0,0,1,1,1] [(2,true),(3,true)] 0 (.fork [] 1 (.leaf [(4,false),(5,false),(6,true),(7,false)]) 4 (.leaf [(1,false),(5,false),(6,true),(7,false)])) 4 (.leaf [(0,false),(1,false),(5,false),(6,true),(7,false)]) ?_
   refine OkME.hd (OpQ.s (v:=pv bxt 0) (Yields.l 2 rfl rfl underlying56 rfl kr) rfl rfl ?_)
   refine OkME.bat 1 [1,2,4,5] [(45,pv bxt 0),(46,.func (.func 83) #[] #[pv bs1 0])] ?_
   refine OkME.nil (Ok.bothE rfl rfl ?_ ?_)
   ·replace hF:=hF.1
    refine OkME.tail rfl rfl (OpOk.s (v:=.agg (aM u0 q0 k0 t0 j0 l0)) (Yields.loadAgg 1 4 (aM u0 q0 k0 t0 j0 l0) rfl rfl underlying24 rfl kr kr kr) rfl rfl (OkME.l1 (Gle.refl _) (OkME.nil (Ok.bothE rfl rfl ?_ ?_))))
    ·replace hF:=hF.1
     have C1:RepL g20 yJ ((lM u0 q0 k0 t0 j0 l0):List Value) ([Tree.mk (u0,q0,k0) j0]:List JN):=(RepL.consN (c:=(lM u0 q0 k0 t0 j0 l0)) (Rep.tree.2 ⟨[iv u0,iv q0,sv k0],[.slice t0 j0.length l0],rfl,⟨[iv u0],[iv q0,sv k0],rfl,rfl,⟨[iv q0],[sv k0],rfl,rfl,rfl⟩⟩,b0⟩) rfl)
     refine OkME.tail rfl rfl (OpOk.li C1 fun b22=>?_)
     refine OkME.l1 (Gle.refl _) (OkME.tail rfl rfl (OpOk.inlineP (pv:=.iface 44 (.agg #[])) (args:=#[pv bxt 0,sv By,.func (.func 83) #[] #[pv bs1 0]]) 32 [(0,pv bxt 0),(1,sv By),(2,.func (.func 83) #[] #[pv bs1 0])] enr func71 rfl rfl rfl rfl (Ok.sr (Ok.B 1 [(0,pv bxt 0),(1,sv By),(2,.func (.func 83) #[] #[pv bs1 0])] kr (Ok.nt (Ok.sr (Ok.b 1 [0,1,2] [(7,.slice none 0 0)] ?_)))))))
     have A4:RepL g20 yJ [] []:=rfl
     refine Ok.ownNil 24 4 (Ok.nt (Ok.q (Ok.block ?_)))
     obtain ⟨k,hF⟩:=hF
     refine Ok.L (fun k a W=>∃ q1:Ghost,Gext w0 g20 q1∧∃ (D0:Option Addr) (E0:Nat) (e0:List JN) (b1:List Value) (T0:Option Addr) (L0:Nat) (z0:List TK) (v0:Bool),RepL q1 yJ b1 e0∧Rep q1 yTs [.slice T0 z0.length L0] z0∧StA 32 [(0,pv bxt 0),(1,sv By),(2,.func (.func 83) #[] #[pv bs1 0]),(7,.slice D0 e0.length E0)] a∧StW w0 [.own (.slice D0 e0.length E0) 24 4 e0.length b1,.own (.slice (some ⟨b22,0,none⟩) ([Tree.mk (u0,q0,k0) j0]:List JN).length 1) 24 4 ([Tree.mk (u0,q0,k0) j0]:List JN).length ((lM u0 q0 k0 t0 j0 l0):List Value),.blk bxt (.cells #[.slice T0 z0.length L0,.bool v0] 58),.blk bs4 (.cells (aM u0 q0 k0 t0 j0 l0) 24),.blk bs2 (.cells aZ 24),.own (.slice none jZ.length 0) 24 4 jZ.length ([]),.blk bs1 (.cells #[pv bxt 0] 56)] q1 W∧runl7x2 N u0 q0 k0 j0 (runl19 N K k19) k e0 z0 v0) k ?_ ?_
     ·
      exact fun _ _ u v=>⟨g20,Gext.r w0 g20,none,0,jZ,[],S2,B2,(waS (o0,n0) ([Bx,Bw,Bt]:List Bs)).2.1,(waS (o0,n0) ([Bx,Bw,Bt]:List Bs)).2.2,A4,F1,fA u v hF⟩
     clear hF
     rintro (_ | k7x2) _ _ ⟨q1,C0,D0,E0,e0,b1,T0,L0,z0,v0,Q0,F0,q⟩
     exact (q.2.2:False).elim
     refine jn (fun hF=>?_) _ _ q
     replace C1:=C1.mono C0.1
     replace b0:=b0.mono C0.1
     refine Ok.q (Ok.cut (fun a W=>∃ R0:Ghost,Gext w0 q1 R0∧∃ (i0:Option Addr) (Z0:Nat),Rep R0 yTs [.slice i0 (runV14 z0 v0).length Z0] (runV14 z0 v0)∧StA 32 [(0,pv bxt 0),(1,sv By),(2,.func (.func 83) #[] #[pv bs1 0]),(7,.slice D0 e0.length E0),(19,.bool (runV4 z0 v0))] a∧StW w0 [.blk bxt (.cells #[.slice i0 (runV14 z0 v0).length Z0,.bool (waS (z0,v0) ([By]:List Bs)).2.2] 58),.own (.slice D0 e0.length E0) 24 4 e0.length b1,.own (.slice (some ⟨b22,0,none⟩) ([Tree.mk (u0,q0,k0) j0]:List JN).length 1) 24 4 ([Tree.mk (u0,q0,k0) j0]:List JN).length ((lM u0 q0 k0 t0 j0 l0):List Value),.blk bs4 (.cells (aM u0 q0 k0 t0 j0 l0) 24),.blk bs2 (.cells aZ 24),.own (.slice none jZ.length 0) 24 4 jZ.length ([]),.blk bs1 (.cells #[pv bxt 0] 56)] R0 W∧runj9i47 N e0 z0 v0 u0 q0 k0 j0 (runl19 N K k19) (runl7x2 N u0 q0 k0 j0 (runl19 N K k19) k7x2)) ?_ ?_)
     ·
      refine Ok.r (Ok.b 2 [0,1,2,7] [(8,pv bxt 0),(9,sv By)] ?_)
      have f5:RepL q1 (.str) ([sv By]:List Value) ([By]:List Bs):=(RepL.consN (c:=[sv By]) rfl rfl)
      refine Ok.o (OpOk.li f5 fun b39=>?_)
      refine Ok.frz 0 rfl f5 fun g40 A2 G3=>?_
      replace Q0:=Q0.mono A2.1
      replace C1:=C1.mono A2.1
      replace F0:=F0.mono A2.1
      replace b0:=b0.mono A2.1
      obtain ⟨hp41,hF⟩:=hF
      refine Ok.en [2,0,1,3,4,5,6] ?_
      refine Ok.o (OpOk.ch (rwa_c (z0,v0) ([By]:List Bs) F0 G3 hp41) fun g42 _ _ I2 hV42=>?_)
      obtain ⟨Y4,U4,rfl,H3,rfl⟩:=hV42
      replace Q0:=Q0.mono I2.1
      replace C1:=C1.mono I2.1
      replace b0:=b0.mono I2.1
      refine Ok.b 2 [0,1,2,7] [(13,.bool (decide ((waS (z0,v0) ([By]:List Bs)).1<0)))] ?_
      refine Ok.bw 13 hF (fun I4 hF=>?_) (fun I4 hF=>?_)
      ·refine Ok.rn 6 [.e 0] [0,1,2,7] [(19,.bool (!(waS (z0,v0) ([By]:List Bs)).2.2))] ?_
       refine Ok.nt (Ok.rb 19 (runV4 z0 v0) (mand_t I4) ?_)
       exact fun _ _ u v=>⟨g42,A2.trans I2,Y4,U4,H3,fA u v hF⟩
      refine Ok.b 6 [0,1,2,7] [(19,.bool false)] ?_
      refine Ok.nt (Ok.rb 19 (runV4 z0 v0) (mand_f I4) ?_)
      exact fun _ _ u v=>⟨g42,A2.trans I2,Y4,U4,H3,fA u v hF⟩
     clear hF
     rintro _ _ ⟨R0,B0,i0,Z0,V0,q⟩
     refine jn (fun hF=>?_) _ _ q
     replace Q0:=Q0.mono B0.1
     replace C1:=C1.mono B0.1
     replace b0:=b0.mono B0.1
     refine Ok.cw hF (fun hc24 hF=>?_) (fun hc24 hF=>?_)
     ·refine Ok.k (Ok.t (Ok.block (Ok.cut (fun a W=>∃ y1:Ghost,Gext w0 R0 y1∧∃ (G0:Option Addr) (H0:Nat),Rep y1 yTs [.slice G0 (runV15 e0 z0 v0).length H0] (runV15 e0 z0 v0)∧StA 32 [(0,pv bxt 0),(1,sv By),(2,.func (.func 83) #[] #[pv bs1 0]),(7,.slice D0 e0.length E0)] a∧StW w0 [.blk bxt (.cells #[.slice G0 (runV15 e0 z0 v0).length H0,.bool (runV16 e0 z0 v0)] 58),.own (.slice D0 e0.length E0) 24 4 e0.length b1,.own (.slice (some ⟨b22,0,none⟩) ([Tree.mk (u0,q0,k0) j0]:List JN).length 1) 24 4 ([Tree.mk (u0,q0,k0) j0]:List JN).length ((lM u0 q0 k0 t0 j0 l0):List Value),.blk bs4 (.cells (aM u0 q0 k0 t0 j0 l0) 24),.blk bs2 (.cells aZ 24),.own (.slice none jZ.length 0) 24 4 jZ.length ([]),.blk bs1 (.cells #[pv bxt 0] 56)] y1 W∧runj15i47 N e0 z0 v0 (runl7x2 N u0 q0 k0 j0 (runl19 N K k19) k7x2)) ?_ ?_)))
      ·
       refine Ok.sr (Ok.b 3 [0,1,2,7] [(22,.bool (decide ((e0.length:Int)>0)))] ?_)
       refine Ok.nt (Ok.cw hF (fun z3 hF=>?_) (fun z3 hF=>?_))
       ·refine Ok.r (Ok.b 1 [0,1,2,7] [(23,pv bxt 0)] ?_)
        have h5:RepL R0 (.str) ([sv Bo]:List Value) ([Bo]:List Bs):=(RepL.consN (c:=[sv Bo]) rfl rfl)
        refine Ok.o (OpOk.li h5 fun b33=>?_)
        refine Ok.frz 0 rfl h5 fun g34 V3 M3=>?_
        replace Q0:=Q0.mono V3.1
        replace V0:=V0.mono V3.1
        replace C1:=C1.mono V3.1
        replace b0:=b0.mono V3.1
        obtain ⟨hp35,hF⟩:=hF
        refine Ok.o (OpOk.ch (rne_c (runV14 z0 v0,(waS (z0,v0) ([By]:List Bs)).2.2) ([Bo]:List Bs) V0 M3 hp35) fun g36 _ _ y2 z5=>?_)
        obtain ⟨G1,H1,rfl,v3,rfl⟩:=z5
        replace Q0:=Q0.mono y2.1
        replace C1:=C1.mono y2.1
        replace b0:=b0.mono y2.1
        refine Ok.nt (Ok.he (E':=.blk bxt (.cells #[.slice G1 (runV15 e0 z0 v0).length H1,.bool (runV16 e0 z0 v0)] 58)) 0 (congrArg (fun l:List Value=>Ent.blk bxt (.cells ⟨l⟩ 58)) (lcons (congrArg (fun l:List TK=>Value.slice G1 l.length H1) ((if_t z3).symm)) (lcons (congrArg (Value.bool) ((if_t z3).symm)) rfl))) ?_)
        exact fun _ _ u v=>⟨g36,V3.trans y2,G1,H1,(Eq.mp (congrArg (fun l:List TK=>Rep g36 yTs [.slice G1 l.length H1] l) ((if_t z3).symm)) v3),fA u v hF⟩
       refine Ok.k (Ok.t (Ok.he (E':=.blk bxt (.cells #[.slice i0 (runV15 e0 z0 v0).length Z0,.bool (runV16 e0 z0 v0)] 58)) 0 (congrArg (fun l:List Value=>Ent.blk bxt (.cells ⟨l⟩ 58)) (lcons (congrArg (fun l:List TK=>Value.slice i0 l.length Z0) ((if_f z3).symm)) (lcons (congrArg (Value.bool) ((if_f z3).symm)) rfl))) ?_))
       exact fun _ _ u v=>⟨R0,Gext.r w0 R0,i0,Z0,(Eq.mp (congrArg (fun l:List TK=>Rep R0 yTs [.slice i0 l.length Z0] l) ((if_f z3).symm)) V0),fA u v hF⟩
      clear hF
      rintro _ _ ⟨y1,k1,G0,H0,g1,q⟩
      refine jn (fun hF=>?_) _ _ q
      replace Q0:=Q0.mono k1.1
      replace C1:=C1.mono k1.1
      replace b0:=b0.mono k1.1
      refine Ok.r (Ok.b 2 [0,1,2] [(26,.slice D0 e0.length E0),(27,.func (.func 83) #[] #[pv bs1 0])] ?_)
      refine Ok.o (OpOk.inlineP (pv:=.iface 44 (.agg #[])) (args:=#[pv bs1 0]) 4 [(0,pv bs1 0)] enr func83 rfl rfl rfl rfl (Ok.q (Ok.r ?_)))
      have m5:RepL y1 yJ [] []:=rfl
      refine Ok.ownNil 24 4 (Ok.o (OpOk.aw aZ fun o2=>?_))
      refine Ok.nt (Ok.sr (Ok.o (OpOk.s (v:=pv bxt 0) (Yields.l 8 rfl rfl underlying56 rfl kr) rfl rfl ?_)))
      obtain ⟨hp27,hF⟩:=hF
      refine Ok.en [2,0,1,3,4,5,6,7,8] ?_
      refine Ok.o (OpOk.ch (ih_rex _ (runV15 e0 z0 v0,runV16 e0 z0 v0) 0 g1 hp27) fun g29 _ _ Q3 hV29=>?_)
      obtain ⟨q28,hq28,C2,D2,a29_2,c29_2,rfl,hR29_0,hR29_2,rfl⟩:=hV29
      replace hF:=hF _ hq28
      replace Q0:=Q0.mono Q3.1
      replace C1:=C1.mono Q3.1
      replace b0:=b0.mono Q3.1
      refine Ok.o (OpOk.w 1 ?_)
      refine Ok.nt (Ok.ret (Ok.fine (.inl rfl) (Ok.back (vs:=[.agg (aJ q28.1 C2 D2)]) (.inl rfl) rfl (.cons (.cellAgg 1 4 (aJ q28.1 C2 D2) rfl rfl underlying24 rfl kr kr kr) .nil) rfl ?_)))
      have n4:RepL g29 yJ ((lJ q28.1 C2 D2):List Value) ([q28.1]:List JN):=(RepL.consN (c:=(lJ q28.1 C2 D2)) (Rep.tree.2 ⟨[iv q28.1.lab.1,iv q28.1.lab.2.1,sv q28.1.lab.2.2],[.slice C2 q28.1.kids.length D2],rfl,⟨[iv q28.1.lab.1],[iv q28.1.lab.2.1,sv q28.1.lab.2.2],rfl,rfl,⟨[iv q28.1.lab.2.1],[sv q28.1.lab.2.2],rfl,rfl,rfl⟩⟩,hR29_0⟩) rfl)
      refine Ok.o (OpOk.li n4 fun b30=>?_)
      obtain ⟨hb31,hF⟩:=hF
      refine Ok.o (OpOk.append' (e:=yJ) 56 2513169434916 4 0 rfl rfl rfl rfl Q0 n4 underlying22 kr kr kr hb31 rfl fun a31 c31 xs31 hL31=>?_)
      refine Ok.b 1 [0,1,2] [(7,.slice a31 (e0++([q28.1]:List JN)).length c31)] ?_
      refine Ok.j (Ok.kn (Ok.t ?_))
      exact fun a W hA hW=>⟨k7x2,nl,g29,(((C0.trans B0).trans k1).trans Q3),a31,c31,(e0++([q28.1]:List JN)),xs31,a29_2,c29_2,q28.2.1,q28.2.2,hL31,hR29_2,hA.sub kr,hW.pick [4,5,1,6,7,8,9] _ dc rfl,hF⟩
     refine Ok.x (Ok.thenE (Ok.thenE (Ok.blockHit (Ok.t (Ok.sr (Ok.B 2 [(6,.slice D0 e0.length E0)] kr (Ok.nt (Ok.ret (Ok.fine (.inl rfl) (Ok.back (vs:=[.slice D0 e0.length E0]) (.inl rfl) rfl (.cons (.tmp rfl) .nil) rfl (OkME.l1 (C0.trans B0).1 ?_)))))))))))
     obtain ⟨hb37,hF⟩:=hF
     refine OkME.tail rfl rfl (OpOk.append' (e:=yJ) 56 2513169434916 2 1 rfl rfl rfl rfl C1 Q0 underlying22 kr kr kr hb37 rfl fun a37 c37 xs37 o4=>?_)
     refine OkME.l1 (C0.trans B0).1 (OkME.batch 1 [(1,pv bs1 0),(2,pv bs2 0),(4,pv bs4 0),(5,.func (.func 83) #[] #[pv bs1 0]),(49,.agg (aM 11 0 Bz a37 (([Tree.mk (u0,q0,k0) j0]:List JN)++e0) c37))] kr (OkME.tail rfl rfl (OpOk.w 3 ?_)))
     refine OkME.l1 (C0.trans B0).1 (OkME.nil (Ok.leafE (Ok.kn (Ok.kn (Ok.t (Ok.frz 2 rfl o4 fun g38 p4 hRf38=>?_))))))
     replace V0:=V0.mono p4.1
     exact fun a W hA hW=>⟨k19,nl,g38,(((((K1.trans B1).trans P1).trans C0).trans B0).trans p4),11,0,Bz,a37,c37,(([Tree.mk (u0,q0,k0) j0]:List JN)++e0),i0,Z0,runV14 z0 v0,(waS (z0,v0) ([By]:List Bs)).2.2,hRf38,V0,hA.sub kr,hW.pick [2,0,3,4,5] _ dc rfl,hF⟩
    replace hF:=hF.2
    refine OkME.tail rfl rfl (OpOk.inlineP (pv:=.iface 44 (.agg #[])) (args:=#[pv bxt 0,sv By,.func (.func 83) #[] #[pv bs1 0]]) 32 [(0,pv bxt 0),(1,sv By),(2,.func (.func 83) #[] #[pv bs1 0])] enr func71 rfl rfl rfl rfl (Ok.sr (Ok.B 1 [(0,pv bxt 0),(1,sv By),(2,.func (.func 83) #[] #[pv bs1 0])] kr (Ok.nt (Ok.sr (Ok.b 1 [0,1,2] [(7,.slice none 0 0)] ?_))))))
    have hL44:RepL g20 yJ [] []:=rfl
    refine Ok.ownNil 24 4 (Ok.nt (Ok.q (Ok.block ?_)))
    obtain ⟨k,hF⟩:=hF
    refine Ok.L (fun k a W=>∃ q1:Ghost,Gext w0 g20 q1∧∃ (M0:Option Addr) (N0:Nat) (f0:List JN) (c1:List Value) (T0:Option Addr) (L0:Nat) (z0:List TK) (v0:Bool),RepL q1 yJ c1 f0∧Rep q1 yTs [.slice T0 z0.length L0] z0∧StA 32 [(0,pv bxt 0),(1,sv By),(2,.func (.func 83) #[] #[pv bs1 0]),(7,.slice M0 f0.length N0)] a∧StW w0 [.own (.slice M0 f0.length N0) 24 4 f0.length c1,.blk bxt (.cells #[.slice T0 z0.length L0,.bool v0] 58),.blk bs4 (.cells (aM u0 q0 k0 t0 j0 l0) 24),.blk bs2 (.cells aZ 24),.own (.slice none jZ.length 0) 24 4 jZ.length ([]),.blk bs1 (.cells #[pv bxt 0] 56)] q1 W∧runl7x3y N u0 q0 k0 j0 (runl19 N K k19) k f0 z0 v0) k ?_ ?_
    ·
     exact fun _ _ u v=>⟨g20,Gext.r w0 g20,none,0,jZ,[],S2,B2,(waS (o0,n0) ([Bx,Bw,Bt]:List Bs)).2.1,(waS (o0,n0) ([Bx,Bw,Bt]:List Bs)).2.2,hL44,F1,fA u v hF⟩
    clear hF
    rintro (_ | k7x3) _ _ ⟨q1,C0,M0,N0,f0,c1,T0,L0,z0,v0,K0,F0,q⟩
    exact (q.2.2:False).elim
    refine jn (fun hF=>?_) _ _ q
    replace b0:=b0.mono C0.1
    refine Ok.q (Ok.cut (fun a W=>∃ R0:Ghost,Gext w0 q1 R0∧∃ (i0:Option Addr) (Z0:Nat),Rep R0 yTs [.slice i0 (runV14 z0 v0).length Z0] (runV14 z0 v0)∧StA 32 [(0,pv bxt 0),(1,sv By),(2,.func (.func 83) #[] #[pv bs1 0]),(7,.slice M0 f0.length N0),(19,.bool (runV4 z0 v0))] a∧StW w0 [.blk bxt (.cells #[.slice i0 (runV14 z0 v0).length Z0,.bool (waS (z0,v0) ([By]:List Bs)).2.2] 58),.own (.slice M0 f0.length N0) 24 4 f0.length c1,.blk bs4 (.cells (aM u0 q0 k0 t0 j0 l0) 24),.blk bs2 (.cells aZ 24),.own (.slice none jZ.length 0) 24 4 jZ.length ([]),.blk bs1 (.cells #[pv bxt 0] 56)] R0 W∧runj9i47a N z0 v0 u0 q0 k0 j0 (runl19 N K k19) f0 (runl7x3y N u0 q0 k0 j0 (runl19 N K k19) k7x3)) ?_ ?_)
    ·
     refine Ok.r (Ok.b 2 [0,1,2,7] [(8,pv bxt 0),(9,sv By)] ?_)
     have n5:RepL q1 (.str) ([sv By]:List Value) ([By]:List Bs):=(RepL.consN (c:=[sv By]) rfl rfl)
     refine Ok.o (OpOk.li n5 fun b61=>?_)
     refine Ok.frz 0 rfl n5 fun g62 R1 N3=>?_
     replace K0:=K0.mono R1.1
     replace F0:=F0.mono R1.1
     replace b0:=b0.mono R1.1
     obtain ⟨hp63,hF⟩:=hF
     refine Ok.en [1,0,2,3,4,5] ?_
     refine Ok.o (OpOk.ch (rwa_c (z0,v0) ([By]:List Bs) F0 N3 hp63) fun g64 _ _ K3 hV64=>?_)
     obtain ⟨J4,W4,rfl,O3,rfl⟩:=hV64
     replace K0:=K0.mono K3.1
     replace b0:=b0.mono K3.1
     refine Ok.b 2 [0,1,2,7] [(13,.bool (decide ((waS (z0,v0) ([By]:List Bs)).1<0)))] ?_
     refine Ok.bw 13 hF (fun v5 hF=>?_) (fun v5 hF=>?_)
     ·refine Ok.rn 6 [.e 0] [0,1,2,7] [(19,.bool (!(waS (z0,v0) ([By]:List Bs)).2.2))] ?_
      refine Ok.nt (Ok.rb 19 (runV4 z0 v0) (mand_t v5) ?_)
      exact fun _ _ u v=>⟨g64,R1.trans K3,J4,W4,O3,fA u v hF⟩
     refine Ok.b 6 [0,1,2,7] [(19,.bool false)] ?_
     refine Ok.nt (Ok.rb 19 (runV4 z0 v0) (mand_f v5) ?_)
     exact fun _ _ u v=>⟨g64,R1.trans K3,J4,W4,O3,fA u v hF⟩
    clear hF
    rintro _ _ ⟨R0,B0,i0,Z0,V0,q⟩
    refine jn (fun hF=>?_) _ _ q
    replace K0:=K0.mono B0.1
    replace b0:=b0.mono B0.1
    refine Ok.cw hF (fun hc45 hF=>?_) (fun hc45 hF=>?_)
    ·refine Ok.k (Ok.t (Ok.block (Ok.cut (fun a W=>∃ y1:Ghost,Gext w0 R0 y1∧∃ (G0:Option Addr) (H0:Nat),Rep y1 yTs [.slice G0 (runV19 z0 v0 f0).length H0] (runV19 z0 v0 f0)∧StA 32 [(0,pv bxt 0),(1,sv By),(2,.func (.func 83) #[] #[pv bs1 0]),(7,.slice M0 f0.length N0)] a∧StW w0 [.blk bxt (.cells #[.slice G0 (runV19 z0 v0 f0).length H0,.bool (runV20 z0 v0 f0)] 58),.own (.slice M0 f0.length N0) 24 4 f0.length c1,.blk bs4 (.cells (aM u0 q0 k0 t0 j0 l0) 24),.blk bs2 (.cells aZ 24),.own (.slice none jZ.length 0) 24 4 jZ.length ([]),.blk bs1 (.cells #[pv bxt 0] 56)] y1 W∧runj15i47a N z0 v0 f0 (runl7x3y N u0 q0 k0 j0 (runl19 N K k19) k7x3)) ?_ ?_)))
     ·
      refine Ok.sr (Ok.b 3 [0,1,2,7] [(22,.bool (decide ((f0.length:Int)>0)))] ?_)
      refine Ok.nt (Ok.cw hF (fun q3 hF=>?_) (fun q3 hF=>?_))
      ·refine Ok.r (Ok.b 1 [0,1,2,7] [(23,pv bxt 0)] ?_)
       have o5:RepL R0 (.str) ([sv Bo]:List Value) ([Bo]:List Bs):=(RepL.consN (c:=[sv Bo]) rfl rfl)
       refine Ok.o (OpOk.li o5 fun b54=>?_)
       refine Ok.frz 0 rfl o5 fun g55 f2 P3=>?_
       replace K0:=K0.mono f2.1
       replace V0:=V0.mono f2.1
       replace b0:=b0.mono f2.1
       obtain ⟨hp56,hF⟩:=hF
       refine Ok.o (OpOk.ch (rne_c (runV14 z0 v0,(waS (z0,v0) ([By]:List Bs)).2.2) ([Bo]:List Bs) V0 P3 hp56) fun g57 _ _ R3 hV57=>?_)
       obtain ⟨h3,m3,rfl,hR57_0,rfl⟩:=hV57
       replace K0:=K0.mono R3.1
       replace b0:=b0.mono R3.1
       refine Ok.nt (Ok.he (E':=.blk bxt (.cells #[.slice h3 (runV19 z0 v0 f0).length m3,.bool (runV20 z0 v0 f0)] 58)) 0 (congrArg (fun l:List Value=>Ent.blk bxt (.cells ⟨l⟩ 58)) (lcons (congrArg (fun l:List TK=>Value.slice h3 l.length m3) ((if_t q3).symm)) (lcons (congrArg (Value.bool) ((if_t q3).symm)) rfl))) ?_)
       exact fun _ _ u v=>⟨g57,f2.trans R3,h3,m3,(Eq.mp (congrArg (fun l:List TK=>Rep g57 yTs [.slice h3 l.length m3] l) ((if_t q3).symm)) hR57_0),fA u v hF⟩
      refine Ok.k (Ok.t (Ok.he (E':=.blk bxt (.cells #[.slice i0 (runV19 z0 v0 f0).length Z0,.bool (runV20 z0 v0 f0)] 58)) 0 (congrArg (fun l:List Value=>Ent.blk bxt (.cells ⟨l⟩ 58)) (lcons (congrArg (fun l:List TK=>Value.slice i0 l.length Z0) ((if_f q3).symm)) (lcons (congrArg (Value.bool) ((if_f q3).symm)) rfl))) ?_))
      exact fun _ _ u v=>⟨R0,Gext.r w0 R0,i0,Z0,(Eq.mp (congrArg (fun l:List TK=>Rep R0 yTs [.slice i0 l.length Z0] l) ((if_f q3).symm)) V0),fA u v hF⟩
     clear hF
     rintro _ _ ⟨y1,k1,G0,H0,g1,q⟩
     refine jn (fun hF=>?_) _ _ q
     replace K0:=K0.mono k1.1
     replace b0:=b0.mono k1.1
     refine Ok.r (Ok.b 2 [0,1,2] [(26,.slice M0 f0.length N0),(27,.func (.func 83) #[] #[pv bs1 0])] ?_)
     refine Ok.o (OpOk.inlineP (pv:=.iface 44 (.agg #[])) (args:=#[pv bs1 0]) 4 [(0,pv bs1 0)] enr func83 rfl rfl rfl rfl (Ok.q (Ok.r ?_)))
     have p5:RepL y1 yJ [] []:=rfl
     refine Ok.ownNil 24 4 (Ok.o (OpOk.aw aZ fun o2=>?_))
     refine Ok.nt (Ok.sr (Ok.o (OpOk.s (v:=pv bxt 0) (Yields.l 7 rfl rfl underlying56 rfl kr) rfl rfl ?_)))
     obtain ⟨hp48,hF⟩:=hF
     refine Ok.en [2,0,1,3,4,5,6,7] ?_
     refine Ok.o (OpOk.ch (ih_rex _ (runV19 z0 v0 f0,runV20 z0 v0 f0) 0 g1 hp48) fun g50 _ _ T3 hV50=>?_)
     obtain ⟨q49,hq49,E2,F2,a50_2,c50_2,rfl,hR50_0,hR50_2,rfl⟩:=hV50
     replace hF:=hF _ hq49
     replace K0:=K0.mono T3.1
     replace b0:=b0.mono T3.1
     refine Ok.o (OpOk.w 1 ?_)
     refine Ok.nt (Ok.ret (Ok.fine (.inl rfl) (Ok.back (vs:=[.agg (aJ q49.1 E2 F2)]) (.inl rfl) rfl (.cons (.cellAgg 1 4 (aJ q49.1 E2 F2) rfl rfl underlying24 rfl kr kr kr) .nil) rfl ?_)))
     have r4:RepL g50 yJ ((lJ q49.1 E2 F2):List Value) ([q49.1]:List JN):=(RepL.consN (c:=(lJ q49.1 E2 F2)) (Rep.tree.2 ⟨[iv q49.1.lab.1,iv q49.1.lab.2.1,sv q49.1.lab.2.2],[.slice E2 q49.1.kids.length F2],rfl,⟨[iv q49.1.lab.1],[iv q49.1.lab.2.1,sv q49.1.lab.2.2],rfl,rfl,⟨[iv q49.1.lab.2.1],[sv q49.1.lab.2.2],rfl,rfl,rfl⟩⟩,hR50_0⟩) rfl)
     refine Ok.o (OpOk.li r4 fun b51=>?_)
     obtain ⟨hb52,hF⟩:=hF
     refine Ok.o (OpOk.append' (e:=yJ) 56 2513169434916 4 0 rfl rfl rfl rfl K0 r4 underlying22 kr kr kr hb52 rfl fun a52 c52 xs52 hL52=>?_)
     refine Ok.b 1 [0,1,2] [(7,.slice a52 (f0++([q49.1]:List JN)).length c52)] ?_
     refine Ok.j (Ok.kn (Ok.t ?_))
     exact fun a W hA hW=>⟨k7x3,nl,g50,(((C0.trans B0).trans k1).trans T3),a52,c52,(f0++([q49.1]:List JN)),xs52,a50_2,c50_2,q49.2.1,q49.2.2,hL52,hR50_2,hA.sub kr,hW.pick [4,1,5,6,7,8] _ dc rfl,hF⟩
    refine Ok.x (Ok.thenE (Ok.thenE (Ok.blockHit (Ok.t (Ok.sr (Ok.B 2 [(6,.slice M0 f0.length N0)] kr (Ok.nt (Ok.ret (Ok.fine (.inl rfl) (Ok.back (vs:=[.slice M0 f0.length N0]) (.inl rfl) rfl (.cons (.tmp rfl) .nil) rfl (OkME.l1 (C0.trans B0).1 ?_)))))))))))
    have u2:RepL R0 yJ ((lM u0 q0 k0 t0 j0 l0):List Value) ([Tree.mk (u0,q0,k0) j0]:List JN):=(RepL.consN (c:=(lM u0 q0 k0 t0 j0 l0)) (Rep.tree.2 ⟨[iv u0,iv q0,sv k0],[.slice t0 j0.length l0],rfl,⟨[iv u0],[iv q0,sv k0],rfl,rfl,⟨[iv q0],[sv k0],rfl,rfl,rfl⟩⟩,b0⟩) rfl)
    refine OkME.tail rfl rfl (OpOk.li u2 fun b58=>?_)
    refine OkME.l1 (C0.trans B0).1 ?_
    obtain ⟨hb59,hF⟩:=hF
    refine OkME.tail rfl rfl (OpOk.append' (e:=yJ) 56 2513169434916 0 2 rfl rfl rfl rfl u2 K0 underlying22 kr kr kr hb59 rfl fun a59 c59 xs59 t4=>?_)
    refine OkME.l1 (C0.trans B0).1 (OkME.batch 1 [(1,pv bs1 0),(2,pv bs2 0),(4,pv bs4 0),(5,.func (.func 83) #[] #[pv bs1 0]),(49,.agg (aM 11 0 Bz a59 (([Tree.mk (u0,q0,k0) j0]:List JN)++f0) c59))] kr (OkME.tail rfl rfl (OpOk.w 3 ?_)))
    refine OkME.l1 (C0.trans B0).1 (OkME.nil (Ok.leafE (Ok.kn (Ok.kn (Ok.t (Ok.frz 0 rfl t4 fun g60 I1 G2=>?_))))))
    replace V0:=V0.mono I1.1
    exact fun a W hA hW=>⟨k19,nl,g60,(((((K1.trans B1).trans P1).trans C0).trans B0).trans I1),11,0,Bz,a59,c59,(([Tree.mk (u0,q0,k0) j0]:List JN)++f0),i0,Z0,runV14 z0 v0,(waS (z0,v0) ([By]:List Bs)).2.2,G2,V0,hA.sub kr,hW.pick [2,0,3,4,5] _ dc rfl,hF⟩
   replace hF:=hF.2
   refine OkME.tail rfl rfl (OpOk.inlineP (pv:=.iface 44 (.agg #[])) (args:=#[pv bxt 0,sv By,.func (.func 83) #[] #[pv bs1 0]]) 32 [(0,pv bxt 0),(1,sv By),(2,.func (.func 83) #[] #[pv bs1 0])] enr func71 rfl rfl rfl rfl (Ok.sr (Ok.B 1 [(0,pv bxt 0),(1,sv By),(2,.func (.func 83) #[] #[pv bs1 0])] kr (Ok.nt (Ok.sr (Ok.b 1 [0,1,2] [(7,.slice none 0 0)] ?_))))))
   have hL66:RepL g20 yJ [] []:=rfl
   refine Ok.ownNil 24 4 (Ok.nt (Ok.q (Ok.block ?_)))
   obtain ⟨k,hF⟩:=hF
   refine Ok.L (fun k a W=>∃ q1:Ghost,Gext w0 g20 q1∧∃ (O0:Option Addr) (P0:Nat) (g0:List JN) (d1:List Value) (T0:Option Addr) (L0:Nat) (z0:List TK) (v0:Bool),RepL q1 yJ d1 g0∧Rep q1 yTs [.slice T0 z0.length L0] z0∧StA 32 [(0,pv bxt 0),(1,sv By),(2,.func (.func 83) #[] #[pv bs1 0]),(7,.slice O0 g0.length P0)] a∧StW w0 [.own (.slice O0 g0.length P0) 24 4 g0.length d1,.blk bxt (.cells #[.slice T0 z0.length L0,.bool v0] 58),.blk bs4 (.cells (aM u0 q0 k0 t0 j0 l0) 24),.blk bs2 (.cells aZ 24),.own (.slice none jZ.length 0) 24 4 jZ.length ([]),.blk bs1 (.cells #[pv bxt 0] 56)] q1 W∧runl7x4y N u0 q0 k0 j0 (runl19 N K k19) k g0 z0 v0) k ?_ ?_
   ·
    exact fun _ _ u v=>⟨g20,Gext.r w0 g20,none,0,jZ,[],S2,B2,(waS (o0,n0) ([Bx,Bw,Bt]:List Bs)).2.1,(waS (o0,n0) ([Bx,Bw,Bt]:List Bs)).2.2,hL66,F1,fA u v hF⟩
   clear hF
   rintro (_ | k7x4) _ _ ⟨q1,C0,O0,P0,g0,d1,T0,L0,z0,v0,Y0,F0,q⟩
   exact (q.2.2:False).elim
   refine jn (fun hF=>?_) _ _ q
   replace b0:=b0.mono C0.1
   refine Ok.q (Ok.cut (fun a W=>∃ R0:Ghost,Gext w0 q1 R0∧∃ (i0:Option Addr) (Z0:Nat),Rep R0 yTs [.slice i0 (runV14 z0 v0).length Z0] (runV14 z0 v0)∧StA 32 [(0,pv bxt 0),(1,sv By),(2,.func (.func 83) #[] #[pv bs1 0]),(7,.slice O0 g0.length P0),(19,.bool (runV4 z0 v0))] a∧StW w0 [.blk bxt (.cells #[.slice i0 (runV14 z0 v0).length Z0,.bool (waS (z0,v0) ([By]:List Bs)).2.2] 58),.own (.slice O0 g0.length P0) 24 4 g0.length d1,.blk bs4 (.cells (aM u0 q0 k0 t0 j0 l0) 24),.blk bs2 (.cells aZ 24),.own (.slice none jZ.length 0) 24 4 jZ.length ([]),.blk bs1 (.cells #[pv bxt 0] 56)] R0 W∧runj9i47b N z0 v0 u0 q0 k0 j0 (runl19 N K k19) g0 (runl7x4y N u0 q0 k0 j0 (runl19 N K k19) k7x4)) ?_ ?_)
   ·
    refine Ok.r (Ok.b 2 [0,1,2,7] [(8,pv bxt 0),(9,sv By)] ?_)
    have r5:RepL q1 (.str) ([sv By]:List Value) ([By]:List Bs):=(RepL.consN (c:=[sv By]) rfl rfl)
    refine Ok.o (OpOk.li r5 fun b83=>?_)
    refine Ok.frz 0 rfl r5 fun g84 Y3 L3=>?_
    replace Y0:=Y0.mono Y3.1
    replace F0:=F0.mono Y3.1
    replace b0:=b0.mono Y3.1
    obtain ⟨hp85,hF⟩:=hF
    refine Ok.en [1,0,2,3,4,5] ?_
    refine Ok.o (OpOk.ch (rwa_c (z0,v0) ([By]:List Bs) F0 L3 hp85) fun g86 _ _ U3 hV86=>?_)
    obtain ⟨X4,S4,rfl,A3,rfl⟩:=hV86
    replace Y0:=Y0.mono U3.1
    replace b0:=b0.mono U3.1
    refine Ok.b 2 [0,1,2,7] [(13,.bool (decide ((waS (z0,v0) ([By]:List Bs)).1<0)))] ?_
    refine Ok.bw 13 hF (fun q5 hF=>?_) (fun q5 hF=>?_)
    ·refine Ok.rn 6 [.e 0] [0,1,2,7] [(19,.bool (!(waS (z0,v0) ([By]:List Bs)).2.2))] ?_
     refine Ok.nt (Ok.rb 19 (runV4 z0 v0) (mand_t q5) ?_)
     exact fun _ _ u v=>⟨g86,Y3.trans U3,X4,S4,A3,fA u v hF⟩
    refine Ok.b 6 [0,1,2,7] [(19,.bool false)] ?_
    refine Ok.nt (Ok.rb 19 (runV4 z0 v0) (mand_f q5) ?_)
    exact fun _ _ u v=>⟨g86,Y3.trans U3,X4,S4,A3,fA u v hF⟩
   clear hF
   rintro _ _ ⟨R0,B0,i0,Z0,V0,q⟩
   refine jn (fun hF=>?_) _ _ q
   replace Y0:=Y0.mono B0.1
   replace b0:=b0.mono B0.1
   refine Ok.cw hF (fun hc67 hF=>?_) (fun hc67 hF=>?_)
   ·refine Ok.k (Ok.t (Ok.block (Ok.cut (fun a W=>∃ y1:Ghost,Gext w0 R0 y1∧∃ (G0:Option Addr) (H0:Nat),Rep y1 yTs [.slice G0 (runV23 z0 v0 g0).length H0] (runV23 z0 v0 g0)∧StA 32 [(0,pv bxt 0),(1,sv By),(2,.func (.func 83) #[] #[pv bs1 0]),(7,.slice O0 g0.length P0)] a∧StW w0 [.blk bxt (.cells #[.slice G0 (runV23 z0 v0 g0).length H0,.bool (runV24 z0 v0 g0)] 58),.own (.slice O0 g0.length P0) 24 4 g0.length d1,.blk bs4 (.cells (aM u0 q0 k0 t0 j0 l0) 24),.blk bs2 (.cells aZ 24),.own (.slice none jZ.length 0) 24 4 jZ.length ([]),.blk bs1 (.cells #[pv bxt 0] 56)] y1 W∧runj15i47b N z0 v0 g0 (runl7x4y N u0 q0 k0 j0 (runl19 N K k19) k7x4)) ?_ ?_)))
    ·
     refine Ok.sr (Ok.b 3 [0,1,2,7] [(22,.bool (decide ((g0.length:Int)>0)))] ?_)
     refine Ok.nt (Ok.cw hF (fun k3 hF=>?_) (fun k3 hF=>?_))
     ·refine Ok.r (Ok.b 1 [0,1,2,7] [(23,pv bxt 0)] ?_)
      have t5:RepL R0 (.str) ([sv Bo]:List Value) ([Bo]:List Bs):=(RepL.consN (c:=[sv Bo]) rfl rfl)
      refine Ok.o (OpOk.li t5 fun b76=>?_)
      refine Ok.frz 0 rfl t5 fun g77 a2 H2=>?_
      replace Y0:=Y0.mono a2.1
      replace V0:=V0.mono a2.1
      replace b0:=b0.mono a2.1
      obtain ⟨hp78,hF⟩:=hF
      refine Ok.o (OpOk.ch (rne_c (runV14 z0 v0,(waS (z0,v0) ([By]:List Bs)).2.2) ([Bo]:List Bs) V0 H2 hp78) fun g79 _ _ j2 hV79=>?_)
      obtain ⟨n3,o3,rfl,hR79_0,rfl⟩:=hV79
      replace Y0:=Y0.mono j2.1
      replace b0:=b0.mono j2.1
      refine Ok.nt (Ok.he (E':=.blk bxt (.cells #[.slice n3 (runV23 z0 v0 g0).length o3,.bool (runV24 z0 v0 g0)] 58)) 0 (congrArg (fun l:List Value=>Ent.blk bxt (.cells ⟨l⟩ 58)) (lcons (congrArg (fun l:List TK=>Value.slice n3 l.length o3) ((if_t k3).symm)) (lcons (congrArg (Value.bool) ((if_t k3).symm)) rfl))) ?_)
      exact fun _ _ u v=>⟨g79,a2.trans j2,n3,o3,(Eq.mp (congrArg (fun l:List TK=>Rep g79 yTs [.slice n3 l.length o3] l) ((if_t k3).symm)) hR79_0),fA u v hF⟩
     refine Ok.k (Ok.t (Ok.he (E':=.blk bxt (.cells #[.slice i0 (runV23 z0 v0 g0).length Z0,.bool (runV24 z0 v0 g0)] 58)) 0 (congrArg (fun l:List Value=>Ent.blk bxt (.cells ⟨l⟩ 58)) (lcons (congrArg (fun l:List TK=>Value.slice i0 l.length Z0) ((if_f k3).symm)) (lcons (congrArg (Value.bool) ((if_f k3).symm)) rfl))) ?_))
     exact fun _ _ u v=>⟨R0,Gext.r w0 R0,i0,Z0,(Eq.mp (congrArg (fun l:List TK=>Rep R0 yTs [.slice i0 l.length Z0] l) ((if_f k3).symm)) V0),fA u v hF⟩
    clear hF
    rintro _ _ ⟨y1,k1,G0,H0,g1,q⟩
    refine jn (fun hF=>?_) _ _ q
    replace Y0:=Y0.mono k1.1
    replace b0:=b0.mono k1.1
    refine Ok.r (Ok.b 2 [0,1,2] [(26,.slice O0 g0.length P0),(27,.func (.func 83) #[] #[pv bs1 0])] ?_)
    refine Ok.o (OpOk.inlineP (pv:=.iface 44 (.agg #[])) (args:=#[pv bs1 0]) 4 [(0,pv bs1 0)] enr func83 rfl rfl rfl rfl (Ok.q (Ok.r ?_)))
    have I3:RepL y1 yJ [] []:=rfl
    refine Ok.ownNil 24 4 (Ok.o (OpOk.aw aZ fun o2=>?_))
    refine Ok.nt (Ok.sr (Ok.o (OpOk.s (v:=pv bxt 0) (Yields.l 7 rfl rfl underlying56 rfl kr) rfl rfl ?_)))
    obtain ⟨hp70,hF⟩:=hF
    refine Ok.en [2,0,1,3,4,5,6,7] ?_
    refine Ok.o (OpOk.ch (ih_rex _ (runV23 z0 v0 g0,runV24 z0 v0 g0) 0 g1 hp70) fun g72 _ _ z4 hV72=>?_)
    obtain ⟨q71,hq71,M2,N2,a72_2,c72_2,rfl,hR72_0,hR72_2,rfl⟩:=hV72
    replace hF:=hF _ hq71
    replace Y0:=Y0.mono z4.1
    replace b0:=b0.mono z4.1
    refine Ok.o (OpOk.w 1 ?_)
    refine Ok.nt (Ok.ret (Ok.fine (.inl rfl) (Ok.back (vs:=[.agg (aJ q71.1 M2 N2)]) (.inl rfl) rfl (.cons (.cellAgg 1 4 (aJ q71.1 M2 N2) rfl rfl underlying24 rfl kr kr kr) .nil) rfl ?_)))
    have v4:RepL g72 yJ ((lJ q71.1 M2 N2):List Value) ([q71.1]:List JN):=(RepL.consN (c:=(lJ q71.1 M2 N2)) (Rep.tree.2 ⟨[iv q71.1.lab.1,iv q71.1.lab.2.1,sv q71.1.lab.2.2],[.slice M2 q71.1.kids.length N2],rfl,⟨[iv q71.1.lab.1],[iv q71.1.lab.2.1,sv q71.1.lab.2.2],rfl,rfl,⟨[iv q71.1.lab.2.1],[sv q71.1.lab.2.2],rfl,rfl,rfl⟩⟩,hR72_0⟩) rfl)
    refine Ok.o (OpOk.li v4 fun b73=>?_)
    obtain ⟨hb74,hF⟩:=hF
    refine Ok.o (OpOk.append' (e:=yJ) 56 2513169434916 4 0 rfl rfl rfl rfl Y0 v4 underlying22 kr kr kr hb74 rfl fun a74 c74 xs74 hL74=>?_)
    refine Ok.b 1 [0,1,2] [(7,.slice a74 (g0++([q71.1]:List JN)).length c74)] ?_
    refine Ok.j (Ok.kn (Ok.t ?_))
    exact fun a W hA hW=>⟨k7x4,nl,g72,(((C0.trans B0).trans k1).trans z4),a74,c74,(g0++([q71.1]:List JN)),xs74,a72_2,c72_2,q71.2.1,q71.2.2,hL74,hR72_2,hA.sub kr,hW.pick [4,1,5,6,7,8] _ dc rfl,hF⟩
   refine Ok.x (Ok.thenE (Ok.thenE (Ok.blockHit (Ok.t (Ok.sr (Ok.B 2 [(6,.slice O0 g0.length P0)] kr (Ok.nt (Ok.ret (Ok.fine (.inl rfl) (Ok.back (vs:=[.slice O0 g0.length P0]) (.inl rfl) rfl (.cons (.tmp rfl) .nil) rfl (OkME.l1 (C0.trans B0).1 (OkME.tail rfl rfl (OpOk.s (v:=.agg (aM u0 q0 k0 t0 j0 l0)) (Yields.loadAgg 2 4 (aM u0 q0 k0 t0 j0 l0) rfl rfl underlying24 rfl kr kr kr) rfl rfl (OkME.l1 (C0.trans B0).1 ?_))))))))))))))
   have l5:RepL R0 yJ ((lM u0 q0 k0 t0 j0 l0):List Value) ([Tree.mk (u0,q0,k0) j0]:List JN):=(RepL.consN (c:=(lM u0 q0 k0 t0 j0 l0)) (Rep.tree.2 ⟨[iv u0,iv q0,sv k0],[.slice t0 j0.length l0],rfl,⟨[iv u0],[iv q0,sv k0],rfl,rfl,⟨[iv q0],[sv k0],rfl,rfl,rfl⟩⟩,b0⟩) rfl)
   refine OkME.tail rfl rfl (OpOk.li l5 fun b80=>?_)
   refine OkME.l1 (C0.trans B0).1 ?_
   obtain ⟨hb81,hF⟩:=hF
   refine OkME.tail rfl rfl (OpOk.append' (e:=yJ) 56 2513169434916 0 2 rfl rfl rfl rfl l5 Y0 underlying22 kr kr kr hb81 rfl fun a81 c81 xs81 hL81=>?_)
   refine OkME.l1 (C0.trans B0).1 (OkME.batch 1 [(1,pv bs1 0),(2,pv bs2 0),(4,pv bs4 0),(5,.func (.func 83) #[] #[pv bs1 0]),(49,.agg (aM 11 0 Bz a81 (([Tree.mk (u0,q0,k0) j0]:List JN)++g0) c81))] kr (OkME.tail rfl rfl (OpOk.w 3 ?_)))
   refine OkME.l1 (C0.trans B0).1 (OkME.nil (Ok.leafE (Ok.kn (Ok.kn (Ok.t (Ok.frz 0 rfl hL81 fun g82 l4 hRf82=>?_))))))
   replace V0:=V0.mono l4.1
   exact fun a W hA hW=>⟨k19,nl,g82,(((((K1.trans B1).trans P1).trans C0).trans B0).trans l4),11,0,Bz,a81,c81,(([Tree.mk (u0,q0,k0) j0]:List JN)++g0),i0,Z0,runV14 z0 v0,(waS (z0,v0) ([By]:List Bs)).2.2,hRf82,V0,hA.sub kr,hW.pick [2,0,3,4,5] _ dc rfl,hF⟩
  refine Ok.sr (Ok.b 2 [1,2,4,5,39] [(50,.bool ((waS (o0,n0) ([Bx,Bw,Bt]:List Bs)).1==1))] ?_)
  refine Ok.nt (Ok.cw hF (fun hc88 hF=>?_) (fun hc88 hF=>?_))
  ·refine Ok.q (Ok.mx (pT ((((W2.trans i3).trans K1).trans B1).trans P1) id) [0,1,4] [2,3] [0,1,1,1,1] [0,1,1,1] [(0,true),(1,true),(2,false),(3,false),(4,true),(5,false)] ?_)
   refine OkME.hd (OpQ.s (v:=.agg (aM u0 q0 k0 t0 j0 l0)) (Yields.loadAgg 0 4 (aM u0 q0 k0 t0 j0 l0) rfl rfl underlying24 rfl kr kr kr) rfl rfl ?_)
   refine OkME.bat 1 [1,2,4,5] [(52,.agg (aM u0 q0 k0 t0 j0 l0)),(53,.func (.func 83) #[] #[pv bs1 0])] ?_
   refine OkME.tail rfl rfl (OpOk.inlineP (pv:=.iface 44 (.agg #[])) (args:=#[pv bs1 0]) 4 [(0,pv bs1 0)] enr func83 rfl rfl rfl rfl (Ok.q (Ok.r ?_)))
   have A1:RepL g20 yJ [] []:=rfl
   refine Ok.ownNil 24 4 (Ok.o (OpOk.aw aZ fun bs1i54=>?_))
   refine Ok.nt (Ok.sr (Ok.o (OpOk.s (v:=pv bxt 0) (Yields.l 6 rfl rfl underlying56 rfl kr) rfl rfl ?_)))
   obtain ⟨hp91,hF⟩:=hF
   refine Ok.en [2,0,1,3,4,5,6] ?_
   refine Ok.o (OpOk.ch (ih_rex _ (waS (o0,n0) ([Bx,Bw,Bt]:List Bs)).2 0 F1 hp91) fun g93 _ _ y3 hV93=>?_)
   obtain ⟨q92,hq92,O2,P2,a93_2,c93_2,rfl,M1,u3,rfl⟩:=hV93
   replace hF:=hF _ hq92
   replace b0:=b0.mono y3.1
   refine Ok.o (OpOk.w 1 ?_)
   refine Ok.nt (Ok.ret (Ok.fine (.inl rfl) (Ok.back (vs:=[.agg (aJ q92.1 O2 P2)]) (.inl rfl) rfl (.cons (.cellAgg 1 4 (aJ q92.1 O2 P2) rfl rfl underlying24 rfl kr kr kr) .nil) rfl (OkME.l1 y3.1 ?_))))
   have J3:RepL g93 yJ ([iv u0,iv q0,sv k0,.slice t0 j0.length l0,iv q92.1.lab.1,iv q92.1.lab.2.1,sv q92.1.lab.2.2,.slice O2 q92.1.kids.length P2]:List Value) ([Tree.mk (u0,q0,k0) j0,q92.1]:List JN):=(RepL.consN (c:=(lM u0 q0 k0 t0 j0 l0)) (Rep.tree.2 ⟨[iv u0,iv q0,sv k0],[.slice t0 j0.length l0],rfl,⟨[iv u0],[iv q0,sv k0],rfl,rfl,⟨[iv q0],[sv k0],rfl,rfl,rfl⟩⟩,b0⟩) (RepL.consN (c:=(lJ q92.1 O2 P2)) (Rep.tree.2 ⟨[iv q92.1.lab.1,iv q92.1.lab.2.1,sv q92.1.lab.2.2],[.slice O2 q92.1.kids.length P2],rfl,⟨[iv q92.1.lab.1],[iv q92.1.lab.2.1,sv q92.1.lab.2.2],rfl,rfl,⟨[iv q92.1.lab.2.1],[sv q92.1.lab.2.2],rfl,rfl,rfl⟩⟩,M1⟩) rfl))
   refine OkME.tail rfl rfl (OpOk.li J3 fun b94=>?_)
   refine OkME.l1 y3.1 (OkME.bat 1 [1,2,4,5] [(56,.agg (aM 12 0 Bz (some ⟨b94,0,none⟩) ([Tree.mk (u0,q0,k0) j0,q92.1]:List JN) 2))] ?_)
   refine OkME.tail rfl rfl (OpOk.w 4 ?_)
   refine OkME.l1 y3.1 (OkME.nil (Ok.t (Ok.r (Ok.o (OpOk.s (v:=pv bxt 0) (Yields.l 7 rfl rfl underlying56 rfl kr) rfl rfl ?_)))))
   have a4:RepL g93 (.str) ([sv Bu]:List Value) ([Bu]:List Bs):=(RepL.consN (c:=[sv Bu]) rfl rfl)
   refine Ok.o (OpOk.li a4 fun b95=>?_)
   refine Ok.frz 0 rfl a4 fun g96 g2 w2=>?_
   replace J3:=J3.mono g2.1
   replace u3:=u3.mono g2.1
   obtain ⟨hp97,hF⟩:=hF
   refine Ok.en [1,0,2,3,4,5,6,7] ?_
   refine Ok.o (OpOk.ch (rne_c q92.2 ([Bu]:List Bs) u3 w2 hp97) fun g98 _ _ W3 hV98=>?_)
   obtain ⟨a98_0,c98_0,rfl,j3,rfl⟩:=hV98
   replace J3:=J3.mono W3.1
   refine Ok.j (Ok.kn (Ok.kn (Ok.t (Ok.frz 1 rfl J3 fun g99 X3 hRf99=>?_))))
   replace j3:=j3.mono X3.1
   exact fun a W hA hW=>⟨k19,nl,g99,((((((K1.trans B1).trans P1).trans y3).trans g2).trans W3).trans X3),12,0,Bz,(some ⟨b94,0,none⟩),2,([Tree.mk (u0,q0,k0) j0,q92.1]:List JN),a98_0,c98_0,(neS q92.2 ([Bu]:List Bs)).1,(neS q92.2 ([Bu]:List Bs)).2,hRf99,j3,hA.sub kr,hW.pick [3,0,4,5,6] _ dc rfl,hF⟩
  refine Ok.sr (Ok.b 2 [1,2,4,5] [(60,.bool ((waS (o0,n0) ([Bx,Bw,Bt]:List Bs)).1==2))] ?_)
  refine Ok.nt (Ok.cw hF (fun hc100 hF=>?_) (fun hc100 hF=>?_))
  ·refine Ok.px (pT ((((W2.trans i3).trans K1).trans B1).trans P1) id) [] [] [1,1,1,1,1] [0,0,1,1,1] [(0,true)] 1 (.leaf [(2,false),(3,false),(4,true),(5,false)]) 2 (.fork [] 1 (.leaf [(3,false),(4,true),(5,false)]) 3 (.leaf [(1,false),(4,true),(5,false)])) ?_
   refine OkME.hd (OpQ.s (v:=pv bxt 0) (Yields.l 2 rfl rfl underlying56 rfl kr) rfl rfl ?_)
   refine OkME.nil (Ok.bothE rfl rfl ?_ ?_)
   ·replace hF:=hF.1
    refine OkME.tail rfl rfl (OpOk.ch (rnm_c (waS (o0,n0) ([Bx,Bw,Bt]:List Bs)).2 F1) fun g101 _ _ x2 hV101=>?_)
    obtain ⟨a101_0,c101_0,rfl,i2,rfl⟩:=hV101
    replace b0:=b0.mono x2.1
    refine OkME.l1 x2.1 (OkME.tail rfl rfl (OpOk.s (v:=.agg (aM u0 q0 k0 t0 j0 l0)) (Yields.loadAgg 1 4 (aM u0 q0 k0 t0 j0 l0) rfl rfl underlying24 rfl kr kr kr) rfl rfl (OkME.l1 x2.1 ?_)))
    have B4:RepL g101 yJ ((lM u0 q0 k0 t0 j0 l0):List Value) ([Tree.mk (u0,q0,k0) j0]:List JN):=(RepL.consN (c:=(lM u0 q0 k0 t0 j0 l0)) (Rep.tree.2 ⟨[iv u0,iv q0,sv k0],[.slice t0 j0.length l0],rfl,⟨[iv u0],[iv q0,sv k0],rfl,rfl,⟨[iv q0],[sv k0],rfl,rfl,rfl⟩⟩,b0⟩) rfl)
    refine OkME.tail rfl rfl (OpOk.li B4 fun a5=>?_)
    refine OkME.l1 x2.1 (OkME.batch 1 [(1,pv bs1 0),(2,pv bs2 0),(4,pv bs4 0),(5,.func (.func 83) #[] #[pv bs1 0]),(66,.agg (aM 13 0 ((rnmS (waS (o0,n0) ([Bx,Bw,Bt]:List Bs)).2).1) (some ⟨a5,0,none⟩) ([Tree.mk (u0,q0,k0) j0]:List JN) 1))] kr (OkME.tail rfl rfl (OpOk.w 2 ?_)))
    refine OkME.l1 x2.1 (OkME.nil (Ok.leafE (Ok.kn (Ok.kn (Ok.t (Ok.frz 0 rfl B4 fun g103 q4 hRf103=>?_))))))
    replace i2:=i2.mono q4.1
    exact fun a W hA hW=>⟨k19,nl,g103,((((K1.trans B1).trans P1).trans x2).trans q4),13,0,(rnmS (waS (o0,n0) ([Bx,Bw,Bt]:List Bs)).2).1,(some ⟨a5,0,none⟩),1,([Tree.mk (u0,q0,k0) j0]:List JN),a101_0,c101_0,(rnmS (waS (o0,n0) ([Bx,Bw,Bt]:List Bs)).2).2.1,(rnmS (waS (o0,n0) ([Bx,Bw,Bt]:List Bs)).2).2.2,hRf103,i2,hA.sub kr,hW.pick [1,0,2,3,4] _ dc rfl,hF⟩
   replace hF:=hF.2
   refine OkME.tail rfl rfl (OpOk.s (v:=.agg (aM u0 q0 k0 t0 j0 l0)) (Yields.loadAgg 1 4 (aM u0 q0 k0 t0 j0 l0) rfl rfl underlying24 rfl kr kr kr) rfl rfl (OkME.l1 (Gle.refl _) (OkME.nil (Ok.bothE rfl rfl ?_ ?_))))
   ·replace hF:=hF.1
    refine OkME.tail rfl rfl (OpOk.ch (rnm_c (waS (o0,n0) ([Bx,Bw,Bt]:List Bs)).2 F1) fun g104 _ _ p2 hV104=>?_)
    obtain ⟨a104_0,c104_0,rfl,Z2,rfl⟩:=hV104
    replace b0:=b0.mono p2.1
    refine OkME.l1 p2.1 ?_
    have C4:RepL g104 yJ ((lM u0 q0 k0 t0 j0 l0):List Value) ([Tree.mk (u0,q0,k0) j0]:List JN):=(RepL.consN (c:=(lM u0 q0 k0 t0 j0 l0)) (Rep.tree.2 ⟨[iv u0,iv q0,sv k0],[.slice t0 j0.length l0],rfl,⟨[iv u0],[iv q0,sv k0],rfl,rfl,⟨[iv q0],[sv k0],rfl,rfl,rfl⟩⟩,b0⟩) rfl)
    refine OkME.tail rfl rfl (OpOk.li C4 fun i5=>?_)
    refine OkME.l1 p2.1 (OkME.batch 1 [(1,pv bs1 0),(2,pv bs2 0),(4,pv bs4 0),(5,.func (.func 83) #[] #[pv bs1 0]),(66,.agg (aM 13 0 ((rnmS (waS (o0,n0) ([Bx,Bw,Bt]:List Bs)).2).1) (some ⟨i5,0,none⟩) ([Tree.mk (u0,q0,k0) j0]:List JN) 1))] kr (OkME.tail rfl rfl (OpOk.w 2 ?_)))
    refine OkME.l1 p2.1 (OkME.nil (Ok.leafE (Ok.kn (Ok.kn (Ok.t (Ok.frz 0 rfl C4 fun g106 k4 hRf106=>?_))))))
    replace Z2:=Z2.mono k4.1
    exact fun a W hA hW=>⟨k19,nl,g106,((((K1.trans B1).trans P1).trans p2).trans k4),13,0,(rnmS (waS (o0,n0) ([Bx,Bw,Bt]:List Bs)).2).1,(some ⟨i5,0,none⟩),1,([Tree.mk (u0,q0,k0) j0]:List JN),a104_0,c104_0,(rnmS (waS (o0,n0) ([Bx,Bw,Bt]:List Bs)).2).2.1,(rnmS (waS (o0,n0) ([Bx,Bw,Bt]:List Bs)).2).2.2,hRf106,Z2,hA.sub kr,hW.pick [1,0,2,3,4] _ dc rfl,hF⟩
   replace hF:=hF.2
   have p3:RepL g20 yJ ((lM u0 q0 k0 t0 j0 l0):List Value) ([Tree.mk (u0,q0,k0) j0]:List JN):=(RepL.consN (c:=(lM u0 q0 k0 t0 j0 l0)) (Rep.tree.2 ⟨[iv u0,iv q0,sv k0],[.slice t0 j0.length l0],rfl,⟨[iv u0],[iv q0,sv k0],rfl,rfl,⟨[iv q0],[sv k0],rfl,rfl,rfl⟩⟩,b0⟩) rfl)
   refine OkME.tail rfl rfl (OpOk.li p3 fun Z5=>?_)
   refine OkME.l1 (Gle.refl _) (OkME.en [1,0,2,3,4,5] ?_)
   refine OkME.tail rfl rfl (OpOk.ch (rnm_c (waS (o0,n0) ([Bx,Bw,Bt]:List Bs)).2 F1) fun g108 _ _ r2 hV108=>?_)
   obtain ⟨a108_0,c108_0,rfl,V2,rfl⟩:=hV108
   replace p3:=p3.mono r2.1
   replace b0:=b0.mono r2.1
   refine OkME.l1 r2.1 (OkME.batch 1 [(1,pv bs1 0),(2,pv bs2 0),(4,pv bs4 0),(5,.func (.func 83) #[] #[pv bs1 0]),(66,.agg (aM 13 0 ((rnmS (waS (o0,n0) ([Bx,Bw,Bt]:List Bs)).2).1) (some ⟨Z5,0,none⟩) ([Tree.mk (u0,q0,k0) j0]:List JN) 1))] kr (OkME.tail rfl rfl (OpOk.w 2 ?_)))
   refine OkME.l1 r2.1 (OkME.nil (Ok.leafE (Ok.kn (Ok.kn (Ok.t (Ok.frz 1 rfl p3 fun g109 y4 hRf109=>?_))))))
   replace V2:=V2.mono y4.1
   exact fun a W hA hW=>⟨k19,nl,g109,((((K1.trans B1).trans P1).trans r2).trans y4),13,0,(rnmS (waS (o0,n0) ([Bx,Bw,Bt]:List Bs)).2).1,(some ⟨Z5,0,none⟩),1,([Tree.mk (u0,q0,k0) j0]:List JN),a108_0,c108_0,(rnmS (waS (o0,n0) ([Bx,Bw,Bt]:List Bs)).2).2.1,(rnmS (waS (o0,n0) ([Bx,Bw,Bt]:List Bs)).2).2.2,hRf109,V2,hA.sub kr,hW.pick [1,0,2,3,4] _ dc rfl,hF⟩
  refine Ok.sr (Ok.o (OpOk.s (v:=.agg (aM u0 q0 k0 t0 j0 l0)) (Yields.loadAgg 1 4 (aM u0 q0 k0 t0 j0 l0) rfl rfl underlying24 rfl kr kr kr) rfl rfl (Ok.o (OpOk.w 2 ?_))))
  refine Ok.nt (Ok.ret (Ok.kr (Ok.kr (Ok.tr (Ok.kr (Ok.tr ?_))))))
  exact Ok.fine (.inl rfl) (Ok.p (vs:=[.agg (aM u0 q0 k0 t0 j0 l0)]) [0] [.blk bxt (.cells (aT (waS (o0,n0) ([Bx,Bw,Bt]:List Bs)).2 S2 B2) 58)] dc rfl (.inl rfl) rfl (.cons (.cellAgg 2 4 (aM u0 q0 k0 t0 j0 l0) rfl rfl underlying24 rfl kr kr kr) .nil) ((((W2.trans i3).trans K1).trans B1).trans P1) ⟨Tree.mk (u0,q0,k0) j0,(waS (o0,n0) ([Bx,Bw,Bt]:List Bs)).2,t0,l0,S2,B2,rfl,b0,F1,rfl,hF⟩)
 refine Ok.x (Ok.thenE (Ok.thenE (Ok.blockHit (Ok.t (Ok.sr (Ok.o (OpOk.s (v:=.agg (aM u0 q0 k0 t0 j0 l0)) (Yields.loadAgg 0 4 (aM u0 q0 k0 t0 j0 l0) rfl rfl underlying24 rfl kr kr kr) rfl rfl (Ok.o (OpOk.w 2 ?_)))))))))
 refine Ok.nt (Ok.ret ?_)
 exact Ok.fine (.inl rfl) (Ok.p (vs:=[.agg (aM u0 q0 k0 t0 j0 l0)]) [1] [.blk bxt (.cells #[.slice n1 o0.length o1,.bool n0] 58)] dc rfl (.inl rfl) rfl (.cons (.cellAgg 2 4 (aM u0 q0 k0 t0 j0 l0) rfl rfl underlying24 rfl kr kr kr) .nil) ((W2.trans i3).trans K1) ⟨Tree.mk (u0,q0,k0) j0,(o0,n0),t0,l0,n1,o1,rfl,b0,r1,rfl,hF⟩)
def rfiV3 (d0:List TK) (m0:Bool):Bool :=
 ((decide ((waS (d0,m0) ([([93]:Bs)]:List Bs)).1<0))&&(!(waS (d0,m0) ([([93]:Bs)]:List Bs)).2.2))
def rfiV9 (x0:List TK) (s0:Bool):Bool :=
 ((decide ((waS (x0,s0) ([([125]:Bs)]:List Bs)).1<0))&&(!(waS (x0,s0) ([([125]:Bs)]:List Bs)).2.2))
def rfiV14 (d0:List TK) (m0:Bool):List TK :=
 (waS (d0,m0) ([([93]:Bs)]:List Bs)).2.1
def rfiV15 (d0:List TK) (m0:Bool) (c0:List JN):List TK :=
 (if (decide ((c0.length:Int)>0))=true then (neS (rfiV14 d0 m0,(waS (d0,m0) ([([93]:Bs)]:List Bs)).2.2) ([([44]:Bs)]:List Bs)).1 else (rfiV14 d0 m0))
def rfiV16 (d0:List TK) (m0:Bool) (c0:List JN):Bool :=
 (if (decide ((c0.length:Int)>0))=true then (neS (rfiV14 d0 m0,(waS (d0,m0) ([([93]:Bs)]:List Bs)).2.2) ([([44]:Bs)]:List Bs)).2 else (waS (d0,m0) ([([93]:Bs)]:List Bs)).2.2)
def rfiV19 (x0:List TK) (s0:Bool):List TK :=
 (waS (x0,s0) ([([125]:Bs)]:List Bs)).2.1
def rfiV20 (x0:List TK) (s0:Bool) (y0:List JN):List TK :=
 (if (decide ((y0.length:Int)>0))=true then (neS (rfiV19 x0 s0,(waS (x0,s0) ([([125]:Bs)]:List Bs)).2.2) ([([44]:Bs)]:List Bs)).1 else (rfiV19 x0 s0))
def rfiV21 (x0:List TK) (s0:Bool) (y0:List JN):Bool :=
 (if (decide ((y0.length:Int)>0))=true then (neS (rfiV19 x0 s0,(waS (x0,s0) ([([125]:Bs)]:List Bs)).2.2) ([([44]:Bs)]:List Bs)).2 else (waS (x0,s0) ([([125]:Bs)]:List Bs)).2.2)
def rfij15i49 (N:Nat) (d0:List TK) (m0:Bool) (c0:List JN) (C7x1:(List JN)→List TK→Bool→Prop):Prop :=
 rexP N (rfiV15 d0 m0 c0,rfiV16 d0 m0 c0) 0∧∀ q35:JN×TT,(rexR (rfiV15 d0 m0 c0,rfiV16 d0 m0 c0) 0) q35→(c0++([q35.1]:List JN)).length≤2513169434916∧C7x1 (c0++([q35.1]:List JN)) q35.2.1 q35.2.2
def rfij9i49 (N:Nat) (K:JN→TT→Prop) (d0:List TK) (m0:Bool) (c0:List JN) (C7x1:(List JN)→List TK→Bool→Prop):Prop :=
 (rfiV3 d0 m0=true→((decide ((c0.length:Int)>0))=true→waP (rfiV14 d0 m0,(waS (d0,m0) ([([93]:Bs)]:List Bs)).2.2) ([([44]:Bs)]:List Bs)∧rfij15i49 N d0 m0 c0 C7x1)∧((decide ((c0.length:Int)>0))=false→rfij15i49 N d0 m0 c0 C7x1))∧(rfiV3 d0 m0=false→K (Tree.mk (6,0,([]:Bs)) c0) (rfiV14 d0 m0,(waS (d0,m0) ([([93]:Bs)]:List Bs)).2.2))
def rfil7x1b (N:Nat) (K:JN→TT→Prop) (c0:List JN) (d0:List TK) (m0:Bool) (C7x1:(List JN)→List TK→Bool→Prop):Prop :=
 waP (d0,m0) ([([93]:Bs)]:List Bs)∧((decide ((waS (d0,m0) ([([93]:Bs)]:List Bs)).1<0))=true→rfij9i49 N K d0 m0 c0 C7x1)∧((decide ((waS (d0,m0) ([([93]:Bs)]:List Bs)).1<0))=false→rfij9i49 N K d0 m0 c0 C7x1)
def rfil7x1 (N:Nat) (K:JN→TT→Prop):Nat→(List JN)→List TK→Bool→Prop
 | 0,_,_,_=>False
 | k+1,c0,d0,m0=>rfil7x1b N K c0 d0 m0 (rfil7x1 N K k)
def rfij15i55 (N:Nat) (x0:List TK) (s0:Bool) (y0:List JN) (C7x2:(List JN)→List TK→Bool→Prop):Prop :=
 waP (rnmS (rfiV20 x0 s0 y0,rfiV21 x0 s0 y0)).2 ([([58]:Bs)]:List Bs)∧rexP N (neS (rnmS (rfiV20 x0 s0 y0,rfiV21 x0 s0 y0)).2 ([([58]:Bs)]:List Bs)) 0∧∀ q66:JN×TT,(rexR (neS (rnmS (rfiV20 x0 s0 y0,rfiV21 x0 s0 y0)).2 ([([58]:Bs)]:List Bs)) 0) q66→(y0++([(Tree.mk (8,0,(rnmS (rfiV20 x0 s0 y0,rfiV21 x0 s0 y0)).1) ([q66.1]:List JN))]:List JN)).length≤2513169434916∧C7x2 (y0++([(Tree.mk (8,0,(rnmS (rfiV20 x0 s0 y0,rfiV21 x0 s0 y0)).1) ([q66.1]:List JN))]:List JN)) q66.2.1 q66.2.2
def rfij9i55 (N:Nat) (K:JN→TT→Prop) (x0:List TK) (s0:Bool) (y0:List JN) (C7x2:(List JN)→List TK→Bool→Prop):Prop :=
 (rfiV9 x0 s0=true→((decide ((y0.length:Int)>0))=true→waP (rfiV19 x0 s0,(waS (x0,s0) ([([125]:Bs)]:List Bs)).2.2) ([([44]:Bs)]:List Bs)∧rfij15i55 N x0 s0 y0 C7x2)∧((decide ((y0.length:Int)>0))=false→rfij15i55 N x0 s0 y0 C7x2))∧(rfiV9 x0 s0=false→K (Tree.mk (7,0,([]:Bs)) y0) (rfiV19 x0 s0,(waS (x0,s0) ([([125]:Bs)]:List Bs)).2.2))
def rfil7x2b (N:Nat) (K:JN→TT→Prop) (y0:List JN) (x0:List TK) (s0:Bool) (C7x2:(List JN)→List TK→Bool→Prop):Prop :=
 waP (x0,s0) ([([125]:Bs)]:List Bs)∧((decide ((waS (x0,s0) ([([125]:Bs)]:List Bs)).1<0))=true→rfij9i55 N K x0 s0 y0 C7x2)∧((decide ((waS (x0,s0) ([([125]:Bs)]:List Bs)).1<0))=false→rfij9i55 N K x0 s0 y0 C7x2)
def rfil7x2 (N:Nat) (K:JN→TT→Prop):Nat→(List JN)→List TK→Bool→Prop
 | 0,_,_,_=>False
 | k+1,y0,x0,s0=>rfil7x2b N K y0 x0 s0 (rfil7x2 N K k)
def rfiF (N:Nat) (xt:TT) (K:JN→TT→Prop):Prop :=
 (((rpaS xt).1.1==1)=true→K (Tree.mk (5,0,(rpaS xt).1.2.2.2.1) jZ) (rpaS xt).2)∧(((rpaS xt).1.1==1)=false→(((rpaS xt).1.1==2)=true→K (Tree.mk (1,(rpaS xt).1.2.2.2.2,([]:Bs)) jZ) (rpaS xt).2)∧(((rpaS xt).1.1==2)=false→(((rpaS xt).1.1==3)=true→K (Tree.mk (2,0,(rpaS xt).1.2.2.2.1) jZ) (rpaS xt).2)∧(((rpaS xt).1.1==3)=false→(((rpaS xt).1.2.2.2.1==([116,114,117,101]:Bs))=true→K (Tree.mk (3,1,([]:Bs)) jZ) (rpaS xt).2)∧(((rpaS xt).1.2.2.2.1==([116,114,117,101]:Bs))=false→(((rpaS xt).1.2.2.2.1==([102,97,108,115,101]:Bs))=true→K (Tree.mk (3,0,([]:Bs)) jZ) (rpaS xt).2)∧(((rpaS xt).1.2.2.2.1==([102,97,108,115,101]:Bs))=false→(((rpaS xt).1.2.2.2.1==([110,117,108,108]:Bs))=true→K (Tree.mk (4,0,([]:Bs)) jZ) (rpaS xt).2)∧(((rpaS xt).1.2.2.2.1==([110,117,108,108]:Bs))=false→(((rpaS xt).1.2.2.2.1==([102,110]:Bs))=true→rfnP N (rpaS xt).2 ([]:Bs)∧∀ q27:JN×TT,(rfnR (rpaS xt).2 ([]:Bs)) q27→K q27.1 q27.2)∧(((rpaS xt).1.2.2.2.1==([102,110]:Bs))=false→(((rpaS xt).1.2.2.2.1==([91]:Bs))=true→∃ k,rfil7x1 N K k jZ (rpaS xt).2.1 (rpaS xt).2.2)∧(((rpaS xt).1.2.2.2.1==([91]:Bs))=false→(((rpaS xt).1.2.2.2.1==([123]:Bs))=true→∃ k,rfil7x2 N K k jZ (rpaS xt).2.1 (rpaS xt).2.2)∧(((rpaS xt).1.2.2.2.1==([123]:Bs))=false→(((rpaS xt).1.2.2.2.1==([40]:Bs))=true→rexP N (rpaS xt).2 0∧∀ q87:JN×TT,(rexR (rpaS xt).2 0) q87→waP q87.2 ([([41]:Bs)]:List Bs)∧K q87.1 (neS q87.2 ([([41]:Bs)]:List Bs)))∧(((rpaS xt).1.2.2.2.1==([40]:Bs))=false→K (Tree.mk (0,0,([]:Bs)) jZ) ((rpaS xt).2.1,true)))))))))))
theorem rfi_ok {g:Ghost} (N:Nat) (ih_rst:rst_C N) (ih_rbl:rbl_C N) (ih_rfn:rfn_C N) (ih_rbr:rbr_C N) (ih_rex:rex_C N) (ih_run:run_C N) (ih_rfi:rfi_C N) {bxt:Nat} {m2:Option Addr} {n2:Nat} (xt:TT) (m1:Rep g yTs [.slice m2 xt.1.length n2] xt.1) (K:JN→TT→Prop)
  (hF:rfiF N xt K):CallsH prog 82 #[pv bxt 0] g [.blk bxt (.cells (aT xt m2 n2) 58)] (fun g' H' v=>∃ (r0:JN),∃ (fxt:TT),∃ (U2:Option Addr) (J2:Nat),∃ (q2:Option Addr) (k2:Nat),v=.agg (aJ r0 U2 J2)∧Rep g' yJs [.slice U2 r0.kids.length J2] r0.kids∧Rep g' yTs [.slice q2 fxt.1.length k2] fxt.1∧H'=[.blk bxt (.cells (aT fxt q2 k2) 58)]∧K r0 fxt):=by
 refine CallsH.en 69 func82 rfl fun w0=>?_
 refine Ok.sr (Ok.o (OpOk.box (v:=pv bxt 0) (cs:=#[pv bxt 0]) rfl kr rfl fun bs1=>?_))
 have hL2:RepL g yJ [] []:=rfl
 refine Ok.ownNil 24 4 (Ok.o (OpOk.aw aZ fun bs2=>?_))
 refine Ok.nt (Ok.sr (Ok.B 1 [(1,pv bs1 0),(2,pv bs2 0),(6,.func (.func 89) #[] #[pv bs1 0])] kr (Ok.o (OpOk.a (z:=.nilFunc) (cs:=#[.nilFunc]) kr kr rfl fun bs3=>?_))))
 refine Ok.o (OpOk.w1 0 ?_)
 refine Ok.nt (Ok.sr (Ok.o (OpOk.s (v:=pv bxt 0) (Yields.l 3 rfl rfl underlying56 rfl kr) rfl rfl (Ok.en [4,0,1,2,3] ?_))))
 refine Ok.o (OpOk.ch (rpa_c xt m1) fun g5 _ _ hx5 hV5=>?_)
 obtain ⟨D1,E1,rfl,x1,rfl⟩:=hV5
 refine Ok.o (OpOk.aw #[iv 0,iv 0,iv 0,sv Bz,iv 0] fun bs4=>?_)
 refine Ok.o (OpOk.w 0 ?_)
 refine Ok.nt (Ok.q (Ok.block (Ok.sr (Ok.rn 4 [.e 0] [1,2] [(3,pv bs3 0),(4,pv bs4 0),(9,.bool ((rpaS xt).1.1==1))] ?_))))
 refine Ok.nt (Ok.cw hF (fun hc7 hF=>?_) (fun hc7 hF=>?_))
 ·refine Ok.sr (Ok.rn 3 [.e 0] [2] [(15,.agg #[iv 5,iv 0,sv ((rpaS xt).1.2.2.2.1),.slice none 0 0])] ?_)
  have hL8:RepL g5 yJ [] []:=rfl
  refine Ok.ownNil 24 4 (Ok.o (OpOk.w 4 ?_))
  refine Ok.nt (Ok.ret (Ok.kr (Ok.tr (Ok.frz 0 rfl hL8 fun g9 hx9 hRf9=>?_))))
  replace x1:=x1.mono hx9.1
  exact Ok.p (vs:=[.agg (aM 5 0 ((rpaS xt).1.2.2.2.1) none jZ 0)]) [1] [.blk bxt (.cells (aT (rpaS xt).2 D1 E1) 58)] dc rfl (.inl rfl) rfl (.cons (.cellAgg 3 4 (aM 5 0 ((rpaS xt).1.2.2.2.1) none jZ 0) rfl rfl underlying24 rfl kr kr kr) .nil) (hx5.trans hx9) ⟨(Tree.mk (5,0,(rpaS xt).1.2.2.2.1) jZ),(rpaS xt).2,none,0,D1,E1,rfl,hRf9,x1,rfl,hF⟩
 refine Ok.sr (Ok.rn 4 [.e 0] [1,2,3,4] [(16,.bool ((rpaS xt).1.1==2))] ?_)
 refine Ok.nt (Ok.cw hF (fun hc10 hF=>?_) (fun hc10 hF=>?_))
 ·refine Ok.sr (Ok.rn 3 [.e 0] [2] [(22,.agg #[iv 1,iv (rpaS xt).1.2.2.2.2,sv Bz,.slice none 0 0])] ?_)
  have hL11:RepL g5 yJ [] []:=rfl
  refine Ok.ownNil 24 4 (Ok.o (OpOk.w 4 ?_))
  refine Ok.nt (Ok.ret (Ok.kr (Ok.tr (Ok.frz 0 rfl hL11 fun g12 k5 hRf12=>?_))))
  replace x1:=x1.mono k5.1
  exact Ok.p (vs:=[.agg (aM 1 (rpaS xt).1.2.2.2.2 Bz none jZ 0)]) [1] [.blk bxt (.cells (aT (rpaS xt).2 D1 E1) 58)] dc rfl (.inl rfl) rfl (.cons (.cellAgg 3 4 (aM 1 (rpaS xt).1.2.2.2.2 Bz none jZ 0) rfl rfl underlying24 rfl kr kr kr) .nil) (hx5.trans k5) ⟨(Tree.mk (1,(rpaS xt).1.2.2.2.2,Bz) jZ),(rpaS xt).2,none,0,D1,E1,rfl,hRf12,x1,rfl,hF⟩
 refine Ok.sr (Ok.rn 4 [.e 0] [1,2,3,4] [(23,.bool ((rpaS xt).1.1==3))] ?_)
 refine Ok.nt (Ok.cw hF (fun hc13 hF=>?_) (fun hc13 hF=>?_))
 ·refine Ok.sr (Ok.rn 3 [.e 0] [2] [(29,.agg #[iv 2,iv 0,sv ((rpaS xt).1.2.2.2.1),.slice none 0 0])] ?_)
  have e5:RepL g5 yJ [] []:=rfl
  refine Ok.ownNil 24 4 (Ok.o (OpOk.w 4 ?_))
  refine Ok.nt (Ok.ret (Ok.kr (Ok.tr (Ok.frz 0 rfl e5 fun g15 y5 hRf15=>?_))))
  replace x1:=x1.mono y5.1
  exact Ok.p (vs:=[.agg (aM 2 0 ((rpaS xt).1.2.2.2.1) none jZ 0)]) [1] [.blk bxt (.cells (aT (rpaS xt).2 D1 E1) 58)] dc rfl (.inl rfl) rfl (.cons (.cellAgg 3 4 (aM 2 0 ((rpaS xt).1.2.2.2.1) none jZ 0) rfl rfl underlying24 rfl kr kr kr) .nil) (hx5.trans y5) ⟨(Tree.mk (2,0,(rpaS xt).1.2.2.2.1) jZ),(rpaS xt).2,none,0,D1,E1,rfl,hRf15,x1,rfl,hF⟩
 refine Ok.k (Ok.kn (Ok.t (Ok.q (Ok.sr (Ok.b 1 [1,2,3] [(30,pv bs4 3)] ?_)))))
 refine Ok.o (OpOk.s (v:=sv ((rpaS xt).1.2.2.2.1)) (Yields.l 0 rfl rfl underlying9 rfl kr) rfl rfl (Ok.nt (Ok.block (Ok.sr (Ok.rn 2 [] [1,2,3] [(31,sv ((rpaS xt).1.2.2.2.1)),(32,.bool ((rpaS xt).1.2.2.2.1==Bq))] ?_)))))
 refine Ok.nt (Ok.cw hF (fun L4 hF=>?_) (fun L4 hF=>?_))
 ·refine Ok.sr (Ok.b 1 [2] [(34,.agg #[iv 3,iv 1,sv Bz,.slice none 0 0])] ?_)
  have m4:RepL g5 yJ [] []:=rfl
  refine Ok.ownNil 24 4 (Ok.o (OpOk.w 4 ?_))
  refine Ok.nt (Ok.ret (Ok.kr (Ok.tr (Ok.frz 0 rfl m4 fun g18 B1 X2=>?_))))
  replace x1:=x1.mono B1.1
  exact Ok.p (vs:=[.agg (aM 3 1 Bz none jZ 0)]) [1] [.blk bxt (.cells (aT (rpaS xt).2 D1 E1) 58)] dc rfl (.inl rfl) rfl (.cons (.cellAgg 3 4 (aM 3 1 Bz none jZ 0) rfl rfl underlying24 rfl kr kr kr) .nil) (hx5.trans B1) ⟨(Tree.mk (3,1,Bz) jZ),(rpaS xt).2,none,0,D1,E1,rfl,X2,x1,rfl,hF⟩
 refine Ok.sr (Ok.rn 2 [] [1,2,3,31] [(35,.bool ((rpaS xt).1.2.2.2.1==Bn))] ?_)
 refine Ok.nt (Ok.cw hF (fun hc19 hF=>?_) (fun hc19 hF=>?_))
 ·refine Ok.sr (Ok.b 1 [2] [(37,.agg #[iv 3,iv 0,sv Bz,.slice none 0 0])] ?_)
  have hL20:RepL g5 yJ [] []:=rfl
  refine Ok.ownNil 24 4 (Ok.o (OpOk.w 4 ?_))
  refine Ok.nt (Ok.ret (Ok.kr (Ok.tr (Ok.frz 0 rfl hL20 fun g21 u5 hRf21=>?_))))
  replace x1:=x1.mono u5.1
  exact Ok.p (vs:=[.agg (aM 3 0 Bz none jZ 0)]) [1] [.blk bxt (.cells (aT (rpaS xt).2 D1 E1) 58)] dc rfl (.inl rfl) rfl (.cons (.cellAgg 3 4 (aM 3 0 Bz none jZ 0) rfl rfl underlying24 rfl kr kr kr) .nil) (hx5.trans u5) ⟨(Tree.mk (3,0,Bz) jZ),(rpaS xt).2,none,0,D1,E1,rfl,hRf21,x1,rfl,hF⟩
 refine Ok.sr (Ok.rn 2 [] [1,2,3,31] [(38,.bool ((rpaS xt).1.2.2.2.1==Bg))] ?_)
 refine Ok.nt (Ok.cw hF (fun hc22 hF=>?_) (fun hc22 hF=>?_))
 ·refine Ok.sr (Ok.b 1 [2] [(40,.agg #[iv 4,iv 0,sv Bz,.slice none 0 0])] ?_)
  have A4:RepL g5 yJ [] []:=rfl
  refine Ok.ownNil 24 4 (Ok.o (OpOk.w 4 ?_))
  refine Ok.nt (Ok.ret (Ok.kr (Ok.tr (Ok.frz 0 rfl A4 fun g24 j5 hRf24=>?_))))
  replace x1:=x1.mono j5.1
  exact Ok.p (vs:=[.agg (aM 4 0 Bz none jZ 0)]) [1] [.blk bxt (.cells (aT (rpaS xt).2 D1 E1) 58)] dc rfl (.inl rfl) rfl (.cons (.cellAgg 3 4 (aM 4 0 Bz none jZ 0) rfl rfl underlying24 rfl kr kr kr) .nil) (hx5.trans j5) ⟨(Tree.mk (4,0,Bz) jZ),(rpaS xt).2,none,0,D1,E1,rfl,hRf24,x1,rfl,hF⟩
 refine Ok.sr (Ok.rn 2 [] [1,2,3,31] [(41,.bool ((rpaS xt).1.2.2.2.1==Bh))] ?_)
 refine Ok.nt (Ok.cw hF (fun hc25 hF=>?_) (fun hc25 hF=>?_))
 ·refine Ok.sr (Ok.o (OpOk.s (v:=pv bxt 0) (Yields.l 5 rfl rfl underlying56 rfl kr) rfl rfl ?_))
  obtain ⟨hp26,hF⟩:=hF
  refine Ok.en [1,0,2,3,4,5] ?_
  refine Ok.o (OpOk.ch (ih_rfn _ (rpaS xt).2 Bz x1 hp26) fun g28 _ _ V5 hV28=>?_)
  obtain ⟨q27,hq27,u4,j4,D4,E4,rfl,hR28_0,hR28_2,rfl⟩:=hV28
  replace hF:=hF _ hq27
  refine Ok.o (OpOk.w 3 ?_)
  refine Ok.nt (Ok.ret (Ok.kr (Ok.tr ?_)))
  exact Ok.p (vs:=[.agg (aJ q27.1 u4 j4)]) [0] [.blk bxt (.cells (aT q27.2 D4 E4) 58)] dc rfl (.inl rfl) rfl (.cons (.cellAgg 3 4 (aJ q27.1 u4 j4) rfl rfl underlying24 rfl kr kr kr) .nil) (hx5.trans V5) ⟨q27.1,q27.2,u4,j4,D4,E4,rfl,hR28_0,hR28_2,rfl,hF⟩
 refine Ok.sr (Ok.rn 2 [] [1,2,3,31] [(45,.bool ((rpaS xt).1.2.2.2.1==Bw))] ?_)
 refine Ok.nt (Ok.cw hF (fun hc29 hF=>?_) (fun hc29 hF=>?_))
 ·refine Ok.sr (Ok.o (OpOk.s (v:=pv bxt 0) (Yields.l 5 rfl rfl underlying56 rfl kr) rfl rfl (Ok.o (OpOk.s (v:=.func (.func 89) #[] #[pv bs1 0]) (Yields.l 2 rfl rfl underlying49 rfl kr) rfl rfl (Ok.o (OpOk.i (args:=#[pv bxt 0,sv Bu,.func (.func 89) #[] #[pv bs1 0]]) 32 [(0,pv bxt 0),(1,sv Bu),(2,.func (.func 89) #[] #[pv bs1 0])] enr func71 rfl rfl rfl rfl (Ok.sr (Ok.B 1 [(0,pv bxt 0),(1,sv Bu),(2,.func (.func 89) #[] #[pv bs1 0])] kr (Ok.nt (Ok.sr (Ok.b 1 [0,1,2] [(7,.slice none 0 0)] ?_)))))))))))
  have n4:RepL g5 yJ [] []:=rfl
  refine Ok.ownNil 24 4 (Ok.nt (Ok.q (Ok.block ?_)))
  obtain ⟨k,hF⟩:=hF
  refine Ok.L (fun k a W=>∃ N1:Ghost,Gext w0 g5 N1∧∃ (J0:Option Addr) (W0:Nat) (c0:List JN) (e1:List Value) (Y1:Option Addr) (U1:Nat) (d0:List TK) (m0:Bool),RepL N1 yJ e1 c0∧Rep N1 yTs [.slice Y1 d0.length U1] d0∧StA 32 [(0,pv bxt 0),(1,sv Bu),(2,.func (.func 89) #[] #[pv bs1 0]),(7,.slice J0 c0.length W0)] a∧StW w0 [.own (.slice J0 c0.length W0) 24 4 c0.length e1,.blk bxt (.cells #[.slice Y1 d0.length U1,.bool m0] 58),.blk bs2 (.cells aZ 24),.own (.slice none jZ.length 0) 24 4 jZ.length ([]),.blk bs1 (.cells #[pv bxt 0] 56)] N1 W∧rfil7x1 N K k c0 d0 m0) k ?_ ?_
  ·
   exact fun _ _ u v=>⟨g5,Gext.r w0 g5,none,0,jZ,[],D1,E1,(rpaS xt).2.1,(rpaS xt).2.2,n4,x1,fA u v hF⟩
  clear hF
  rintro (_ | k7x1) _ _ ⟨N1,Q2,J0,W0,c0,e1,Y1,U1,d0,m0,U0,t1,q⟩
  exact (q.2.2:False).elim
  refine jn (fun hF=>?_) _ _ q
  refine Ok.q (Ok.cut (fun a W=>∃ J1:Ghost,Gext w0 N1 J1∧∃ (A0:Option Addr) (I0:Nat),Rep J1 yTs [.slice A0 (rfiV14 d0 m0).length I0] (rfiV14 d0 m0)∧StA 32 [(0,pv bxt 0),(1,sv Bu),(2,.func (.func 89) #[] #[pv bs1 0]),(7,.slice J0 c0.length W0),(19,.bool (rfiV3 d0 m0))] a∧StW w0 [.blk bxt (.cells #[.slice A0 (rfiV14 d0 m0).length I0,.bool (waS (d0,m0) ([Bu]:List Bs)).2.2] 58),.own (.slice J0 c0.length W0) 24 4 c0.length e1,.blk bs2 (.cells aZ 24),.own (.slice none jZ.length 0) 24 4 jZ.length ([]),.blk bs1 (.cells #[pv bxt 0] 56)] J1 W∧rfij9i49 N K d0 m0 c0 (rfil7x1 N K k7x1)) ?_ ?_)
  ·
   refine Ok.r (Ok.b 2 [0,1,2,7] [(8,pv bxt 0),(9,sv Bu)] ?_)
   have Q5:RepL N1 (.str) ([sv Bu]:List Value) ([Bu]:List Bs):=(RepL.consN (c:=[sv Bu]) rfl rfl)
   refine Ok.o (OpOk.li Q5 fun b45=>?_)
   refine Ok.frz 0 rfl Q5 fun g46 w4 x4=>?_
   replace U0:=U0.mono w4.1
   replace t1:=t1.mono w4.1
   obtain ⟨hp47,hF⟩:=hF
   refine Ok.en [1,0,2,3,4] ?_
   refine Ok.o (OpOk.ch (rwa_c (d0,m0) ([Bu]:List Bs) t1 x4 hp47) fun g48 _ _ s4 hV48=>?_)
   obtain ⟨F4,G4,rfl,b4,rfl⟩:=hV48
   replace U0:=U0.mono s4.1
   refine Ok.b 2 [0,1,2,7] [(13,.bool (decide ((waS (d0,m0) ([Bu]:List Bs)).1<0)))] ?_
   refine Ok.bw 13 hF (fun w5 hF=>?_) (fun w5 hF=>?_)
   ·refine Ok.rn 6 [.e 0] [0,1,2,7] [(19,.bool (!(waS (d0,m0) ([Bu]:List Bs)).2.2))] ?_
    refine Ok.nt (Ok.rb 19 (rfiV3 d0 m0) (mand_t w5) ?_)
    exact fun _ _ u v=>⟨g48,w4.trans s4,F4,G4,b4,fA u v hF⟩
   refine Ok.b 6 [0,1,2,7] [(19,.bool false)] ?_
   refine Ok.nt (Ok.rb 19 (rfiV3 d0 m0) (mand_f w5) ?_)
   exact fun _ _ u v=>⟨g48,w4.trans s4,F4,G4,b4,fA u v hF⟩
  clear hF
  rintro _ _ ⟨J1,z2,A0,I0,u1,q⟩
  refine jn (fun hF=>?_) _ _ q
  replace U0:=U0.mono z2.1
  refine Ok.cw hF (fun hc31 hF=>?_) (fun hc31 hF=>?_)
  ·refine Ok.k (Ok.t (Ok.block (Ok.cut (fun a W=>∃ T1:Ghost,Gext w0 J1 T1∧∃ (a1:Option Addr) (i1:Nat),Rep T1 yTs [.slice a1 (rfiV15 d0 m0 c0).length i1] (rfiV15 d0 m0 c0)∧StA 32 [(0,pv bxt 0),(1,sv Bu),(2,.func (.func 89) #[] #[pv bs1 0]),(7,.slice J0 c0.length W0)] a∧StW w0 [.blk bxt (.cells #[.slice a1 (rfiV15 d0 m0 c0).length i1,.bool (rfiV16 d0 m0 c0)] 58),.own (.slice J0 c0.length W0) 24 4 c0.length e1,.blk bs2 (.cells aZ 24),.own (.slice none jZ.length 0) 24 4 jZ.length ([]),.blk bs1 (.cells #[pv bxt 0] 56)] T1 W∧rfij15i49 N d0 m0 c0 (rfil7x1 N K k7x1)) ?_ ?_)))
   ·
    refine Ok.sr (Ok.b 3 [0,1,2,7] [(22,.bool (decide ((c0.length:Int)>0)))] ?_)
    refine Ok.nt (Ok.cw hF (fun w3 hF=>?_) (fun w3 hF=>?_))
    ·refine Ok.r (Ok.b 1 [0,1,2,7] [(23,pv bxt 0)] ?_)
     have K5:RepL J1 (.str) ([sv Bo]:List Value) ([Bo]:List Bs):=(RepL.consN (c:=[sv Bo]) rfl rfl)
     refine Ok.o (OpOk.li K5 fun b40=>?_)
     refine Ok.frz 0 rfl K5 fun g41 i4 c4=>?_
     replace U0:=U0.mono i4.1
     replace u1:=u1.mono i4.1
     obtain ⟨hp42,hF⟩:=hF
     refine Ok.o (OpOk.ch (rne_c (rfiV14 d0 m0,(waS (d0,m0) ([Bu]:List Bs)).2.2) ([Bo]:List Bs) u1 c4 hp42) fun g43 _ _ Z4 hV43=>?_)
     obtain ⟨r3,t3,rfl,hR43_0,rfl⟩:=hV43
     replace U0:=U0.mono Z4.1
     refine Ok.nt (Ok.he (E':=.blk bxt (.cells #[.slice r3 (rfiV15 d0 m0 c0).length t3,.bool (rfiV16 d0 m0 c0)] 58)) 0 (congrArg (fun l:List Value=>Ent.blk bxt (.cells ⟨l⟩ 58)) (lcons (congrArg (fun l:List TK=>Value.slice r3 l.length t3) ((if_t w3).symm)) (lcons (congrArg (Value.bool) ((if_t w3).symm)) rfl))) ?_)
     exact fun _ _ u v=>⟨g43,i4.trans Z4,r3,t3,(Eq.mp (congrArg (fun l:List TK=>Rep g43 yTs [.slice r3 l.length t3] l) ((if_t w3).symm)) hR43_0),fA u v hF⟩
    refine Ok.k (Ok.t (Ok.he (E':=.blk bxt (.cells #[.slice A0 (rfiV15 d0 m0 c0).length I0,.bool (rfiV16 d0 m0 c0)] 58)) 0 (congrArg (fun l:List Value=>Ent.blk bxt (.cells ⟨l⟩ 58)) (lcons (congrArg (fun l:List TK=>Value.slice A0 l.length I0) ((if_f w3).symm)) (lcons (congrArg (Value.bool) ((if_f w3).symm)) rfl))) ?_))
    exact fun _ _ u v=>⟨J1,Gext.r w0 J1,A0,I0,(Eq.mp (congrArg (fun l:List TK=>Rep J1 yTs [.slice A0 l.length I0] l) ((if_f w3).symm)) u1),fA u v hF⟩
   clear hF
   rintro _ _ ⟨T1,s2,a1,i1,hRybxt_0j15i49,q⟩
   refine jn (fun hF=>?_) _ _ q
   replace U0:=U0.mono s2.1
   refine Ok.r (Ok.b 2 [0,1,2] [(26,.slice J0 c0.length W0),(27,.func (.func 89) #[] #[pv bs1 0])] ?_)
   refine Ok.o (OpOk.i (args:=#[pv bs1 0]) 4 [(0,pv bs1 0)] enr func89 rfl rfl rfl rfl (Ok.q (Ok.r ?_)))
   have Y5:RepL T1 yJ [] []:=rfl
   refine Ok.ownNil 24 4 (Ok.o (OpOk.aw aZ fun bs1i49i28=>?_))
   refine Ok.nt (Ok.sr (Ok.o (OpOk.s (v:=pv bxt 0) (Yields.l 6 rfl rfl underlying56 rfl kr) rfl rfl ?_)))
   obtain ⟨hp34,hF⟩:=hF
   refine Ok.en [2,0,1,3,4,5,6] ?_
   refine Ok.o (OpOk.ch (ih_rex _ (rfiV15 d0 m0 c0,rfiV16 d0 m0 c0) 0 hRybxt_0j15i49 hp34) fun g36 _ _ y2 z5=>?_)
   obtain ⟨q35,hq35,G1,H1,a36_2,c36_2,rfl,v3,hR36_2,rfl⟩:=z5
   replace hF:=hF _ hq35
   replace U0:=U0.mono y2.1
   refine Ok.o (OpOk.w 1 ?_)
   refine Ok.nt (Ok.ret (Ok.back (vs:=[.agg (aJ q35.1 G1 H1)]) (.inl rfl) rfl (.cons (.cellAgg 1 4 (aJ q35.1 G1 H1) rfl rfl underlying24 rfl kr kr kr) .nil) rfl ?_))
   have o4:RepL g36 yJ ((lJ q35.1 G1 H1):List Value) ([q35.1]:List JN):=(RepL.consN (c:=(lJ q35.1 G1 H1)) (Rep.tree.2 ⟨[iv q35.1.lab.1,iv q35.1.lab.2.1,sv q35.1.lab.2.2],[.slice G1 q35.1.kids.length H1],rfl,⟨[iv q35.1.lab.1],[iv q35.1.lab.2.1,sv q35.1.lab.2.2],rfl,rfl,⟨[iv q35.1.lab.2.1],[sv q35.1.lab.2.2],rfl,rfl,rfl⟩⟩,v3⟩) rfl)
   refine Ok.o (OpOk.li o4 fun b37=>?_)
   obtain ⟨hb38,hF⟩:=hF
   refine Ok.o (OpOk.append' (e:=yJ) 56 2513169434916 4 0 rfl rfl rfl rfl U0 o4 underlying22 kr kr kr hb38 rfl fun a38 c38 xs38 hL38=>?_)
   refine Ok.B 1 [(0,pv bxt 0),(1,sv Bu),(2,.func (.func 89) #[] #[pv bs1 0]),(7,.slice a38 (c0++([q35.1]:List JN)).length c38)] kr (Ok.j (Ok.kn (Ok.t ?_)))
   exact fun a W hA hW=>⟨k7x1,nl,g36,(((Q2.trans z2).trans s2).trans y2),a38,c38,(c0++([q35.1]:List JN)),xs38,a36_2,c36_2,q35.2.1,q35.2.2,hL38,hR36_2,hA.sub kr,hW.pick [4,1,5,6,7] _ dc rfl,hF⟩
  refine Ok.x (Ok.thenE (Ok.thenE (Ok.blockHit (Ok.t (Ok.sr (Ok.B 2 [(6,.slice J0 c0.length W0)] kr (Ok.nt (Ok.ret (Ok.back (vs:=[.slice J0 c0.length W0]) (.inl rfl) rfl (.cons (.tmp rfl) .nil) rfl (Ok.B 1 [(2,pv bs2 0),(50,.agg (aM 6 0 Bz J0 c0 W0))] kr (Ok.o (OpOk.w 2 ?_))))))))))))
  refine Ok.nt (Ok.ret (Ok.kr (Ok.tr (Ok.frz 1 rfl U0 fun g44 x5 hRf44=>?_))))
  replace u1:=u1.mono x5.1
  exact Ok.p (vs:=[.agg (aM 6 0 Bz J0 c0 W0)]) [0] [.blk bxt (.cells #[.slice A0 (rfiV14 d0 m0).length I0,.bool (waS (d0,m0) ([Bu]:List Bs)).2.2] 58)] dc rfl (.inl rfl) rfl (.cons (.cellAgg 1 4 (aM 6 0 Bz J0 c0 W0) rfl rfl underlying24 rfl kr kr kr) .nil) (((hx5.trans Q2).trans z2).trans x5) ⟨(Tree.mk (6,0,Bz) c0),(rfiV14 d0 m0,(waS (d0,m0) ([Bu]:List Bs)).2.2),J0,W0,A0,I0,rfl,hRf44,u1,rfl,hF⟩
 refine Ok.sr (Ok.rn 2 [] [1,2,3,31] [(51,.bool ((rpaS xt).1.2.2.2.1==Bc))] ?_)
 refine Ok.nt (Ok.cw hF (fun hc50 hF=>?_) (fun hc50 hF=>?_))
 ·refine Ok.sr (Ok.rn 2 [.e 5] [2] [(53,pv bxt 0),(54,.func (.func 90) #[] #[pv bs1 0,pv bs3 0])] ?_)
  refine Ok.o (OpOk.i (args:=#[pv bxt 0,sv Bv,.func (.func 90) #[] #[pv bs1 0,pv bs3 0]]) 32 [(0,pv bxt 0),(1,sv Bv),(2,.func (.func 90) #[] #[pv bs1 0,pv bs3 0])] enr func71 rfl rfl rfl rfl (Ok.sr (Ok.B 1 [(0,pv bxt 0),(1,sv Bv),(2,.func (.func 90) #[] #[pv bs1 0,pv bs3 0])] kr (Ok.nt (Ok.sr (Ok.b 1 [0,1,2] [(7,.slice none 0 0)] ?_))))))
  have r4:RepL g5 yJ [] []:=rfl
  refine Ok.ownNil 24 4 (Ok.nt (Ok.q (Ok.block ?_)))
  obtain ⟨k,hF⟩:=hF
  refine Ok.L (fun k a W=>∃ O1:Ghost,Gext w0 g5 O1∧∃ (X0:Option Addr) (S0:Nat) (y0:List JN) (f1:List Value) (W1:Option Addr) (X1:Nat) (x0:List TK) (s0:Bool),RepL O1 yJ f1 y0∧Rep O1 yTs [.slice W1 x0.length X1] x0∧StA 32 [(0,pv bxt 0),(1,sv Bv),(2,.func (.func 90) #[] #[pv bs1 0,pv bs3 0]),(7,.slice X0 y0.length S0)] a∧StW w0 [.own (.slice X0 y0.length S0) 24 4 y0.length f1,.blk bxt (.cells #[.slice W1 x0.length X1,.bool s0] 58),.blk bs3 (.cells #[.func (.func 89) #[] #[pv bs1 0]] 49),.blk bs2 (.cells aZ 24),.own (.slice none jZ.length 0) 24 4 jZ.length ([]),.blk bs1 (.cells #[pv bxt 0] 56)] O1 W∧rfil7x2 N K k y0 x0 s0) k ?_ ?_
  ·
   exact fun _ _ u v=>⟨g5,Gext.r w0 g5,none,0,jZ,[],D1,E1,(rpaS xt).2.1,(rpaS xt).2.2,r4,x1,fA u v hF⟩
  clear hF
  rintro (_ | k7x2) _ _ ⟨O1,K2,X0,S0,y0,f1,W1,X1,x0,s0,a0,Z1,q⟩
  exact (q.2.2:False).elim
  refine jn (fun hF=>?_) _ _ q
  refine Ok.q (Ok.cut (fun a W=>∃ S1:Ghost,Gext w0 O1 S1∧∃ (z1:Option Addr) (v1:Nat),Rep S1 yTs [.slice z1 (rfiV19 x0 s0).length v1] (rfiV19 x0 s0)∧StA 32 [(0,pv bxt 0),(1,sv Bv),(2,.func (.func 90) #[] #[pv bs1 0,pv bs3 0]),(7,.slice X0 y0.length S0),(19,.bool (rfiV9 x0 s0))] a∧StW w0 [.blk bxt (.cells #[.slice z1 (rfiV19 x0 s0).length v1,.bool (waS (x0,s0) ([Bv]:List Bs)).2.2] 58),.own (.slice X0 y0.length S0) 24 4 y0.length f1,.blk bs3 (.cells #[.func (.func 89) #[] #[pv bs1 0]] 49),.blk bs2 (.cells aZ 24),.own (.slice none jZ.length 0) 24 4 jZ.length ([]),.blk bs1 (.cells #[pv bxt 0] 56)] S1 W∧rfij9i55 N K x0 s0 y0 (rfil7x2 N K k7x2)) ?_ ?_)
  ·
   refine Ok.r (Ok.b 2 [0,1,2,7] [(8,pv bxt 0),(9,sv Bv)] ?_)
   have U5:RepL O1 (.str) ([sv Bv]:List Value) ([Bv]:List Bs):=(RepL.consN (c:=[sv Bv]) rfl rfl)
   refine Ok.o (OpOk.li U5 fun b78=>?_)
   refine Ok.frz 0 rfl U5 fun g79 j2 d4=>?_
   replace a0:=a0.mono j2.1
   replace Z1:=Z1.mono j2.1
   obtain ⟨hp80,hF⟩:=hF
   refine Ok.en [1,0,2,3,4,5] ?_
   refine Ok.o (OpOk.ch (rwa_c (x0,s0) ([Bv]:List Bs) Z1 d4 hp80) fun g81 _ _ e4 hV81=>?_)
   obtain ⟨H4,M4,rfl,f4,rfl⟩:=hV81
   replace a0:=a0.mono e4.1
   refine Ok.b 2 [0,1,2,7] [(13,.bool (decide ((waS (x0,s0) ([Bv]:List Bs)).1<0)))] ?_
   refine Ok.bw 13 hF (fun s5 hF=>?_) (fun s5 hF=>?_)
   ·refine Ok.rn 6 [.e 0] [0,1,2,7] [(19,.bool (!(waS (x0,s0) ([Bv]:List Bs)).2.2))] ?_
    refine Ok.nt (Ok.rb 19 (rfiV9 x0 s0) (mand_t s5) ?_)
    exact fun _ _ u v=>⟨g81,j2.trans e4,H4,M4,f4,fA u v hF⟩
   refine Ok.b 6 [0,1,2,7] [(19,.bool false)] ?_
   refine Ok.nt (Ok.rb 19 (rfiV9 x0 s0) (mand_f s5) ?_)
   exact fun _ _ u v=>⟨g81,j2.trans e4,H4,M4,f4,fA u v hF⟩
  clear hF
  rintro _ _ ⟨S1,v2,z1,v1,j1,q⟩
  refine jn (fun hF=>?_) _ _ q
  replace a0:=a0.mono v2.1
  refine Ok.cw hF (fun hc52 hF=>?_) (fun hc52 hF=>?_)
  ·refine Ok.k (Ok.t (Ok.block (Ok.cut (fun a W=>∃ L1:Ghost,Gext w0 S1 L1∧∃ (V1:Option Addr) (Q1:Nat),Rep L1 yTs [.slice V1 (rfiV20 x0 s0 y0).length Q1] (rfiV20 x0 s0 y0)∧StA 32 [(0,pv bxt 0),(1,sv Bv),(2,.func (.func 90) #[] #[pv bs1 0,pv bs3 0]),(7,.slice X0 y0.length S0)] a∧StW w0 [.blk bxt (.cells #[.slice V1 (rfiV20 x0 s0 y0).length Q1,.bool (rfiV21 x0 s0 y0)] 58),.own (.slice X0 y0.length S0) 24 4 y0.length f1,.blk bs3 (.cells #[.func (.func 89) #[] #[pv bs1 0]] 49),.blk bs2 (.cells aZ 24),.own (.slice none jZ.length 0) 24 4 jZ.length ([]),.blk bs1 (.cells #[pv bxt 0] 56)] L1 W∧rfij15i55 N x0 s0 y0 (rfil7x2 N K k7x2)) ?_ ?_)))
   ·
    refine Ok.sr (Ok.b 3 [0,1,2,7] [(22,.bool (decide ((y0.length:Int)>0)))] ?_)
    refine Ok.nt (Ok.cw hF (fun x3 hF=>?_) (fun x3 hF=>?_))
    ·refine Ok.r (Ok.b 1 [0,1,2,7] [(23,pv bxt 0)] ?_)
     have v4:RepL S1 (.str) ([sv Bo]:List Value) ([Bo]:List Bs):=(RepL.consN (c:=[sv Bo]) rfl rfl)
     refine Ok.o (OpOk.li v4 fun b73=>?_)
     refine Ok.frz 0 rfl v4 fun g74 V4 g4=>?_
     replace a0:=a0.mono V4.1
     replace j1:=j1.mono V4.1
     obtain ⟨hp75,hF⟩:=hF
     refine Ok.o (OpOk.ch (rne_c (rfiV19 x0 s0,(waS (x0,s0) ([Bv]:List Bs)).2.2) ([Bo]:List Bs) j1 g4 hp75) fun g76 _ _ Q4 hV76=>?_)
     obtain ⟨l3,a3,rfl,hR76_0,rfl⟩:=hV76
     replace a0:=a0.mono Q4.1
     refine Ok.nt (Ok.he (E':=.blk bxt (.cells #[.slice l3 (rfiV20 x0 s0 y0).length a3,.bool (rfiV21 x0 s0 y0)] 58)) 0 (congrArg (fun l:List Value=>Ent.blk bxt (.cells ⟨l⟩ 58)) (lcons (congrArg (fun l:List TK=>Value.slice l3 l.length a3) ((if_t x3).symm)) (lcons (congrArg (Value.bool) ((if_t x3).symm)) rfl))) ?_)
     exact fun _ _ u v=>⟨g76,V4.trans Q4,l3,a3,(Eq.mp (congrArg (fun l:List TK=>Rep g76 yTs [.slice l3 l.length a3] l) ((if_t x3).symm)) hR76_0),fA u v hF⟩
    refine Ok.k (Ok.t (Ok.he (E':=.blk bxt (.cells #[.slice z1 (rfiV20 x0 s0 y0).length v1,.bool (rfiV21 x0 s0 y0)] 58)) 0 (congrArg (fun l:List Value=>Ent.blk bxt (.cells ⟨l⟩ 58)) (lcons (congrArg (fun l:List TK=>Value.slice z1 l.length v1) ((if_f x3).symm)) (lcons (congrArg (Value.bool) ((if_f x3).symm)) rfl))) ?_))
    exact fun _ _ u v=>⟨S1,Gext.r w0 S1,z1,v1,(Eq.mp (congrArg (fun l:List TK=>Rep S1 yTs [.slice z1 l.length v1] l) ((if_f x3).symm)) j1),fA u v hF⟩
   clear hF
   rintro _ _ ⟨L1,b2,V1,Q1,hRybxt_0j15i55,q⟩
   refine jn (fun hF=>?_) _ _ q
   replace a0:=a0.mono b2.1
   refine Ok.r (Ok.b 2 [0,1,2] [(26,.slice X0 y0.length S0),(27,.func (.func 90) #[] #[pv bs1 0,pv bs3 0])] ?_)
   refine Ok.o (OpOk.i (args:=#[pv bs1 0,pv bs3 0]) 15 [(0,pv bs1 0),(1,pv bs3 0)] enr func90 rfl rfl rfl rfl (Ok.q (Ok.r ?_)))
   have h2:RepL L1 yJ [] []:=rfl
   refine Ok.ownNil 24 4 (Ok.o (OpOk.aw aZ fun t2=>?_))
   refine Ok.nt (Ok.sr (Ok.o (OpOk.s (v:=pv bxt 0) (Yields.l 7 rfl rfl underlying56 rfl kr) rfl rfl (Ok.en [2,0,1,3,4,5,6,7] ?_))))
   refine Ok.o (OpOk.ch (rnm_c (rfiV20 x0 s0 y0,rfiV21 x0 s0 y0) hRybxt_0j15i55) fun g55 _ _ f2 hV55=>?_)
   obtain ⟨a55_0,c55_0,rfl,s3,rfl⟩:=hV55
   replace a0:=a0.mono f2.1
   refine Ok.B 1 [(0,pv bs1 0),(1,pv bs3 0),(2,pv t2 0),(6,.agg #[iv 8,iv 0,sv ((rnmS (rfiV20 x0 s0 y0,rfiV21 x0 s0 y0)).1),.slice none 0 0])] kr ?_
   have R2:RepL g55 yJ [] []:=rfl
   refine Ok.ownNil 24 4 (Ok.o (OpOk.aw aZ fun l2=>?_))
   have u2:RepL g55 yJ [] []:=rfl
   refine Ok.ownNil 24 4 (Ok.o (OpOk.w 1 ?_))
   refine Ok.nt (Ok.sr (Ok.o (OpOk.s (v:=pv bxt 0) (Yields.l 10 rfl rfl underlying56 rfl kr) rfl rfl ?_)))
   have t4:RepL g55 (.str) ([sv Ba]:List Value) ([Ba]:List Bs):=(RepL.consN (c:=[sv Ba]) rfl rfl)
   refine Ok.o (OpOk.li t4 fun b59=>?_)
   refine Ok.frz 0 rfl t4 fun g60 I1 G2=>?_
   replace s3:=s3.mono I1.1
   replace a0:=a0.mono I1.1
   obtain ⟨hp61,hF⟩:=hF
   refine Ok.en [3,0,1,2,4,5,6,7,8,9,10] ?_
   refine Ok.o (OpOk.ch (rne_c (rnmS (rfiV20 x0 s0 y0,rfiV21 x0 s0 y0)).2 ([Ba]:List Bs) s3 G2 hp61) fun g62 _ _ R1 hV62=>?_)
   obtain ⟨a62_0,c62_0,rfl,hR62_0,rfl⟩:=hV62
   replace a0:=a0.mono R1.1
   refine Ok.nt (Ok.sr (Ok.o (OpOk.s (v:=.func (.func 89) #[] #[pv bs1 0]) (Yields.l 7 rfl rfl underlying49 rfl kr) rfl rfl (Ok.o (OpOk.i (args:=#[pv bs1 0]) 4 [(0,pv bs1 0)] enr func89 rfl rfl rfl rfl (Ok.q (Ok.r ?_)))))))
   have K4:RepL g62 yJ [] []:=rfl
   refine Ok.ownNil 24 4 (Ok.o (OpOk.aw aZ fun bs1i55i28i11=>?_))
   refine Ok.nt (Ok.sr (Ok.o (OpOk.s (v:=pv bxt 0) (Yields.l 12 rfl rfl underlying56 rfl kr) rfl rfl ?_)))
   obtain ⟨hp65,hF⟩:=hF
   refine Ok.en [2,0,1,3,4,5,6,7,8,9,10,11,12] ?_
   refine Ok.o (OpOk.ch (ih_rex _ (neS (rnmS (rfiV20 x0 s0 y0,rfiV21 x0 s0 y0)).2 ([Ba]:List Bs)) 0 hR62_0 hp65) fun g67 _ _ b3 hV67=>?_)
   obtain ⟨q66,hq66,T2,L2,a67_2,c67_2,rfl,c3,d3,rfl⟩:=hV67
   replace hF:=hF _ hq66
   replace a0:=a0.mono b3.1
   refine Ok.o (OpOk.w 1 ?_)
   refine Ok.nt (Ok.ret (Ok.back (vs:=[.agg (aJ q66.1 T2 L2)]) (.inl rfl) rfl (.cons (.cellAgg 1 4 (aJ q66.1 T2 L2) rfl rfl underlying24 rfl kr kr kr) .nil) rfl ?_))
   have I3:RepL g67 yJ ((lJ q66.1 T2 L2):List Value) ([q66.1]:List JN):=(RepL.consN (c:=(lJ q66.1 T2 L2)) (Rep.tree.2 ⟨[iv q66.1.lab.1,iv q66.1.lab.2.1,sv q66.1.lab.2.2],[.slice T2 q66.1.kids.length L2],rfl,⟨[iv q66.1.lab.1],[iv q66.1.lab.2.1,sv q66.1.lab.2.2],rfl,rfl,⟨[iv q66.1.lab.2.1],[sv q66.1.lab.2.2],rfl,rfl,rfl⟩⟩,c3⟩) rfl)
   refine Ok.o (OpOk.li I3 fun b68=>?_)
   refine Ok.B 1 [(2,pv t2 0),(3,pv l2 0),(12,.slice (some ⟨b68,0,none⟩) ([q66.1]:List JN).length 1),(13,pv l2 3)] kr (Ok.o (OpOk.w1 5 ?_))
   refine Ok.nt (Ok.sr (Ok.o (OpOk.s (v:=.agg (aM 8 0 ((rnmS (rfiV20 x0 s0 y0,rfiV21 x0 s0 y0)).1) (some ⟨b68,0,none⟩) ([q66.1]:List JN) 1)) (Yields.loadAgg 5 4 (aM 8 0 ((rnmS (rfiV20 x0 s0 y0,rfiV21 x0 s0 y0)).1) (some ⟨b68,0,none⟩) ([q66.1]:List JN) 1) rfl rfl underlying24 rfl kr kr kr) rfl rfl (Ok.o (OpOk.w 7 ?_)))))
   refine Ok.nt (Ok.ret (Ok.back (vs:=[.agg (aM 8 0 ((rnmS (rfiV20 x0 s0 y0,rfiV21 x0 s0 y0)).1) (some ⟨b68,0,none⟩) ([q66.1]:List JN) 1)]) (.inl rfl) rfl (.cons (.cellAgg 7 4 (aM 8 0 ((rnmS (rfiV20 x0 s0 y0,rfiV21 x0 s0 y0)).1) (some ⟨b68,0,none⟩) ([q66.1]:List JN) 1) rfl rfl underlying24 rfl kr kr kr) .nil) rfl (Ok.frz 0 rfl I3 fun g69 Y2 hRf69=>?_)))
   replace a0:=a0.mono Y2.1
   replace d3:=d3.mono Y2.1
   have J5:RepL g69 yJ ((lM 8 0 ((rnmS (rfiV20 x0 s0 y0,rfiV21 x0 s0 y0)).1) (some ⟨b68,0,none⟩) ([q66.1]:List JN) 1):List Value) ([(Tree.mk (8,0,(rnmS (rfiV20 x0 s0 y0,rfiV21 x0 s0 y0)).1) ([q66.1]:List JN))]:List JN):=(RepL.consN (c:=(lM 8 0 ((rnmS (rfiV20 x0 s0 y0,rfiV21 x0 s0 y0)).1) (some ⟨b68,0,none⟩) ([q66.1]:List JN) 1)) (Rep.tree.2 ⟨[iv 8,iv 0,sv ((rnmS (rfiV20 x0 s0 y0,rfiV21 x0 s0 y0)).1)],[.slice (some ⟨b68,0,none⟩) ([q66.1]:List JN).length 1],rfl,⟨[iv 8],[iv 0,sv ((rnmS (rfiV20 x0 s0 y0,rfiV21 x0 s0 y0)).1)],rfl,rfl,⟨[iv 0],[sv ((rnmS (rfiV20 x0 s0 y0,rfiV21 x0 s0 y0)).1)],rfl,rfl,rfl⟩⟩,hRf69⟩) rfl)
   refine Ok.o (OpOk.li J5 fun b70=>?_)
   obtain ⟨hb71,hF⟩:=hF
   refine Ok.o (OpOk.append' (e:=yJ) 56 2513169434916 9 0 rfl rfl rfl rfl a0 J5 underlying22 kr kr kr hb71 rfl fun a71 c71 xs71 hL71=>?_)
   refine Ok.B 1 [(0,pv bxt 0),(1,sv Bv),(2,.func (.func 90) #[] #[pv bs1 0,pv bs3 0]),(7,.slice a71 (y0++([(Tree.mk (8,0,(rnmS (rfiV20 x0 s0 y0,rfiV21 x0 s0 y0)).1) ([q66.1]:List JN))]:List JN)).length c71)] kr (Ok.j (Ok.kn (Ok.t ?_)))
   exact fun a W hA hW=>⟨k7x2,nl,g69,(((((((K2.trans v2).trans b2).trans f2).trans I1).trans R1).trans b3).trans Y2),a71,c71,(y0++([(Tree.mk (8,0,(rnmS (rfiV20 x0 s0 y0,rfiV21 x0 s0 y0)).1) ([q66.1]:List JN))]:List JN)),xs71,a67_2,c67_2,q66.2.1,q66.2.2,hL71,d3,hA.sub kr,hW.pick [9,1,10,11,12,13] _ dc rfl,hF⟩
  refine Ok.x (Ok.thenE (Ok.thenE (Ok.blockHit (Ok.t (Ok.sr (Ok.B 2 [(6,.slice X0 y0.length S0)] kr (Ok.nt (Ok.ret (Ok.back (vs:=[.slice X0 y0.length S0]) (.inl rfl) rfl (.cons (.tmp rfl) .nil) rfl (Ok.B 1 [(2,pv bs2 0),(56,.agg (aM 7 0 Bz X0 y0 S0))] kr (Ok.o (OpOk.w 3 ?_))))))))))))
  refine Ok.nt (Ok.ret (Ok.kr (Ok.tr (Ok.frz 1 rfl a0 fun g77 a2 H2=>?_))))
  replace j1:=j1.mono a2.1
  exact Ok.p (vs:=[.agg (aM 7 0 Bz X0 y0 S0)]) [0] [.blk bxt (.cells #[.slice z1 (rfiV19 x0 s0).length v1,.bool (waS (x0,s0) ([Bv]:List Bs)).2.2] 58)] dc rfl (.inl rfl) rfl (.cons (.cellAgg 2 4 (aM 7 0 Bz X0 y0 S0) rfl rfl underlying24 rfl kr kr kr) .nil) (((hx5.trans K2).trans v2).trans a2) ⟨(Tree.mk (7,0,Bz) y0),(rfiV19 x0 s0,(waS (x0,s0) ([Bv]:List Bs)).2.2),X0,S0,z1,v1,rfl,H2,j1,rfl,hF⟩
 refine Ok.sr (Ok.rn 2 [] [1,2,3] [(57,.bool ((rpaS xt).1.2.2.2.1==Bx))] ?_)
 refine Ok.nt (Ok.cw hF (fun hc83 hF=>?_) (fun hc83 hF=>?_))
 ·refine Ok.sr (Ok.o (OpOk.s (v:=.func (.func 89) #[] #[pv bs1 0]) (Yields.l 2 rfl rfl underlying49 rfl kr) rfl rfl (Ok.o (OpOk.i (args:=#[pv bs1 0]) 4 [(0,pv bs1 0)] enr func89 rfl rfl rfl rfl (Ok.q (Ok.r ?_))))))
  have S3:RepL g5 yJ [] []:=rfl
  refine Ok.ownNil 24 4 (Ok.o (OpOk.aw aZ fun bs1i60=>?_))
  refine Ok.nt (Ok.sr (Ok.o (OpOk.s (v:=pv bxt 0) (Yields.l 7 rfl rfl underlying56 rfl kr) rfl rfl ?_)))
  obtain ⟨hp86,hF⟩:=hF
  refine Ok.en [3,0,1,2,4,5,6,7] ?_
  refine Ok.o (OpOk.ch (ih_rex _ (rpaS xt).2 0 x1 hp86) fun g88 _ _ b5 hV88=>?_)
  obtain ⟨q87,hq87,c2,d2,a88_2,c88_2,rfl,e2,e3,rfl⟩:=hV88
  replace hF:=hF _ hq87
  refine Ok.o (OpOk.w 1 ?_)
  refine Ok.nt (Ok.ret (Ok.back (vs:=[.agg (aJ q87.1 c2 d2)]) (.inl rfl) rfl (.cons (.cellAgg 1 4 (aJ q87.1 c2 d2) rfl rfl underlying24 rfl kr kr kr) .nil) rfl ?_))
  have A1:RepL g88 yJ [] []:=rfl
  refine Ok.ownNil 24 4 (Ok.o (OpOk.aw aZ fun bs5=>?_))
  refine Ok.o (OpOk.w 0 ?_)
  refine Ok.nt (Ok.sr (Ok.o (OpOk.s (v:=pv bxt 0) (Yields.l 9 rfl rfl underlying56 rfl kr) rfl rfl ?_)))
  have W5:RepL g88 (.str) ([sv By]:List Value) ([By]:List Bs):=(RepL.consN (c:=[sv By]) rfl rfl)
  refine Ok.o (OpOk.li W5 fun b91=>?_)
  refine Ok.frz 0 rfl W5 fun g92 B3 h4=>?_
  replace e2:=e2.mono B3.1
  replace e3:=e3.mono B3.1
  obtain ⟨hp93,hF⟩:=hF
  refine Ok.en [2,0,1,3,4,5,6,7,8,9] ?_
  refine Ok.o (OpOk.ch (rne_c q87.2 ([By]:List Bs) e3 h4 hp93) fun g94 _ _ C3 hV94=>?_)
  obtain ⟨N4,O4,rfl,hR94_0,rfl⟩:=hV94
  replace e2:=e2.mono C3.1
  refine Ok.nt (Ok.sr (Ok.o (OpOk.s (v:=.agg (aJ q87.1 c2 d2)) (Yields.loadAgg 1 4 (aJ q87.1 c2 d2) rfl rfl underlying24 rfl kr kr kr) rfl rfl (Ok.o (OpOk.w 7 ?_)))))
  refine Ok.nt (Ok.ret (Ok.kr (Ok.tr ?_)))
  exact Ok.p (vs:=[.agg (aJ q87.1 c2 d2)]) [0] [.blk bxt (.cells (aT (neS q87.2 ([By]:List Bs)) N4 O4) 58)] dc rfl (.inl rfl) rfl (.cons (.cellAgg 7 4 (aJ q87.1 c2 d2) rfl rfl underlying24 rfl kr kr kr) .nil) (((hx5.trans b5).trans B3).trans C3) ⟨q87.1,(neS q87.2 ([By]:List Bs)),c2,d2,N4,O4,rfl,e2,hR94_0,rfl,hF⟩
 refine Ok.k (Ok.kn (Ok.t (Ok.sr (Ok.rn 3 [.e 5] [2] [(67,pv bxt 1)] ?_))))
 refine Ok.o (OpOk.w1 1 ?_)
 refine Ok.nt (Ok.sr (Ok.b 1 [2] [(68,.agg aY)] ?_))
 have a4:RepL g5 yJ [] []:=rfl
 refine Ok.ownNil 24 4 (Ok.o (OpOk.w 4 ?_))
 refine Ok.nt (Ok.ret (Ok.frz 0 rfl a4 fun g96 g2 w2=>?_))
 replace x1:=x1.mono g2.1
 exact Ok.p (vs:=[.agg aZ]) [1] [.blk bxt (.cells #[.slice D1 (rpaS xt).2.1.length E1,.bool true] 58)] dc rfl (.inl rfl) rfl (.cons (.cellAgg 3 4 aZ rfl rfl underlying24 rfl kr kr kr) .nil) (hx5.trans g2) ⟨(Tree.mk (0,0,Bz) jZ),((rpaS xt).2.1,true),none,0,D1,E1,rfl,w2,x1,rfl,hF⟩
end
end Go.Proofs.YtalnampdiegmoaaDoor.Rf
