/- The document's reader of scripts: walks. -/
import Derived.Test.YtalnampdiegmoaaDoorRtb
namespace Go.Proofs.YtalnampdiegmoaaDoor.Rf
open _root_.Go.Proofs.Tryd Go Go.Eng Go.RowKit Ps
set_option linter.unusedVariables false
set_option linter.unusedSimpArgs false
set_option maxHeartbeats 4000000
set_option maxRecDepth 100000
noncomputable section
def rstV0 (xt:TT):Int :=
 (if (rwdS xt==([99,111,110,116,105,110,117,101]:Bs))=true then 27 else 26)
def rstV1 (xt:TT):Bool :=
 (((waS xt ([([108,101,116]:Bs),([102,110]:Bs),([105,102]:Bs),([119,104,105,108,101]:Bs),([102,111,114]:Bs),([114,101,116,117,114,110]:Bs),([98,114,101,97,107]:Bs),([99,111,110,116,105,110,117,101]:Bs),([116,104,114,111,119]:Bs),([116,114,121]:Bs)]:List Bs)).1==6)||((waS xt ([([108,101,116]:Bs),([102,110]:Bs),([105,102]:Bs),([119,104,105,108,101]:Bs),([102,111,114]:Bs),([114,101,116,117,114,110]:Bs),([98,114,101,97,107]:Bs),([99,111,110,116,105,110,117,101]:Bs),([116,104,114,111,119]:Bs),([116,114,121]:Bs)]:List Bs)).1==7))
def rstV5 (xt:TT):Int :=
 (if ((waS xt ([([108,101,116]:Bs),([102,110]:Bs),([105,102]:Bs),([119,104,105,108,101]:Bs),([102,111,114]:Bs),([114,101,116,117,114,110]:Bs),([98,114,101,97,107]:Bs),([99,111,110,116,105,110,117,101]:Bs),([116,104,114,111,119]:Bs),([116,114,121]:Bs)]:List Bs)).1==0)=true then 20 else (if ((waS xt ([([108,101,116]:Bs),([102,110]:Bs),([105,102]:Bs),([119,104,105,108,101]:Bs),([102,111,114]:Bs),([114,101,116,117,114,110]:Bs),([98,114,101,97,107]:Bs),([99,111,110,116,105,110,117,101]:Bs),([116,104,114,111,119]:Bs),([116,114,121]:Bs)]:List Bs)).1==1)=true then 21 else (if ((waS xt ([([108,101,116]:Bs),([102,110]:Bs),([105,102]:Bs),([119,104,105,108,101]:Bs),([102,111,114]:Bs),([114,101,116,117,114,110]:Bs),([98,114,101,97,107]:Bs),([99,111,110,116,105,110,117,101]:Bs),([116,104,114,111,119]:Bs),([116,114,121]:Bs)]:List Bs)).1==2)=true then 22 else (if ((waS xt ([([108,101,116]:Bs),([102,110]:Bs),([105,102]:Bs),([119,104,105,108,101]:Bs),([102,111,114]:Bs),([114,101,116,117,114,110]:Bs),([98,114,101,97,107]:Bs),([99,111,110,116,105,110,117,101]:Bs),([116,104,114,111,119]:Bs),([116,114,121]:Bs)]:List Bs)).1==3)=true then 23 else (if ((waS xt ([([108,101,116]:Bs),([102,110]:Bs),([105,102]:Bs),([119,104,105,108,101]:Bs),([102,111,114]:Bs),([114,101,116,117,114,110]:Bs),([98,114,101,97,107]:Bs),([99,111,110,116,105,110,117,101]:Bs),([116,104,114,111,119]:Bs),([116,114,121]:Bs)]:List Bs)).1==4)=true then 24 else (if ((waS xt ([([108,101,116]:Bs),([102,110]:Bs),([105,102]:Bs),([119,104,105,108,101]:Bs),([102,111,114]:Bs),([114,101,116,117,114,110]:Bs),([98,114,101,97,107]:Bs),([99,111,110,116,105,110,117,101]:Bs),([116,104,114,111,119]:Bs),([116,114,121]:Bs)]:List Bs)).1==5)=true then 25 else (if (rstV1 xt)=true then (rstV0 xt) else (if ((waS xt ([([108,101,116]:Bs),([102,110]:Bs),([105,102]:Bs),([119,104,105,108,101]:Bs),([102,111,114]:Bs),([114,101,116,117,114,110]:Bs),([98,114,101,97,107]:Bs),([99,111,110,116,105,110,117,101]:Bs),([116,104,114,111,119]:Bs),([116,114,121]:Bs)]:List Bs)).1==8)=true then 28 else (if ((waS xt ([([108,101,116]:Bs),([102,110]:Bs),([105,102]:Bs),([119,104,105,108,101]:Bs),([102,111,114]:Bs),([114,101,116,117,114,110]:Bs),([98,114,101,97,107]:Bs),([99,111,110,116,105,110,117,101]:Bs),([116,104,114,111,119]:Bs),([116,114,121]:Bs)]:List Bs)).1==9)=true then 29 else 31)))))))))
def rstV6 (xt:TT):Int×TT :=
 (waS xt ([([108,101,116]:Bs),([102,110]:Bs),([105,102]:Bs),([119,104,105,108,101]:Bs),([102,111,114]:Bs),([114,101,116,117,114,110]:Bs),([98,114,101,97,107]:Bs),([99,111,110,116,105,110,117,101]:Bs),([116,104,114,111,119]:Bs),([116,114,121]:Bs)]:List Bs))
def rstV7 (xt:TT):TT :=
 (neS (rnmS (rstV6 xt).2).2 ([([61]:Bs)]:List Bs))
def rstV8 (q52:JN×TT):Int×TT :=
 (waS q52.2 ([([101,108,115,101]:Bs)]:List Bs))
def rstV9 (xt:TT):TT :=
 (neS (rstV6 xt).2 ([([40]:Bs),([108,101,116]:Bs)]:List Bs))
def rstV10 (xt:TT):TT :=
 (neS (rnmS (rstV9 xt)).2 ([([111,102]:Bs)]:List Bs))
def rstV11 (y0:List TK) (j0:Bool):TT :=
 (neS (y0,j0) ([([59]:Bs)]:List Bs))
def rstV12 (xt:TT) (xwhere:Int):TT :=
 (neS ((rstV6 xt).2.1,((rstV6 xt).2.2||(bitAnd .i64 xwhere 2==0))) ([([59]:Bs)]:List Bs))
def rstV13 (q0:JN×TT):Int :=
 (if ((waS q0.2 ([([99,97,116,99,104]:Bs)]:List Bs)).1==0)=true then 1 else 0)
def rstV14 (q0:JN×TT):Bs :=
 (if ((waS q0.2 ([([99,97,116,99,104]:Bs)]:List Bs)).1==0)=true then (rnmS (neS (waS q0.2 ([([99,97,116,99,104]:Bs)]:List Bs)).2 ([([40]:Bs)]:List Bs))).1 else ([]:Bs))
def rstV15 (z0:List TK) (v0:Bool) (q0:JN×TT):Int :=
 (if ((waS (z0,v0) ([([102,105,110,97,108,108,121]:Bs)]:List Bs)).1==0)=true then w6 ((rstV13 q0)+2) else (rstV13 q0))
def rstV16 (z0:List TK) (v0:Bool):Int×TT :=
 (waS (z0,v0) ([([102,105,110,97,108,108,121]:Bs)]:List Bs))
def rstV17 (q0:JN×TT):Int×TT :=
 (waS q0.2 ([([99,97,116,99,104]:Bs)]:List Bs))
def rstV18 (q0:JN×TT):TT :=
 (neS (rstV17 q0).2 ([([40]:Bs)]:List Bs))
def rstV19 (q0:JN×TT):TT :=
 (neS (rnmS (rstV18 q0)).2 ([([41]:Bs)]:List Bs))
def rstj15 (xt:TT) (K:JN→TT→Prop) (Y0:List TK) (E0:Bool) (x0:List JN) (i0:Int) (Z0:Bs):Prop :=
 K (Tree.mk (rstV5 xt,i0,Z0) x0) (Y0,E0)
def rstj74 (xt:TT) (xwhere:Int) (K:JN→TT→Prop) (y0:List TK) (j0:Bool) (b0:List JN):Prop :=
 waP (y0,j0) ([([59]:Bs)]:List Bs)∧rstj15 xt K (rstV11 y0 j0).1 ((rstV11 y0 j0).2||(bitAnd .i64 xwhere 1==0)) b0 0 ([]:Bs)
def rstj118 (xt:TT) (K:JN→TT→Prop) (z0:List TK) (v0:Bool) (o0:List TK) (X0:Bool) (q0:JN×TT) (u0:List JN):Prop :=
 (X0=true→rstj15 xt K o0 true u0 (rstV15 z0 v0 q0) (rstV14 q0))∧(X0=false→rstj15 xt K o0 (rstV15 z0 v0 q0==0) u0 (rstV15 z0 v0 q0) (rstV14 q0))
def rstj106 (N:Nat) (xt:TT) (xwhere:Int) (K:JN→TT→Prop) (z0:List TK) (v0:Bool) (q0:JN×TT) (k0:List JN):Prop :=
 waP (z0,v0) ([([102,105,110,97,108,108,121]:Bs)]:List Bs)∧(((rstV16 z0 v0).1==0)=true→rblP N (rstV16 z0 v0).2 xwhere∧∀ S0:JN×TT,(rblR (rstV16 z0 v0).2 xwhere) S0→(k0++([S0.1]:List JN)).length≤2513169434916∧rstj118 xt K z0 v0 S0.2.1 S0.2.2 q0 (k0++([S0.1]:List JN)))∧(((rstV16 z0 v0).1==0)=false→rstj118 xt K z0 v0 (rstV16 z0 v0).2.1 (rstV16 z0 v0).2.2 q0 k0)
def rstj83 (N:Nat) (xt:TT) (xwhere:Int) (K:JN→TT→Prop):Prop :=
 ((((rstV6 xt).1==6)||((rstV6 xt).1==7))=true→waP ((rstV6 xt).2.1,((rstV6 xt).2.2||(bitAnd .i64 xwhere 2==0))) ([([59]:Bs)]:List Bs)∧rstj15 xt K (rstV12 xt xwhere).1 (rstV12 xt xwhere).2 jZ 0 ([]:Bs))∧((((rstV6 xt).1==6)||((rstV6 xt).1==7))=false→(((rstV6 xt).1==8)=true→rexP N (rstV6 xt).2 0∧∀ t0:JN×TT,(rexR (rstV6 xt).2 0) t0→waP t0.2 ([([59]:Bs)]:List Bs)∧rstj15 xt K (neS t0.2 ([([59]:Bs)]:List Bs)).1 (neS t0.2 ([([59]:Bs)]:List Bs)).2 ([t0.1]:List JN) 0 ([]:Bs))∧(((rstV6 xt).1==8)=false→(((rstV6 xt).1==9)=true→rblP N (rstV6 xt).2 xwhere∧∀ q0:JN×TT,(rblR (rstV6 xt).2 xwhere) q0→waP q0.2 ([([99,97,116,99,104]:Bs)]:List Bs)∧(((rstV17 q0).1==0)=true→waP (rstV17 q0).2 ([([40]:Bs)]:List Bs)∧waP (rnmS (rstV18 q0)).2 ([([41]:Bs)]:List Bs)∧rblP N (rstV19 q0) xwhere∧∀ B0:JN×TT,(rblR (rstV19 q0) xwhere) B0→(([q0.1]:List JN)++([B0.1]:List JN)).length≤2513169434916∧rstj106 N xt xwhere K B0.2.1 B0.2.2 q0 (([q0.1]:List JN)++([B0.1]:List JN)))∧(((rstV17 q0).1==0)=false→rstj106 N xt xwhere K (rstV17 q0).2.1 (rstV17 q0).2.2 q0 ([q0.1]:List JN)))∧(((rstV6 xt).1==9)=false→((rwdS (rstV6 xt).2==([123]:Bs))=true→rblP N (rstV6 xt).2 xwhere∧∀ y1:JN×TT,(rblR (rstV6 xt).2 xwhere) y1→K y1.1 y1.2)∧((rwdS (rstV6 xt).2==([123]:Bs))=false→rexP N (rstV6 xt).2 0∧∀ l0:JN×TT,(rexR (rstV6 xt).2 0) l0→waP l0.2 ([([59]:Bs)]:List Bs)∧rstj15 xt K (neS l0.2 ([([59]:Bs)]:List Bs)).1 (neS l0.2 ([([59]:Bs)]:List Bs)).2 ([l0.1]:List JN) 0 ([]:Bs)))))
def rstj9 (N:Nat) (xt:TT) (xwhere:Int) (K:JN→TT→Prop):Prop :=
 waP xt ([([108,101,116]:Bs),([102,110]:Bs),([105,102]:Bs),([119,104,105,108,101]:Bs),([102,111,114]:Bs),([114,101,116,117,114,110]:Bs),([98,114,101,97,107]:Bs),([99,111,110,116,105,110,117,101]:Bs),([116,104,114,111,119]:Bs),([116,114,121]:Bs)]:List Bs)∧(((rstV6 xt).1==0)=true→waP (rnmS (rstV6 xt).2).2 ([([61]:Bs)]:List Bs)∧rexP N (rstV7 xt) 0∧∀ q32:JN×TT,(rexR (rstV7 xt) 0) q32→waP q32.2 ([([59]:Bs)]:List Bs)∧rstj15 xt K (neS q32.2 ([([59]:Bs)]:List Bs)).1 (neS q32.2 ([([59]:Bs)]:List Bs)).2 ([q32.1]:List JN) 0 (rnmS (rstV6 xt).2).1)∧(((rstV6 xt).1==0)=false→(((rstV6 xt).1==1)=true→rfnP N (rnmS (rstV6 xt).2).2 (rnmS (rstV6 xt).2).1∧∀ q42:JN×TT,(rfnR (rnmS (rstV6 xt).2).2 (rnmS (rstV6 xt).2).1) q42→rstj15 xt K q42.2.1 q42.2.2 ([q42.1]:List JN) 0 ([]:Bs))∧(((rstV6 xt).1==1)=false→(((rstV6 xt).1==2)=true→rbrP N (rstV6 xt).2∧∀ q47:JN×TT,(rbrR (rstV6 xt).2) q47→rblP N q47.2 xwhere∧∀ q52:JN×TT,(rblR q47.2 xwhere) q52→waP q52.2 ([([101,108,115,101]:Bs)]:List Bs)∧(((rstV8 q52).1==0)=true→((rwdS (rstV8 q52).2==([105,102]:Bs))=true→rstP N (rstV8 q52).2 xwhere∧∀ q63:JN×TT,(rstR (rstV8 q52).2 xwhere) q63→(([q47.1,q52.1]:List JN)++([q63.1]:List JN)).length≤2513169434916∧rstj15 xt K q63.2.1 q63.2.2 (([q47.1,q52.1]:List JN)++([q63.1]:List JN)) 0 ([]:Bs))∧((rwdS (rstV8 q52).2==([105,102]:Bs))=false→rblP N (rstV8 q52).2 xwhere∧∀ q68:JN×TT,(rblR (rstV8 q52).2 xwhere) q68→(([q47.1,q52.1]:List JN)++([q68.1]:List JN)).length≤2513169434916∧rstj15 xt K q68.2.1 q68.2.2 (([q47.1,q52.1]:List JN)++([q68.1]:List JN)) 0 ([]:Bs)))∧(((rstV8 q52).1==0)=false→rstj15 xt K (rstV8 q52).2.1 (rstV8 q52).2.2 ([q47.1,q52.1]:List JN) 0 ([]:Bs)))∧(((rstV6 xt).1==2)=false→(((rstV6 xt).1==3)=true→rbrP N (rstV6 xt).2∧∀ q74:JN×TT,(rbrR (rstV6 xt).2) q74→rblP N q74.2 (bitOr .i64 xwhere 2)∧∀ q79:JN×TT,(rblR q74.2 (bitOr .i64 xwhere 2)) q79→rstj15 xt K q79.2.1 q79.2.2 ([q74.1,q79.1]:List JN) 0 ([]:Bs))∧(((rstV6 xt).1==3)=false→(((rstV6 xt).1==4)=true→waP (rstV6 xt).2 ([([40]:Bs),([108,101,116]:Bs)]:List Bs)∧waP (rnmS (rstV9 xt)).2 ([([111,102]:Bs)]:List Bs)∧rexP N (rstV10 xt) 0∧∀ q93:JN×TT,(rexR (rstV10 xt) 0) q93→waP q93.2 ([([41]:Bs)]:List Bs)∧rblP N (neS q93.2 ([([41]:Bs)]:List Bs)) (bitOr .i64 xwhere 2)∧∀ V0:JN×TT,(rblR (neS q93.2 ([([41]:Bs)]:List Bs)) (bitOr .i64 xwhere 2)) V0→rstj15 xt K V0.2.1 V0.2.2 ([q93.1,V0.1]:List JN) 0 (rnmS (rstV9 xt)).1)∧(((rstV6 xt).1==4)=false→(((rstV6 xt).1==5)=true→((!(rwdS (rstV6 xt).2==([59]:Bs)))=true→rexP N (rstV6 xt).2 0∧∀ Q0:JN×TT,(rexR (rstV6 xt).2 0) Q0→rstj74 xt xwhere K Q0.2.1 Q0.2.2 ([Q0.1]:List JN))∧((!(rwdS (rstV6 xt).2==([59]:Bs)))=false→rstj74 xt xwhere K (rstV6 xt).2.1 (rstV6 xt).2.2 jZ))∧(((rstV6 xt).1==5)=false→(((rstV6 xt).1==6)=true→rstj83 N xt xwhere K)∧(((rstV6 xt).1==6)=false→rstj83 N xt xwhere K)))))))
def rstF (N:Nat) (xt:TT) (xwhere:Int) (K:JN→TT→Prop) (Z:Prop):Prop :=
 ((rwdS xt==([99,111,110,116,105,110,117,101]:Bs))=true→rstj9 N xt xwhere K)∧((rwdS xt==([99,111,110,116,105,110,117,101]:Bs))=false→rstj9 N xt xwhere K)
theorem rst_ok {g:Ghost} (N:Nat) (ih_rst:rst_C N) (ih_rbl:rbl_C N) (ih_rfn:rfn_C N) (ih_rbr:rbr_C N) (ih_rex:rex_C N) (ih_run:run_C N) (ih_rfi:rfi_C N) {bxt:Nat} {l3:Option Addr} {a3:Nat} (xt:TT) (xwhere:Int) (A0:Rep g yTs [.slice l3 xt.1.length a3] xt.1) (Z:Prop) (K:JN→TT→Prop)
  (hF:rstF N xt xwhere K Z):CallsP prog 23 #[pv bxt 0,iv xwhere] g [.blk bxt (.cells (aT xt l3 a3) 58)] (fun g' H' v=>∃ (r0:JN),∃ (fxt:TT),∃ (x4:Option Addr) (s4:Nat),∃ (i3:Option Addr) (Z3:Nat),v=.agg (aJ r0 x4 s4)∧Rep g' yJs [.slice x4 r0.kids.length s4] r0.kids∧Rep g' yTs [.slice i3 fxt.1.length Z3] fxt.1∧H'=[.blk bxt (.cells (aT fxt i3 Z3) 58)]∧K r0 fxt) Z (.iface 44 (.agg #[])):=by
 refine CallsP.enter 259 [(0,pv bxt 0),(1,iv xwhere)] func23 rfl kr kr kr fun w0=>?_
 refine Ok.q (Ok.r ?_)
 have hL1:RepL g yJ [] []:=rfl
 refine Ok.ownNil 24 4 (Ok.o (OpOk.aw aZ fun bs4=>?_))
 refine Ok.nt (Ok.sr (Ok.B 1 [(0,pv bxt 0),(1,iv xwhere),(4,pv bs4 0),(5,.func (.func 49) #[] #[])] kr (Ok.nt (Ok.sr (Ok.b 1 [0,1,4,5] [(11,.agg aY)] ?_)))))
 have hL3:RepL g yJ [] []:=rfl
 refine Ok.ownNil 24 4 (Ok.o (OpOk.aw aZ fun bs6=>?_))
 have hL5:RepL g yJ [] []:=rfl
 refine Ok.ownNil 24 4 (Ok.o (OpOk.w 1 ?_))
 refine Ok.nt (Ok.sr (Ok.b 1 [0,1,4,5] [(6,pv bs6 0),(7,iv 26)] ?_))
 refine Ok.nt (Ok.cg g [(0,pv bxt 0),(1,iv xwhere),(4,pv bs4 0),(5,.func (.func 49) #[] #[]),(6,pv bs6 0),(7,iv (rstV0 xt))] [.blk bxt (.cells (aT xt l3 a3) 58),.own (.slice none jZ.length 0) 24 4 jZ.length ([]),.blk bs6 (.cells aZ 24),.blk bs4 (.cells aZ 24),.own (.slice none jZ.length 0) 24 4 jZ.length ([])] (rstj9 N xt xwhere K) ?_ (fun gj9 o1 hF=>?_))
 ·
  refine Ok.sr (Ok.b 1 [0,1,4,5,6,7] [(12,pv bxt 0)] ?_)
  refine Ok.en [5,0,1,2,3,4] ?_
  refine Ok.o (OpOk.ch (rwd_c xt A0) fun D4 _ _ O1 hV189=>?_)
  obtain ⟨rfl,rfl⟩:=hV189
  replace A0:=A0.mono O1.1
  replace hL5:=hL5.mono O1.1
  refine Ok.o (OpOk.s (v:=.bool (rwdS xt==BL)) (Yields.sc (f:=.eql) (a:=rwdS xt) (b:=BL) kr kr rfl) rfl rfl (Ok.nt (Ok.cw hF (fun V3 hF=>?_) (fun V3 hF=>?_))))
  ·refine Ok.r (Ok.b 1 [0,1,4,5,6] [(7,iv 27)] ?_)
   refine Ok.nt (Ok.v 7 rfl (show (iv 27:Value)=iv (rstV0 xt) from congrArg (Value.int .i64) ((if_t V3).symm)) ?_)
   exact fun _ _ u v=>⟨D4,O1,fA u v hF⟩
  refine Ok.k (Ok.t (Ok.v 7 rfl (show (iv 26:Value)=iv (rstV0 xt) from congrArg (Value.int .i64) ((if_f V3).symm)) ?_))
  exact fun _ _ u v=>⟨D4,O1,fA u v hF⟩
 replace A0:=A0.mono o1.1
 replace hL5:=hL5.mono o1.1
 refine Ok.cut (fun a W=>∃ Q3:Ghost,Gext w0 gj9 Q3∧∃ (O0:Option Addr) (P0:Nat) (Y0:List TK) (E0:Bool) (m0:Option Addr) (n0:Nat) (x0:List JN) (R0:List Value) (i0:Int) (Z0:Bs),Rep Q3 yTs [.slice O0 Y0.length P0] Y0∧RepL Q3 yJ R0 x0∧StA 259 [(4,pv bs4 0),(6,pv bs6 0)] a∧StW w0 [.blk bxt (.cells #[.slice O0 Y0.length P0,.bool E0] 58),.own (.slice m0 x0.length n0) 24 4 x0.length R0,.blk bs6 (.cells (aM (rstV5 xt) i0 Z0 m0 x0 n0) 24),.blk bs4 (.cells aZ 24),.own (.slice none jZ.length 0) 24 4 jZ.length ([])] Q3 W∧rstj15 xt K Y0 E0 x0 i0 Z0) ?_ ?_
 ·
  refine Ok.sr (Ok.b 1 [0,1,4,5,6,7] [(15,pv bxt 0)] ?_)
  have E4:RepL gj9 (.str) ([sv BC,sv Bh,sv BB,sv BO,sv BK,sv BP,sv BJ,sv BL,sv BQ,sv BD]:List Value) ([BC,Bh,BB,BO,BK,BP,BJ,BL,BQ,BD]:List Bs):=(RepL.flat kr kr)
  refine Ok.o (OpOk.li E4 fun b21=>?_)
  refine Ok.frz 0 rfl E4 fun g22 M0 K3=>?_
  replace A0:=A0.mono M0.1
  replace hL5:=hL5.mono M0.1
  obtain ⟨hp23,hF⟩:=hF
  refine Ok.o (OpOk.ch (rwa_c xt ([BC,Bh,BB,BO,BK,BP,BJ,BL,BQ,BD]:List Bs) A0 K3 hp23) fun g24 _ _ N0 hV24=>?_)
  obtain ⟨b4,c4,rfl,c0,rfl⟩:=hV24
  replace hL5:=hL5.mono N0.1
  refine Ok.nt (Ok.block (Ok.sr (Ok.b 2 [0,1,4,5,6,7] [(17,iv (rstV6 xt).1),(34,.bool ((rstV6 xt).1==0))] ?_)))
  refine Ok.nt (Ok.cw hF (fun b1 hF=>?_) (fun b1 hF=>?_))
  ·refine Ok.sr (Ok.b 1 [0,4,5,6] [(36,pv bxt 0)] ?_)
   refine Ok.o (OpOk.ch (rnm_c (rstV6 xt).2 c0) fun g26 _ _ Q4 hV26=>?_)
   obtain ⟨a26_0,c26_0,rfl,X2,rfl⟩:=hV26
   replace hL5:=hL5.mono Q4.1
   refine Ok.b 1 [0,4,5,6] [(37,sv ((rnmS (rstV6 xt).2).1)),(38,pv bs6 0)] ?_
   refine Ok.o (OpOk.w1 2 ?_)
   refine Ok.b 1 [0,4,5,6,37] [(39,pv bs6 2)] ?_
   refine Ok.o (OpOk.w1 2 ?_)
   refine Ok.nt (Ok.sr (Ok.b 1 [0,4,5,6] [(40,pv bxt 0)] ?_))
   have F4:RepL g26 (.str) ([sv Bp]:List Value) ([Bp]:List Bs):=(RepL.consN (c:=[sv Bp]) rfl rfl)
   refine Ok.o (OpOk.li F4 fun b27=>?_)
   refine Ok.frz 0 rfl F4 fun g28 k4 Y3=>?_
   replace X2:=X2.mono k4.1
   replace hL5:=hL5.mono k4.1
   obtain ⟨hp29,hF⟩:=hF
   refine Ok.o (OpOk.ch (rne_c (rnmS (rstV6 xt).2).2 ([Bp]:List Bs) X2 Y3 hp29) fun g30 _ _ y4 hV30=>?_)
   obtain ⟨a30_0,c30_0,rfl,hR30_0,rfl⟩:=hV30
   replace hL5:=hL5.mono y4.1
   refine Ok.nt (Ok.sr (Ok.b 2 [0,4,6] [(43,.func (.func 49) #[] #[]),(44,pv bxt 0)] ?_))
   obtain ⟨hp31,hF⟩:=hF
   refine Ok.o (OpOk.ch (ih_rex _ (rstV7 xt) 0 hR30_0 hp31) fun g33 _ _ K4 hV33=>?_)
   obtain ⟨q32,hq32,u3,j3,a33_2,c33_2,rfl,hR33_0,S2,rfl⟩:=hV33
   replace hF:=hF _ hq32
   replace hL5:=hL5.mono K4.1
   have p3:RepL g33 yJ ((lJ q32.1 u3 j3):List Value) ([q32.1]:List JN):=(RepL.consN (c:=(lJ q32.1 u3 j3)) (Rep.tree.2 ⟨[iv q32.1.lab.1,iv q32.1.lab.2.1,sv q32.1.lab.2.2],[.slice u3 q32.1.kids.length j3],rfl,⟨[iv q32.1.lab.1],[iv q32.1.lab.2.1,sv q32.1.lab.2.2],rfl,rfl,⟨[iv q32.1.lab.2.1],[sv q32.1.lab.2.2],rfl,rfl,rfl⟩⟩,hR33_0⟩) rfl)
   refine Ok.o (OpOk.li p3 fun b34=>?_)
   refine Ok.o (OpOk.inlineP (pv:=.iface 44 (.agg #[])) (args:=#[.slice (some ⟨b34,0,none⟩) ([q32.1]:List JN).length 1]) 4 [(0,.slice (some ⟨b34,0,none⟩) ([q32.1]:List JN).length 1)] enr func49 rfl rfl rfl rfl (Ok.sr (Ok.B 1 [(0,.slice (some ⟨b34,0,none⟩) ([q32.1]:List JN).length 1)] kr (Ok.nt (Ok.sr (Ok.B 2 [(2,.slice (some ⟨b34,0,none⟩) ([q32.1]:List JN).length 1)] kr (Ok.nt (Ok.ret (Ok.fine (.inl rfl) (Ok.back (vs:=[.slice (some ⟨b34,0,none⟩) ([q32.1]:List JN).length 1]) (.inl rfl) rfl (.cons (.tmp rfl) .nil) rfl (Ok.B 1 [(0,pv bxt 0),(4,pv bs4 0),(6,pv bs6 0),(47,.slice (some ⟨b34,0,none⟩) ([q32.1]:List JN).length 1),(48,pv bs6 3)] kr (Ok.o (OpOk.w1 3 ?_)))))))))))))
   refine Ok.nt (Ok.r (Ok.b 1 [4,6] [(49,pv bxt 0)] ?_))
   have G4:RepL g33 (.str) ([sv Br]:List Value) ([Br]:List Bs):=(RepL.consN (c:=[sv Br]) rfl rfl)
   refine Ok.o (OpOk.li G4 fun b35=>?_)
   refine Ok.frz 0 rfl G4 fun g36 U3 J3=>?_
   replace p3:=p3.mono U3.1
   replace S2:=S2.mono U3.1
   replace hL5:=hL5.mono U3.1
   obtain ⟨hp37,hF⟩:=hF
   refine Ok.en [1,0,2,3,4,5] ?_
   refine Ok.o (OpOk.ch (rne_c q32.2 ([Br]:List Bs) S2 J3 hp37) fun g38 _ _ W3 hV38=>?_)
   obtain ⟨a38_0,c38_0,rfl,hR38_0,rfl⟩:=hV38
   replace p3:=p3.mono W3.1
   replace hL5:=hL5.mono W3.1
   refine Ok.j (Ok.kn (Ok.t (Ok.he (E':=.blk bs6 (.cells (aM (rstV5 xt) 0 ((rnmS (rstV6 xt).2).1) (some ⟨b34,0,none⟩) ([q32.1]:List JN) 1) 24)) 3 (congrArg (fun l:List Value=>Ent.blk bs6 (.cells ⟨l⟩ 24)) (lcons (congrArg (Value.int .i64) ((if_t b1).symm)) (lcons (rfl) (lcons (rfl) (lcons (rfl) rfl))))) ?_)))
   exact fun _ _ u v=>⟨g38,(((((((M0.trans N0).trans Q4).trans k4).trans y4).trans K4).trans U3).trans W3),a38_0,c38_0,(neS q32.2 ([Br]:List Bs)).1,(neS q32.2 ([Br]:List Bs)).2,(some ⟨b34,0,none⟩),1,([q32.1]:List JN),((lJ q32.1 u3 j3):List Value),0,(rnmS (rstV6 xt).2).1,hR38_0,p3,fA u v hF⟩
  refine Ok.sr (Ok.b 2 [0,1,4,5,6,7,17] [(52,.bool ((rstV6 xt).1==1))] ?_)
  refine Ok.nt (Ok.cw hF (fun g1 hF=>?_) (fun g1 hF=>?_))
  ·refine Ok.r (Ok.b 3 [4,6] [(54,.func (.func 49) #[] #[]),(55,pv bxt 0),(56,pv bxt 0)] ?_)
   refine Ok.o (OpOk.ch (rnm_c (rstV6 xt).2 c0) fun g40 _ _ Y4 hV40=>?_)
   obtain ⟨a40_0,c40_0,rfl,hR40_0,rfl⟩:=hV40
   replace hL5:=hL5.mono Y4.1
   obtain ⟨hp41,hF⟩:=hF
   refine Ok.o (OpOk.ch (ih_rfn _ (rnmS (rstV6 xt).2).2 (rnmS (rstV6 xt).2).1 hR40_0 hp41) fun g43 _ _ U4 hV43=>?_)
   obtain ⟨q42,hq42,w3,x3,a43_2,c43_2,rfl,hR43_0,hR43_2,rfl⟩:=hV43
   replace hF:=hF _ hq42
   replace hL5:=hL5.mono U4.1
   have H4:RepL g43 yJ ((lJ q42.1 w3 x3):List Value) ([q42.1]:List JN):=(RepL.consN (c:=(lJ q42.1 w3 x3)) (Rep.tree.2 ⟨[iv q42.1.lab.1,iv q42.1.lab.2.1,sv q42.1.lab.2.2],[.slice w3 q42.1.kids.length x3],rfl,⟨[iv q42.1.lab.1],[iv q42.1.lab.2.1,sv q42.1.lab.2.2],rfl,rfl,⟨[iv q42.1.lab.2.1],[sv q42.1.lab.2.2],rfl,rfl,rfl⟩⟩,hR43_0⟩) rfl)
   refine Ok.o (OpOk.li H4 fun b44=>?_)
   refine Ok.o (OpOk.inlineP (pv:=.iface 44 (.agg #[])) (args:=#[.slice (some ⟨b44,0,none⟩) ([q42.1]:List JN).length 1]) 4 [(0,.slice (some ⟨b44,0,none⟩) ([q42.1]:List JN).length 1)] enr func49 rfl rfl rfl rfl (Ok.sr (Ok.B 1 [(0,.slice (some ⟨b44,0,none⟩) ([q42.1]:List JN).length 1)] kr (Ok.nt (Ok.sr (Ok.B 2 [(2,.slice (some ⟨b44,0,none⟩) ([q42.1]:List JN).length 1)] kr (Ok.nt (Ok.ret (Ok.fine (.inl rfl) (Ok.back (vs:=[.slice (some ⟨b44,0,none⟩) ([q42.1]:List JN).length 1]) (.inl rfl) rfl (.cons (.tmp rfl) .nil) rfl (Ok.B 1 [(4,pv bs4 0),(6,pv bs6 0),(60,.slice (some ⟨b44,0,none⟩) ([q42.1]:List JN).length 1),(61,pv bs6 0)] kr (Ok.o (OpOk.w1 3 ?_)))))))))))))
   refine Ok.b 1 [4,6,60] [(62,pv bs6 3)] ?_
   refine Ok.o (OpOk.w1 3 ?_)
   refine Ok.j (Ok.kn (Ok.t (Ok.he (E':=.blk bs6 (.cells (aM (rstV5 xt) 0 Bz (some ⟨b44,0,none⟩) ([q42.1]:List JN) 1) 24)) 3 (congrArg (fun l:List Value=>Ent.blk bs6 (.cells ⟨l⟩ 24)) (lcons (congrArg (Value.int .i64) (Eq.trans ((if_t g1).symm) ((if_f b1).symm))) (lcons (rfl) (lcons (rfl) (lcons (rfl) rfl))))) ?_)))
   exact fun a W hA hW=>⟨g43,(((M0.trans N0).trans Y4).trans U4),a43_2,c43_2,q42.2.1,q42.2.2,(some ⟨b44,0,none⟩),1,([q42.1]:List JN),((lJ q42.1 w3 x3):List Value),0,Bz,hR43_2,H4,hA.sub kr,hW.pick [1,0,3,4,5] _ dc rfl,hF⟩
  refine Ok.sr (Ok.b 2 [0,1,4,5,6,7,17] [(63,.bool ((rstV6 xt).1==2))] ?_)
  refine Ok.nt (Ok.cw hF (fun r1 hF=>?_) (fun r1 hF=>?_))
  ·refine Ok.sr (Ok.b 1 [0,1,4,5,6] [(65,pv bxt 0)] ?_)
   obtain ⟨hp46,hF⟩:=hF
   refine Ok.o (OpOk.ch (ih_rbr _ (rstV6 xt).2 c0 hp46) fun g48 _ _ p2 hV48=>?_)
   obtain ⟨q47,hq47,i1,Z1,a48_2,c48_2,rfl,F0,hR48_2,rfl⟩:=hV48
   replace hF:=hF _ hq47
   replace hL5:=hL5.mono p2.1
   have t1:RepL g48 yJ [] []:=rfl
   refine Ok.ownNil 24 4 (Ok.o (OpOk.aw aZ fun bs8=>?_))
   refine Ok.o (OpOk.w 0 ?_)
   refine Ok.nt (Ok.q (Ok.en [2,0,1,3,4,5,6] ?_))
   refine Ok.mx (pT (((o1.trans M0).trans N0).trans p2) id) [] [] [1,1,1,1,1,1,1] [0,1,1,1,0,1,1] [(0,true),(1,true),(2,true),(3,true),(7,true),(4,false),(5,false),(6,false),(8,false),(9,true),(10,false)] ?_
   refine OkME.bat 1 [0,1,4,6] [(8,pv bs8 0),(67,.func (.func 49) #[] #[])] ?_
   refine OkME.hd (OpQ.s (v:=.agg (aJ q47.1 i1 Z1)) (Yields.loadAgg 0 4 (aJ q47.1 i1 Z1) rfl rfl underlying24 rfl kr kr kr) rfl rfl ?_)
   refine OkME.bat 3 [0,1,4,6,67] [(68,.agg (aJ q47.1 i1 Z1)),(69,pv bxt 0),(70,iv xwhere),(74,pv bs6 0)] ?_
   obtain ⟨hp51,hF⟩:=hF
   refine OkME.tail rfl rfl (OpOk.ch (ih_rbl _ q47.2 xwhere hR48_2 hp51) fun g53 _ _ c1 hV53=>?_)
   obtain ⟨q52,hq52,s3,b3,a53_2,c53_2,rfl,hR53_0,B2,rfl⟩:=hV53
   replace hF:=hF _ hq52
   replace F0:=F0.mono c1.1
   replace hL5:=hL5.mono c1.1
   refine OkME.l1 c1.1 ?_
   have d1:RepL g53 yJ ([iv q47.1.lab.1,iv q47.1.lab.2.1,sv q47.1.lab.2.2,.slice i1 q47.1.kids.length Z1,iv q52.1.lab.1,iv q52.1.lab.2.1,sv q52.1.lab.2.2,.slice s3 q52.1.kids.length b3]:List Value) ([q47.1,q52.1]:List JN):=(RepL.consN (c:=(lJ q47.1 i1 Z1)) (Rep.tree.2 ⟨[iv q47.1.lab.1,iv q47.1.lab.2.1,sv q47.1.lab.2.2],[.slice i1 q47.1.kids.length Z1],rfl,⟨[iv q47.1.lab.1],[iv q47.1.lab.2.1,sv q47.1.lab.2.2],rfl,rfl,⟨[iv q47.1.lab.2.1],[sv q47.1.lab.2.2],rfl,rfl,rfl⟩⟩,F0⟩) (RepL.consN (c:=(lJ q52.1 s3 b3)) (Rep.tree.2 ⟨[iv q52.1.lab.1,iv q52.1.lab.2.1,sv q52.1.lab.2.2],[.slice s3 q52.1.kids.length b3],rfl,⟨[iv q52.1.lab.1],[iv q52.1.lab.2.1,sv q52.1.lab.2.2],rfl,rfl,⟨[iv q52.1.lab.2.1],[sv q52.1.lab.2.2],rfl,rfl,rfl⟩⟩,hR53_0⟩) rfl))
   refine OkME.tail rfl rfl (OpOk.li d1 fun b54=>?_)
   refine OkME.l1 c1.1 (OkME.tail rfl rfl (OpOk.inlineP (pv:=.iface 44 (.agg #[])) (args:=#[.slice (some ⟨b54,0,none⟩) ([q47.1,q52.1]:List JN).length 2]) 4 [(0,.slice (some ⟨b54,0,none⟩) ([q47.1,q52.1]:List JN).length 2)] enr func49 rfl rfl rfl rfl (Ok.sr (Ok.B 1 [(0,.slice (some ⟨b54,0,none⟩) ([q47.1,q52.1]:List JN).length 2)] kr (Ok.nt (Ok.sr (Ok.B 2 [(2,.slice (some ⟨b54,0,none⟩) ([q47.1,q52.1]:List JN).length 2)] kr (Ok.nt (Ok.ret (Ok.fine (.inl rfl) (Ok.back (vs:=[.slice (some ⟨b54,0,none⟩) ([q47.1,q52.1]:List JN).length 2]) (.inl rfl) rfl (.cons (.tmp rfl) .nil) rfl (OkME.l1 c1.1 (OkME.tail rfl rfl (OpOk.w1 5 ?_))))))))))))))
   refine OkME.l1 c1.1 (OkME.batch 1 [(0,pv bxt 0),(1,iv xwhere),(4,pv bs4 0),(6,pv bs6 0),(73,.slice (some ⟨b54,0,none⟩) ([q47.1,q52.1]:List JN).length 2),(75,pv bs6 3)] kr (OkME.tail rfl rfl (OpOk.w1 5 ?_)))
   refine OkME.l1 c1.1 (OkME.nil (Ok.t (Ok.sr (Ok.b 1 [0,1,4,6] [(76,pv bxt 0)] ?_))))
   have M4:RepL g53 (.str) ([sv BA]:List Value) ([BA]:List Bs):=(RepL.consN (c:=[sv BA]) rfl rfl)
   refine Ok.o (OpOk.li M4 fun b55=>?_)
   refine Ok.frz 0 rfl M4 fun g56 V1 X3=>?_
   replace d1:=d1.mono V1.1
   replace B2:=B2.mono V1.1
   replace hL5:=hL5.mono V1.1
   obtain ⟨hp57,hF⟩:=hF
   refine Ok.en [1,0,2,3,4,5,6,7] ?_
   refine Ok.o (OpOk.ch (rwa_c q52.2 ([BA]:List Bs) B2 X3 hp57) fun g58 _ _ Q1 hV58=>?_)
   obtain ⟨a58_0,c58_0,rfl,m1,rfl⟩:=hV58
   replace d1:=d1.mono Q1.1
   replace hL5:=hL5.mono Q1.1
   refine Ok.b 1 [0,1,4,6] [(79,.bool ((rstV8 q52).1==0))] ?_
   refine Ok.nt (Ok.cw hF (fun hc59 hF=>?_) (fun hc59 hF=>?_))
   ·refine Ok.sr (Ok.b 1 [0,1,4,6] [(80,pv bxt 0)] ?_)
    refine Ok.o (OpOk.ch (rwd_c (rstV8 q52).2 m1) fun g60 _ _ F1 hV60=>?_)
    obtain ⟨rfl,rfl⟩:=hV60
    replace m1:=m1.mono F1.1
    replace d1:=d1.mono F1.1
    replace hL5:=hL5.mono F1.1
    refine Ok.o (OpOk.s (v:=.bool (rwdS (rstV8 q52).2==BB)) (Yields.sc (f:=.eql) (a:=rwdS (rstV8 q52).2) (b:=BB) kr kr rfl) rfl rfl (Ok.nt (Ok.cw hF (fun hc61 hF=>?_) (fun hc61 hF=>?_))))
    ·refine Ok.mx (pT (((((((o1.trans M0).trans N0).trans p2).trans c1).trans V1).trans Q1).trans F1) id) [0,1,2,3] [4,5] [0,1,1,1,1,1,1,1] [0,1,1,1,0,1,1] [(0,true),(1,true),(2,true),(3,true),(4,false),(5,false),(6,false),(7,true),(8,false)] ?_
     refine OkME.bat 1 [0,1,4,6] [(83,pv bs6 3)] ?_
     refine OkME.hd (OpQ.s (v:=.slice (some ⟨b54,0,none⟩) ([q47.1,q52.1]:List JN).length 2) (Yields.l 4 rfl rfl underlying22 rfl kr) rfl rfl ?_)
     refine OkME.bat 2 [4,6] [(84,.slice (some ⟨b54,0,none⟩) ([q47.1,q52.1]:List JN).length 2),(85,pv bxt 0),(86,iv xwhere)] ?_
     obtain ⟨hp62,hF⟩:=hF
     refine OkME.tail rfl rfl (OpOk.ch (ih_rst _ (rstV8 q52).2 xwhere m1 hp62) fun g64 _ _ G1 hV64=>?_)
     obtain ⟨q63,hq63,S3,B3,a64_2,c64_2,rfl,hR64_0,hR64_2,rfl⟩:=hV64
     replace hF:=hF _ hq63
     replace d1:=d1.mono G1.1
     replace hL5:=hL5.mono G1.1
     refine OkME.l1 G1.1 ?_
     have N4:RepL g64 yJ ((lJ q63.1 S3 B3):List Value) ([q63.1]:List JN):=(RepL.consN (c:=(lJ q63.1 S3 B3)) (Rep.tree.2 ⟨[iv q63.1.lab.1,iv q63.1.lab.2.1,sv q63.1.lab.2.2],[.slice S3 q63.1.kids.length B3],rfl,⟨[iv q63.1.lab.1],[iv q63.1.lab.2.1,sv q63.1.lab.2.2],rfl,rfl,⟨[iv q63.1.lab.2.1],[sv q63.1.lab.2.2],rfl,rfl,rfl⟩⟩,hR64_0⟩) rfl)
     refine OkME.tail rfl rfl (OpOk.li N4 fun b65=>?_)
     refine OkME.l1 G1.1 ?_
     obtain ⟨hb66,hF⟩:=hF
     refine OkME.tail rfl rfl (OpOk.append' (e:=yJ) 56 2513169434916 2 0 rfl rfl rfl rfl d1 N4 underlying22 kr kr kr hb66 rfl fun a66 c66 xs66 hL66=>?_)
     refine OkME.l1 G1.1 (OkME.bat 1 [4,6] [(89,.slice a66 (([q47.1,q52.1]:List JN)++([q63.1]:List JN)).length c66),(90,pv bs6 3)] ?_)
     refine OkME.tail rfl rfl (OpOk.w1 6 ?_)
     refine OkME.l1 G1.1 (OkME.nil (Ok.kn (Ok.t (Ok.he (E':=.blk bs6 (.cells (aM (rstV5 xt) 0 Bz a66 (([q47.1,q52.1]:List JN)++([q63.1]:List JN)) c66) 24)) 6 (congrArg (fun l:List Value=>Ent.blk bs6 (.cells ⟨l⟩ 24)) (lcons (congrArg (Value.int .i64) (Eq.trans (Eq.trans ((if_t r1).symm) ((if_f g1).symm)) ((if_f b1).symm))) (lcons (rfl) (lcons (rfl) (lcons (rfl) rfl))))) ?_))))
     exact fun _ _ u v=>⟨g64,(((((((M0.trans N0).trans p2).trans c1).trans V1).trans Q1).trans F1).trans G1),a64_2,c64_2,q63.2.1,q63.2.2,a66,c66,(([q47.1,q52.1]:List JN)++([q63.1]:List JN)),xs66,0,Bz,hR64_2,hL66,fA u v hF⟩
    refine Ok.mx (pT (((((((o1.trans M0).trans N0).trans p2).trans c1).trans V1).trans Q1).trans F1) id) [0,1,2,3] [4,5] [0,1,1,1,1,1,1,1] [0,1,1,1,0,1,1] [(0,true),(1,true),(2,true),(3,true),(4,false),(5,false),(6,false),(7,true),(8,false)] ?_
    refine OkME.bat 1 [0,1,4,6] [(91,pv bs6 3)] ?_
    refine OkME.hd (OpQ.s (v:=.slice (some ⟨b54,0,none⟩) ([q47.1,q52.1]:List JN).length 2) (Yields.l 4 rfl rfl underlying22 rfl kr) rfl rfl ?_)
    refine OkME.bat 2 [4,6] [(92,.slice (some ⟨b54,0,none⟩) ([q47.1,q52.1]:List JN).length 2),(93,pv bxt 0),(94,iv xwhere)] ?_
    obtain ⟨hp67,hF⟩:=hF
    refine OkME.tail rfl rfl (OpOk.ch (ih_rbl _ (rstV8 q52).2 xwhere m1 hp67) fun g69 _ _ H1 hV69=>?_)
    obtain ⟨q68,hq68,C3,D3,a69_2,c69_2,rfl,hR69_0,hR69_2,rfl⟩:=hV69
    replace hF:=hF _ hq68
    replace d1:=d1.mono H1.1
    replace hL5:=hL5.mono H1.1
    refine OkME.l1 H1.1 ?_
    have O4:RepL g69 yJ ((lJ q68.1 C3 D3):List Value) ([q68.1]:List JN):=(RepL.consN (c:=(lJ q68.1 C3 D3)) (Rep.tree.2 ⟨[iv q68.1.lab.1,iv q68.1.lab.2.1,sv q68.1.lab.2.2],[.slice C3 q68.1.kids.length D3],rfl,⟨[iv q68.1.lab.1],[iv q68.1.lab.2.1,sv q68.1.lab.2.2],rfl,rfl,⟨[iv q68.1.lab.2.1],[sv q68.1.lab.2.2],rfl,rfl,rfl⟩⟩,hR69_0⟩) rfl)
    refine OkME.tail rfl rfl (OpOk.li O4 fun b70=>?_)
    refine OkME.l1 H1.1 ?_
    obtain ⟨hb71,hF⟩:=hF
    refine OkME.tail rfl rfl (OpOk.append' (e:=yJ) 56 2513169434916 2 0 rfl rfl rfl rfl d1 O4 underlying22 kr kr kr hb71 rfl fun a71 c71 xs71 hL71=>?_)
    refine OkME.l1 H1.1 (OkME.bat 1 [4,6] [(97,.slice a71 (([q47.1,q52.1]:List JN)++([q68.1]:List JN)).length c71),(98,pv bs6 3)] ?_)
    refine OkME.tail rfl rfl (OpOk.w1 6 ?_)
    refine OkME.l1 H1.1 (OkME.nil (Ok.kn (Ok.t (Ok.he (E':=.blk bs6 (.cells (aM (rstV5 xt) 0 Bz a71 (([q47.1,q52.1]:List JN)++([q68.1]:List JN)) c71) 24)) 6 (congrArg (fun l:List Value=>Ent.blk bs6 (.cells ⟨l⟩ 24)) (lcons (congrArg (Value.int .i64) (Eq.trans (Eq.trans ((if_t r1).symm) ((if_f g1).symm)) ((if_f b1).symm))) (lcons (rfl) (lcons (rfl) (lcons (rfl) rfl))))) ?_))))
    exact fun _ _ u v=>⟨g69,(((((((M0.trans N0).trans p2).trans c1).trans V1).trans Q1).trans F1).trans H1),a69_2,c69_2,q68.2.1,q68.2.2,a71,c71,(([q47.1,q52.1]:List JN)++([q68.1]:List JN)),xs71,0,Bz,hR69_2,hL71,fA u v hF⟩
   refine Ok.k (Ok.kn (Ok.t (Ok.he (E':=.blk bs6 (.cells (aM (rstV5 xt) 0 Bz (some ⟨b54,0,none⟩) ([q47.1,q52.1]:List JN) 2) 24)) 5 (congrArg (fun l:List Value=>Ent.blk bs6 (.cells ⟨l⟩ 24)) (lcons (congrArg (Value.int .i64) (Eq.trans (Eq.trans ((if_t r1).symm) ((if_f g1).symm)) ((if_f b1).symm))) (lcons (rfl) (lcons (rfl) (lcons (rfl) rfl))))) ?_)))
   exact fun _ _ u v=>⟨g58,(((((M0.trans N0).trans p2).trans c1).trans V1).trans Q1),a58_0,c58_0,(rstV8 q52).2.1,(rstV8 q52).2.2,(some ⟨b54,0,none⟩),2,([q47.1,q52.1]:List JN),([iv q47.1.lab.1,iv q47.1.lab.2.1,sv q47.1.lab.2.2,.slice i1 q47.1.kids.length Z1,iv q52.1.lab.1,iv q52.1.lab.2.1,sv q52.1.lab.2.2,.slice s3 q52.1.kids.length b3]:List Value),0,Bz,m1,d1,fA u v hF⟩
  refine Ok.sr (Ok.b 2 [0,1,4,5,6,7,17] [(99,.bool ((rstV6 xt).1==3))] ?_)
  refine Ok.nt (Ok.cw hF (fun y2 hF=>?_) (fun y2 hF=>?_))
  ·refine Ok.sr (Ok.b 1 [0,1,4,5,6] [(101,pv bxt 0)] ?_)
   obtain ⟨hp73,hF⟩:=hF
   refine Ok.o (OpOk.ch (ih_rbr _ (rstV6 xt).2 c0 hp73) fun g75 _ _ u4 hV75=>?_)
   obtain ⟨q74,hq74,K1,Y1,a75_2,c75_2,rfl,C2,hR75_2,rfl⟩:=hV75
   replace hF:=hF _ hq74
   replace hL5:=hL5.mono u4.1
   have P4:RepL g75 yJ [] []:=rfl
   refine Ok.ownNil 24 4 (Ok.o (OpOk.aw aZ fun bs9=>?_))
   refine Ok.o (OpOk.w 0 ?_)
   refine Ok.nt (Ok.en [2,0,1,3,4,5,6] ?_)
   refine Ok.mx (pT (((o1.trans M0).trans N0).trans u4) id) [] [] [1,1,1,1,1,1,1] [0,1,1,1,0,1,1] [(0,true),(1,true),(2,true),(3,true),(4,true),(8,true),(5,false),(6,false),(7,false),(9,false),(10,true),(11,false)] ?_
   refine OkME.bat 1 [0,1,4,6] [(9,pv bs9 0),(103,.func (.func 49) #[] #[])] ?_
   refine OkME.hd (OpQ.s (v:=.agg (aJ q74.1 K1 Y1)) (Yields.loadAgg 0 4 (aJ q74.1 K1 Y1) rfl rfl underlying24 rfl kr kr kr) rfl rfl ?_)
   refine OkME.bat 4 [4,6,103] [(104,.agg (aJ q74.1 K1 Y1)),(105,pv bxt 0),(107,iv (bitOr .i64 xwhere 2)),(111,pv bs6 0)] ?_
   obtain ⟨hp78,hF⟩:=hF
   refine OkME.tail rfl rfl (OpOk.ch (ih_rbl _ q74.2 (bitOr .i64 xwhere 2) hR75_2 hp78) fun g80 _ _ M1 hV80=>?_)
   obtain ⟨q79,hq79,c3,d3,a80_2,c80_2,rfl,hR80_0,hR80_2,rfl⟩:=hV80
   replace hF:=hF _ hq79
   replace C2:=C2.mono M1.1
   replace hL5:=hL5.mono M1.1
   refine OkME.l1 M1.1 ?_
   have R4:RepL g80 yJ ([iv q74.1.lab.1,iv q74.1.lab.2.1,sv q74.1.lab.2.2,.slice K1 q74.1.kids.length Y1,iv q79.1.lab.1,iv q79.1.lab.2.1,sv q79.1.lab.2.2,.slice c3 q79.1.kids.length d3]:List Value) ([q74.1,q79.1]:List JN):=(RepL.consN (c:=(lJ q74.1 K1 Y1)) (Rep.tree.2 ⟨[iv q74.1.lab.1,iv q74.1.lab.2.1,sv q74.1.lab.2.2],[.slice K1 q74.1.kids.length Y1],rfl,⟨[iv q74.1.lab.1],[iv q74.1.lab.2.1,sv q74.1.lab.2.2],rfl,rfl,⟨[iv q74.1.lab.2.1],[sv q74.1.lab.2.2],rfl,rfl,rfl⟩⟩,C2⟩) (RepL.consN (c:=(lJ q79.1 c3 d3)) (Rep.tree.2 ⟨[iv q79.1.lab.1,iv q79.1.lab.2.1,sv q79.1.lab.2.2],[.slice c3 q79.1.kids.length d3],rfl,⟨[iv q79.1.lab.1],[iv q79.1.lab.2.1,sv q79.1.lab.2.2],rfl,rfl,⟨[iv q79.1.lab.2.1],[sv q79.1.lab.2.2],rfl,rfl,rfl⟩⟩,hR80_0⟩) rfl))
   refine OkME.tail rfl rfl (OpOk.li R4 fun b81=>?_)
   refine OkME.l1 M1.1 (OkME.tail rfl rfl (OpOk.inlineP (pv:=.iface 44 (.agg #[])) (args:=#[.slice (some ⟨b81,0,none⟩) ([q74.1,q79.1]:List JN).length 2]) 4 [(0,.slice (some ⟨b81,0,none⟩) ([q74.1,q79.1]:List JN).length 2)] enr func49 rfl rfl rfl rfl (Ok.sr (Ok.B 1 [(0,.slice (some ⟨b81,0,none⟩) ([q74.1,q79.1]:List JN).length 2)] kr (Ok.nt (Ok.sr (Ok.B 2 [(2,.slice (some ⟨b81,0,none⟩) ([q74.1,q79.1]:List JN).length 2)] kr (Ok.nt (Ok.ret (Ok.fine (.inl rfl) (Ok.back (vs:=[.slice (some ⟨b81,0,none⟩) ([q74.1,q79.1]:List JN).length 2]) (.inl rfl) rfl (.cons (.tmp rfl) .nil) rfl (OkME.l1 M1.1 (OkME.tail rfl rfl (OpOk.w1 5 ?_))))))))))))))
   refine OkME.l1 M1.1 (OkME.batch 1 [(4,pv bs4 0),(6,pv bs6 0),(110,.slice (some ⟨b81,0,none⟩) ([q74.1,q79.1]:List JN).length 2),(112,pv bs6 3)] kr (OkME.tail rfl rfl (OpOk.w1 5 ?_)))
   refine OkME.l1 M1.1 (OkME.nil (Ok.kn (Ok.t (Ok.he (E':=.blk bs6 (.cells (aM (rstV5 xt) 0 Bz (some ⟨b81,0,none⟩) ([q74.1,q79.1]:List JN) 2) 24)) 5 (congrArg (fun l:List Value=>Ent.blk bs6 (.cells ⟨l⟩ 24)) (lcons (congrArg (Value.int .i64) (Eq.trans (Eq.trans (Eq.trans ((if_t y2).symm) ((if_f r1).symm)) ((if_f g1).symm)) ((if_f b1).symm))) (lcons (rfl) (lcons (rfl) (lcons (rfl) rfl))))) ?_))))
   exact fun a W hA hW=>⟨g80,(((M0.trans N0).trans u4).trans M1),a80_2,c80_2,q79.2.1,q79.2.2,(some ⟨b81,0,none⟩),2,([q74.1,q79.1]:List JN),([iv q74.1.lab.1,iv q74.1.lab.2.1,sv q74.1.lab.2.2,.slice K1 q74.1.kids.length Y1,iv q79.1.lab.1,iv q79.1.lab.2.1,sv q79.1.lab.2.2,.slice c3 q79.1.kids.length d3]:List Value),0,Bz,hR80_2,R4,hA.sub kr,hW.pick [1,0,5,6,7] _ dc rfl,hF⟩
  refine Ok.sr (Ok.b 2 [0,1,4,5,6,7,17] [(113,.bool ((rstV6 xt).1==4))] ?_)
  refine Ok.nt (Ok.cw hF (fun r2 hF=>?_) (fun r2 hF=>?_))
  ·refine Ok.sr (Ok.b 1 [0,1,4,5,6] [(115,pv bxt 0)] ?_)
   have T4:RepL g24 (.str) ([sv Bx,sv BC]:List Value) ([Bx,BC]:List Bs):=(RepL.consN (c:=[sv Bx]) rfl (RepL.consN (c:=[sv BC]) rfl rfl))
   refine Ok.o (OpOk.li T4 fun b83=>?_)
   refine Ok.frz 0 rfl T4 fun g84 E3 F3=>?_
   replace c0:=c0.mono E3.1
   replace hL5:=hL5.mono E3.1
   obtain ⟨hp85,hF⟩:=hF
   refine Ok.o (OpOk.ch (rne_c (rstV6 xt).2 ([Bx,BC]:List Bs) c0 F3 hp85) fun g86 _ _ G3 hV86=>?_)
   obtain ⟨a86_0,c86_0,rfl,hR86_0,rfl⟩:=hV86
   replace hL5:=hL5.mono G3.1
   refine Ok.nt (Ok.sr (Ok.b 1 [0,1,4,5,6] [(118,pv bxt 0)] ?_))
   refine Ok.o (OpOk.ch (rnm_c (rstV9 xt) hR86_0) fun g87 _ _ j4 hV87=>?_)
   obtain ⟨a87_0,c87_0,rfl,D2,rfl⟩:=hV87
   replace hL5:=hL5.mono j4.1
   refine Ok.b 1 [0,1,4,5,6] [(119,sv ((rnmS (rstV9 xt)).1)),(120,pv bs6 0)] ?_
   refine Ok.o (OpOk.w1 2 ?_)
   refine Ok.b 1 [0,1,4,5,6,119] [(121,pv bs6 2)] ?_
   refine Ok.o (OpOk.w1 2 ?_)
   refine Ok.nt (Ok.sr (Ok.b 1 [0,1,4,5,6] [(122,pv bxt 0)] ?_))
   have L4:RepL g87 (.str) ([sv ([111,102]:Bs)]:List Value) ([([111,102]:Bs)]:List Bs):=(RepL.consN (c:=[sv ([111,102]:Bs)]) rfl rfl)
   refine Ok.o (OpOk.li L4 fun b88=>?_)
   refine Ok.frz 0 rfl L4 fun g89 H3 M3=>?_
   replace D2:=D2.mono H3.1
   replace hL5:=hL5.mono H3.1
   obtain ⟨hp90,hF⟩:=hF
   refine Ok.o (OpOk.ch (rne_c (rnmS (rstV9 xt)).2 ([([111,102]:Bs)]:List Bs) D2 M3 hp90) fun g91 _ _ N3 hV91=>?_)
   obtain ⟨a91_0,c91_0,rfl,hR91_0,rfl⟩:=hV91
   replace hL5:=hL5.mono N3.1
   refine Ok.nt (Ok.sr (Ok.b 1 [0,1,4,5,6] [(125,pv bxt 0)] ?_))
   obtain ⟨hp92,hF⟩:=hF
   refine Ok.o (OpOk.ch (ih_rex _ (rstV10 xt) 0 hR91_0 hp92) fun g94 _ _ w4 hV94=>?_)
   obtain ⟨q93,hq93,U1,J1,a94_2,c94_2,rfl,u1,E2,rfl⟩:=hV94
   replace hF:=hF _ hq93
   replace hL5:=hL5.mono w4.1
   have r3:RepL g94 yJ [] []:=rfl
   refine Ok.ownNil 24 4 (Ok.o (OpOk.aw aZ fun bs10=>?_))
   refine Ok.o (OpOk.w 0 ?_)
   refine Ok.nt (Ok.sr (Ok.b 1 [0,1,4,5,6] [(10,pv bs10 0),(127,pv bxt 0)] ?_))
   have A4:RepL g94 (.str) ([sv By]:List Value) ([By]:List Bs):=(RepL.consN (c:=[sv By]) rfl rfl)
   refine Ok.o (OpOk.li A4 fun b97=>?_)
   refine Ok.frz 0 rfl A4 fun g98 F2 O3=>?_
   replace u1:=u1.mono F2.1
   replace E2:=E2.mono F2.1
   replace hL5:=hL5.mono F2.1
   obtain ⟨hp99,hF⟩:=hF
   refine Ok.en [2,0,1,3,4,5,6] ?_
   refine Ok.o (OpOk.ch (rne_c q93.2 ([By]:List Bs) E2 O3 hp99) fun g100 _ _ W1 hV100=>?_)
   obtain ⟨a100_0,c100_0,rfl,hR100_0,rfl⟩:=hV100
   replace u1:=u1.mono W1.1
   replace hL5:=hL5.mono W1.1
   refine Ok.nt (Ok.mx (pT ((((((((((o1.trans M0).trans N0).trans E3).trans G3).trans j4).trans H3).trans N3).trans w4).trans F2).trans W1) id) [] [] [1,1,1,1,1,1,1] [0,1,1,1,0,1,1] [(0,true),(1,true),(2,true),(3,true),(4,true),(5,false),(6,false),(7,false),(8,true),(9,false)] ?_)
   refine OkME.bat 1 [0,1,4,6,10] [(130,.func (.func 49) #[] #[])] ?_
   refine OkME.hd (OpQ.s (v:=.agg (aJ q93.1 U1 J1)) (Yields.loadAgg 0 4 (aJ q93.1 U1 J1) rfl rfl underlying24 rfl kr kr kr) rfl rfl ?_)
   refine OkME.bat 3 [4,6,130] [(131,.agg (aJ q93.1 U1 J1)),(132,pv bxt 0),(134,iv (bitOr .i64 xwhere 2))] ?_
   obtain ⟨hp101,hF⟩:=hF
   refine OkME.tail rfl rfl (OpOk.ch (ih_rbl _ (neS q93.2 ([By]:List Bs)) (bitOr .i64 xwhere 2) hR100_0 hp101) fun I4 _ _ e1 hV103=>?_)
   obtain ⟨V0,hq102,u2,j2,a103_2,c103_2,rfl,hR103_0,hR103_2,rfl⟩:=hV103
   replace hF:=hF _ hq102
   replace u1:=u1.mono e1.1
   replace hL5:=hL5.mono e1.1
   refine OkME.l1 e1.1 ?_
   have d4:RepL I4 yJ ([iv q93.1.lab.1,iv q93.1.lab.2.1,sv q93.1.lab.2.2,.slice U1 q93.1.kids.length J1,iv V0.1.lab.1,iv V0.1.lab.2.1,sv V0.1.lab.2.2,.slice u2 V0.1.kids.length j2]:List Value) ([q93.1,V0.1]:List JN):=(RepL.consN (c:=(lJ q93.1 U1 J1)) (Rep.tree.2 ⟨[iv q93.1.lab.1,iv q93.1.lab.2.1,sv q93.1.lab.2.2],[.slice U1 q93.1.kids.length J1],rfl,⟨[iv q93.1.lab.1],[iv q93.1.lab.2.1,sv q93.1.lab.2.2],rfl,rfl,⟨[iv q93.1.lab.2.1],[sv q93.1.lab.2.2],rfl,rfl,rfl⟩⟩,u1⟩) (RepL.consN (c:=(lJ V0.1 u2 j2)) (Rep.tree.2 ⟨[iv V0.1.lab.1,iv V0.1.lab.2.1,sv V0.1.lab.2.2],[.slice u2 V0.1.kids.length j2],rfl,⟨[iv V0.1.lab.1],[iv V0.1.lab.2.1,sv V0.1.lab.2.2],rfl,rfl,⟨[iv V0.1.lab.2.1],[sv V0.1.lab.2.2],rfl,rfl,rfl⟩⟩,hR103_0⟩) rfl))
   refine OkME.tail rfl rfl (OpOk.li d4 fun t2=>?_)
   refine OkME.l1 e1.1 (OkME.tail rfl rfl (OpOk.inlineP (pv:=.iface 44 (.agg #[])) (args:=#[.slice (some ⟨t2,0,none⟩) ([q93.1,V0.1]:List JN).length 2]) 4 [(0,.slice (some ⟨t2,0,none⟩) ([q93.1,V0.1]:List JN).length 2)] enr func49 rfl rfl rfl rfl (Ok.sr (Ok.B 1 [(0,.slice (some ⟨t2,0,none⟩) ([q93.1,V0.1]:List JN).length 2)] kr (Ok.nt (Ok.sr (Ok.B 2 [(2,.slice (some ⟨t2,0,none⟩) ([q93.1,V0.1]:List JN).length 2)] kr (Ok.nt (Ok.ret (Ok.fine (.inl rfl) (Ok.back (vs:=[.slice (some ⟨t2,0,none⟩) ([q93.1,V0.1]:List JN).length 2]) (.inl rfl) rfl (.cons (.tmp rfl) .nil) rfl (OkME.l1 e1.1 (OkME.batch 1 [(4,pv bs4 0),(6,pv bs6 0),(137,.slice (some ⟨t2,0,none⟩) ([q93.1,V0.1]:List JN).length 2),(138,pv bs6 3)] kr (OkME.tail rfl rfl (OpOk.w1 5 ?_)))))))))))))))
   refine OkME.l1 e1.1 (OkME.nil (Ok.kn (Ok.t (Ok.he (E':=.blk bs6 (.cells (aM (rstV5 xt) 0 ((rnmS (rstV9 xt)).1) (some ⟨t2,0,none⟩) ([q93.1,V0.1]:List JN) 2) 24)) 5 (congrArg (fun l:List Value=>Ent.blk bs6 (.cells ⟨l⟩ 24)) (lcons (congrArg (Value.int .i64) (Eq.trans (Eq.trans (Eq.trans (Eq.trans ((if_t r2).symm) ((if_f y2).symm)) ((if_f r1).symm)) ((if_f g1).symm)) ((if_f b1).symm))) (lcons (rfl) (lcons (rfl) (lcons (rfl) rfl))))) ?_))))
   exact fun a W hA hW=>⟨I4,((((((((((M0.trans N0).trans E3).trans G3).trans j4).trans H3).trans N3).trans w4).trans F2).trans W1).trans e1),a103_2,c103_2,V0.2.1,V0.2.2,(some ⟨t2,0,none⟩),2,([q93.1,V0.1]:List JN),([iv q93.1.lab.1,iv q93.1.lab.2.1,sv q93.1.lab.2.2,.slice U1 q93.1.kids.length J1,iv V0.1.lab.1,iv V0.1.lab.2.1,sv V0.1.lab.2.2,.slice u2 V0.1.kids.length j2]:List Value),0,(rnmS (rstV9 xt)).1,hR103_2,d4,hA.sub kr,hW.pick [1,0,5,6,7] _ dc rfl,hF⟩
  refine Ok.sr (Ok.b 2 [0,1,4,5,6,7,17] [(139,.bool ((rstV6 xt).1==5))] ?_)
  refine Ok.nt (Ok.cw hF (fun X1 hF=>?_) (fun X1 hF=>?_))
  ·refine Ok.sr (Ok.b 1 [0,1,4,5,6] [(141,pv bs6 0)] ?_)
   refine Ok.o (OpOk.w1 2 ?_)
   refine Ok.nt (Ok.cut (fun a W=>∃ t3:Ghost,Gext w0 g24 t3∧∃ (U0:Option Addr) (J0:Nat) (b0:List JN) (C0:List Value) (j1:Option Addr) (x1:Nat) (y0:List TK) (j0:Bool),RepL t3 yJ C0 b0∧Rep t3 yTs [.slice j1 y0.length x1] y0∧StA 259 [(0,pv bxt 0),(1,iv xwhere),(4,pv bs4 0),(6,pv bs6 0)] a∧StW w0 [.own (.slice U0 b0.length J0) 24 4 b0.length C0,.blk bxt (.cells #[.slice j1 y0.length x1,.bool j0] 58),.blk bs6 (.cells (aM 25 0 Bz U0 b0 J0) 24),.blk bs4 (.cells aZ 24),.own (.slice none jZ.length 0) 24 4 jZ.length ([])] t3 W∧rstj74 xt xwhere K y0 j0 b0) ?_ ?_)
   ·
    refine Ok.sr (Ok.b 1 [0,1,4,5,6] [(142,pv bxt 0)] ?_)
    refine Ok.o (OpOk.ch (rwd_c (rstV6 xt).2 c0) fun g118 _ _ l2 hV118=>?_)
    obtain ⟨rfl,rfl⟩:=hV118
    replace c0:=c0.mono l2.1
    replace hL5:=hL5.mono l2.1
    refine Ok.o (OpOk.s (v:=.bool (!(rwdS (rstV6 xt).2==Br))) (Yields.sc (f:=.neq) (a:=rwdS (rstV6 xt).2) (b:=Br) kr kr rfl) rfl rfl (Ok.nt (Ok.cw hF (fun hc119 hF=>?_) (fun hc119 hF=>?_))))
    ·refine Ok.r (Ok.b 2 [0,1,4,6] [(145,.func (.func 49) #[] #[]),(146,pv bxt 0)] ?_)
     obtain ⟨hp120,hF⟩:=hF
     refine Ok.o (OpOk.ch (ih_rex _ (rstV6 xt).2 0 c0 hp120) fun z5 _ _ P3 hV122=>?_)
     obtain ⟨Q0,hq121,w2,x2,a122_2,c122_2,rfl,hR122_0,hR122_2,rfl⟩:=hV122
     replace hF:=hF _ hq121
     replace hL5:=hL5.mono P3.1
     have e4:RepL z5 yJ ((lJ Q0.1 w2 x2):List Value) ([Q0.1]:List JN):=(RepL.consN (c:=(lJ Q0.1 w2 x2)) (Rep.tree.2 ⟨[iv Q0.1.lab.1,iv Q0.1.lab.2.1,sv Q0.1.lab.2.2],[.slice w2 Q0.1.kids.length x2],rfl,⟨[iv Q0.1.lab.1],[iv Q0.1.lab.2.1,sv Q0.1.lab.2.2],rfl,rfl,⟨[iv Q0.1.lab.2.1],[sv Q0.1.lab.2.2],rfl,rfl,rfl⟩⟩,hR122_0⟩) rfl)
     refine Ok.o (OpOk.li e4 fun G2=>?_)
     refine Ok.o (OpOk.inlineP (pv:=.iface 44 (.agg #[])) (args:=#[.slice (some ⟨G2,0,none⟩) ([Q0.1]:List JN).length 1]) 4 [(0,.slice (some ⟨G2,0,none⟩) ([Q0.1]:List JN).length 1)] enr func49 rfl rfl rfl rfl (Ok.sr (Ok.B 1 [(0,.slice (some ⟨G2,0,none⟩) ([Q0.1]:List JN).length 1)] kr (Ok.nt (Ok.sr (Ok.B 2 [(2,.slice (some ⟨G2,0,none⟩) ([Q0.1]:List JN).length 1)] kr (Ok.nt (Ok.ret (Ok.fine (.inl rfl) (Ok.back (vs:=[.slice (some ⟨G2,0,none⟩) ([Q0.1]:List JN).length 1]) (.inl rfl) rfl (.cons (.tmp rfl) .nil) rfl (Ok.B 1 [(0,pv bxt 0),(1,iv xwhere),(4,pv bs4 0),(6,pv bs6 0),(149,.slice (some ⟨G2,0,none⟩) ([Q0.1]:List JN).length 1),(150,pv bs6 3)] kr (Ok.o (OpOk.w1 3 ?_)))))))))))))
     refine Ok.j (Ok.t ?_)
     exact fun _ _ u v=>⟨z5,l2.trans P3,(some ⟨G2,0,none⟩),1,([Q0.1]:List JN),((lJ Q0.1 w2 x2):List Value),a122_2,c122_2,Q0.2.1,Q0.2.2,e4,hR122_2,fA u v hF⟩
    refine Ok.k (Ok.t ?_)
    exact fun a W hA hW=>⟨g118,l2,none,0,jZ,[],b4,c4,(rstV6 xt).2.1,(rstV6 xt).2.2,hL5,c0,hA.sub kr,hW.pick [1,0,2,3,4] _ dc rfl,hF⟩
   clear hF
   rintro _ _ ⟨t3,f4,U0,J0,b0,C0,j1,x1,y0,j0,K0,I0,q⟩
   refine jn (fun hF=>?_) _ _ q
   refine Ok.sr (Ok.b 1 [0,1,4,6] [(151,pv bxt 0)] ?_)
   have g4:RepL t3 (.str) ([sv Br]:List Value) ([Br]:List Bs):=(RepL.consN (c:=[sv Br]) rfl rfl)
   refine Ok.o (OpOk.li g4 fun b112=>?_)
   refine Ok.frz 0 rfl g4 fun g113 e3 H2=>?_
   replace K0:=K0.mono e3.1
   replace I0:=I0.mono e3.1
   obtain ⟨hp114,hF⟩:=hF
   refine Ok.en [1,0,2,3,4] ?_
   refine Ok.o (OpOk.ch (rne_c (y0,j0) ([Br]:List Bs) I0 H2 hp114) fun g115 _ _ f3 hV115=>?_)
   obtain ⟨a115_0,c115_0,rfl,hR115_0,rfl⟩:=hV115
   replace K0:=K0.mono f3.1
   refine Ok.nt (Ok.r (Ok.rn 6 [.e 0] [1,4,6] [(154,pv bxt 0),(159,.bool (rstV11 y0 j0).2)] ?_))
   refine Ok.w 4 [(4,pv bs4 0),(6,pv bs6 0),(154,pv bxt 0),(163,.bool ((rstV11 y0 j0).2||(bitAnd .i64 xwhere 1==0)))] (fun h4=>?_) ?_
   ·refine Ok.a 159 (rstV11 y0 j0).2 rfl (fun R3=>?_) (fun R3=>?_)
    ·skip
     refine Ok.b 4 [4,6,154] [(163,.bool true)] ?_
     refine Ok.rb 163 ((rstV11 y0 j0).2||(bitAnd .i64 xwhere 1==0)) (mor_t R3) (Ok.b 0 [4,6,154] [(163,.bool ((rstV11 y0 j0).2||(bitAnd .i64 xwhere 1==0)))] ?_)
     exact h4
    skip
    refine Ok.b 4 [4,6,154] [(163,.bool (bitAnd .i64 xwhere 1==0))] ?_
    refine Ok.rb 163 ((rstV11 y0 j0).2||(bitAnd .i64 xwhere 1==0)) (mor_f R3) (Ok.b 0 [4,6,154] [(163,.bool ((rstV11 y0 j0).2||(bitAnd .i64 xwhere 1==0)))] ?_)
    exact h4
   refine Ok.b 2 [4,6] [(163,.bool ((rstV11 y0 j0).2||(bitAnd .i64 xwhere 1==0))),(165,pv bxt 1)] ?_
   refine Ok.o (OpOk.w1 0 ?_)
   refine Ok.j (Ok.kn (Ok.t (Ok.he (E':=.blk bs6 (.cells (aM (rstV5 xt) 0 Bz U0 b0 J0) 24)) 2 (congrArg (fun l:List Value=>Ent.blk bs6 (.cells ⟨l⟩ 24)) (lcons (congrArg (Value.int .i64) (Eq.trans (Eq.trans (Eq.trans (Eq.trans (Eq.trans ((if_t X1).symm) ((if_f r2).symm)) ((if_f y2).symm)) ((if_f r1).symm)) ((if_f g1).symm)) ((if_f b1).symm))) (lcons (rfl) (lcons (rfl) (lcons (rfl) rfl))))) ?_)))
   exact fun _ _ u v=>⟨g115,((((M0.trans N0).trans f4).trans e3).trans f3),a115_0,c115_0,(rstV11 y0 j0).1,((rstV11 y0 j0).2||(bitAnd .i64 xwhere 1==0)),U0,J0,b0,C0,0,Bz,hR115_0,K0,fA u v hF⟩
  refine Ok.cg g24 [(0,pv bxt 0),(1,iv xwhere),(4,pv bs4 0),(5,.func (.func 49) #[] #[]),(6,pv bs6 0),(7,iv (rstV0 xt)),(17,iv (rstV6 xt).1),(166,.bool (((rstV6 xt).1==6)||((rstV6 xt).1==7)))] [.blk bxt (.cells (aT (rstV6 xt).2 b4 c4) 58),.own (.slice none jZ.length 0) 24 4 jZ.length ([]),.blk bs6 (.cells aZ 24),.blk bs4 (.cells aZ 24),.own (.slice none jZ.length 0) 24 4 jZ.length ([])] (rstj83 N xt xwhere K) ?_ (fun gj83 z1 hF=>?_)
  ·
   refine Ok.sr (Ok.b 2 [0,1,4,5,6,7,17] [(166,.bool ((rstV6 xt).1==6))] ?_)
   refine Ok.nt (Ok.cw hF (fun g3 hF=>?_) (fun g3 hF=>?_))
   ·refine Ok.k (Ok.t (Ok.rb 166 (((rstV6 xt).1==6)||((rstV6 xt).1==7)) (Eq.trans (g3) (mor_t g3)) ?_))
    exact fg hF
   refine Ok.r (Ok.b 2 [0,1,4,5,6,7,17] [(166,.bool ((rstV6 xt).1==7))] ?_)
   refine Ok.nt (Ok.rb 166 (((rstV6 xt).1==6)||((rstV6 xt).1==7)) (mor_f g3) ?_)
   exact fg hF
  replace c0:=c0.mono z1.1
  replace hL5:=hL5.mono z1.1
  refine Ok.cw hF (fun P1 hF=>?_) (fun P1 hF=>?_)
  ·refine Ok.sr (Ok.rn 6 [.e 0] [0,1,4,6,7] [(169,pv bxt 0),(174,.bool (rstV6 xt).2.2)] ?_)
   refine Ok.w 4 [(0,pv bxt 0),(4,pv bs4 0),(6,pv bs6 0),(7,iv (rstV0 xt)),(169,pv bxt 0),(178,.bool ((rstV6 xt).2.2||(bitAnd .i64 xwhere 2==0)))] (fun m4=>?_) ?_
   ·refine Ok.a 174 (rstV6 xt).2.2 rfl (fun T3=>?_) (fun T3=>?_)
    ·skip
     refine Ok.b 4 [0,4,6,7,169] [(178,.bool true)] ?_
     refine Ok.rb 178 ((rstV6 xt).2.2||(bitAnd .i64 xwhere 2==0)) (mor_t T3) (Ok.b 0 [0,4,6,7,169] [(178,.bool ((rstV6 xt).2.2||(bitAnd .i64 xwhere 2==0)))] ?_)
     exact m4
    skip
    refine Ok.b 4 [0,4,6,7,169] [(178,.bool (bitAnd .i64 xwhere 2==0))] ?_
    refine Ok.rb 178 ((rstV6 xt).2.2||(bitAnd .i64 xwhere 2==0)) (mor_f T3) (Ok.b 0 [0,4,6,7,169] [(178,.bool ((rstV6 xt).2.2||(bitAnd .i64 xwhere 2==0)))] ?_)
    exact m4
   refine Ok.b 2 [0,4,6,7] [(178,.bool ((rstV6 xt).2.2||(bitAnd .i64 xwhere 2==0))),(180,pv bxt 1)] ?_
   refine Ok.o (OpOk.w1 0 ?_)
   refine Ok.nt (Ok.sr (Ok.b 2 [0,4,6] [(181,iv (rstV0 xt)),(182,pv bs6 0)] ?_))
   refine Ok.o (OpOk.w1 2 ?_)
   refine Ok.nt (Ok.r (Ok.b 1 [4,6] [(183,pv bxt 0)] ?_))
   have n4:RepL gj83 (.str) ([sv Br]:List Value) ([Br]:List Bs):=(RepL.consN (c:=[sv Br]) rfl rfl)
   refine Ok.o (OpOk.li n4 fun b127=>?_)
   refine Ok.frz 0 rfl n4 fun g128 h3 M2=>?_
   replace c0:=c0.mono h3.1
   replace hL5:=hL5.mono h3.1
   obtain ⟨hp129,hF⟩:=hF
   refine Ok.o (OpOk.ch (rne_c ((rstV6 xt).2.1,((rstV6 xt).2.2||(bitAnd .i64 xwhere 2==0))) ([Br]:List Bs) c0 M2 hp129) fun g130 _ _ m3 hV130=>?_)
   obtain ⟨a130_0,c130_0,rfl,hR130_0,rfl⟩:=hV130
   replace hL5:=hL5.mono m3.1
   refine Ok.j (Ok.kn (Ok.t (Ok.he (E':=.blk bs6 (.cells (aM (rstV5 xt) 0 Bz none jZ 0) 24)) 2 (congrArg (fun l:List Value=>Ent.blk bs6 (.cells ⟨l⟩ 24)) (lcons (congrArg (Value.int .i64) (Eq.trans (Eq.trans (Eq.trans (Eq.trans (Eq.trans (Eq.trans ((if_t P1).symm) ((if_f X1).symm)) ((if_f r2).symm)) ((if_f y2).symm)) ((if_f r1).symm)) ((if_f g1).symm)) ((if_f b1).symm))) (lcons (rfl) (lcons (rfl) (lcons (rfl) rfl))))) ?_)))
   exact fun _ _ u v=>⟨g130,((((M0.trans N0).trans z1).trans h3).trans m3),a130_0,c130_0,(rstV12 xt xwhere).1,(rstV12 xt xwhere).2,none,0,jZ,[],0,Bz,hR130_0,hL5,fA u v hF⟩
  refine Ok.sr (Ok.b 2 [0,1,4,5,6,17] [(186,.bool ((rstV6 xt).1==8))] ?_)
  refine Ok.nt (Ok.cw hF (fun a2 hF=>?_) (fun a2 hF=>?_))
  ·refine Ok.sr (Ok.b 2 [0,4,6] [(188,.func (.func 49) #[] #[]),(189,pv bxt 0)] ?_)
   obtain ⟨hp132,hF⟩:=hF
   refine Ok.o (OpOk.ch (ih_rex _ (rstV6 xt).2 0 c0 hp132) fun v5 _ _ L3 hV134=>?_)
   obtain ⟨t0,hq133,s2,b2,a134_2,c134_2,rfl,hR134_0,c2,rfl⟩:=hV134
   replace hF:=hF _ hq133
   have R1:RepL v5 yJ ((lJ t0.1 s2 b2):List Value) ([t0.1]:List JN):=(RepL.consN (c:=(lJ t0.1 s2 b2)) (Rep.tree.2 ⟨[iv t0.1.lab.1,iv t0.1.lab.2.1,sv t0.1.lab.2.2],[.slice s2 t0.1.kids.length b2],rfl,⟨[iv t0.1.lab.1],[iv t0.1.lab.2.1,sv t0.1.lab.2.2],rfl,rfl,⟨[iv t0.1.lab.2.1],[sv t0.1.lab.2.2],rfl,rfl,rfl⟩⟩,hR134_0⟩) rfl)
   refine Ok.o (OpOk.li R1 fun i2=>?_)
   refine Ok.o (OpOk.inlineP (pv:=.iface 44 (.agg #[])) (args:=#[.slice (some ⟨i2,0,none⟩) ([t0.1]:List JN).length 1]) 4 [(0,.slice (some ⟨i2,0,none⟩) ([t0.1]:List JN).length 1)] enr func49 rfl rfl rfl rfl (Ok.sr (Ok.B 1 [(0,.slice (some ⟨i2,0,none⟩) ([t0.1]:List JN).length 1)] kr (Ok.nt (Ok.sr (Ok.B 2 [(2,.slice (some ⟨i2,0,none⟩) ([t0.1]:List JN).length 1)] kr (Ok.nt (Ok.ret (Ok.fine (.inl rfl) (Ok.back (vs:=[.slice (some ⟨i2,0,none⟩) ([t0.1]:List JN).length 1]) (.inl rfl) rfl (.cons (.tmp rfl) .nil) rfl (Ok.B 1 [(0,pv bxt 0),(4,pv bs4 0),(6,pv bs6 0),(192,.slice (some ⟨i2,0,none⟩) ([t0.1]:List JN).length 1),(193,pv bs6 0)] kr (Ok.o (OpOk.w1 3 ?_)))))))))))))
   refine Ok.b 1 [0,4,6,192] [(194,pv bs6 3)] ?_
   refine Ok.o (OpOk.w1 3 ?_)
   refine Ok.nt (Ok.r (Ok.b 1 [4,6] [(195,pv bxt 0)] ?_))
   have o4:RepL v5 (.str) ([sv Br]:List Value) ([Br]:List Bs):=(RepL.consN (c:=[sv Br]) rfl rfl)
   refine Ok.o (OpOk.li o4 fun b136=>?_)
   refine Ok.frz 0 rfl o4 fun g137 Z2 N2=>?_
   replace R1:=R1.mono Z2.1
   replace c2:=c2.mono Z2.1
   obtain ⟨hp138,hF⟩:=hF
   refine Ok.en [1,0,2,3,4,5] ?_
   refine Ok.o (OpOk.ch (rne_c t0.2 ([Br]:List Bs) c2 N2 hp138) fun g139 _ _ V2 hV139=>?_)
   obtain ⟨a139_0,c139_0,rfl,hR139_0,rfl⟩:=hV139
   replace R1:=R1.mono V2.1
   refine Ok.j (Ok.kn (Ok.t (Ok.he (E':=.blk bs6 (.cells (aM (rstV5 xt) 0 Bz (some ⟨i2,0,none⟩) ([t0.1]:List JN) 1) 24)) 3 (congrArg (fun l:List Value=>Ent.blk bs6 (.cells ⟨l⟩ 24)) (lcons (congrArg (Value.int .i64) (Eq.trans (Eq.trans (Eq.trans (Eq.trans (Eq.trans (Eq.trans (Eq.trans ((if_t a2).symm) ((if_f P1).symm)) ((if_f X1).symm)) ((if_f r2).symm)) ((if_f y2).symm)) ((if_f r1).symm)) ((if_f g1).symm)) ((if_f b1).symm))) (lcons (rfl) (lcons (rfl) (lcons (rfl) rfl))))) ?_)))
   exact fun _ _ u v=>⟨g139,(((((M0.trans N0).trans z1).trans L3).trans Z2).trans V2),a139_0,c139_0,(neS t0.2 ([Br]:List Bs)).1,(neS t0.2 ([Br]:List Bs)).2,(some ⟨i2,0,none⟩),1,([t0.1]:List JN),((lJ t0.1 s2 b2):List Value),0,Bz,hR139_0,R1,fA u v hF⟩
  refine Ok.sr (Ok.b 2 [0,1,4,5,6] [(198,.bool ((rstV6 xt).1==9))] ?_)
  refine Ok.nt (Ok.cw hF (fun n3 hF=>?_) (fun n3 hF=>?_))
  ·refine Ok.sr (Ok.b 3 [0,1,4,6] [(200,.func (.func 49) #[] #[]),(201,pv bxt 0),(202,iv xwhere)] ?_)
   obtain ⟨hp141,hF⟩:=hF
   refine Ok.o (OpOk.ch (ih_rbl _ (rstV6 xt).2 xwhere c0 hp141) fun J4 _ _ T1 hV143=>?_)
   obtain ⟨q0,hq142,d2,e2,a143_2,c143_2,rfl,hR143_0,f2,rfl⟩:=hV143
   replace hF:=hF _ hq142
   have D0:RepL J4 yJ ((lJ q0.1 d2 e2):List Value) ([q0.1]:List JN):=(RepL.consN (c:=(lJ q0.1 d2 e2)) (Rep.tree.2 ⟨[iv q0.1.lab.1,iv q0.1.lab.2.1,sv q0.1.lab.2.2],[.slice d2 q0.1.kids.length e2],rfl,⟨[iv q0.1.lab.1],[iv q0.1.lab.2.1,sv q0.1.lab.2.2],rfl,rfl,⟨[iv q0.1.lab.2.1],[sv q0.1.lab.2.2],rfl,rfl,rfl⟩⟩,hR143_0⟩) rfl)
   refine Ok.o (OpOk.li D0 fun N1=>?_)
   refine Ok.o (OpOk.inlineP (pv:=.iface 44 (.agg #[])) (args:=#[.slice (some ⟨N1,0,none⟩) ([q0.1]:List JN).length 1]) 4 [(0,.slice (some ⟨N1,0,none⟩) ([q0.1]:List JN).length 1)] enr func49 rfl rfl rfl rfl (Ok.sr (Ok.B 1 [(0,.slice (some ⟨N1,0,none⟩) ([q0.1]:List JN).length 1)] kr (Ok.nt (Ok.sr (Ok.B 2 [(2,.slice (some ⟨N1,0,none⟩) ([q0.1]:List JN).length 1)] kr (Ok.nt (Ok.ret (Ok.fine (.inl rfl) (Ok.back (vs:=[.slice (some ⟨N1,0,none⟩) ([q0.1]:List JN).length 1]) (.inl rfl) rfl (.cons (.tmp rfl) .nil) rfl (Ok.B 1 [(0,pv bxt 0),(1,iv xwhere),(4,pv bs4 0),(6,pv bs6 0),(205,.slice (some ⟨N1,0,none⟩) ([q0.1]:List JN).length 1),(206,pv bs6 0)] kr (Ok.o (OpOk.w1 3 ?_)))))))))))))
   refine Ok.b 1 [0,1,4,6,205] [(207,pv bs6 3)] ?_
   refine Ok.o (OpOk.w1 3 ?_)
   refine Ok.nt (Ok.cut (fun a W=>∃ S1:Ghost,Gext w0 J4 S1∧∃ (v1:Option Addr) (q1:Nat) (z0:List TK) (v0:Bool) (d0:Option Addr) (e0:Nat) (k0:List JN) (W0:List Value),Rep S1 yTs [.slice v1 z0.length q1] z0∧RepL S1 yJ W0 k0∧StA 259 [(0,pv bxt 0),(1,iv xwhere),(4,pv bs4 0),(6,pv bs6 0)] a∧StW w0 [.blk bxt (.cells #[.slice v1 z0.length q1,.bool v0] 58),.own (.slice d0 k0.length e0) 24 4 k0.length W0,.blk bs6 (.cells (aM 29 (rstV13 q0) (rstV14 q0) d0 k0 e0) 24),.blk bs4 (.cells aZ 24),.own (.slice none jZ.length 0) 24 4 jZ.length ([])] S1 W∧rstj106 N xt xwhere K z0 v0 q0 k0) ?_ ?_)
   ·
    refine Ok.sr (Ok.b 1 [0,1,4,6] [(208,pv bxt 0)] ?_)
    have p4:RepL J4 (.str) ([sv BG]:List Value) ([BG]:List Bs):=(RepL.consN (c:=[sv BG]) rfl rfl)
    refine Ok.o (OpOk.li p4 fun b156=>?_)
    refine Ok.frz 0 rfl p4 fun g157 B1 O2=>?_
    replace D0:=D0.mono B1.1
    replace f2:=f2.mono B1.1
    obtain ⟨hp158,hF⟩:=hF
    refine Ok.en [1,0,2,3,4,5] ?_
    refine Ok.o (OpOk.ch (rwa_c q0.2 ([BG]:List Bs) f2 O2 hp158) fun q5 _ _ C1 hV159=>?_)
    obtain ⟨a159_0,c159_0,rfl,a1,rfl⟩:=hV159
    replace D0:=D0.mono C1.1
    refine Ok.b 1 [0,1,4,6] [(211,.bool ((rstV17 q0).1==0))] ?_
    refine Ok.nt (Ok.cw hF (fun Q2 hF=>?_) (fun Q2 hF=>?_))
    ·refine Ok.sr (Ok.b 1 [0,1,4,6] [(212,pv bxt 0)] ?_)
     have r4:RepL q5 (.str) ([sv Bx]:List Value) ([Bx]:List Bs):=(RepL.consN (c:=[sv Bx]) rfl rfl)
     refine Ok.o (OpOk.li r4 fun b161=>?_)
     refine Ok.frz 0 rfl r4 fun g162 L1 P2=>?_
     replace a1:=a1.mono L1.1
     replace D0:=D0.mono L1.1
     obtain ⟨hp163,hF⟩:=hF
     refine Ok.o (OpOk.ch (rne_c (rstV17 q0).2 ([Bx]:List Bs) a1 P2 hp163) fun g164 _ _ A1 hV164=>?_)
     obtain ⟨a164_0,c164_0,rfl,hR164_0,rfl⟩:=hV164
     replace D0:=D0.mono A1.1
     refine Ok.nt (Ok.sr (Ok.b 1 [0,1,4,6] [(215,pv bxt 0)] ?_))
     refine Ok.o (OpOk.ch (rnm_c (rstV18 q0) hR164_0) fun g165 _ _ K2 hV165=>?_)
     obtain ⟨a165_0,c165_0,rfl,g2,rfl⟩:=hV165
     replace D0:=D0.mono K2.1
     refine Ok.b 1 [0,1,4,6] [(216,sv ((rnmS (rstV18 q0)).1)),(217,pv bs6 1)] ?_
     refine Ok.o (OpOk.w1 3 ?_)
     refine Ok.b 1 [0,1,4,6,216] [(218,pv bs6 2)] ?_
     refine Ok.o (OpOk.w1 3 ?_)
     refine Ok.nt (Ok.sr (Ok.b 1 [0,1,4,6] [(219,pv bxt 0)] ?_))
     have t4:RepL g165 (.str) ([sv By]:List Value) ([By]:List Bs):=(RepL.consN (c:=[sv By]) rfl rfl)
     refine Ok.o (OpOk.li t4 fun b166=>?_)
     refine Ok.frz 0 rfl t4 fun g167 I1 R2=>?_
     replace g2:=g2.mono I1.1
     replace D0:=D0.mono I1.1
     obtain ⟨hp168,hF⟩:=hF
     refine Ok.o (OpOk.ch (rne_c (rnmS (rstV18 q0)).2 ([By]:List Bs) g2 R2 hp168) fun g169 _ _ z2 hV169=>?_)
     obtain ⟨a169_0,c169_0,rfl,hR169_0,rfl⟩:=hV169
     replace D0:=D0.mono z2.1
     refine Ok.nt (Ok.mx (pT (((((((((((o1.trans M0).trans N0).trans z1).trans T1).trans B1).trans C1).trans L1).trans A1).trans K2).trans I1).trans z2) id) [0,1,2,3] [4,5] [0,1,1,1,1,1] [0,1,0,1,1] [(0,true),(1,true),(2,true),(3,true),(4,false),(5,false),(6,false),(7,true),(8,false)] ?_)
     refine OkME.bat 1 [0,1,4,6] [(222,pv bs6 3)] ?_
     refine OkME.hd (OpQ.s (v:=.slice (some ⟨N1,0,none⟩) ([q0.1]:List JN).length 1) (Yields.l 2 rfl rfl underlying22 rfl kr) rfl rfl ?_)
     refine OkME.bat 2 [0,1,4,6] [(223,.slice (some ⟨N1,0,none⟩) ([q0.1]:List JN).length 1),(224,pv bxt 0),(225,iv xwhere)] ?_
     obtain ⟨hp170,hF⟩:=hF
     refine OkME.tail rfl rfl (OpOk.ch (ih_rbl _ (rstV19 q0) xwhere hR169_0 hp170) fun k5 _ _ n1 hV172=>?_)
     obtain ⟨B0,hq171,T2,L2,a172_2,c172_2,rfl,hR172_0,hR172_2,rfl⟩:=hV172
     replace hF:=hF _ hq171
     replace D0:=D0.mono n1.1
     refine OkME.l1 n1.1 ?_
     have l4:RepL k5 yJ ((lJ B0.1 T2 L2):List Value) ([B0.1]:List JN):=(RepL.consN (c:=(lJ B0.1 T2 L2)) (Rep.tree.2 ⟨[iv B0.1.lab.1,iv B0.1.lab.2.1,sv B0.1.lab.2.2],[.slice T2 B0.1.kids.length L2],rfl,⟨[iv B0.1.lab.1],[iv B0.1.lab.2.1,sv B0.1.lab.2.2],rfl,rfl,⟨[iv B0.1.lab.2.1],[sv B0.1.lab.2.2],rfl,rfl,rfl⟩⟩,hR172_0⟩) rfl)
     refine OkME.tail rfl rfl (OpOk.li l4 fun b173=>?_)
     refine OkME.l1 n1.1 ?_
     obtain ⟨hb174,hF⟩:=hF
     refine OkME.tail rfl rfl (OpOk.append' (e:=yJ) 56 2513169434916 2 0 rfl rfl rfl rfl D0 l4 underlying22 kr kr kr hb174 rfl fun W4 X4 xs174 hL174=>?_)
     refine OkME.l1 n1.1 (OkME.bat 1 [0,1,4,6] [(228,.slice W4 (([q0.1]:List JN)++([B0.1]:List JN)).length X4),(229,pv bs6 3)] ?_)
     refine OkME.tail rfl rfl (OpOk.w1 4 ?_)
     refine OkME.l1 n1.1 (OkME.nil (Ok.t (Ok.he (E':=.blk bs6 (.cells (aM 29 (rstV13 q0) (rstV14 q0) W4 (([q0.1]:List JN)++([B0.1]:List JN)) X4) 24)) 4 (congrArg (fun l:List Value=>Ent.blk bs6 (.cells ⟨l⟩ 24)) (lcons (rfl) (lcons (congrArg (Value.int .i64) ((if_t Q2).symm)) (lcons (congrArg (fun s:Bs=>Value.string ⟨⟨s⟩⟩) ((if_t Q2).symm)) (lcons (rfl) rfl))))) ?_)))
     exact fun _ _ u v=>⟨k5,(((((((B1.trans C1).trans L1).trans A1).trans K2).trans I1).trans z2).trans n1),a172_2,c172_2,B0.2.1,B0.2.2,W4,X4,(([q0.1]:List JN)++([B0.1]:List JN)),xs174,hR172_2,hL174,fA u v hF⟩
    refine Ok.k (Ok.t (Ok.he (E':=.blk bs6 (.cells (aM 29 (rstV13 q0) (rstV14 q0) (some ⟨N1,0,none⟩) ([q0.1]:List JN) 1) 24)) 3 (congrArg (fun l:List Value=>Ent.blk bs6 (.cells ⟨l⟩ 24)) (lcons (rfl) (lcons (congrArg (Value.int .i64) ((if_f Q2).symm)) (lcons (congrArg (fun s:Bs=>Value.string ⟨⟨s⟩⟩) ((if_f Q2).symm)) (lcons (rfl) rfl))))) ?_))
    exact fun _ _ u v=>⟨q5,B1.trans C1,a159_0,c159_0,(rstV17 q0).2.1,(rstV17 q0).2.2,(some ⟨N1,0,none⟩),1,([q0.1]:List JN),((lJ q0.1 d2 e2):List Value),a1,D0,fA u v hF⟩
   clear hF
   rintro _ _ ⟨S1,h2,v1,q1,z0,v0,d0,e0,k0,W0,T0,s0,q⟩
   refine jn (fun hF=>?_) _ _ q
   refine Ok.cut (fun a W=>∃ D1:Ghost,Gext w0 S1 D1∧∃ (G0:Option Addr) (H0:Nat) (o0:List TK) (X0:Bool) (f0:Option Addr) (g0:Nat) (u0:List JN) (a0:List Value),Rep D1 yTs [.slice G0 o0.length H0] o0∧RepL D1 yJ a0 u0∧StA 259 [(0,pv bxt 0),(4,pv bs4 0),(6,pv bs6 0)] a∧StW w0 [.blk bxt (.cells #[.slice G0 o0.length H0,.bool X0] 58),.own (.slice f0 u0.length g0) 24 4 u0.length a0,.blk bs6 (.cells (aM 29 (rstV15 z0 v0 q0) (rstV14 q0) f0 u0 g0) 24),.blk bs4 (.cells aZ 24),.own (.slice none jZ.length 0) 24 4 jZ.length ([])] D1 W∧rstj118 xt K z0 v0 o0 X0 q0 u0) ?_ ?_
   ·
    refine Ok.sr (Ok.b 1 [0,1,4,6] [(230,pv bxt 0)] ?_)
    have a4:RepL S1 (.str) ([sv BH]:List Value) ([BH]:List Bs):=(RepL.consN (c:=[sv BH]) rfl rfl)
    refine Ok.o (OpOk.li a4 fun b146=>?_)
    refine Ok.frz 0 rfl a4 fun g147 v2 A2=>?_
    replace T0:=T0.mono v2.1
    replace s0:=s0.mono v2.1
    obtain ⟨hp148,hF⟩:=hF
    refine Ok.o (OpOk.ch (rwa_c (z0,v0) ([BH]:List Bs) T0 A2 hp148) fun g149 _ _ q2 hV149=>?_)
    obtain ⟨a149_0,c149_0,rfl,o3,rfl⟩:=hV149
    replace s0:=s0.mono q2.1
    refine Ok.b 1 [0,1,4,6] [(233,.bool ((rstV16 z0 v0).1==0))] ?_
    refine Ok.nt (Ok.cw hF (fun A3 hF=>?_) (fun A3 hF=>?_))
    ·refine Ok.sr (Ok.rn 4 [.e 2] [0,1,4,6] [(236,iv (w6 ((rstV13 q0)+2))),(237,pv bs6 1)] ?_)
     refine Ok.o (OpOk.w1 2 ?_)
     refine Ok.nt (Ok.mx (pT (((((((o1.trans M0).trans N0).trans z1).trans T1).trans h2).trans v2).trans q2) id) [0,1,2,3] [4,5] [0,1,1,1,1] [0,0,1,1] [(0,true),(1,true),(2,true),(3,true),(4,false),(5,false),(6,false),(7,true),(8,false)] ?_)
     refine OkME.bat 1 [0,1,4,6] [(238,pv bs6 3)] ?_
     refine OkME.hd (OpQ.s (v:=.slice d0 k0.length e0) (Yields.l 1 rfl rfl underlying22 rfl kr) rfl rfl ?_)
     refine OkME.bat 2 [0,4,6] [(239,.slice d0 k0.length e0),(240,pv bxt 0),(241,iv xwhere)] ?_
     obtain ⟨hp151,hF⟩:=hF
     refine OkME.tail rfl rfl (OpOk.ch (ih_rbl _ (rstV16 z0 v0).2 xwhere o3 hp151) fun y5 _ _ E1 hV153=>?_)
     obtain ⟨S0,hq152,I2,z3,a153_2,c153_2,rfl,hR153_0,hR153_2,rfl⟩:=hV153
     replace hF:=hF _ hq152
     replace s0:=s0.mono E1.1
     refine OkME.l1 E1.1 ?_
     have i4:RepL y5 yJ ((lJ S0.1 I2 z3):List Value) ([S0.1]:List JN):=(RepL.consN (c:=(lJ S0.1 I2 z3)) (Rep.tree.2 ⟨[iv S0.1.lab.1,iv S0.1.lab.2.1,sv S0.1.lab.2.2],[.slice I2 S0.1.kids.length z3],rfl,⟨[iv S0.1.lab.1],[iv S0.1.lab.2.1,sv S0.1.lab.2.2],rfl,rfl,⟨[iv S0.1.lab.2.1],[sv S0.1.lab.2.2],rfl,rfl,rfl⟩⟩,hR153_0⟩) rfl)
     refine OkME.tail rfl rfl (OpOk.li i4 fun b154=>?_)
     refine OkME.l1 E1.1 ?_
     obtain ⟨hb155,hF⟩:=hF
     refine OkME.tail rfl rfl (OpOk.append' (e:=yJ) 56 2513169434916 2 0 rfl rfl rfl rfl s0 i4 underlying22 kr kr kr hb155 rfl fun S4 B4 xs155 hL155=>?_)
     refine OkME.l1 E1.1 (OkME.bat 1 [0,4,6] [(244,.slice S4 (k0++([S0.1]:List JN)).length B4),(245,pv bs6 3)] ?_)
     refine OkME.tail rfl rfl (OpOk.w1 3 ?_)
     refine OkME.l1 E1.1 (OkME.nil (Ok.t (Ok.he (E':=.blk bs6 (.cells (aM 29 (rstV15 z0 v0 q0) (rstV14 q0) S4 (k0++([S0.1]:List JN)) B4) 24)) 3 (congrArg (fun l:List Value=>Ent.blk bs6 (.cells ⟨l⟩ 24)) (lcons (rfl) (lcons (congrArg (Value.int .i64) ((if_t A3).symm)) (lcons (rfl) (lcons (rfl) rfl))))) ?_)))
     exact fun _ _ u v=>⟨y5,((v2.trans q2).trans E1),a153_2,c153_2,S0.2.1,S0.2.2,S4,B4,(k0++([S0.1]:List JN)),xs155,hR153_2,hL155,fA u v hF⟩
    refine Ok.k (Ok.t (Ok.he (E':=.blk bs6 (.cells (aM 29 (rstV15 z0 v0 q0) (rstV14 q0) d0 k0 e0) 24)) 2 (congrArg (fun l:List Value=>Ent.blk bs6 (.cells ⟨l⟩ 24)) (lcons (rfl) (lcons (congrArg (Value.int .i64) ((if_f A3).symm)) (lcons (rfl) (lcons (rfl) rfl))))) ?_))
    exact fun _ _ u v=>⟨g149,v2.trans q2,a149_0,c149_0,(rstV16 z0 v0).2.1,(rstV16 z0 v0).2.2,d0,e0,k0,W0,o3,s0,fA u v hF⟩
   clear hF
   rintro _ _ ⟨D1,v3,G0,H0,o0,X0,f0,g0,u0,a0,f1,L0,q⟩
   refine jn (fun hF=>?_) _ _ q
   refine Ok.r (Ok.rn 6 [.e 0] [4,6] [(246,pv bxt 0),(251,.bool X0)] ?_)
   refine Ok.bw 251 hF (fun hc145 hF=>?_) (fun hc145 hF=>?_)
   ·refine Ok.b 6 [4,6] [(255,.bool true),(257,pv bxt 1)] ?_
    refine Ok.o (OpOk.w1 0 ?_)
    refine Ok.j (Ok.kn (Ok.t (Ok.he (E':=.blk bs6 (.cells (aM (rstV5 xt) (rstV15 z0 v0 q0) (rstV14 q0) f0 u0 g0) 24)) 2 (congrArg (fun l:List Value=>Ent.blk bs6 (.cells ⟨l⟩ 24)) (lcons (congrArg (Value.int .i64) (Eq.trans (Eq.trans (Eq.trans (Eq.trans (Eq.trans (Eq.trans (Eq.trans (Eq.trans ((if_t n3).symm) ((if_f a2).symm)) ((if_f P1).symm)) ((if_f X1).symm)) ((if_f r2).symm)) ((if_f y2).symm)) ((if_f r1).symm)) ((if_f g1).symm)) ((if_f b1).symm))) (lcons (rfl) (lcons (rfl) (lcons (rfl) rfl))))) ?_)))
    exact fun _ _ u v=>⟨D1,(((((M0.trans N0).trans z1).trans T1).trans h2).trans v3),G0,H0,o0,true,f0,g0,u0,a0,rstV15 z0 v0 q0,rstV14 q0,f1,L0,fA u v hF⟩
   refine Ok.rn 6 [.e 2] [4,6] [(255,.bool (rstV15 z0 v0 q0==0)),(257,pv bxt 1)] ?_
   refine Ok.o (OpOk.w1 0 ?_)
   refine Ok.j (Ok.kn (Ok.t (Ok.he (E':=.blk bs6 (.cells (aM (rstV5 xt) (rstV15 z0 v0 q0) (rstV14 q0) f0 u0 g0) 24)) 2 (congrArg (fun l:List Value=>Ent.blk bs6 (.cells ⟨l⟩ 24)) (lcons (congrArg (Value.int .i64) (Eq.trans (Eq.trans (Eq.trans (Eq.trans (Eq.trans (Eq.trans (Eq.trans (Eq.trans ((if_t n3).symm) ((if_f a2).symm)) ((if_f P1).symm)) ((if_f X1).symm)) ((if_f r2).symm)) ((if_f y2).symm)) ((if_f r1).symm)) ((if_f g1).symm)) ((if_f b1).symm))) (lcons (rfl) (lcons (rfl) (lcons (rfl) rfl))))) ?_)))
   exact fun _ _ u v=>⟨D1,(((((M0.trans N0).trans z1).trans T1).trans h2).trans v3),G0,H0,o0,(rstV15 z0 v0 q0==0),f0,g0,u0,a0,rstV15 z0 v0 q0,rstV14 q0,f1,L0,fA u v hF⟩
  refine Ok.q (Ok.sr (Ok.b 1 [0,1,4,5,6] [(18,pv bxt 0)] ?_))
  refine Ok.o (OpOk.ch (rwd_c (rstV6 xt).2 c0) fun g175 _ _ Y2 hV175=>?_)
  obtain ⟨rfl,rfl⟩:=hV175
  replace c0:=c0.mono Y2.1
  refine Ok.o (OpOk.s (v:=.bool (rwdS (rstV6 xt).2==Bc)) (Yields.sc (f:=.eql) (a:=rwdS (rstV6 xt).2) (b:=Bc) kr kr rfl) rfl rfl (Ok.nt (Ok.cw hF (fun hc176 hF=>?_) (fun hc176 hF=>?_))))
  ·refine Ok.sr (Ok.b 2 [4] [(21,pv bxt 0),(22,iv xwhere)] ?_)
   obtain ⟨hp177,hF⟩:=hF
   refine Ok.o (OpOk.ch (ih_rbl _ (rstV6 xt).2 xwhere c0 hp177) fun g179 _ _ I3 hV179=>?_)
   obtain ⟨y1,hq178,q3,k3,z4,v4,rfl,hR179_0,hR179_2,rfl⟩:=hV179
   replace hF:=hF _ hq178
   refine Ok.o (OpOk.w 3 ?_)
   refine Ok.nt (Ok.ret (Ok.tr (Ok.kr (Ok.tr ?_))))
   exact Ok.fine (.inl rfl) (Ok.p (vs:=[.agg (aJ y1.1 q3 k3)]) [0] [.blk bxt (.cells (aT y1.2 z4 v4) 58)] dc rfl (.inl rfl) rfl (.cons (.cellAgg 3 4 (aJ y1.1 q3 k3) rfl rfl underlying24 rfl kr kr kr) .nil) (((((o1.trans M0).trans N0).trans z1).trans Y2).trans I3) ⟨y1.1,y1.2,q3,k3,z4,v4,rfl,hR179_0,hR179_2,rfl,hF⟩)
  refine Ok.k (Ok.t (Ok.sr (Ok.b 2 [0,4,6] [(24,.func (.func 49) #[] #[]),(25,pv bxt 0)] ?_)))
  obtain ⟨hp180,hF⟩:=hF
  refine Ok.o (OpOk.ch (ih_rex _ (rstV6 xt).2 0 c0 hp180) fun u5 _ _ q4 hV182=>?_)
  obtain ⟨l0,hq181,m2,n2,a182_2,c182_2,rfl,hR182_0,o2,rfl⟩:=hV182
  replace hF:=hF _ hq181
  have k2:RepL u5 yJ ((lJ l0.1 m2 n2):List Value) ([l0.1]:List JN):=(RepL.consN (c:=(lJ l0.1 m2 n2)) (Rep.tree.2 ⟨[iv l0.1.lab.1,iv l0.1.lab.2.1,sv l0.1.lab.2.2],[.slice m2 l0.1.kids.length n2],rfl,⟨[iv l0.1.lab.1],[iv l0.1.lab.2.1,sv l0.1.lab.2.2],rfl,rfl,⟨[iv l0.1.lab.2.1],[sv l0.1.lab.2.2],rfl,rfl,rfl⟩⟩,hR182_0⟩) rfl)
  refine Ok.o (OpOk.li k2 fun U2=>?_)
  refine Ok.o (OpOk.inlineP (pv:=.iface 44 (.agg #[])) (args:=#[.slice (some ⟨U2,0,none⟩) ([l0.1]:List JN).length 1]) 4 [(0,.slice (some ⟨U2,0,none⟩) ([l0.1]:List JN).length 1)] enr func49 rfl rfl rfl rfl (Ok.sr (Ok.B 1 [(0,.slice (some ⟨U2,0,none⟩) ([l0.1]:List JN).length 1)] kr (Ok.nt (Ok.sr (Ok.B 2 [(2,.slice (some ⟨U2,0,none⟩) ([l0.1]:List JN).length 1)] kr (Ok.nt (Ok.ret (Ok.fine (.inl rfl) (Ok.back (vs:=[.slice (some ⟨U2,0,none⟩) ([l0.1]:List JN).length 1]) (.inl rfl) rfl (.cons (.tmp rfl) .nil) rfl (Ok.B 1 [(0,pv bxt 0),(4,pv bs4 0),(6,pv bs6 0),(28,.slice (some ⟨U2,0,none⟩) ([l0.1]:List JN).length 1),(29,pv bs6 0)] kr (Ok.o (OpOk.w1 3 ?_)))))))))))))
  refine Ok.b 1 [0,4,6,28] [(30,pv bs6 3)] ?_
  refine Ok.o (OpOk.w1 3 ?_)
  refine Ok.nt (Ok.r (Ok.b 1 [4,6] [(31,pv bxt 0)] ?_))
  have Z4:RepL u5 (.str) ([sv Br]:List Value) ([Br]:List Bs):=(RepL.consN (c:=[sv Br]) rfl rfl)
  refine Ok.o (OpOk.li Z4 fun b184=>?_)
  refine Ok.frz 0 rfl Z4 fun g185 J2 y3=>?_
  replace k2:=k2.mono J2.1
  replace o2:=o2.mono J2.1
  obtain ⟨hp186,hF⟩:=hF
  refine Ok.en [1,0,2,3,4,5] ?_
  refine Ok.o (OpOk.ch (rne_c l0.2 ([Br]:List Bs) o2 y3 hp186) fun g187 _ _ W2 hV187=>?_)
  obtain ⟨a187_0,c187_0,rfl,hR187_0,rfl⟩:=hV187
  replace k2:=k2.mono W2.1
  refine Ok.j (Ok.kn (Ok.t (Ok.he (E':=.blk bs6 (.cells (aM (rstV5 xt) 0 Bz (some ⟨U2,0,none⟩) ([l0.1]:List JN) 1) 24)) 3 (congrArg (fun l:List Value=>Ent.blk bs6 (.cells ⟨l⟩ 24)) (lcons (congrArg (Value.int .i64) (Eq.trans (Eq.trans (Eq.trans (Eq.trans (Eq.trans (Eq.trans (Eq.trans (Eq.trans ((if_f n3).symm) ((if_f a2).symm)) ((if_f P1).symm)) ((if_f X1).symm)) ((if_f r2).symm)) ((if_f y2).symm)) ((if_f r1).symm)) ((if_f g1).symm)) ((if_f b1).symm))) (lcons (rfl) (lcons (rfl) (lcons (rfl) rfl))))) ?_)))
  exact fun _ _ u v=>⟨g187,((((((M0.trans N0).trans z1).trans Y2).trans q4).trans J2).trans W2),a187_0,c187_0,(neS l0.2 ([Br]:List Bs)).1,(neS l0.2 ([Br]:List Bs)).2,(some ⟨U2,0,none⟩),1,([l0.1]:List JN),((lJ l0.1 m2 n2):List Value),0,Bz,hR187_0,k2,fA u v hF⟩
 clear hF
 rintro _ _ ⟨Q3,V4,O0,P0,Y0,E0,m0,n0,x0,R0,i0,Z0,k1,hLyown19_0j15,q⟩
 refine jn (fun hF=>?_) _ _ q
 refine Ok.sr (Ok.o (OpOk.s (v:=.agg (aM (rstV5 xt) i0 Z0 m0 x0 n0)) (Yields.loadAgg 2 4 (aM (rstV5 xt) i0 Z0 m0 x0 n0) rfl rfl underlying24 rfl kr kr kr) rfl rfl (Ok.o (OpOk.w 3 ?_))))
 refine Ok.nt (Ok.ret (Ok.frz 1 rfl hLyown19_0j15 fun g20 C4 hRf20=>?_))
 replace k1:=k1.mono C4.1
 exact Ok.fine (.inl rfl) (Ok.p (vs:=[.agg (aM (rstV5 xt) i0 Z0 m0 x0 n0)]) [0] [.blk bxt (.cells #[.slice O0 Y0.length P0,.bool E0] 58)] dc rfl (.inl rfl) rfl (.cons (.cellAgg 2 4 (aM (rstV5 xt) i0 Z0 m0 x0 n0) rfl rfl underlying24 rfl kr kr kr) .nil) ((o1.trans V4).trans C4) ⟨(Tree.mk (rstV5 xt,i0,Z0) x0),(Y0,E0),m0,n0,O0,P0,rfl,hRf20,k1,rfl,hF⟩)
end
end Go.Proofs.YtalnampdiegmoaaDoor.Rf
