/- The script reader: names, numbers, escapes. -/
import Derived.Test.YtalnampdiegmoaaDoorJla
namespace Go.Proofs.YtalnampdiegmoaaDoor.Jl
open _root_.Go.Proofs.Tryd Go Go.Eng Go.RowKit Bld Fl
set_option linter.unusedVariables false
set_option linter.unusedSimpArgs false
set_option maxHeartbeats 4000000
set_option maxRecDepth 100000
def KW:Bs:=[108,101,116,32,102,110,32,105,102,32,101,108,115,101,32,119,104,105,108,101,32,102,111,114,32,111,102,32,114,101,116,117,114,110,32,98,114,101,97,107,32,99,111,110,116,105,110,117,101,32,116,104,114,111,119,32,116,114,121,32,99,97,116,99,104,32,102,105,110,97,108,108,121,32,116,114,117,101,32,102,97,108,115,101,32,110,117,108,108]
def SG:Bs:=[61,61,32,33,61,32,60,61,32,62,61,32,38,38,32,124,124,32,61,32,33,32,60,32,62,32,43,32,45,32,42,32,47,32,37,32,40,32,41,32,91,32,93,32,123,32,125,32,44,32,59,32,58,32,46,32,63]
theorem KW_f:fieldsP KW:=by unfold fieldsP; decide
theorem SG_f:fieldsP SG:=by unfold fieldsP; decide
theorem in_f {s:Bs} (w:Bs) (h:fieldsP s):inP (fieldsS s) w:=by
 unfold inP fieldsS
 rw [Lib.fields_length]
 exact Nat.le_trans (cntF_le _ _) h.1
theorem run_rd {x:RD} (hp:rdP x) (is:Int→Bool):rdP (jrunS x is).2:=by
 obtain ⟨h1,h2,h3⟩:=hp
 have h:=runN_le is (x.1.drop x.2.1.toNat)
 rw [List.length_drop] at h
 refine ⟨h1,?_,?_⟩
 ·show 0≤runE x is
  unfold runE; omega
 show runE x is≤(x.1.length:Int)
 unfold runE; omega
theorem run_take {x:RD} (hp:rdP x) (is:Int→Bool):(jrunS x is).1=(x.1.drop x.2.1.toNat).take (runN is (x.1.drop x.2.1.toNat)):=by
 obtain ⟨h1,h2,h3⟩:=hp
 show (x.1.take (Int.toNat (runE x is))).drop (Int.toNat x.2.1)=_
 rw [List.drop_take]
 congr 1
 unfold runE; omega
theorem run_all (is:Int→Bool):∀ (l:Bs),∀ c ∈ l.take (runN is l),is (c.toNat:Int)=true
 | [],c,h=>by simp at h
 | d::l,c,h=>by
  rw [runN] at h
  cases hd:is (d.toNat:Int)
  ·rw [hd] at h; simp at h
  rw [hd,if_t rfl,Nat.add_comm,List.take_succ_cons] at h
  rcases List.mem_cons.1 h with rfl | h
  ·exact hd
  exact run_all is l c h
def jnamej7 (xr:Bs×Int×List TK) (K:TK→(Bs×Int×List TK)→Prop):Prop :=
 K ((if (sconM (fieldsS ([108,101,116,32,102,110,32,105,102,32,101,108,115,101,32,119,104,105,108,101,32,102,111,114,32,111,102,32,114,101,116,117,114,110,32,98,114,101,97,107,32,99,111,110,116,105,110,117,101,32,116,104,114,111,119,32,116,114,121,32,99,97,116,99,104,32,102,105,110,97,108,108,121,32,116,114,117,101,32,102,97,108,115,101,32,110,117,108,108]:Bs)) (jrunS xr (fun y0=>jnbM y0)).1)=true then 5 else 1),0,0,(jrunS xr (fun y0=>jnbM y0)).1,0) (jrunS xr (fun y0=>jnbM y0)).2
def jnameF (xr:Bs×Int×List TK) (K:TK→(Bs×Int×List TK)→Prop):Prop :=
 jrunP xr (fun y0=>jnbM y0) (fun _=>True)∧fieldsP ([108,101,116,32,102,110,32,105,102,32,101,108,115,101,32,119,104,105,108,101,32,102,111,114,32,111,102,32,114,101,116,117,114,110,32,98,114,101,97,107,32,99,111,110,116,105,110,117,101,32,116,104,114,111,119,32,116,114,121,32,99,97,116,99,104,32,102,105,110,97,108,108,121,32,116,114,117,101,32,102,97,108,115,101,32,110,117,108,108]:Bs)∧inP (fieldsS ([108,101,116,32,102,110,32,105,102,32,101,108,115,101,32,119,104,105,108,101,32,102,111,114,32,111,102,32,114,101,116,117,114,110,32,98,114,101,97,107,32,99,111,110,116,105,110,117,101,32,116,104,114,111,119,32,116,114,121,32,99,97,116,99,104,32,102,105,110,97,108,108,121,32,116,114,117,101,32,102,97,108,115,101,32,110,117,108,108]:Bs)) (jrunS xr (fun y0=>jnbM y0)).1∧((sconM (fieldsS ([108,101,116,32,102,110,32,105,102,32,101,108,115,101,32,119,104,105,108,101,32,102,111,114,32,111,102,32,114,101,116,117,114,110,32,98,114,101,97,107,32,99,111,110,116,105,110,117,101,32,116,104,114,111,119,32,116,114,121,32,99,97,116,99,104,32,102,105,110,97,108,108,121,32,116,114,117,101,32,102,97,108,115,101,32,110,117,108,108]:Bs)) (jrunS xr (fun y0=>jnbM y0)).1)=true→jnamej7 xr K)∧((sconM (fieldsS ([108,101,116,32,102,110,32,105,102,32,101,108,115,101,32,119,104,105,108,101,32,102,111,114,32,111,102,32,114,101,116,117,114,110,32,98,114,101,97,107,32,99,111,110,116,105,110,117,101,32,116,104,114,111,119,32,116,114,121,32,99,97,116,99,104,32,102,105,110,97,108,108,121,32,116,114,117,101,32,102,97,108,115,101,32,110,117,108,108]:Bs)) (jrunS xr (fun y0=>jnbM y0)).1)=false→jnamej7 xr K)
theorem jname_ok {g:Ghost} {bxr:Nat} {j0:Option Addr} {x0:Nat} {k0:List Value} (xr:Bs×Int×List TK) (s0:RepL g yT k0 xr.2.2) (hG0:GlobL g 0 yb DSpace) (K:TK→(Bs×Int×List TK)→Prop)
  (hF:jnameF xr K):CallsH prog 27 #[pv bxr 0] g [.blk bxr (.cells #[sv xr.1,iv xr.2.1,.slice j0 xr.2.2.length x0] 38),.own (.slice j0 xr.2.2.length x0) 40 5 xr.2.2.length k0] (fun g' H' v=>∃ (r0:TK),∃ (fxr:Bs×Int×List TK),∃ (v0:Option Addr) (q0:Nat) (z0:List Value),v=.agg (aG r0)∧RepL g' yT z0 fxr.2.2∧H'=[.blk bxr (.cells #[sv fxr.1,iv fxr.2.1,.slice v0 fxr.2.2.length q0] 38),.own (.slice v0 fxr.2.2.length q0) 40 5 fxr.2.2.length z0]∧K r0 fxr):=by
 refine CallsH.en 13 func27 rfl fun w0=>?_
 refine Ok.sr (Ok.o (OpOk.aw #[iv 0,iv 0,iv 0,sv Bz,iv 0] fun bs2=>?_))
 refine Ok.nt (Ok.sr (Ok.B 1 [(2,pv bs2 0),(5,pv bxr 0)] kr ?_))
 obtain ⟨hp2,hF⟩:=hF
 refine Ok.en [1,2,0] ?_
 refine Ok.o (OpOk.ch (jrun_c (vxis:=.func (.func 60) #[] #[]) xr (fun y0=>jnbM y0) (fun _=>True) s0 (fun y0 hq=>⟨60,_,fun _=>by kernel_rfl,jnb_c y0⟩) hp2) fun g3 _ _ hx3 hV3=>?_)
 obtain ⟨n0,o0,t0,rfl,e0,rfl⟩:=hV3
 replace hG0:=hG0.mono hx3.1
 refine Ok.b 1 [2] [(3,sv ((jrunS xr (fun y0=>jnbM y0)).1))] ?_
 refine Ok.nt (Ok.sr (Ok.b 1 [2,3] [(4,iv 1)] ?_))
 refine Ok.nt (Ok.cg g3 [(2,pv bs2 0),(3,sv ((jrunS xr (fun y0=>jnbM y0)).1)),(4,iv (if (sconM (fieldsS BI) (jrunS xr (fun y0=>jnbM y0)).1)=true then 5 else 1))] [.blk bxr (.cells #[sv ((jrunS xr (fun y0=>jnbM y0)).2.1),iv (jrunS xr (fun y0=>jnbM y0)).2.2.1,.slice n0 (jrunS xr (fun y0=>jnbM y0)).2.2.2.length o0] 38),.own (.slice n0 (jrunS xr (fun y0=>jnbM y0)).2.2.2.length o0) 40 5 (jrunS xr (fun y0=>jnbM y0)).2.2.2.length t0,.blk bs2 (.cells #[iv 0,iv 0,iv 0,sv Bz,iv 0] 40)] (jnamej7 xr K) ?_ (fun gj7 U0 hF=>?_))
 ·
  refine Ok.q (Ok.r ?_)
  obtain ⟨hp4,hF⟩:=hF
  refine Ok.o (OpOk.ch (fields_c BI hG0 hp4) fun g5 _ _ hx5 hV5=>?_)
  obtain ⟨a5_0,c5_0,rfl,hR5_0,rfl⟩:=hV5
  replace e0:=e0.mono hx5.1
  refine Ok.b 1 [2,3,4] [(7,.slice a5_0 (fieldsS BI).length c5_0),(8,sv ((jrunS xr (fun y0=>jnbM y0)).1))] ?_
  obtain ⟨hp6,hF⟩:=hF
  refine Ok.o (OpOk.f enr (fun W hW=>scon_c (fieldsS BI) (jrunS xr (fun y0=>jnbM y0)).1 (hR5_0.mono hW.sees) hp6) rfl ?_)
  refine Ok.nt (Ok.cw hF (fun hc7 hF=>?_) (fun hc7 hF=>?_))
  ·refine Ok.r (Ok.b 1 [2,3] [(4,iv 5)] ?_)
   refine Ok.nt (Ok.v 4 rfl (show (iv 5:Value)=iv (if (sconM (fieldsS BI) (jrunS xr (fun y0=>jnbM y0)).1)=true then 5 else 1) from congrArg (Value.int .i64) ((if_t hc7).symm)) ?_)
   exact fun _ _ u v=>⟨g5,hx5,fA u v hF⟩
  refine Ok.k (Ok.t (Ok.v 4 rfl (show (iv 1:Value)=iv (if (sconM (fieldsS BI) (jrunS xr (fun y0=>jnbM y0)).1)=true then 5 else 1) from congrArg (Value.int .i64) ((if_f hc7).symm)) ?_))
  exact fun _ _ u v=>⟨g5,hx5,fA u v hF⟩
 replace e0:=e0.mono U0.1
 refine Ok.sr (Ok.b 3 [2] [(12,.agg #[iv (if (sconM (fieldsS BI) (jrunS xr (fun y0=>jnbM y0)).1)=true then 5 else 1),iv 0,iv 0,sv ((jrunS xr (fun y0=>jnbM y0)).1),iv 0])] ?_)
 refine Ok.o (OpOk.w 2 ?_)
 refine Ok.nt (Ok.ret ?_)
 exact Ok.p (vs:=[.agg #[iv (if (sconM (fieldsS BI) (jrunS xr (fun y0=>jnbM y0)).1)=true then 5 else 1),iv 0,iv 0,sv ((jrunS xr (fun y0=>jnbM y0)).1),iv 0]]) [0,1] [.blk bxr (.cells #[sv ((jrunS xr (fun y0=>jnbM y0)).2.1),iv (jrunS xr (fun y0=>jnbM y0)).2.2.1,.slice n0 (jrunS xr (fun y0=>jnbM y0)).2.2.2.length o0] 38),.own (.slice n0 (jrunS xr (fun y0=>jnbM y0)).2.2.2.length o0) 40 5 (jrunS xr (fun y0=>jnbM y0)).2.2.2.length t0] dc rfl (.inl rfl) rfl (.cons (.cellAgg 2 5 #[iv (if (sconM (fieldsS BI) (jrunS xr (fun y0=>jnbM y0)).1)=true then 5 else 1),iv 0,iv 0,sv ((jrunS xr (fun y0=>jnbM y0)).1),iv 0] rfl rfl underlying40 rfl kr kr kr) .nil) (hx3.trans U0) ⟨((if (sconM (fieldsS BI) (jrunS xr (fun y0=>jnbM y0)).1)=true then 5 else 1),0,0,(jrunS xr (fun y0=>jnbM y0)).1,0),(jrunS xr (fun y0=>jnbM y0)).2,n0,o0,t0,rfl,e0,rfl,hF⟩
def jnameS (x:RD):TK×RD:=((if sconM (fieldsS KW) (jrunS x (fun y0=>jnbM y0)).1=true then 5 else 1,0,0,(jrunS x (fun y0=>jnbM y0)).1,0),(jrunS x (fun y0=>jnbM y0)).2)
theorem jname_F (x:RD) (hp:rdP x):jnameF x (fun r r1=>(r,r1)=jnameS x) :=
 ⟨⟨hp,fun _=>trivial⟩,KW_f,in_f _ KW_f,fun _=>rfl,fun _=>rfl⟩
theorem jname_c {g:Ghost} {bxr:Nat} {j0:Option Addr} {x0:Nat} {k0:List Value} (xr:Bs×Int×List TK) (s0:RepL g yT k0 xr.2.2) (hG0:GlobL g 0 yb DSpace)  (hp:rdP xr):CallsH prog 27 #[pv bxr 0] g [.blk bxr (.cells #[sv xr.1,iv xr.2.1,.slice j0 xr.2.2.length x0] 38),.own (.slice j0 xr.2.2.length x0) 40 5 xr.2.2.length k0] (fun g' H' v=>∃ (v0:Option Addr) (q0:Nat) (z0:List Value),v=.agg (aG (jnameS xr).1)∧RepL g' yT z0 (jnameS xr).2.2.2∧H'=[.blk bxr (.cells #[sv ((jnameS xr).2.1),iv (jnameS xr).2.2.1,.slice v0 (jnameS xr).2.2.2.length q0] 38),.own (.slice v0 (jnameS xr).2.2.2.length q0) 40 5 (jnameS xr).2.2.2.length z0]) :=
 (jname_ok xr s0 hG0 _ (jname_F xr hp)).mono (by rintro g' H' v _ ⟨r0,fxr,v0,q0,z0,rfl,g0,rfl,hK⟩; obtain ⟨rfl,rfl⟩:r0=(jnameS xr).1∧fxr=(jnameS xr).2:=⟨congrArg (fun z=>z.1) hK,congrArg (fun z=>z.2) hK⟩; exact ⟨v0,q0,z0,rfl,g0,rfl⟩)
def jnuml9b (xr:Bs×Int×List TK) (K:TK→Int→(Bs×Int×List TK)→Prop) (f0:Int) (u0:Int) (C9:Int→Int→Prop):Prop :=
 ((decide (u0<((intsOf (jrunS xr (fun y0=>jdigM y0)).1).length:Int)))=true→0≤u0∧u0.toNat<(intsOf (jrunS xr (fun y0=>jdigM y0)).1).length∧((decide ((w6 ((w6 (10 * f0))+(w6 (IntKind.wrap .u8 (((intsOf (jrunS xr (fun y0=>jdigM y0)).1).getD u0.toNat default) - 48)))))>9007199254740992))=true→K (0,0,0,([]:Bs),0) 2 (jrunS xr (fun y0=>jdigM y0)).2)∧((decide ((w6 ((w6 (10 * f0))+(w6 (IntKind.wrap .u8 (((intsOf (jrunS xr (fun y0=>jdigM y0)).1).getD u0.toNat default) - 48)))))>9007199254740992))=false→C9 (w6 ((w6 (10 * f0))+(w6 (IntKind.wrap .u8 (((intsOf (jrunS xr (fun y0=>jdigM y0)).1).getD u0.toNat default) - 48))))) (w6 (u0+1))))∧((decide (u0<((intsOf (jrunS xr (fun y0=>jdigM y0)).1).length:Int)))=false→jpeekP (jrunS xr (fun y0=>jdigM y0)).2 0∧((jletM (jpeekS (jrunS xr (fun y0=>jdigM y0)).2 0).1)=true→K (0,0,0,([]:Bs),0) 4 (jpeekS (jrunS xr (fun y0=>jdigM y0)).2 0).2)∧((jletM (jpeekS (jrunS xr (fun y0=>jdigM y0)).2 0).1)=false→K (2,0,0,([]:Bs),f0) 0 (jpeekS (jrunS xr (fun y0=>jdigM y0)).2 0).2))
def jnuml9 (xr:Bs×Int×List TK) (K:TK→Int→(Bs×Int×List TK)→Prop):Nat→Int→Int→Prop
 | 0,_,_=>False
 | k+1,f0,u0=>jnuml9b xr K f0 u0 (jnuml9 xr K k)
def jnumF (xr:Bs×Int×List TK) (K:TK→Int→(Bs×Int×List TK)→Prop):Prop :=
 jrunP xr (fun y0=>jdigM y0) (fun _=>True)∧(jrunS xr (fun y0=>jdigM y0)).1.length≤maxLen∧∃ k,jnuml9 xr K k 0 0
theorem jnum_ok {g:Ghost} {bxr:Nat} {j0:Option Addr} {x0:Nat} {k0:List Value} (xr:Bs×Int×List TK) (s0:RepL g yT k0 xr.2.2) (K:TK→Int→(Bs×Int×List TK)→Prop)
  (hF:jnumF xr K):CallsH prog 29 #[pv bxr 0] g [.blk bxr (.cells #[sv xr.1,iv xr.2.1,.slice j0 xr.2.2.length x0] 38),.own (.slice j0 xr.2.2.length x0) 40 5 xr.2.2.length k0] (fun g' H' v=>∃ (r0:TK),∃ (r1:Int),∃ (fxr:Bs×Int×List TK),∃ (v0:Option Addr) (q0:Nat) (z0:List Value),v=.tuple #[.agg (aG r0),iv r1]∧RepL g' yT z0 fxr.2.2∧H'=[.blk bxr (.cells #[sv fxr.1,iv fxr.2.1,.slice v0 fxr.2.2.length q0] 38),.own (.slice v0 fxr.2.2.length q0) 40 5 fxr.2.2.length z0]∧K r0 r1 fxr):=by
 refine CallsH.en 31 func29 rfl fun w0=>?_
 refine Ok.sr (Ok.o (OpOk.aw #[iv 0,iv 0,iv 0,sv Bz,iv 0] fun bs2=>?_))
 refine Ok.B 1 [(0,pv bxr 0),(2,pv bs2 0)] kr (Ok.nt (Ok.sr (Ok.b 1 [0,2] [(4,iv 0)] ?_)))
 refine Ok.nt (Ok.q (Ok.sr (Ok.b 1 [0,2,4] [(7,pv bxr 0)] ?_)))
 obtain ⟨hp2,hF⟩:=hF
 refine Ok.en [1,2,0] ?_
 refine Ok.o (OpOk.ch (jrun_c (vxis:=.func (.func 28) #[] #[]) xr (fun y0=>jdigM y0) (fun _=>True) s0 (fun y0 hq=>⟨28,_,fun _=>by kernel_rfl,jdig_c y0⟩) hp2) fun g3 _ _ hx3 hV3=>?_)
 obtain ⟨n0,o0,t0,rfl,e0,rfl⟩:=hV3
 obtain ⟨hm4,hF⟩:=hF
 refine Ok.o (OpOk.bytesRo (s:=(jrunS xr (fun y0=>jdigM y0)).1) kr underlying9 underlying70 underlying5 hm4 rfl fun g4 a4 c4 hx4 hR4=>?_)
 replace e0:=e0.mono hx4.1
 refine Ok.b 2 [0,2,4] [(9,.slice a4 (intsOf (jrunS xr (fun y0=>jdigM y0)).1).length c4),(10,iv ((intsOf (jrunS xr (fun y0=>jdigM y0)).1).length:Int)),(11,iv 0)] ?_
 refine Ok.nt (Ok.block ?_)
 obtain ⟨k,hF⟩:=hF
 refine Ok.L (fun k a W=>∃ gl9:Ghost,Gext w0 g4 gl9∧∃ (f0:Int) (u0:Int),StA 31 [(0,pv bxr 0),(2,pv bs2 0),(4,iv f0),(9,.slice a4 (intsOf (jrunS xr (fun y0=>jdigM y0)).1).length c4),(10,iv ((intsOf (jrunS xr (fun y0=>jdigM y0)).1).length:Int)),(11,iv u0)] a∧StW w0 [.blk bxr (.cells #[sv ((jrunS xr (fun y0=>jdigM y0)).2.1),iv (jrunS xr (fun y0=>jdigM y0)).2.2.1,.slice n0 (jrunS xr (fun y0=>jdigM y0)).2.2.2.length o0] 38),.own (.slice n0 (jrunS xr (fun y0=>jdigM y0)).2.2.2.length o0) 40 5 (jrunS xr (fun y0=>jdigM y0)).2.2.2.length t0,.blk bs2 (.cells #[iv 0,iv 0,iv 0,sv Bz,iv 0] 40)] gl9 W∧jnuml9 xr K k f0 u0) k ?_ ?_
 ·
  exact fun _ _ u v=>⟨g4,Gext.r w0 g4,0,0,fA u v hF⟩
 clear hF
 rintro (_ | k9) _ _ ⟨gl9,Q0,f0,u0,q⟩
 exact (q.2.2:False).elim
 refine jn (fun hF=>?_) _ _ q
 replace hR4:=hR4.mono Q0.1
 replace e0:=e0.mono Q0.1
 refine Ok.sr (Ok.b 1 [0,2,4,9,10,11] [(12,.bool (decide (u0<((intsOf (jrunS xr (fun y0=>jdigM y0)).1).length:Int))))] ?_)
 refine Ok.nt (Ok.q (Ok.cw hF (fun hc5 hF=>?_) (fun hc5 hF=>?_)))
 ·refine Ok.k (Ok.t (Ok.q (Ok.block (Ok.q (Ok.r ?_)))))
  obtain ⟨h07,h17,hF⟩:=hF
  have he7:=get_of (l:=(intsOf (jrunS xr (fun y0=>jdigM y0)).1)) default h17
  generalize hg7:((intsOf (jrunS xr (fun y0=>jdigM y0)).1).getD u0.toNat default)=e7 at he7 hF ⊢
  refine Ok.o (OpOk.indexRo (e:=.int .u8) rfl rfl underlying70 kr hR4 h07 he7 rfl fun q6 o6 cs6 _ J0 hr6=>?_)
  obtain rfl:=hr6
  replace J0:At gl9 q6 o6 [.int .u8 e7]:=J0
  refine Ok.rn 2 [.a 0 J0] [0,2,4,9,10,11] [(6,.int .u8 e7)] ?_
  refine Ok.nt (Ok.sr (Ok.b 7 [0,2,9,10,11] [(4,iv (w6 ((w6 (10 * f0))+(w6 (IntKind.wrap .u8 (e7 - 48))))))] ?_))
  refine Ok.nt (Ok.sr (Ok.b 2 [0,2,4,9,10,11] [(22,.bool (decide ((w6 ((w6 (10 * f0))+(w6 (IntKind.wrap .u8 (e7 - 48)))))>9007199254740992)))] ?_))
  refine Ok.nt (Ok.cn hF rfl (fun hc8=>?_) (fun hc8=>?_))
  ·replace hF:=hF.1 hc8
   refine Ok.sr (Ok.b 1 [2] [(23,.agg #[iv 0,iv 0,iv 0,sv Bz,iv 0])] ?_)
   refine Ok.o (OpOk.w 2 ?_)
   refine Ok.b 1 [2] [(3,iv 2)] ?_
   refine Ok.nt (Ok.ret (Ok.kr (Ok.tr (Ok.tr (Ok.kr (Ok.tr ?_))))))
   exact Ok.p (vs:=[.agg #[iv 0,iv 0,iv 0,sv Bz,iv 0],iv 2]) [0,1] [.blk bxr (.cells #[sv ((jrunS xr (fun y0=>jdigM y0)).2.1),iv (jrunS xr (fun y0=>jdigM y0)).2.2.1,.slice n0 (jrunS xr (fun y0=>jdigM y0)).2.2.2.length o0] 38),.own (.slice n0 (jrunS xr (fun y0=>jdigM y0)).2.2.2.length o0) 40 5 (jrunS xr (fun y0=>jdigM y0)).2.2.2.length t0] dc rfl (.inl rfl) rfl (.cons (.cellAgg 2 5 #[iv 0,iv 0,iv 0,sv Bz,iv 0] rfl rfl underlying40 rfl kr kr kr) (.cons (.tmp rfl) .nil)) ((hx3.trans hx4).trans Q0) ⟨(0,0,0,Bz,0),2,(jrunS xr (fun y0=>jdigM y0)).2,n0,o0,t0,rfl,e0,rfl,hF⟩
  replace hF:=hF.2 hc8
  refine Ok.k (Ok.kn (Ok.t (Ok.r (Ok.b 2 [0,2,4,9,10] [(11,iv (w6 (u0+1)))] ?_))))
  refine Ok.j (Ok.t ?_)
  subst hg7
  exact fun _ _ u v=>⟨k9,nl,gl9,Q0,w6 ((w6 (10 * f0))+(w6 (IntKind.wrap .u8 (((intsOf (jrunS xr (fun y0=>jdigM y0)).1).getD u0.toNat default) - 48)))),w6 (u0+1),fA u v hF⟩
 refine Ok.x (Ok.thenE (Ok.thenE (Ok.blockHit (Ok.t (Ok.q (Ok.sr (Ok.b 1 [2,4] [(25,pv bxr 0)] ?_)))))))
 obtain ⟨hp9,hF⟩:=hF
 refine Ok.o (OpOk.ch (jpeek_c (jrunS xr (fun y0=>jdigM y0)).2 0 e0 hp9) fun g10 _ _ K0 W0=>?_)
 obtain ⟨c0,d0,b0,rfl,l0,rfl⟩:=W0
 refine Ok.o (OpOk.f enr (fun W hW=>jlet_c (jpeekS (jrunS xr (fun y0=>jdigM y0)).2 0).1) rfl ?_)
 refine Ok.nt (Ok.cw hF (fun hc11 hF=>?_) (fun hc11 hF=>?_))
 ·refine Ok.sr (Ok.b 1 [2] [(28,.agg #[iv 0,iv 0,iv 0,sv Bz,iv 0])] ?_)
  refine Ok.o (OpOk.w 2 ?_)
  refine Ok.b 1 [2] [(3,iv 4)] ?_
  refine Ok.nt (Ok.ret (Ok.tr ?_))
  exact Ok.p (vs:=[.agg #[iv 0,iv 0,iv 0,sv Bz,iv 0],iv 4]) [0,1] [.blk bxr (.cells #[sv ((jpeekS (jrunS xr (fun y0=>jdigM y0)).2 0).2.1),iv (jpeekS (jrunS xr (fun y0=>jdigM y0)).2 0).2.2.1,.slice c0 (jpeekS (jrunS xr (fun y0=>jdigM y0)).2 0).2.2.2.length d0] 38),.own (.slice c0 (jpeekS (jrunS xr (fun y0=>jdigM y0)).2 0).2.2.2.length d0) 40 5 (jpeekS (jrunS xr (fun y0=>jdigM y0)).2 0).2.2.2.length b0] dc rfl (.inl rfl) rfl (.cons (.cellAgg 2 5 #[iv 0,iv 0,iv 0,sv Bz,iv 0] rfl rfl underlying40 rfl kr kr kr) (.cons (.tmp rfl) .nil)) (((hx3.trans hx4).trans Q0).trans K0) ⟨(0,0,0,Bz,0),4,(jpeekS (jrunS xr (fun y0=>jdigM y0)).2 0).2,c0,d0,b0,rfl,l0,rfl,hF⟩
 refine Ok.k (Ok.t (Ok.sr (Ok.b 2 [2] [(30,.agg #[iv 2,iv 0,iv 0,sv Bz,iv f0])] ?_)))
 refine Ok.o (OpOk.w 2 ?_)
 refine Ok.b 1 [2] [(3,iv 0)] ?_
 refine Ok.nt (Ok.ret ?_)
 exact Ok.p (vs:=[.agg #[iv 2,iv 0,iv 0,sv Bz,iv f0],iv 0]) [0,1] [.blk bxr (.cells #[sv ((jpeekS (jrunS xr (fun y0=>jdigM y0)).2 0).2.1),iv (jpeekS (jrunS xr (fun y0=>jdigM y0)).2 0).2.2.1,.slice c0 (jpeekS (jrunS xr (fun y0=>jdigM y0)).2 0).2.2.2.length d0] 38),.own (.slice c0 (jpeekS (jrunS xr (fun y0=>jdigM y0)).2 0).2.2.2.length d0) 40 5 (jpeekS (jrunS xr (fun y0=>jdigM y0)).2 0).2.2.2.length b0] dc rfl (.inl rfl) rfl (.cons (.cellAgg 2 5 #[iv 2,iv 0,iv 0,sv Bz,iv f0] rfl rfl underlying40 rfl kr kr kr) (.cons (.tmp rfl) .nil)) (((hx3.trans hx4).trans Q0).trans K0) ⟨(2,0,0,Bz,f0),0,(jpeekS (jrunS xr (fun y0=>jdigM y0)).2 0).2,c0,d0,b0,rfl,l0,rfl,hF⟩
def numV:Bs→Int→Option Int
 | [],n=>some n
 | c::l,n=>if decide (10 * n+((c.toNat:Int) - 48)>9007199254740992)=true then none else numV l (10 * n+((c.toNat:Int) - 48))
def jnumS (x:RD):TK×Int×RD :=
 match numV (jrunS x (fun y0=>jdigM y0)).1 0 with
 | none=>((0,0,0,[],0),2,(jrunS x (fun y0=>jdigM y0)).2)
 | some n=>if jletM (jpeekS (jrunS x (fun y0=>jdigM y0)).2 0).1=true then ((0,0,0,[],0),4,(jrunS x (fun y0=>jdigM y0)).2) else ((2,0,0,[],n),0,(jrunS x (fun y0=>jdigM y0)).2)
theorem dig_in {c:Int} (h:jdigM c=true):48≤c∧c≤57:=by
 unfold jdigM at h
 simp only [Bool.and_eq_true,decide_eq_true_eq] at h
 omega
theorem u8_in (x:Int) (h:0≤x∧x≤255):IntKind.wrap .u8 x=x:=IntWalk.u8_in x h
theorem jnum_F (x:RD) (hp:rdP x):jnumF x (fun r r1 r2=>(r,r1,r2)=jnumS x):=by
 have hr:=run_rd hp (fun y0=>jdigM y0)
 have hall:∀ c ∈ (jrunS x (fun y0=>jdigM y0)).1,48≤(c.toNat:Int)∧(c.toNat:Int)≤57:=fun c hc=>by
  rw [run_take hp] at hc
  exact dig_in (run_all (fun y0=>jdigM y0) _ c hc)
 have hlen:(jrunS x (fun y0=>jdigM y0)).1.length≤1000000:=by
  rw [run_take hp,List.length_take,List.length_drop]; have:=hp.1; omega
 have e:jnumS x=(match numV (jrunS x (fun y0=>jdigM y0)).1 0 with
 | none=>((0,0,0,[],0),2,(jrunS x (fun y0=>jdigM y0)).2)
 | some n=>if jletM (jpeekS (jrunS x (fun y0=>jdigM y0)).2 0).1=true then ((0,0,0,[],0),4,(jrunS x (fun y0=>jdigM y0)).2) else ((2,0,0,[],n),0,(jrunS x (fun y0=>jdigM y0)).2)):=rfl
 have hil:∀ l:Bs,(intsOf l).length=l.length:=fun l=>by simp [intsOf]
 have hig:∀ (l:Bs) (k:Nat),k<l.length→(intsOf l).getD k default=((l.getD k 0).toNat:Int):=fun l k h=>by
  simp [intsOf,List.getD_eq_getElem?_getD,h]
 have loop:∀ (k i:Nat) (n:Int),i+k=(jrunS x (fun y0=>jdigM y0)).1.length→0≤n→n≤9007199254740992→numV (jrunS x (fun y0=>jdigM y0)).1 0=numV ((jrunS x (fun y0=>jdigM y0)).1.drop i) n →
   jnuml9 x (fun r r1 r2=>(r,r1,r2)=jnumS x) (k+1) n (i:Int):=by
  intro k
  induction k with
  | zero =>
   intro i n h h0 h1 h2
   rw [List.drop_of_length_le om,numV] at h2
   rw [e,h2]
   have hc:decide ((i:Int)<((intsOf (jrunS x (fun y0=>jdigM y0)).1).length:Int))=false:=decide_eq_false (by rw [hil]; omega)
   exact ⟨fun h=>(Bool.false_ne_true (hc.symm.trans h)).elim,fun _=>⟨⟨hr,by omega,by omega⟩,fun hj=>(if_t hj).symm,fun hj=>(if_f hj).symm⟩⟩
  | succ k ih =>
   intro i n h h0 h1 h2
   have hd:=drop_get (l:=(jrunS x (fun y0=>jdigM y0)).1) (k:=i) 0 om
   have hb:48≤(((jrunS x (fun y0=>jdigM y0)).1.getD i 0).toNat:Int)∧(((jrunS x (fun y0=>jdigM y0)).1.getD i 0).toNat:Int)≤57:=hall _ (List.mem_of_mem_drop (i:=i) (by rw [hd]; exact List.mem_cons_self ..))
   rw [hd,numV] at h2
   have hv:(w6 ((w6 (10 * n))+(w6 (IntKind.wrap .u8 (((intsOf (jrunS x (fun y0=>jdigM y0)).1).getD (Int.toNat (i:Int)) default) - 48)))))=10 * n+((((jrunS x (fun y0=>jdigM y0)).1.getD i 0).toNat:Int) - 48):=by
    rw [tnc,hig (jrunS x (fun y0=>jdigM y0)).1 i om,u8_in _ om,w6e (x:=10 * n) om,w6e (x:=(((jrunS x (fun y0=>jdigM y0)).1.getD i 0).toNat:Int) - 48) om,w6e om]
   have hc:decide ((i:Int)<((intsOf (jrunS x (fun y0=>jdigM y0)).1).length:Int))=true:=decide_eq_true (by rw [hil]; omega)
   refine ⟨fun _=>⟨by omega,by rw [hil,tnc]; omega,?_⟩,fun h=>(Bool.false_ne_true (h.symm.trans hc)).elim⟩
   rw [hv]
   refine ⟨fun hg=>?_,fun hg=>?_⟩
   ·rw [if_t hg] at h2
    rw [e,h2]
   rw [if_f hg] at h2
   rw [w6e om]
   have:=of_decide_eq_false hg
   exact ih (i+1) _ om om om h2
 exact ⟨⟨hp,fun _=>trivial⟩,by rw [maxLen_eq]; omega,_,loop (jrunS x (fun y0=>jdigM y0)).1.length 0 0 om om om rfl⟩
theorem jnum_c {g:Ghost} {bxr:Nat} {j0:Option Addr} {x0:Nat} {k0:List Value} (xr:Bs×Int×List TK) (s0:RepL g yT k0 xr.2.2)  (hp:rdP xr):CallsH prog 29 #[pv bxr 0] g [.blk bxr (.cells #[sv xr.1,iv xr.2.1,.slice j0 xr.2.2.length x0] 38),.own (.slice j0 xr.2.2.length x0) 40 5 xr.2.2.length k0] (fun g' H' v=>∃ (v0:Option Addr) (q0:Nat) (z0:List Value),v=.tuple #[.agg (aG (jnumS xr).1),iv (jnumS xr).2.1]∧RepL g' yT z0 (jnumS xr).2.2.2.2∧H'=[.blk bxr (.cells #[sv ((jnumS xr).2.2.1),iv (jnumS xr).2.2.2.1,.slice v0 (jnumS xr).2.2.2.2.length q0] 38),.own (.slice v0 (jnumS xr).2.2.2.2.length q0) 40 5 (jnumS xr).2.2.2.2.length z0]) :=
 (jnum_ok xr s0 _ (jnum_F xr hp)).mono (by rintro g' H' v _ ⟨r0,r1,fxr,v0,q0,z0,rfl,g0,rfl,hK⟩; obtain ⟨rfl,rfl,rfl⟩:r0=(jnumS xr).1∧r1=(jnumS xr).2.1∧fxr=(jnumS xr).2.2:=⟨congrArg (fun z=>z.1) hK,congrArg (fun z=>z.2.1) hK,congrArg (fun z=>z.2.2) hK⟩; exact ⟨v0,q0,z0,rfl,g0,rfl⟩)
def jescj3 (xr:Bs×Int×List TK) (K:Int→Int→(Bs×Int×List TK)→Prop):Prop :=
 K 0 0 ((if ((jpeekS xr 0).1==120)=true then (jpeekS (jpeekS (jpeekS xr 0).2 1).2 2).2.1 else (jpeekS xr 0).2.1),(if ((jpeekS xr 0).1==120)=true then (jpeekS (jpeekS (jpeekS xr 0).2 1).2 2).2.2.1 else (jpeekS xr 0).2.2.1),(if ((jpeekS xr 0).1==120)=true then (jpeekS (jpeekS (jpeekS xr 0).2 1).2 2).2.2.2 else (jpeekS xr 0).2.2.2))
def jescj9 (xr:Bs×Int×List TK) (K:Int→Int→(Bs×Int×List TK)→Prop):Prop :=
 ((((jpeekS xr 0).1==34)||((jpeekS xr 0).1==92))=true→K (jpeekS xr 0).1 1 (jpeekS xr 0).2)∧((((jpeekS xr 0).1==34)||((jpeekS xr 0).1==92))=false→(((jpeekS xr 0).1==110)=true→K 10 1 (jpeekS xr 0).2)∧(((jpeekS xr 0).1==110)=false→(((jpeekS xr 0).1==116)=true→K 9 1 (jpeekS xr 0).2)∧(((jpeekS xr 0).1==116)=false→(((jpeekS xr 0).1==120)=true→jpeekP (jpeekS xr 0).2 1∧jpeekP (jpeekS (jpeekS xr 0).2 1).2 2∧(((decide ((jhexM (jpeekS (jpeekS xr 0).2 1).1)≥0))&&(decide ((jhexM (jpeekS (jpeekS (jpeekS xr 0).2 1).2 2).1)≥0)))=true→K (IntKind.wrap .u8 (bitOr .i64 (w6 ((jhexM (jpeekS (jpeekS xr 0).2 1).1) * 2 ^ 4)) (jhexM (jpeekS (jpeekS (jpeekS xr 0).2 1).2 2).1))) 3 (jpeekS (jpeekS (jpeekS xr 0).2 1).2 2).2)∧(((decide ((jhexM (jpeekS (jpeekS xr 0).2 1).1)≥0))&&(decide ((jhexM (jpeekS (jpeekS (jpeekS xr 0).2 1).2 2).1)≥0)))=false→jescj3 xr K))∧(((jpeekS xr 0).1==120)=false→jescj3 xr K))))
def jescF (xr:Bs×Int×List TK) (K:Int→Int→(Bs×Int×List TK)→Prop):Prop :=
 jpeekP xr 0∧(((jpeekS xr 0).1==34)=true→jescj9 xr K)∧(((jpeekS xr 0).1==34)=false→jescj9 xr K)
theorem jesc_ok {g:Ghost} {bxr:Nat} {j0:Option Addr} {x0:Nat} {k0:List Value} (xr:Bs×Int×List TK) (s0:RepL g yT k0 xr.2.2) (K:Int→Int→(Bs×Int×List TK)→Prop)
  (hF:jescF xr K):CallsH prog 63 #[pv bxr 0] g [.blk bxr (.cells #[sv xr.1,iv xr.2.1,.slice j0 xr.2.2.length x0] 38),.own (.slice j0 xr.2.2.length x0) 40 5 xr.2.2.length k0] (fun g' H' v=>∃ (r0:Int),∃ (r1:Int),∃ (fxr:Bs×Int×List TK),∃ (v0:Option Addr) (q0:Nat) (z0:List Value),v=.tuple #[.int .u8 r0,iv r1]∧RepL g' yT z0 fxr.2.2∧H'=[.blk bxr (.cells #[sv fxr.1,iv fxr.2.1,.slice v0 fxr.2.2.length q0] 38),.own (.slice v0 fxr.2.2.length q0) 40 5 fxr.2.2.length z0]∧K r0 r1 fxr):=by
 refine CallsH.en 37 func63 rfl fun w0=>?_
 refine Ok.sr (Ok.B 2 [(0,pv bxr 0)] kr (Ok.nt (Ok.cut (fun a W=>∃ gj3:Ghost,Gext w0 g gj3∧∃ (ayown_xr_2_0j3:Option Addr) (cyown_xr_2_0j3:Nat) (xsyown_xr_2_0j3:List Value),RepL gj3 yT xsyown_xr_2_0j3 (if ((jpeekS xr 0).1==120)=true then (jpeekS (jpeekS (jpeekS xr 0).2 1).2 2).2.2.2 else (jpeekS xr 0).2.2.2)∧StA 37 [] a∧StW w0 [.blk bxr (.cells #[sv (if ((jpeekS xr 0).1==120)=true then (jpeekS (jpeekS (jpeekS xr 0).2 1).2 2).2.1 else (jpeekS xr 0).2.1),iv (if ((jpeekS xr 0).1==120)=true then (jpeekS (jpeekS (jpeekS xr 0).2 1).2 2).2.2.1 else (jpeekS xr 0).2.2.1),.slice ayown_xr_2_0j3 (if ((jpeekS xr 0).1==120)=true then (jpeekS (jpeekS (jpeekS xr 0).2 1).2 2).2.2.2 else (jpeekS xr 0).2.2.2).length cyown_xr_2_0j3] 38),.own (.slice ayown_xr_2_0j3 (if ((jpeekS xr 0).1==120)=true then (jpeekS (jpeekS (jpeekS xr 0).2 1).2 2).2.2.2 else (jpeekS xr 0).2.2.2).length cyown_xr_2_0j3) 40 5 (if ((jpeekS xr 0).1==120)=true then (jpeekS (jpeekS (jpeekS xr 0).2 1).2 2).2.2.2 else (jpeekS xr 0).2.2.2).length xsyown_xr_2_0j3] gj3 W∧jescj3 xr K) ?_ ?_)))
 ·
  refine Ok.sr (Ok.b 1 [0] [(7,pv bxr 0)] ?_)
  obtain ⟨hp1,hF⟩:=hF
  refine Ok.o (OpOk.ch (jpeek_c xr 0 s0 hp1) fun g2 _ _ hx2 hV2=>?_)
  obtain ⟨i0,Z0,m0,rfl,a0,rfl⟩:=hV2
  refine Ok.b 1 [0] [(4,.int .u8 (jpeekS xr 0).1)] ?_
  refine Ok.nt (Ok.sr (Ok.b 1 [0,4] [(9,.int .u8 (jpeekS xr 0).1)] ?_))
  refine Ok.nt (Ok.block (Ok.cg g2 [(0,pv bxr 0),(4,.int .u8 (jpeekS xr 0).1),(9,.int .u8 (jpeekS xr 0).1),(10,.bool (((jpeekS xr 0).1==34)||((jpeekS xr 0).1==92)))] [.blk bxr (.cells #[sv ((jpeekS xr 0).2.1),iv (jpeekS xr 0).2.2.1,.slice i0 (jpeekS xr 0).2.2.2.length Z0] 38),.own (.slice i0 (jpeekS xr 0).2.2.2.length Z0) 40 5 (jpeekS xr 0).2.2.2.length m0] (jescj9 xr K) ?_ (fun gj9 V0 hF=>?_)))
  ·
   refine Ok.sr (Ok.b 2 [0,4,9] [(10,.bool ((jpeekS xr 0).1==34))] ?_)
   refine Ok.nt (Ok.cw hF (fun Y0 hF=>?_) (fun Y0 hF=>?_))
   ·refine Ok.k (Ok.t (Ok.rb 10 (((jpeekS xr 0).1==34)||((jpeekS xr 0).1==92)) (Eq.trans (Y0) (mor_t Y0)) ?_))
    exact fg hF
   refine Ok.r (Ok.b 2 [0,4,9] [(10,.bool ((jpeekS xr 0).1==92))] ?_)
   refine Ok.nt (Ok.rb 10 (((jpeekS xr 0).1==34)||((jpeekS xr 0).1==92)) (mor_f Y0) ?_)
   exact fg hF
  replace a0:=a0.mono V0.1
  refine Ok.cw hF (fun hc3 hF=>?_) (fun hc3 hF=>?_)
  ·refine Ok.sr (Ok.B 3 [(2,.int .u8 (jpeekS xr 0).1),(3,iv 1)] kr (Ok.nt (Ok.ret (Ok.kr (Ok.tr ?_)))))
   exact Ok.resH (vs:=[.int .u8 (jpeekS xr 0).1,iv 1]) (.inl rfl) rfl (.cons (.tmp rfl) (.cons (.tmp rfl) .nil)) (hx2.trans V0) ⟨(jpeekS xr 0).1,1,(jpeekS xr 0).2,i0,Z0,m0,rfl,a0,rfl,hF⟩
  refine Ok.sr (Ok.b 2 [0,9] [(14,.bool ((jpeekS xr 0).1==110))] ?_)
  refine Ok.nt (Ok.cw hF (fun hc4 hF=>?_) (fun hc4 hF=>?_))
  ·refine Ok.sr (Ok.B 2 [(2,.int .u8 10),(3,iv 1)] kr (Ok.nt (Ok.ret (Ok.kr (Ok.tr ?_)))))
   exact Ok.resH (vs:=[.int .u8 10,iv 1]) (.inl rfl) rfl (.cons (.tmp rfl) (.cons (.tmp rfl) .nil)) (hx2.trans V0) ⟨10,1,(jpeekS xr 0).2,i0,Z0,m0,rfl,a0,rfl,hF⟩
  refine Ok.sr (Ok.b 2 [0,9] [(16,.bool ((jpeekS xr 0).1==116))] ?_)
  refine Ok.nt (Ok.cw hF (fun hc5 hF=>?_) (fun hc5 hF=>?_))
  ·refine Ok.sr (Ok.B 2 [(2,.int .u8 9),(3,iv 1)] kr (Ok.nt (Ok.ret (Ok.kr (Ok.tr ?_)))))
   exact Ok.resH (vs:=[.int .u8 9,iv 1]) (.inl rfl) rfl (.cons (.tmp rfl) (.cons (.tmp rfl) .nil)) (hx2.trans V0) ⟨9,1,(jpeekS xr 0).2,i0,Z0,m0,rfl,a0,rfl,hF⟩
  refine Ok.sr (Ok.b 2 [0] [(18,.bool ((jpeekS xr 0).1==120))] ?_)
  refine Ok.nt (Ok.cw hF (fun hc6 hF=>?_) (fun hc6 hF=>?_))
  ·refine Ok.sr (Ok.b 1 [0] [(20,pv bxr 0)] ?_)
   obtain ⟨hp7,hF⟩:=hF
   refine Ok.o (OpOk.ch (jpeek_c (jpeekS xr 0).2 1 a0 hp7) fun g8 _ _ hx8 hV8=>?_)
   obtain ⟨a8_0,c8_0,xs8_0,rfl,hL8_0,rfl⟩:=hV8
   refine Ok.rn 2 [.k (jhex_c (jpeekS (jpeekS xr 0).2 1).1)] [] [(22,iv (jhexM (jpeekS (jpeekS xr 0).2 1).1)),(23,pv bxr 0)] ?_
   obtain ⟨hp9,hF⟩:=hF
   refine Ok.o (OpOk.ch (jpeek_c (jpeekS (jpeekS xr 0).2 1).2 2 hL8_0 hp9) fun g10 _ _ K0 W0=>?_)
   obtain ⟨c0,d0,b0,rfl,l0,rfl⟩:=W0
   refine Ok.rn 3 [.k (jhex_c (jpeekS (jpeekS (jpeekS xr 0).2 1).2 2).1)] [] [(5,iv (jhexM (jpeekS (jpeekS xr 0).2 1).1)),(6,iv (jhexM (jpeekS (jpeekS (jpeekS xr 0).2 1).2 2).1))] ?_
   refine Ok.nt (Ok.sr (Ok.b 3 [5,6] [(28,.bool (decide ((jhexM (jpeekS (jpeekS xr 0).2 1).1)≥0)))] ?_))
   refine Ok.w 3 [(5,iv (jhexM (jpeekS (jpeekS xr 0).2 1).1)),(6,iv (jhexM (jpeekS (jpeekS (jpeekS xr 0).2 1).2 2).1)),(31,.bool ((decide ((jhexM (jpeekS (jpeekS xr 0).2 1).1)≥0))&&(decide ((jhexM (jpeekS (jpeekS (jpeekS xr 0).2 1).2 2).1)≥0))))] (fun S0=>?_) ?_
   ·refine Ok.a 28 (decide ((jhexM (jpeekS (jpeekS xr 0).2 1).1)≥0)) rfl (fun X0=>?_) (fun X0=>?_)
    ·skip
     refine Ok.b 3 [5,6] [(31,.bool (decide ((jhexM (jpeekS (jpeekS (jpeekS xr 0).2 1).2 2).1)≥0)))] ?_
     refine Ok.rb 31 ((decide ((jhexM (jpeekS (jpeekS xr 0).2 1).1)≥0))&&(decide ((jhexM (jpeekS (jpeekS (jpeekS xr 0).2 1).2 2).1)≥0))) (mand_t X0) (Ok.b 0 [5,6] [(31,.bool ((decide ((jhexM (jpeekS (jpeekS xr 0).2 1).1)≥0))&&(decide ((jhexM (jpeekS (jpeekS (jpeekS xr 0).2 1).2 2).1)≥0))))] ?_)
     exact S0
    skip
    refine Ok.b 3 [5,6] [(31,.bool false)] ?_
    refine Ok.rb 31 ((decide ((jhexM (jpeekS (jpeekS xr 0).2 1).1)≥0))&&(decide ((jhexM (jpeekS (jpeekS (jpeekS xr 0).2 1).2 2).1)≥0))) (mand_f X0) (Ok.b 0 [5,6] [(31,.bool ((decide ((jhexM (jpeekS (jpeekS xr 0).2 1).1)≥0))&&(decide ((jhexM (jpeekS (jpeekS (jpeekS xr 0).2 1).2 2).1)≥0))))] ?_)
    exact S0
   refine Ok.nt (Ok.cw hF (fun hc13 hF=>?_) (fun hc13 hF=>?_))
   ·refine Ok.sr (Ok.B 7 [(2,.int .u8 (IntKind.wrap .u8 (bitOr .i64 (w6 ((jhexM (jpeekS (jpeekS xr 0).2 1).1) * 2 ^ 4)) (jhexM (jpeekS (jpeekS (jpeekS xr 0).2 1).2 2).1)))),(3,iv 3)] kr (Ok.nt (Ok.ret (Ok.kr (Ok.tr ?_)))))
    exact Ok.resH (vs:=[.int .u8 (IntKind.wrap .u8 (bitOr .i64 (w6 ((jhexM (jpeekS (jpeekS xr 0).2 1).1) * 2 ^ 4)) (jhexM (jpeekS (jpeekS (jpeekS xr 0).2 1).2 2).1))),iv 3]) (.inl rfl) rfl (.cons (.tmp rfl) (.cons (.tmp rfl) .nil)) (((hx2.trans V0).trans hx8).trans K0) ⟨(IntKind.wrap .u8 (bitOr .i64 (w6 ((jhexM (jpeekS (jpeekS xr 0).2 1).1) * 2 ^ 4)) (jhexM (jpeekS (jpeekS (jpeekS xr 0).2 1).2 2).1))),3,(jpeekS (jpeekS (jpeekS xr 0).2 1).2 2).2,c0,d0,b0,rfl,l0,rfl,hF⟩
   refine Ok.k (Ok.kn (Ok.t (Ok.heapEq (H':=[.blk bxr (.cells #[sv (if ((jpeekS xr 0).1==120)=true then (jpeekS (jpeekS (jpeekS xr 0).2 1).2 2).2.1 else (jpeekS xr 0).2.1),iv (if ((jpeekS xr 0).1==120)=true then (jpeekS (jpeekS (jpeekS xr 0).2 1).2 2).2.2.1 else (jpeekS xr 0).2.2.1),.slice c0 (if ((jpeekS xr 0).1==120)=true then (jpeekS (jpeekS (jpeekS xr 0).2 1).2 2).2.2.2 else (jpeekS xr 0).2.2.2).length d0] 38),.own (.slice c0 (if ((jpeekS xr 0).1==120)=true then (jpeekS (jpeekS (jpeekS xr 0).2 1).2 2).2.2.2 else (jpeekS xr 0).2.2.2).length d0) 40 5 (if ((jpeekS xr 0).1==120)=true then (jpeekS (jpeekS (jpeekS xr 0).2 1).2 2).2.2.2 else (jpeekS xr 0).2.2.2).length b0]) (econs (congrArg (fun l:List Value=>Ent.blk bxr (.cells ⟨l⟩ 38)) (lcons (congrArg (fun s:Bs=>Value.string ⟨⟨s⟩⟩) ((if_t hc6).symm)) (lcons (congrArg (Value.int .i64) ((if_t hc6).symm)) (lcons (congrArg (fun l:List TK=>Value.slice c0 l.length d0) ((if_t hc6).symm)) rfl)))) (econs (congrArg (fun l:List TK=>Ent.own (.slice c0 l.length d0) 40 5 l.length b0) ((if_t hc6).symm)) rfl)) ?_)))
   exact fun _ _ u v=>⟨g10,(((hx2.trans V0).trans hx8).trans K0),c0,d0,b0,(Eq.mp (congrArg (fun l:List TK=>RepL g10 yT b0 l) ((if_t hc6).symm)) l0),fA u v hF⟩
  refine Ok.k (Ok.kn (Ok.t (Ok.heapEq (H':=[.blk bxr (.cells #[sv (if ((jpeekS xr 0).1==120)=true then (jpeekS (jpeekS (jpeekS xr 0).2 1).2 2).2.1 else (jpeekS xr 0).2.1),iv (if ((jpeekS xr 0).1==120)=true then (jpeekS (jpeekS (jpeekS xr 0).2 1).2 2).2.2.1 else (jpeekS xr 0).2.2.1),.slice i0 (if ((jpeekS xr 0).1==120)=true then (jpeekS (jpeekS (jpeekS xr 0).2 1).2 2).2.2.2 else (jpeekS xr 0).2.2.2).length Z0] 38),.own (.slice i0 (if ((jpeekS xr 0).1==120)=true then (jpeekS (jpeekS (jpeekS xr 0).2 1).2 2).2.2.2 else (jpeekS xr 0).2.2.2).length Z0) 40 5 (if ((jpeekS xr 0).1==120)=true then (jpeekS (jpeekS (jpeekS xr 0).2 1).2 2).2.2.2 else (jpeekS xr 0).2.2.2).length m0]) (econs (congrArg (fun l:List Value=>Ent.blk bxr (.cells ⟨l⟩ 38)) (lcons (congrArg (fun s:Bs=>Value.string ⟨⟨s⟩⟩) ((if_f hc6).symm)) (lcons (congrArg (Value.int .i64) ((if_f hc6).symm)) (lcons (congrArg (fun l:List TK=>Value.slice i0 l.length Z0) ((if_f hc6).symm)) rfl)))) (econs (congrArg (fun l:List TK=>Ent.own (.slice i0 l.length Z0) 40 5 l.length m0) ((if_f hc6).symm)) rfl)) ?_)))
  exact fun _ _ u v=>⟨gj9,hx2.trans V0,i0,Z0,m0,(Eq.mp (congrArg (fun l:List TK=>RepL gj9 yT m0 l) ((if_f hc6).symm)) a0),fA u v hF⟩
 clear hF
 rintro _ _ ⟨gj3,hxj3,ayown_xr_2_0j3,cyown_xr_2_0j3,xsyown_xr_2_0j3,hLyown_xr_2_0j3,q⟩
 refine jn (fun hF=>?_) _ _ q
 refine Ok.sr (Ok.B 2 [(2,.int .u8 0),(3,iv 0)] kr (Ok.nt (Ok.ret ?_)))
 exact Ok.resH (vs:=[.int .u8 0,iv 0]) (.inl rfl) rfl (.cons (.tmp rfl) (.cons (.tmp rfl) .nil)) hxj3 ⟨0,0,((if ((jpeekS xr 0).1==120)=true then (jpeekS (jpeekS (jpeekS xr 0).2 1).2 2).2.1 else (jpeekS xr 0).2.1),(if ((jpeekS xr 0).1==120)=true then (jpeekS (jpeekS (jpeekS xr 0).2 1).2 2).2.2.1 else (jpeekS xr 0).2.2.1),(if ((jpeekS xr 0).1==120)=true then (jpeekS (jpeekS (jpeekS xr 0).2 1).2 2).2.2.2 else (jpeekS xr 0).2.2.2)),ayown_xr_2_0j3,cyown_xr_2_0j3,xsyown_xr_2_0j3,rfl,hLyown_xr_2_0j3,rfl,hF⟩
def hexI (x:RD) (n:Int):Int:=jhexM (jpeekS x n).1
def jescS (x:RD):Int×Int×RD :=
 if ((jpeekS x 0).1==34||(jpeekS x 0).1==92)=true then ((jpeekS x 0).1,1,x) else if ((jpeekS x 0).1==110)=true then (10,1,x) else if ((jpeekS x 0).1==116)=true then (9,1,x)
 else if ((jpeekS x 0).1==120)=true then (if (decide (hexI x 1≥0)&&decide (hexI x 2≥0))=true then (IntKind.wrap .u8 (bitOr .i64 (w6 (hexI x 1 * 2 ^ 4)) (hexI x 2)),3,x) else (0,0,x)) else (0,0,x)
theorem jesc_F (x:RD) (hp:rdP x):jescF x (fun r r1 r2=>(r,r1,r2)=jescS x):=by
 have key:jescj9 x (fun r r1 r2=>(r,r1,r2)=jescS x):=by
  unfold jescS
  refine ⟨fun h=>?_,fun h=>⟨fun h1=>?_,fun h1=>⟨fun h2=>?_,fun h2=>⟨fun h3=>⟨⟨hp,by omega,by omega⟩,⟨hp,by omega,by omega⟩,fun h4=>?_,fun h4=>?_⟩,fun h3=>?_⟩⟩⟩⟩
  ·rw [if_t h]; rfl
  ·rw [if_f h,if_t h1]; rfl
  ·rw [if_f h,if_f h1,if_t h2]; rfl
  ·rw [if_f h,if_f h1,if_f h2,if_t h3]
   exact (if_t (show (decide (hexI x 1≥0)&&decide (hexI x 2≥0))=true from h4)).symm
  ·rw [if_f h,if_f h1,if_f h2,if_t h3]
   unfold jescj3
   rw [if_t h3,if_t h3,if_t h3]
   exact (if_f (show (decide (hexI x 1≥0)&&decide (hexI x 2≥0))=false from h4)).symm
  rw [if_f h,if_f h1,if_f h2,if_f h3]
  unfold jescj3
  rw [if_f h3,if_f h3,if_f h3]
  rfl
 exact ⟨⟨hp,by omega,by omega⟩,fun _=>key,fun _=>key⟩
theorem jesc_c {g:Ghost} {bxr:Nat} {j0:Option Addr} {x0:Nat} {k0:List Value} (xr:Bs×Int×List TK) (s0:RepL g yT k0 xr.2.2)  (hp:rdP xr):CallsH prog 63 #[pv bxr 0] g [.blk bxr (.cells #[sv xr.1,iv xr.2.1,.slice j0 xr.2.2.length x0] 38),.own (.slice j0 xr.2.2.length x0) 40 5 xr.2.2.length k0] (fun g' H' v=>∃ (v0:Option Addr) (q0:Nat) (z0:List Value),v=.tuple #[.int .u8 (jescS xr).1,iv (jescS xr).2.1]∧RepL g' yT z0 (jescS xr).2.2.2.2∧H'=[.blk bxr (.cells #[sv ((jescS xr).2.2.1),iv (jescS xr).2.2.2.1,.slice v0 (jescS xr).2.2.2.2.length q0] 38),.own (.slice v0 (jescS xr).2.2.2.2.length q0) 40 5 (jescS xr).2.2.2.2.length z0]) :=
 (jesc_ok xr s0 _ (jesc_F xr hp)).mono (by rintro g' H' v _ ⟨r0,r1,fxr,v0,q0,z0,rfl,g0,rfl,hK⟩; obtain ⟨rfl,rfl,rfl⟩:r0=(jescS xr).1∧r1=(jescS xr).2.1∧fxr=(jescS xr).2.2:=⟨congrArg (fun z=>z.1) hK,congrArg (fun z=>z.2.1) hK,congrArg (fun z=>z.2.2) hK⟩; exact ⟨v0,q0,z0,rfl,g0,rfl⟩)
end Go.Proofs.YtalnampdiegmoaaDoor.Jl
