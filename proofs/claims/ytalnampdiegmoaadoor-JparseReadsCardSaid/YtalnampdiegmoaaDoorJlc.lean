/- The script reader: texts, signs, the next token. -/
import Derived.Test.YtalnampdiegmoaaDoorJlb
namespace Go.Proofs.YtalnampdiegmoaaDoor.Jl
open _root_.Go.Proofs.Tryd Go Go.Eng Go.RowKit Bld Fl
set_option linter.unusedVariables false
set_option linter.unusedSimpArgs false
set_option maxHeartbeats 4000000
set_option maxRecDepth 100000
theorem esc_x (x:RD):(jescS x).2.2=x:=by
  unfold jescS; repeat' split
  all_goals rfl
theorem pk_pos {x:RD} {n:Int} (h:(jpeekS x n).1≠0):x.2.1+n<(x.1.length:Int):=by
  unfold jpeekS at h
  by_cases hc:x.2.1+n<(x.1.length:Int)
  · exact hc
  · exact absurd (if_f (decide_eq_false hc)) h
theorem esc_rd (x:RD) (hp:rdP x):0≤(jescS x).2.1∧x.2.1+(jescS x).2.1≤(x.1.length:Int):=by
  obtain ⟨h1,h2,h3⟩:=hp
  unfold jescS
  split
  · rename_i h
    have:=pk_pos (x:=x) (n:=0) (fun h0=>by rw [h0] at h; exact absurd h dc)
    constructor <;> show _≤_ <;> dsimp only <;> omega
  split
  · rename_i h
    have:=pk_pos (x:=x) (n:=0) (fun h0=>by rw [h0] at h; exact absurd h dc)
    constructor <;> dsimp only <;> omega
  split
  · rename_i h
    have:=pk_pos (x:=x) (n:=0) (fun h0=>by rw [h0] at h; exact absurd h dc)
    constructor <;> dsimp only <;> omega
  split
  · split
    · rename_i h
      have:=pk_pos (x:=x) (n:=2) (fun h0=>by
        rw [Bool.and_eq_true] at h
        have h5:=of_decide_eq_true h.2
        unfold hexI at h5
        rw [h0] at h5
        exact absurd h5 dc)
      constructor <;> dsimp only <;> omega
    · constructor <;> dsimp only <;> omega
  · constructor <;> dsimp only <;> omega
def noTok:TK:=(0,0,0,[],0)
def txN (s:Bs) (o:List TK):Nat→Int→List Int→TK×Int×RD
  | 0,i,_=>(noTok,4,(s,i,o))
  | k+1,i,acc=>if decide (i<(s.length:Int))=true then
      if (((s.getD i.toNat 0).toNat:Int)==34)=true then ((3,0,0,bytesOf acc,0),0,(s,i+1,o)) else if decide (((s.getD i.toNat 0).toNat:Int)<32)=true then (noTok,4,(s,i+1,o))
      else if (((s.getD i.toNat 0).toNat:Int)==92)=true then (if ((jescS (s,i+1,o)).2.1==0)=true then (noTok,4,(s,i+1,o)) else txN s o k (i+1+(jescS (s,i+1,o)).2.1) (acc++[(jescS (s,i+1,o)).1]))
      else txN s o k (i+1) (acc++[((s.getD i.toNat 0).toNat:Int)])
    else (noTok,4,(s,i,o))
def jtxtj21 (e4:UInt8) (q0:List Int) (v0:Bs) (z0:Int) (yown_xr_2_0l9:List TK) (C9:(List Int)→Bs→Int→List TK→Prop):Prop :=
  (q0++([(if ((e4.toNat:Int)==92)=true then (jescS (v0,w6 (z0+1),yown_xr_2_0l9)).1 else (e4.toNat:Int))]:List Int)).length≤140737488355328∧C9 (q0++([(if (((v0.getD z0.toNat 0).toNat:Int)==92)=true then (jescS (v0,w6 (z0+1),yown_xr_2_0l9)).1 else ((v0.getD z0.toNat 0).toNat:Int))]:List Int)) (if (((v0.getD z0.toNat 0).toNat:Int)==92)=true then (jescS (v0,w6 (z0+1),yown_xr_2_0l9)).2.2.1 else v0) (if (((v0.getD z0.toNat 0).toNat:Int)==92)=true then w6 ((jescS (v0,w6 (z0+1),yown_xr_2_0l9)).2.2.2.1+(jescS (v0,w6 (z0+1),yown_xr_2_0l9)).2.1) else w6 (z0+1)) (if (((v0.getD z0.toNat 0).toNat:Int)==92)=true then (jescS (v0,w6 (z0+1),yown_xr_2_0l9)).2.2.2.2 else yown_xr_2_0l9)
def jtxtl9b (K:TK→Int→(Bs×Int×List TK)→Prop) (q0:List Int) (v0:Bs) (z0:Int) (yown_xr_2_0l9:List TK) (C9:(List Int)→Bs→Int→List TK→Prop):Prop :=
  ((decide (z0<(v0.length:Int)))=true→0≤z0∧z0.toNat<v0.length∧((((v0.getD z0.toNat 0).toNat:Int)==34)=true→K (3,0,0,bytesOf q0,0) 0 (v0,w6 (z0+1),yown_xr_2_0l9))∧((((v0.getD z0.toNat 0).toNat:Int)==34)=false→((decide (((v0.getD z0.toNat 0).toNat:Int)<32))=true→K (0,0,0,([]:Bs),0) 4 (v0,w6 (z0+1),yown_xr_2_0l9))∧((decide (((v0.getD z0.toNat 0).toNat:Int)<32))=false→((((v0.getD z0.toNat 0).toNat:Int)==92)=true→rdP (v0,w6 (z0+1),yown_xr_2_0l9)∧(((jescS (v0,w6 (z0+1),yown_xr_2_0l9)).2.1==0)=true→K (0,0,0,([]:Bs),0) 4 (jescS (v0,w6 (z0+1),yown_xr_2_0l9)).2.2)∧(((jescS (v0,w6 (z0+1),yown_xr_2_0l9)).2.1==0)=false→jtxtj21 (v0.getD z0.toNat 0) q0 v0 z0 yown_xr_2_0l9 C9))∧((((v0.getD z0.toNat 0).toNat:Int)==92)=false→jtxtj21 (v0.getD z0.toNat 0) q0 v0 z0 yown_xr_2_0l9 C9))))∧((decide (z0<(v0.length:Int)))=false→K (0,0,0,([]:Bs),0) 4 (v0,z0,yown_xr_2_0l9))
def jtxtl9 (K:TK→Int→(Bs×Int×List TK)→Prop):Nat→List Int→Bs→Int→List TK→Prop
  | 0,_,_,_,_=>False
  | k+1,q0,v0,z0,yown_xr_2_0l9=>jtxtl9b K q0 v0 z0 yown_xr_2_0l9 (jtxtl9 K k)
def jtxtF (xr:Bs×Int×List TK) (K:TK→Int→(Bs×Int×List TK)→Prop):Prop :=
  ∃ k,jtxtl9 K k ([]:List Int) xr.1 (w6 (xr.2.1+1)) xr.2.2
theorem jtxt_ok {g:Ghost} {bxr:Nat} {x0:Option Addr} {s0:Nat} {y0:List Value} (xr:Bs×Int×List TK) (d0:RepL g yT y0 xr.2.2) (K:TK→Int→(Bs×Int×List TK)→Prop)
    (hF:jtxtF xr K):CallsH prog 30 #[pv bxr 0] g [.blk bxr (.cells #[sv xr.1,iv xr.2.1,.slice x0 xr.2.2.length s0] 38),.own (.slice x0 xr.2.2.length s0) 40 5 xr.2.2.length y0] (fun g' H' v=>∃ (r0:TK),∃ (r1:Int),∃ (fxr:Bs×Int×List TK),∃ (u0:Option Addr) (j0:Nat) (k0:List Value),v=.tuple #[.agg (aG r0),iv r1]∧RepL g' yT k0 fxr.2.2∧H'=[.blk bxr (.cells #[sv fxr.1,iv fxr.2.1,.slice u0 fxr.2.2.length j0] 38),.own (.slice u0 fxr.2.2.length j0) 40 5 fxr.2.2.length k0]∧K r0 r1 fxr):=by
  refine CallsH.en 76 func30 rfl fun w0=>?_
  refine Ok.sr (Ok.o (OpOk.aw #[iv 0,iv 0,iv 0,sv Bz,iv 0] fun bs2=>?_))
  refine Ok.B 1 [(0,pv bxr 0),(2,pv bs2 0)] kr (Ok.nt (Ok.sr (Ok.b 1 [0,2] [(4,.slice none 0 0)] ?_)))
  have hL2:RepL g yb [] []:=rfl
  refine Ok.ownNil 5 1 (Ok.nt (Ok.q (Ok.sr (Ok.rn 7 [.e 2] [0,2] [(4,.slice none ([]:List Int).length 0),(12,iv (w6 (xr.2.1+1))),(14,pv bxr 1)] ?_))))
  refine Ok.o (OpOk.w1 2 ?_)
  refine Ok.nt (Ok.block ?_)
  obtain ⟨k,hF⟩:=hF
  refine Ok.L (fun k a W=>∃ gl9:Ghost,Gext w0 g gl9∧∃ (b0:Option Addr) (c0:Nat) (q0:List Int) (f0:List Value) (v0:Bs) (z0:Int) (ayown_xr_2_0l9:Option Addr) (cyown_xr_2_0l9:Nat) (yown_xr_2_0l9:List TK) (xsyown_xr_2_0l9:List Value),RepL gl9 yb f0 q0∧RepL gl9 yT xsyown_xr_2_0l9 yown_xr_2_0l9∧StA 76 [(0,pv bxr 0),(2,pv bs2 0),(4,.slice b0 q0.length c0)] a∧StW w0 [.own (.slice b0 q0.length c0) 5 1 q0.length f0,.blk bs2 (.cells #[iv 0,iv 0,iv 0,sv Bz,iv 0] 40),.blk bxr (.cells #[sv v0,iv z0,.slice ayown_xr_2_0l9 yown_xr_2_0l9.length cyown_xr_2_0l9] 38),.own (.slice ayown_xr_2_0l9 yown_xr_2_0l9.length cyown_xr_2_0l9) 40 5 yown_xr_2_0l9.length xsyown_xr_2_0l9] gl9 W∧jtxtl9 K k q0 v0 z0 yown_xr_2_0l9) k ?_ ?_
  ·
    exact fun _ _ u v=>⟨g,Gext.r w0 g,none,0,([]:List Int),[],xr.1,w6 (xr.2.1+1),x0,s0,xr.2.2,y0,hL2,d0,fA u v hF⟩
  clear hF
  rintro (_ | k9) _ _ ⟨gl9,i0,b0,c0,q0,f0,v0,z0,ayown_xr_2_0l9,cyown_xr_2_0l9,yown_xr_2_0l9,xsyown_xr_2_0l9,g0,hLyown_xr_2_0l9,q⟩
  exact (q.2.2:False).elim
  refine jn (fun hF=>?_) _ _ q
  refine Ok.q (Ok.q (Ok.quiet' kr kr (OkQ.b 3 [0,2,4] [(17,pv bxr 1)] ?_)))
  refine OkQ.op rfl (OpQ.s (v:=iv z0) (Yields.l 2 rfl rfl underlying3 rfl kr) rfl rfl (OkQ.b 3 [0,2,4] [(18,iv z0),(21,pv bxr 0)] ?_))
  refine OkQ.op rfl (OpQ.s (v:=sv v0) (Yields.l 2 rfl rfl underlying9 rfl kr) rfl rfl (OkQ.b 2 [0,2,4] [(24,.bool (decide (z0<(v0.length:Int))))] ?_))
  refine OkQ.j (Ok.t (Ok.cw hF (fun hc3 hF=>?_) (fun hc3 hF=>?_)))
  · refine Ok.k (Ok.t (Ok.block (Ok.q (Ok.quiet' kr kr (OkQ.b 3 [0,2,4] [(27,pv bxr 0)] ?_)))))
    refine OkQ.op rfl (OpQ.s (v:=sv v0) (Yields.l 2 rfl rfl underlying9 rfl kr) rfl rfl (OkQ.b 3 [0,2,4] [(28,sv v0),(31,pv bxr 1)] ?_))
    refine OkQ.op rfl (OpQ.s (v:=iv z0) (Yields.l 2 rfl rfl underlying3 rfl kr) rfl rfl ?_)
    obtain ⟨h04,h14,hF⟩:=hF
    have he4:=get_of (l:=v0) (0:UInt8) h14
    generalize hg4:(v0.getD z0.toNat 0)=e4 at he4 hF ⊢
    refine OkQ.op rfl (OpQ.s (v:=.int .u8 (e4.toNat:Int)) (Yields.ix (k:=.i64) (i:=z0) (s:=v0) (b:=e4) kr kr underlying9 h04 he4) rfl rfl (OkQ.b 1 [0,2,4] [(5,.int .u8 (e4.toNat:Int))] ?_))
    refine OkQ.j (Ok.t (Ok.sr (Ok.rn 7 [.e 2] [0,2,4,5] [(38,iv (w6 (z0+1))),(40,pv bxr 1)] ?_)))
    refine Ok.o (OpOk.w1 2 ?_)
    refine Ok.nt (Ok.cut (fun a W=>∃ a0:Ghost,Gext w0 gl9 a0∧∃ (ayown_xr_2_0j21:Option Addr) (cyown_xr_2_0j21:Nat) (xsyown_xr_2_0j21:List Value),RepL a0 yT xsyown_xr_2_0j21 (if ((e4.toNat:Int)==92)=true then (jescS (v0,w6 (z0+1),yown_xr_2_0l9)).2.2.2.2 else yown_xr_2_0l9)∧StA 76 [(0,pv bxr 0),(2,pv bs2 0),(4,.slice b0 q0.length c0),(5,.int .u8 (if ((e4.toNat:Int)==92)=true then (jescS (v0,w6 (z0+1),yown_xr_2_0l9)).1 else (e4.toNat:Int)))] a∧StW w0 [.blk bxr (.cells #[sv (if ((e4.toNat:Int)==92)=true then (jescS (v0,w6 (z0+1),yown_xr_2_0l9)).2.2.1 else v0),iv (if ((e4.toNat:Int)==92)=true then w6 ((jescS (v0,w6 (z0+1),yown_xr_2_0l9)).2.2.2.1+(jescS (v0,w6 (z0+1),yown_xr_2_0l9)).2.1) else w6 (z0+1)),.slice ayown_xr_2_0j21 (if ((e4.toNat:Int)==92)=true then (jescS (v0,w6 (z0+1),yown_xr_2_0l9)).2.2.2.2 else yown_xr_2_0l9).length cyown_xr_2_0j21] 38),.own (.slice ayown_xr_2_0j21 (if ((e4.toNat:Int)==92)=true then (jescS (v0,w6 (z0+1),yown_xr_2_0l9)).2.2.2.2 else yown_xr_2_0l9).length cyown_xr_2_0j21) 40 5 (if ((e4.toNat:Int)==92)=true then (jescS (v0,w6 (z0+1),yown_xr_2_0l9)).2.2.2.2 else yown_xr_2_0l9).length xsyown_xr_2_0j21,.own (.slice b0 q0.length c0) 5 1 q0.length f0,.blk bs2 (.cells #[iv 0,iv 0,iv 0,sv Bz,iv 0] 40)] a0 W∧jtxtj21 e4 q0 v0 z0 yown_xr_2_0l9 (jtxtl9 K k9)) ?_ ?_)
    ·
      refine Ok.block (Ok.sr (Ok.b 3 [0,2,4,5] [(41,.bool ((e4.toNat:Int)==34))] ?_))
      refine Ok.nt (Ok.cw hF (fun hc7 hF=>?_) (fun hc7 hF=>?_))
      · refine Ok.sr (Ok.b 1 [2] [(44,.slice b0 q0.length c0)] ?_)
        refine Ok.o (OpOk.s (v:=sv (bytesOf q0)) (Yields.strOfOwn 0 kr rfl rfl g0 underlying70 underlying9 underlying5) rfl rfl (Ok.b 1 [2] [(46,.agg #[iv 3,iv 0,iv 0,sv (bytesOf q0),iv 0])] ?_))
        refine Ok.o (OpOk.w 1 ?_)
        refine Ok.b 1 [2] [(3,iv 0)] ?_
        refine Ok.nt (Ok.ret (Ok.kr (Ok.tr (Ok.kr (Ok.tr (Ok.kr (Ok.tr ?_)))))))
        exact Ok.p (vs:=[.agg #[iv 3,iv 0,iv 0,sv (bytesOf q0),iv 0],iv 0]) [2,3] [.blk bxr (.cells #[sv v0,iv (w6 (z0+1)),.slice ayown_xr_2_0l9 yown_xr_2_0l9.length cyown_xr_2_0l9] 38),.own (.slice ayown_xr_2_0l9 yown_xr_2_0l9.length cyown_xr_2_0l9) 40 5 yown_xr_2_0l9.length xsyown_xr_2_0l9] dc rfl (.inl rfl) rfl (.cons (.cellAgg 1 5 #[iv 3,iv 0,iv 0,sv (bytesOf q0),iv 0] rfl rfl underlying40 rfl kr kr kr) (.cons (.tmp rfl) .nil)) i0 ⟨(3,0,0,bytesOf q0,0),0,(v0,w6 (z0+1),yown_xr_2_0l9),ayown_xr_2_0l9,cyown_xr_2_0l9,xsyown_xr_2_0l9,rfl,hLyown_xr_2_0l9,rfl,hF⟩
      refine Ok.sr (Ok.b 3 [0,2,4,5] [(47,.bool (decide ((e4.toNat:Int)<32)))] ?_)
      refine Ok.nt (Ok.cw hF (fun hc8 hF=>?_) (fun hc8 hF=>?_))
      · refine Ok.sr (Ok.b 1 [2] [(50,.agg #[iv 0,iv 0,iv 0,sv Bz,iv 0])] ?_)
        refine Ok.o (OpOk.w 1 ?_)
        refine Ok.b 1 [2] [(3,iv 4)] ?_
        refine Ok.nt (Ok.ret (Ok.kr (Ok.tr (Ok.kr (Ok.tr (Ok.kr (Ok.tr ?_)))))))
        exact Ok.p (vs:=[.agg #[iv 0,iv 0,iv 0,sv Bz,iv 0],iv 4]) [2,3] [.blk bxr (.cells #[sv v0,iv (w6 (z0+1)),.slice ayown_xr_2_0l9 yown_xr_2_0l9.length cyown_xr_2_0l9] 38),.own (.slice ayown_xr_2_0l9 yown_xr_2_0l9.length cyown_xr_2_0l9) 40 5 yown_xr_2_0l9.length xsyown_xr_2_0l9] dc rfl (.inl rfl) rfl (.cons (.cellAgg 1 5 #[iv 0,iv 0,iv 0,sv Bz,iv 0] rfl rfl underlying40 rfl kr kr kr) (.cons (.tmp rfl) .nil)) i0 ⟨(0,0,0,Bz,0),4,(v0,w6 (z0+1),yown_xr_2_0l9),ayown_xr_2_0l9,cyown_xr_2_0l9,xsyown_xr_2_0l9,rfl,hLyown_xr_2_0l9,rfl,hF⟩
      refine Ok.sr (Ok.b 3 [0,2,4,5] [(51,.bool ((e4.toNat:Int)==92))] ?_)
      refine Ok.nt (Ok.cw hF (fun hc9 hF=>?_) (fun hc9 hF=>?_))
      · refine Ok.sr (Ok.b 1 [0,2,4] [(55,pv bxr 0)] ?_)
        obtain ⟨hp10,hF⟩:=hF
        refine Ok.en [2,3,0,1] ?_
        refine Ok.o (OpOk.ch (jesc_c (v0,w6 (z0+1),yown_xr_2_0l9) hLyown_xr_2_0l9 hp10) fun g11 _ _ E0 hV11=>?_)
        obtain ⟨o0,t0,n0,rfl,Z0,rfl⟩:=hV11
        replace g0:=g0.mono E0.1
        refine Ok.b 5 [0,2,4] [(6,.int .u8 (jescS (v0,w6 (z0+1),yown_xr_2_0l9)).1),(7,iv (jescS (v0,w6 (z0+1),yown_xr_2_0l9)).2.1)] ?_
        refine Ok.nt (Ok.q (Ok.sr (Ok.b 2 [0,2,4,6,7] [(60,.bool ((jescS (v0,w6 (z0+1),yown_xr_2_0l9)).2.1==0))] ?_)))
        refine Ok.nt (Ok.cw hF (fun hc12 hF=>?_) (fun hc12 hF=>?_))
        · refine Ok.sr (Ok.b 1 [2] [(61,.agg #[iv 0,iv 0,iv 0,sv Bz,iv 0])] ?_)
          refine Ok.o (OpOk.w 3 ?_)
          refine Ok.b 1 [2] [(3,iv 4)] ?_
          refine Ok.nt (Ok.ret (Ok.tr (Ok.kr (Ok.tr (Ok.kr (Ok.tr (Ok.kr (Ok.tr ?_))))))))
          exact Ok.p (vs:=[.agg #[iv 0,iv 0,iv 0,sv Bz,iv 0],iv 4]) [0,1] [.blk bxr (.cells #[sv ((jescS (v0,w6 (z0+1),yown_xr_2_0l9)).2.2.1),iv (jescS (v0,w6 (z0+1),yown_xr_2_0l9)).2.2.2.1,.slice o0 (jescS (v0,w6 (z0+1),yown_xr_2_0l9)).2.2.2.2.length t0] 38),.own (.slice o0 (jescS (v0,w6 (z0+1),yown_xr_2_0l9)).2.2.2.2.length t0) 40 5 (jescS (v0,w6 (z0+1),yown_xr_2_0l9)).2.2.2.2.length n0] dc rfl (.inl rfl) rfl (.cons (.cellAgg 3 5 #[iv 0,iv 0,iv 0,sv Bz,iv 0] rfl rfl underlying40 rfl kr kr kr) (.cons (.tmp rfl) .nil)) (i0.trans E0) ⟨(0,0,0,Bz,0),4,(jescS (v0,w6 (z0+1),yown_xr_2_0l9)).2.2,o0,t0,n0,rfl,Z0,rfl,hF⟩
        refine Ok.k (Ok.t (Ok.sr (Ok.b 2 [0,2,4,7] [(5,.int .u8 (jescS (v0,w6 (z0+1),yown_xr_2_0l9)).1)] ?_)))
        refine Ok.nt (Ok.r (Ok.rn 8 [.e 0] [0,2,4,5] [(68,iv (w6 ((jescS (v0,w6 (z0+1),yown_xr_2_0l9)).2.2.2.1+(jescS (v0,w6 (z0+1),yown_xr_2_0l9)).2.1))),(70,pv bxr 1)] ?_))
        refine Ok.o (OpOk.w1 0 ?_)
        refine Ok.j (Ok.kn (Ok.t (Ok.v 5 rfl (show (.int .u8 (jescS (v0,w6 (z0+1),yown_xr_2_0l9)).1:Value)=.int .u8 (if ((e4.toNat:Int)==92)=true then (jescS (v0,w6 (z0+1),yown_xr_2_0l9)).1 else (e4.toNat:Int)) from congrArg (Value.int .u8) ((if_t hc9).symm)) (Ok.heapEq (H':=[.blk bxr (.cells #[sv (if ((e4.toNat:Int)==92)=true then (jescS (v0,w6 (z0+1),yown_xr_2_0l9)).2.2.1 else v0),iv (if ((e4.toNat:Int)==92)=true then w6 ((jescS (v0,w6 (z0+1),yown_xr_2_0l9)).2.2.2.1+(jescS (v0,w6 (z0+1),yown_xr_2_0l9)).2.1) else w6 (z0+1)),.slice o0 (if ((e4.toNat:Int)==92)=true then (jescS (v0,w6 (z0+1),yown_xr_2_0l9)).2.2.2.2 else yown_xr_2_0l9).length t0] 38),.own (.slice o0 (if ((e4.toNat:Int)==92)=true then (jescS (v0,w6 (z0+1),yown_xr_2_0l9)).2.2.2.2 else yown_xr_2_0l9).length t0) 40 5 (if ((e4.toNat:Int)==92)=true then (jescS (v0,w6 (z0+1),yown_xr_2_0l9)).2.2.2.2 else yown_xr_2_0l9).length n0,.own (.slice b0 q0.length c0) 5 1 q0.length f0,.blk bs2 (.cells #[iv 0,iv 0,iv 0,sv Bz,iv 0] 40)]) (econs (congrArg (fun l:List Value=>Ent.blk bxr (.cells ⟨l⟩ 38)) (lcons (congrArg (fun s:Bs=>Value.string ⟨⟨s⟩⟩) ((if_t hc9).symm)) (lcons (congrArg (Value.int .i64) ((if_t hc9).symm)) (lcons (congrArg (fun l:List TK=>Value.slice o0 l.length t0) ((if_t hc9).symm)) rfl)))) (econs (congrArg (fun l:List TK=>Ent.own (.slice o0 l.length t0) 40 5 l.length n0) ((if_t hc9).symm)) (econs (rfl) (econs (rfl) rfl)))) ?_))))
        exact fun _ _ u v=>⟨g11,E0,o0,t0,n0,(Eq.mp (congrArg (fun l:List TK=>RepL g11 yT n0 l) ((if_t hc9).symm)) Z0),fA u v hF⟩
      refine Ok.k (Ok.kn (Ok.t (Ok.v 5 rfl (show (.int .u8 (e4.toNat:Int):Value)=.int .u8 (if ((e4.toNat:Int)==92)=true then (jescS (v0,w6 (z0+1),yown_xr_2_0l9)).1 else (e4.toNat:Int)) from congrArg (Value.int .u8) ((if_f hc9).symm)) (Ok.heapEq (H':=[.own (.slice b0 q0.length c0) 5 1 q0.length f0,.blk bs2 (.cells #[iv 0,iv 0,iv 0,sv Bz,iv 0] 40),.blk bxr (.cells #[sv (if ((e4.toNat:Int)==92)=true then (jescS (v0,w6 (z0+1),yown_xr_2_0l9)).2.2.1 else v0),iv (if ((e4.toNat:Int)==92)=true then w6 ((jescS (v0,w6 (z0+1),yown_xr_2_0l9)).2.2.2.1+(jescS (v0,w6 (z0+1),yown_xr_2_0l9)).2.1) else w6 (z0+1)),.slice ayown_xr_2_0l9 (if ((e4.toNat:Int)==92)=true then (jescS (v0,w6 (z0+1),yown_xr_2_0l9)).2.2.2.2 else yown_xr_2_0l9).length cyown_xr_2_0l9] 38),.own (.slice ayown_xr_2_0l9 (if ((e4.toNat:Int)==92)=true then (jescS (v0,w6 (z0+1),yown_xr_2_0l9)).2.2.2.2 else yown_xr_2_0l9).length cyown_xr_2_0l9) 40 5 (if ((e4.toNat:Int)==92)=true then (jescS (v0,w6 (z0+1),yown_xr_2_0l9)).2.2.2.2 else yown_xr_2_0l9).length xsyown_xr_2_0l9]) (econs (rfl) (econs (rfl) (econs (congrArg (fun l:List Value=>Ent.blk bxr (.cells ⟨l⟩ 38)) (lcons (congrArg (fun s:Bs=>Value.string ⟨⟨s⟩⟩) ((if_f hc9).symm)) (lcons (congrArg (Value.int .i64) ((if_f hc9).symm)) (lcons (congrArg (fun l:List TK=>Value.slice ayown_xr_2_0l9 l.length cyown_xr_2_0l9) ((if_f hc9).symm)) rfl)))) (econs (congrArg (fun l:List TK=>Ent.own (.slice ayown_xr_2_0l9 l.length cyown_xr_2_0l9) 40 5 l.length xsyown_xr_2_0l9) ((if_f hc9).symm)) rfl)))) ?_))))
      exact fun a W hA hW=>⟨gl9,Gext.r w0 gl9,ayown_xr_2_0l9,cyown_xr_2_0l9,xsyown_xr_2_0l9,(Eq.mp (congrArg (fun l:List TK=>RepL gl9 yT xsyown_xr_2_0l9 l) ((if_f hc9).symm)) hLyown_xr_2_0l9),hA.sub kr,hW.pick [2,3,0,1] _ dc rfl,hF⟩
    clear hF
    rintro _ _ ⟨a0,B0,ayown_xr_2_0j21,cyown_xr_2_0j21,xsyown_xr_2_0j21,hLyown_xr_2_0j21,q⟩
    refine jn (fun hF=>?_) _ _ q
    replace g0:=g0.mono B0.1
    refine Ok.r (Ok.b 2 [0,2] [(71,.slice b0 q0.length c0),(72,.int .u8 (if ((e4.toNat:Int)==92)=true then (jescS (v0,w6 (z0+1),yown_xr_2_0l9)).1 else (e4.toNat:Int)))] ?_)
    have hL5:RepL a0 yb ([.int .u8 (if ((e4.toNat:Int)==92)=true then (jescS (v0,w6 (z0+1),yown_xr_2_0l9)).1 else (e4.toNat:Int))]:List Value) ([(if ((e4.toNat:Int)==92)=true then (jescS (v0,w6 (z0+1),yown_xr_2_0l9)).1 else (e4.toNat:Int))]:List Int):=(RepL.consN (c:=[.int .u8 (if ((e4.toNat:Int)==92)=true then (jescS (v0,w6 (z0+1),yown_xr_2_0l9)).1 else (e4.toNat:Int))]) rfl rfl)
    refine Ok.o (OpOk.li hL5 fun b5=>?_)
    obtain ⟨hb6,hF⟩:=hF
    refine Ok.o (OpOk.append' (e:=.int .u8) 1 140737488355328 3 0 rfl rfl rfl rfl g0 hL5 underlying70 kr kr kr hb6 rfl fun a6 c6 xs6 hL6=>?_)
    refine Ok.b 1 [0,2] [(4,.slice a6 (q0++([(if ((e4.toNat:Int)==92)=true then (jescS (v0,w6 (z0+1),yown_xr_2_0l9)).1 else (e4.toNat:Int))]:List Int)).length c6)] ?_
    refine Ok.j (Ok.kn (Ok.t ?_))
    subst hg4
    exact fun a W hA hW=>⟨k9,nl,a0,i0.trans B0,a6,c6,(q0++([(if (((v0.getD z0.toNat 0).toNat:Int)==92)=true then (jescS (v0,w6 (z0+1),yown_xr_2_0l9)).1 else ((v0.getD z0.toNat 0).toNat:Int))]:List Int)),xs6,(if (((v0.getD z0.toNat 0).toNat:Int)==92)=true then (jescS (v0,w6 (z0+1),yown_xr_2_0l9)).2.2.1 else v0),(if (((v0.getD z0.toNat 0).toNat:Int)==92)=true then w6 ((jescS (v0,w6 (z0+1),yown_xr_2_0l9)).2.2.2.1+(jescS (v0,w6 (z0+1),yown_xr_2_0l9)).2.1) else w6 (z0+1)),ayown_xr_2_0j21,cyown_xr_2_0j21,(if (((v0.getD z0.toNat 0).toNat:Int)==92)=true then (jescS (v0,w6 (z0+1),yown_xr_2_0l9)).2.2.2.2 else yown_xr_2_0l9),xsyown_xr_2_0j21,hL6,hLyown_xr_2_0j21,hA.sub kr,hW.pick [3,4,1,2] _ dc rfl,hF⟩
  refine Ok.x (Ok.thenE (Ok.thenE (Ok.blockHit (Ok.t (Ok.sr (Ok.b 1 [2] [(75,.agg #[iv 0,iv 0,iv 0,sv Bz,iv 0])] ?_))))))
  refine Ok.o (OpOk.w 1 ?_)
  refine Ok.b 1 [2] [(3,iv 4)] ?_
  refine Ok.nt (Ok.ret ?_)
  exact Ok.p (vs:=[.agg #[iv 0,iv 0,iv 0,sv Bz,iv 0],iv 4]) [2,3] [.blk bxr (.cells #[sv v0,iv z0,.slice ayown_xr_2_0l9 yown_xr_2_0l9.length cyown_xr_2_0l9] 38),.own (.slice ayown_xr_2_0l9 yown_xr_2_0l9.length cyown_xr_2_0l9) 40 5 yown_xr_2_0l9.length xsyown_xr_2_0l9] dc rfl (.inl rfl) rfl (.cons (.cellAgg 1 5 #[iv 0,iv 0,iv 0,sv Bz,iv 0] rfl rfl underlying40 rfl kr kr kr) (.cons (.tmp rfl) .nil)) i0 ⟨(0,0,0,Bz,0),4,(v0,z0,yown_xr_2_0l9),ayown_xr_2_0l9,cyown_xr_2_0l9,xsyown_xr_2_0l9,rfl,hLyown_xr_2_0l9,rfl,hF⟩
def jtxtS (x:RD):TK×Int×RD:=txN x.1 x.2.2 (x.1.length+1) (x.2.1+1) []
def jtxtP (x:RD):Prop:=x.1.length≤1000000∧0≤x.2.1∧x.2.1<(x.1.length:Int)
theorem jtxt_F (x:RD) (hp:jtxtP x):jtxtF x (fun r r1 r2=>(r,r1,r2)=jtxtS x):=by
  obtain ⟨h1,h2,h3⟩:=hp
  have loop:∀ (k:Nat) (i:Int) (acc:List Int),(x.1.length:Int)≤i+k→0≤i→i≤(x.1.length:Int)→(acc.length:Int)≤i→jtxtS x=txN x.1 x.2.2 (k+1) i acc →
      jtxtl9 (fun r r1 r2=>(r,r1,r2)=jtxtS x) (k+1) acc x.1 i x.2.2:=by
    intro k
    induction k with
    | zero =>
      intro i acc ha hb hc hd he
      have hn:decide (i<(x.1.length:Int))=false:=decide_eq_false om
      rw [txN,if_f hn] at he
      exact ⟨fun h=>(Bool.false_ne_true (hn.symm.trans h)).elim,fun _=>he.symm⟩
    | succ k ih =>
      intro i acc ha hb hc hd he
      rw [txN] at he
      refine ⟨fun hn=>?_,fun hn=>by rw [if_f hn] at he; exact he.symm⟩
      rw [if_t hn] at he
      have hlt:=of_decide_eq_true hn
      have hw:w6 (i+1)=i+1:=w64 om
      refine ⟨hb,by omega,fun hq=>?_,fun hq=>?_⟩
      · rw [if_t hq] at he
        rw [hw]; exact he.symm
      rw [if_f hq] at he
      refine ⟨fun hs=>?_,fun hs=>?_⟩
      · rw [if_t hs] at he
        rw [hw]; exact he.symm
      rw [if_f hs] at he
      refine ⟨fun hl=>?_,fun hl=>?_⟩
      · rw [if_t hl] at he
        have hr:=esc_rd (x.1,i+1,x.2.2) ⟨h1,by show 0≤i+1; omega,by show i+1≤(x.1.length:Int); omega⟩
        have hr2:i+1+(jescS (x.1,i+1,x.2.2)).2.1≤(x.1.length:Int):=hr.2
        have hr1:=hr.1
        rw [hw]
        refine ⟨⟨h1,by show 0≤i+1; omega,by show i+1≤(x.1.length:Int); omega⟩,fun hz=>?_,fun hz=>?_⟩
        · rw [if_t hz] at he
          rw [esc_x]; exact he.symm
        rw [if_f hz] at he
        unfold jtxtj21
        rw [hw,if_t hl,if_t hl,if_t hl,if_t hl,esc_x]
        refine ⟨by rw [List.length_append]; simp only [List.length_cons,List.length_nil]; omega,?_⟩
        dsimp only
        rw [w6e om]
        exact ih _ _ (by have:(jescS (x.1,i+1,x.2.2)).2.1≠0:=fun h0=>by rw [h0] at hz; exact absurd hz dc
                         omega) om hr2 (by rw [List.length_append]; simp only [List.length_cons,List.length_nil]; omega) he
      rw [if_f hl] at he
      unfold jtxtj21
      rw [if_f hl,if_f hl,if_f hl,if_f hl,hw]
      exact ⟨by rw [List.length_append]; simp only [List.length_cons,List.length_nil]; omega,ih _ _ om om om (by rw [List.length_append]; simp only [List.length_cons,List.length_nil]; omega) he⟩
  unfold jtxtF
  rw [w6e om]
  exact ⟨_,loop x.1.length (x.2.1+1) [] om om om (by show (0:Int)≤_; omega) rfl⟩
theorem jtxt_c {g:Ghost} {bxr:Nat} {x0:Option Addr} {s0:Nat} {y0:List Value} (xr:Bs×Int×List TK) (d0:RepL g yT y0 xr.2.2)  (hp:jtxtP xr):CallsH prog 30 #[pv bxr 0] g [.blk bxr (.cells #[sv xr.1,iv xr.2.1,.slice x0 xr.2.2.length s0] 38),.own (.slice x0 xr.2.2.length s0) 40 5 xr.2.2.length y0] (fun g' H' v=>∃ (u0:Option Addr) (j0:Nat) (k0:List Value),v=.tuple #[.agg (aG (jtxtS xr).1),iv (jtxtS xr).2.1]∧RepL g' yT k0 (jtxtS xr).2.2.2.2∧H'=[.blk bxr (.cells #[sv ((jtxtS xr).2.2.1),iv (jtxtS xr).2.2.2.1,.slice u0 (jtxtS xr).2.2.2.2.length j0] 38),.own (.slice u0 (jtxtS xr).2.2.2.2.length j0) 40 5 (jtxtS xr).2.2.2.2.length k0]) :=
  (jtxt_ok xr d0 _ (jtxt_F xr hp)).mono (by rintro g' H' v _ ⟨r0,r1,fxr,u0,j0,k0,rfl,m0,rfl,hK⟩; obtain ⟨rfl,rfl,rfl⟩:r0=(jtxtS xr).1∧r1=(jtxtS xr).2.1∧fxr=(jtxtS xr).2.2:=⟨congrArg (fun z=>z.1) hK,congrArg (fun z=>z.2.1) hK,congrArg (fun z=>z.2.2) hK⟩; exact ⟨u0,j0,k0,rfl,m0,rfl⟩)
theorem txN_rd (s:Bs) (o:List TK) (hs:s.length≤1000000):∀ (k:Nat) (i:Int) (acc:List Int),0≤i→i≤(s.length:Int)→rdP (txN s o k i acc).2.2∧(txN s o k i acc).2.2.1=s∧(txN s o k i acc).2.2.2.2=o
  | 0,i,acc,h1,h2=>⟨⟨hs,h1,h2⟩,rfl,rfl⟩
  | k+1,i,acc,h1,h2=>by
    rw [txN]
    split
    · rename_i hn
      have hlt:=of_decide_eq_true hn
      have hr:=esc_rd (s,i+1,o) ⟨hs,by show 0≤i+1; omega,by show i+1≤(s.length:Int); omega⟩
      have hr2:i+1+(jescS (s,i+1,o)).2.1≤(s.length:Int):=hr.2
      have h3:rdP (s,i+1,o):=⟨hs,by show 0≤i+1; omega,by show i+1≤(s.length:Int); omega⟩
      split
      · exact ⟨h3,rfl,rfl⟩
      split
      · exact ⟨h3,rfl,rfl⟩
      split
      · split
        · exact ⟨h3,rfl,rfl⟩
        · exact txN_rd s o hs k _ _ (by have:=hr.1; omega) hr2
      · exact txN_rd s o hs k _ _ om om
    · exact ⟨⟨hs,h1,h2⟩,rfl,rfl⟩
def jsigj14 (e0:Int) (C7:Int→Prop):Prop :=
  C7 (w6 (e0+1))
def jsigl7b (xr:Bs×Int×List TK) (K:TK→Int→(Bs×Int×List TK)→Prop) (e0:Int) (C7:Int→Prop):Prop :=
  (decide (e0<2)=true→0≤e0∧e0.toNat<([2,1]:List Int).length∧((decide ((w6 (xr.2.1+(([2,1]:List Int).getD e0.toNat default)))>(xr.1.length:Int)))=true→jsigj14 e0 C7)∧((decide ((w6 (xr.2.1+(([2,1]:List Int).getD e0.toNat default)))>(xr.1.length:Int)))=false→0≤xr.2.1∧(xr.2.1:Int)≤(w6 (xr.2.1+(([2,1]:List Int).getD e0.toNat default)))∧(w6 (xr.2.1+(([2,1]:List Int).getD e0.toNat default)))≤(xr.1.length:Int)∧fieldsP ([61,61,32,33,61,32,60,61,32,62,61,32,38,38,32,124,124,32,61,32,33,32,60,32,62,32,43,32,45,32,42,32,47,32,37,32,40,32,41,32,91,32,93,32,123,32,125,32,44,32,59,32,58,32,46,32,63]:Bs)∧inP (fieldsS ([61,61,32,33,61,32,60,61,32,62,61,32,38,38,32,124,124,32,61,32,33,32,60,32,62,32,43,32,45,32,42,32,47,32,37,32,40,32,41,32,91,32,93,32,123,32,125,32,44,32,59,32,58,32,46,32,63]:Bs)) ((xr.1.take (Int.toNat (w6 (xr.2.1+(([2,1]:List Int).getD e0.toNat default))))).drop (Int.toNat xr.2.1))∧((sconM (fieldsS ([61,61,32,33,61,32,60,61,32,62,61,32,38,38,32,124,124,32,61,32,33,32,60,32,62,32,43,32,45,32,42,32,47,32,37,32,40,32,41,32,91,32,93,32,123,32,125,32,44,32,59,32,58,32,46,32,63]:Bs)) ((xr.1.take (Int.toNat (w6 (xr.2.1+(([2,1]:List Int).getD e0.toNat default))))).drop (Int.toNat xr.2.1)))=true→K (4,0,0,(xr.1.take (Int.toNat (w6 (xr.2.1+(([2,1]:List Int).getD e0.toNat default))))).drop (Int.toNat xr.2.1),0) 0 (xr.1,w6 (xr.2.1+(([2,1]:List Int).getD e0.toNat default)),xr.2.2))∧((sconM (fieldsS ([61,61,32,33,61,32,60,61,32,62,61,32,38,38,32,124,124,32,61,32,33,32,60,32,62,32,43,32,45,32,42,32,47,32,37,32,40,32,41,32,91,32,93,32,123,32,125,32,44,32,59,32,58,32,46,32,63]:Bs)) ((xr.1.take (Int.toNat (w6 (xr.2.1+(([2,1]:List Int).getD e0.toNat default))))).drop (Int.toNat xr.2.1)))=false→jsigj14 e0 C7)))∧(decide (e0<2)=false→K (0,0,0,([]:Bs),0) 4 xr)
def jsigl7 (xr:Bs×Int×List TK) (K:TK→Int→(Bs×Int×List TK)→Prop):Nat→Int→Prop
  | 0,_=>False
  | k+1,e0=>jsigl7b xr K e0 (jsigl7 xr K k)
def jsigF (xr:Bs×Int×List TK) (K:TK→Int→(Bs×Int×List TK)→Prop):Prop :=
  ∃ k,jsigl7 xr K k 0
theorem jsig_ok {g:Ghost} {bxr:Nat} {x0:Option Addr} {s0:Nat} {y0:List Value} (xr:Bs×Int×List TK) (d0:RepL g yT y0 xr.2.2) (hG0:GlobL g 0 yb DSpace) (K:TK→Int→(Bs×Int×List TK)→Prop)
    (hF:jsigF xr K):CallsH prog 31 #[pv bxr 0] g [.blk bxr (.cells #[sv xr.1,iv xr.2.1,.slice x0 xr.2.2.length s0] 38),.own (.slice x0 xr.2.2.length s0) 40 5 xr.2.2.length y0] (fun g' H' v=>∃ (r0:TK),∃ (r1:Int),∃ (fxr:Bs×Int×List TK),∃ (u0:Option Addr) (j0:Nat) (k0:List Value),v=.tuple #[.agg (aG r0),iv r1]∧RepL g' yT k0 fxr.2.2∧H'=[.blk bxr (.cells #[sv fxr.1,iv fxr.2.1,.slice u0 fxr.2.2.length j0] 38),.own (.slice u0 fxr.2.2.length j0) 40 5 fxr.2.2.length k0]∧K r0 r1 fxr):=by
  refine CallsH.en 53 func31 rfl fun w0=>?_
  refine Ok.sr (Ok.o (OpOk.aw #[iv 0,iv 0,iv 0,sv Bz,iv 0] fun bs2=>?_))
  refine Ok.B 1 [(0,pv bxr 0),(2,pv bs2 0)] kr (Ok.nt (Ok.q (Ok.sr (Ok.b 2 [0,2] [(7,.agg #[iv 2,iv 1]),(8,iv 0)] ?_))))
  refine Ok.nt (Ok.block ?_)
  obtain ⟨k,hF⟩:=hF
  refine Ok.L (fun k a W=>∃ gl7:Ghost,Gext w0 g gl7∧∃ (e0:Int),StA 53 [(0,pv bxr 0),(2,pv bs2 0),(7,.agg #[iv 2,iv 1]),(8,iv e0)] a∧StW w0 [.blk bs2 (.cells #[iv 0,iv 0,iv 0,sv Bz,iv 0] 40),.blk bxr (.cells #[sv xr.1,iv xr.2.1,.slice x0 xr.2.2.length s0] 38),.own (.slice x0 xr.2.2.length s0) 40 5 xr.2.2.length y0] gl7 W∧jsigl7 xr K k e0) k ?_ ?_
  ·
    exact fun _ _ u v=>⟨g,Gext.r w0 g,0,fA u v hF⟩
  clear hF
  rintro (_ | k7) _ _ ⟨gl7,V0,e0,q⟩
  exact (q.2.2:False).elim
  refine jn (fun hF=>?_) _ _ q
  replace d0:=d0.mono V0.1
  replace hG0:=hG0.mono V0.1
  refine Ok.sr (Ok.b 1 [0,2,7,8] [(9,.bool (decide (e0<2)))] ?_)
  refine Ok.nt (Ok.q (Ok.cw hF (fun hc2 hF=>?_) (fun hc2 hF=>?_)))
  · refine Ok.k (Ok.t (Ok.cg gl7 [(0,pv bxr 0),(2,pv bs2 0),(7,.agg #[iv 2,iv 1]),(8,iv e0)] [.blk bs2 (.cells #[iv 0,iv 0,iv 0,sv Bz,iv 0] 40),.blk bxr (.cells #[sv xr.1,iv xr.2.1,.slice x0 xr.2.2.length s0] 38),.own (.slice x0 xr.2.2.length s0) 40 5 xr.2.2.length y0] (jsigj14 e0 (jsigl7 xr K k7)) ?_ (fun gj14 Q0 hF=>?_)))
    ·
      refine Ok.block (Ok.q (Ok.r ?_))
      obtain ⟨h03,h13,hF⟩:=hF
      have he3:=get_of (l:=([2,1]:List Int)) default h13
      generalize hg3:(([2,1]:List Int).getD e0.toNat default)=e3 at he3 hF ⊢
      have he4':(#[iv 2,iv 1]:Array Value)[e0.toNat]? = some (iv e3):=by have:=congrArg (Option.map (Value.int .i64)) he3; rw [← List.getElem?_map] at this; exact (List.getElem?_toArray ..).trans this
      have hl4:e0<(2:Int):=by have:=(List.getElem?_eq_some_iff.1 he3).1; have:([2,1]:List Int).length=2:=rfl; omega
      refine Ok.o (OpOk.s (v:=iv e3) (Yields.indexAgg (i:=e0) rfl rfl underlying80 underlying3 rfl kr h03 hl4 he4') rfl rfl (Ok.b 1 [0,2,7,8] [(5,iv e3)] ?_))
      refine Ok.nt (Ok.q (Ok.q (Ok.quiet' kr kr (OkQ.b 3 [0,2,5,7,8] [(13,pv bxr 1)] ?_))))
      refine OkQ.op rfl (OpQ.s (v:=iv xr.2.1) (Yields.l 1 rfl rfl underlying3 rfl kr) rfl rfl (OkQ.b 5 [0,2,5,7,8] [(16,iv (w6 (xr.2.1+e3))),(19,pv bxr 0)] ?_))
      refine OkQ.op rfl (OpQ.s (v:=sv xr.1) (Yields.l 1 rfl rfl underlying9 rfl kr) rfl rfl (OkQ.b 2 [0,2,5,7,8] [(22,.bool (decide ((w6 (xr.2.1+e3))>(xr.1.length:Int))))] ?_))
      refine OkQ.j (Ok.t (Ok.c (b:=decide ((w6 (xr.2.1+e3))>(xr.1.length:Int))) rfl (fun hc5=>?_) (fun hc5=>?_)))
      · replace hF:=hF.1 hc5
        refine Ok.x (Ok.thenE (Ok.blockHit (Ok.t ?_)))
        subst hg3
        exact fg hF
      replace hF:=hF.2 hc5
      refine Ok.k (Ok.t (Ok.q (Ok.quiet' kr kr (OkQ.b 3 [0,2,5,7,8] [(25,pv bxr 0)] ?_))))
      refine OkQ.op rfl (OpQ.s (v:=sv xr.1) (Yields.l 1 rfl rfl underlying9 rfl kr) rfl rfl (OkQ.b 3 [0,2,5,7,8] [(26,sv xr.1),(29,pv bxr 1)] ?_))
      refine OkQ.op rfl (OpQ.s (v:=iv xr.2.1) (Yields.l 1 rfl rfl underlying3 rfl kr) rfl rfl (OkQ.b 3 [0,2,5,7,8,26] [(30,iv xr.2.1),(33,pv bxr 1)] ?_))
      refine OkQ.op rfl (OpQ.s (v:=iv xr.2.1) (Yields.l 1 rfl rfl underlying3 rfl kr) rfl rfl (OkQ.b 2 [0,2,5,7,8,26,30] [(36,iv (w6 (xr.2.1+e3)))] ?_))
      obtain ⟨h06,h16,h26,hF⟩:=hF
      refine OkQ.op rfl (OpQ.s (v:=sv ((xr.1.take (Int.toNat (w6 (xr.2.1+e3)))).drop (Int.toNat xr.2.1))) (Yields.ss (s:=xr.1) (l:=xr.2.1) (h:=w6 (xr.2.1+e3)) kr underlying9 (.inl ⟨_,_,rfl,rfl⟩) (.inl ⟨_,_,rfl,rfl⟩) h06 h16 h26 ((xr.1.take (Int.toNat (w6 (xr.2.1+e3)))).drop (Int.toNat xr.2.1)) rfl) rfl rfl (OkQ.b 1 [0,2,5,7,8] [(6,sv ((xr.1.take (Int.toNat (w6 (xr.2.1+e3)))).drop (Int.toNat xr.2.1)))] ?_))
      refine OkQ.j (Ok.t (Ok.q (Ok.r ?_)))
      obtain ⟨hp7,hF⟩:=hF
      refine Ok.o (OpOk.ch (fields_c BR hG0 hp7) fun g8 _ _ hx8 hV8=>?_)
      obtain ⟨a8_0,c8_0,rfl,hR8_0,rfl⟩:=hV8
      replace d0:=d0.mono hx8.1
      refine Ok.b 1 [0,2,5,6,7,8] [(38,.slice a8_0 (fieldsS BR).length c8_0),(39,sv ((xr.1.take (Int.toNat (w6 (xr.2.1+e3)))).drop (Int.toNat xr.2.1)))] ?_
      obtain ⟨hp9,hF⟩:=hF
      refine Ok.o (OpOk.f enr (fun W hW=>scon_c (fieldsS BR) ((xr.1.take (Int.toNat (w6 (xr.2.1+e3)))).drop (Int.toNat xr.2.1)) (hR8_0.mono hW.sees) hp9) rfl ?_)
      refine Ok.nt (Ok.c (b:=(sconM (fieldsS BR) ((xr.1.take (Int.toNat (w6 (xr.2.1+e3)))).drop (Int.toNat xr.2.1)))) rfl (fun K0=>?_) (fun K0=>?_))
      · replace hF:=hF.1 K0
        refine Ok.sr (Ok.rn 8 [.e 1] [2,6] [(46,iv (w6 (xr.2.1+e3))),(48,pv bxr 1)] ?_)
        refine Ok.o (OpOk.w1 1 ?_)
        refine Ok.nt (Ok.sr (Ok.b 2 [2] [(50,.agg #[iv 4,iv 0,iv 0,sv ((xr.1.take (Int.toNat (w6 (xr.2.1+e3)))).drop (Int.toNat xr.2.1)),iv 0])] ?_))
        refine Ok.o (OpOk.w 0 ?_)
        refine Ok.b 1 [2] [(3,iv 0)] ?_
        refine Ok.nt (Ok.ret (Ok.kr (Ok.tr (Ok.tr (Ok.kr (Ok.tr ?_))))))
        exact Ok.p (vs:=[.agg #[iv 4,iv 0,iv 0,sv ((xr.1.take (Int.toNat (w6 (xr.2.1+e3)))).drop (Int.toNat xr.2.1)),iv 0],iv 0]) [1,2] [.blk bxr (.cells #[sv xr.1,iv (w6 (xr.2.1+e3)),.slice x0 xr.2.2.length s0] 38),.own (.slice x0 xr.2.2.length s0) 40 5 xr.2.2.length y0] dc rfl (.inl rfl) rfl (.cons (.cellAgg 0 5 #[iv 4,iv 0,iv 0,sv ((xr.1.take (Int.toNat (w6 (xr.2.1+e3)))).drop (Int.toNat xr.2.1)),iv 0] rfl rfl underlying40 rfl kr kr kr) (.cons (.tmp rfl) .nil)) (V0.trans hx8) ⟨(4,0,0,(xr.1.take (Int.toNat (w6 (xr.2.1+e3)))).drop (Int.toNat xr.2.1),0),0,(xr.1,w6 (xr.2.1+e3),xr.2.2),x0,s0,y0,rfl,d0,rfl,hF⟩
      replace hF:=hF.2 K0
      refine Ok.k (Ok.kn (Ok.t ?_))
      subst hg3
      exact fun _ _ u v=>⟨g8,hx8,fA u v hF⟩
    replace d0:=d0.mono Q0.1
    refine Ok.r (Ok.b 2 [0,2,7] [(8,iv (w6 (e0+1)))] ?_)
    refine Ok.j (Ok.t ?_)
    exact fun _ _ u v=>⟨k7,nl,gj14,V0.trans Q0,w6 (e0+1),fA u v hF⟩
  refine Ok.x (Ok.thenE (Ok.thenE (Ok.blockHit (Ok.t (Ok.sr (Ok.b 1 [2] [(52,.agg #[iv 0,iv 0,iv 0,sv Bz,iv 0])] ?_))))))
  refine Ok.o (OpOk.w 0 ?_)
  refine Ok.b 1 [2] [(3,iv 4)] ?_
  refine Ok.nt (Ok.ret ?_)
  exact Ok.p (vs:=[.agg #[iv 0,iv 0,iv 0,sv Bz,iv 0],iv 4]) [1,2] [.blk bxr (.cells #[sv xr.1,iv xr.2.1,.slice x0 xr.2.2.length s0] 38),.own (.slice x0 xr.2.2.length s0) 40 5 xr.2.2.length y0] dc rfl (.inl rfl) rfl (.cons (.cellAgg 0 5 #[iv 0,iv 0,iv 0,sv Bz,iv 0] rfl rfl underlying40 rfl kr kr kr) (.cons (.tmp rfl) .nil)) V0 ⟨(0,0,0,Bz,0),4,xr,x0,s0,y0,rfl,d0,rfl,hF⟩
def sgW (x:RD) (n:Int):Bs:=(x.1.take (Int.toNat (x.2.1+n))).drop (Int.toNat x.2.1)
def sgT (x:RD) (n:Int):Bool:=!(decide (x.2.1+n>(x.1.length:Int)))&&sconM (fieldsS SG) (sgW x n)
def sgR (x:RD) (n:Int):TK×Int×RD:=((4,0,0,sgW x n,0),0,(x.1,x.2.1+n,x.2.2))
def jsigS (x:RD):TK×Int×RD:=if sgT x 2=true then sgR x 2 else if sgT x 1=true then sgR x 1 else (noTok,4,x)
theorem jsig_F (x:RD) (hp:rdP x):jsigF x (fun r r1 r2=>(r,r1,r2)=jsigS x):=by
  obtain ⟨h1,h2,h3⟩:=hp
  have step:∀ (n:Int) (j:Nat) (C:Int→Prop),j<2→([2,1]:List Int).getD j default=n→1≤n→n≤2→(sgT x n=true→jsigS x=sgR x n)→(sgT x n=false→C ((j:Int)+1)) →
      jsigl7b x (fun r r1 r2=>(r,r1,r2)=jsigS x) (j:Int) C:=by
    intro n j C hj hn hn1 hn2 ht hf
    have hw:w6 (x.2.1+n)=x.2.1+n:=w64 om
    have go:sgT x n=false→jsigj14 (j:Int) C:=fun h=>by
      unfold jsigj14; rw [w6e om]; exact hf h
    refine ⟨fun _=>⟨by omega,by rw [tnc]; exact hj,?_,?_⟩,fun h=>oe h⟩
    · rw [tnc,hn,hw]
      exact fun h=>go (by unfold sgT; rw [h]; rfl)
    rw [tnc,hn,hw]
    refine fun h=>⟨h2,by omega,oe h,SG_f,in_f _ SG_f,fun hs=>?_,fun hs=>go ?_⟩
    · exact (ht (by unfold sgT; rw [h]; exact hs)).symm
    · unfold sgT; rw [h]; exact hs
  refine ⟨3,?_⟩
  refine step 2 0 _ dc rfl dc dc (fun h=>by unfold jsigS; rw [if_t h]) (fun ha=>?_)
  refine step 1 1 _ dc rfl dc dc (fun h=>by unfold jsigS; rw [if_f ha,if_t h]) (fun hb=>?_)
  refine ⟨fun h=>absurd (of_decide_eq_true h) dc,fun _=>?_⟩
  unfold jsigS; rw [if_f ha,if_f hb]; rfl
theorem jsig_c {g:Ghost} {bxr:Nat} {x0:Option Addr} {s0:Nat} {y0:List Value} (xr:Bs×Int×List TK) (d0:RepL g yT y0 xr.2.2) (hG0:GlobL g 0 yb DSpace)  (hp:rdP xr):CallsH prog 31 #[pv bxr 0] g [.blk bxr (.cells #[sv xr.1,iv xr.2.1,.slice x0 xr.2.2.length s0] 38),.own (.slice x0 xr.2.2.length s0) 40 5 xr.2.2.length y0] (fun g' H' v=>∃ (u0:Option Addr) (j0:Nat) (k0:List Value),v=.tuple #[.agg (aG (jsigS xr).1),iv (jsigS xr).2.1]∧RepL g' yT k0 (jsigS xr).2.2.2.2∧H'=[.blk bxr (.cells #[sv ((jsigS xr).2.2.1),iv (jsigS xr).2.2.2.1,.slice u0 (jsigS xr).2.2.2.2.length j0] 38),.own (.slice u0 (jsigS xr).2.2.2.2.length j0) 40 5 (jsigS xr).2.2.2.2.length k0]) :=
  (jsig_ok xr d0 hG0 _ (jsig_F xr hp)).mono (by rintro g' H' v _ ⟨r0,r1,fxr,u0,j0,k0,rfl,m0,rfl,hK⟩; obtain ⟨rfl,rfl,rfl⟩:r0=(jsigS xr).1∧r1=(jsigS xr).2.1∧fxr=(jsigS xr).2.2:=⟨congrArg (fun z=>z.1) hK,congrArg (fun z=>z.2.1) hK,congrArg (fun z=>z.2.2) hK⟩; exact ⟨u0,j0,k0,rfl,m0,rfl⟩)
def jnxtF (xr:Bs×Int×List TK) (K:TK→Int→(Bs×Int×List TK)→Prop):Prop :=
  jpeekP xr 0∧(jletM (jpeekS xr 0).1=true→rdP (jpeekS xr 0).2∧K (jnameS (jpeekS xr 0).2).1 0 (jnameS (jpeekS xr 0).2).2)∧(jletM (jpeekS xr 0).1=false→(jdigM (jpeekS xr 0).1=true→rdP (jpeekS xr 0).2∧K (jnumS (jpeekS xr 0).2).1 (jnumS (jpeekS xr 0).2).2.1 (jnumS (jpeekS xr 0).2).2.2)∧(jdigM (jpeekS xr 0).1=false→(((jpeekS xr 0).1==34)=true→jtxtP (jpeekS xr 0).2∧K (jtxtS (jpeekS xr 0).2).1 (jtxtS (jpeekS xr 0).2).2.1 (jtxtS (jpeekS xr 0).2).2.2)∧(((jpeekS xr 0).1==34)=false→rdP (jpeekS xr 0).2∧K (jsigS (jpeekS xr 0).2).1 (jsigS (jpeekS xr 0).2).2.1 (jsigS (jpeekS xr 0).2).2.2)))
theorem jnxt_ok {g:Ghost} {bxr:Nat} {x0:Option Addr} {s0:Nat} {y0:List Value} (xr:Bs×Int×List TK) (d0:RepL g yT y0 xr.2.2) (hG0:GlobL g 0 yb DSpace) (K:TK→Int→(Bs×Int×List TK)→Prop)
    (hF:jnxtF xr K):CallsH prog 14 #[pv bxr 0] g [.blk bxr (.cells #[sv xr.1,iv xr.2.1,.slice x0 xr.2.2.length s0] 38),.own (.slice x0 xr.2.2.length s0) 40 5 xr.2.2.length y0] (fun g' H' v=>∃ (r0:TK),∃ (r1:Int),∃ (fxr:Bs×Int×List TK),∃ (u0:Option Addr) (j0:Nat) (k0:List Value),v=.tuple #[.agg (aG r0),iv r1]∧RepL g' yT k0 fxr.2.2∧H'=[.blk bxr (.cells #[sv fxr.1,iv fxr.2.1,.slice u0 fxr.2.2.length j0] 38),.own (.slice u0 fxr.2.2.length j0) 40 5 fxr.2.2.length k0]∧K r0 r1 fxr):=by
  refine CallsH.en 30 func14 rfl fun w0=>?_
  refine Ok.sr (Ok.o (OpOk.aw #[iv 0,iv 0,iv 0,sv Bz,iv 0] fun bs2=>?_))
  refine Ok.B 1 [(0,pv bxr 0),(2,pv bs2 0)] kr (Ok.nt (Ok.q (Ok.sr (Ok.b 1 [0,2] [(5,pv bxr 0)] ?_))))
  obtain ⟨hp2,hF⟩:=hF
  refine Ok.en [1,2,0] ?_
  refine Ok.o (OpOk.ch (jpeek_c xr 0 d0 hp2) fun g3 _ _ hx3 hV3=>?_)
  obtain ⟨a3_0,c3_0,xs3_0,rfl,l0,rfl⟩:=hV3
  replace hG0:=hG0.mono hx3.1
  refine Ok.b 1 [0,2] [(4,.int .u8 (jpeekS xr 0).1)] ?_
  refine Ok.nt (Ok.block (Ok.sr (Ok.rn 3 [.k (jlet_c (jpeekS xr 0).1)] [0,2,4] [(7,.bool (jletM (jpeekS xr 0).1))] ?_)))
  refine Ok.nt (Ok.cw hF (fun hc4 hF=>?_) (fun hc4 hF=>?_))
  · refine Ok.sr (Ok.b 1 [2] [(10,pv bxr 0)] ?_)
    obtain ⟨hp5,hF⟩:=hF
    refine Ok.o (OpOk.ch (jname_c (jpeekS xr 0).2 l0 hG0 hp5) fun g6 _ _ hx6 hV6=>?_)
    obtain ⟨F0,G0,C0,rfl,hL6_0,rfl⟩:=hV6
    replace hG0:=hG0.mono hx6.1
    refine Ok.o (OpOk.w 2 ?_)
    refine Ok.b 1 [2] [(3,iv 0)] ?_
    refine Ok.nt (Ok.ret (Ok.kr (Ok.tr ?_)))
    exact Ok.p (vs:=[.agg (aG (jnameS (jpeekS xr 0).2).1),iv 0]) [0,1] [.blk bxr (.cells #[sv ((jnameS (jpeekS xr 0).2).2.1),iv (jnameS (jpeekS xr 0).2).2.2.1,.slice F0 (jnameS (jpeekS xr 0).2).2.2.2.length G0] 38),.own (.slice F0 (jnameS (jpeekS xr 0).2).2.2.2.length G0) 40 5 (jnameS (jpeekS xr 0).2).2.2.2.length C0] dc rfl (.inl rfl) rfl (.cons (.cellAgg 2 5 (aG (jnameS (jpeekS xr 0).2).1) rfl rfl underlying40 rfl kr kr kr) (.cons (.tmp rfl) .nil)) (hx3.trans hx6) ⟨(jnameS (jpeekS xr 0).2).1,0,(jnameS (jpeekS xr 0).2).2,F0,G0,C0,rfl,hL6_0,rfl,hF⟩
  refine Ok.sr (Ok.rn 3 [.k (jdig_c (jpeekS xr 0).1)] [0,2,4] [(12,.bool (jdigM (jpeekS xr 0).1))] ?_)
  refine Ok.nt (Ok.cw hF (fun hc7 hF=>?_) (fun hc7 hF=>?_))
  · refine Ok.sr (Ok.b 1 [2] [(15,pv bxr 0)] ?_)
    obtain ⟨hp8,hF⟩:=hF
    refine Ok.o (OpOk.ch (jnum_c (jpeekS xr 0).2 l0 hp8) fun g9 _ _ hx9 hV9=>?_)
    obtain ⟨H0,M0,D0,rfl,hL9_0,rfl⟩:=hV9
    replace hG0:=hG0.mono hx9.1
    refine Ok.b 2 [2] [(17,.agg (aG (jnumS (jpeekS xr 0).2).1)),(18,iv (jnumS (jpeekS xr 0).2).2.1)] ?_
    refine Ok.o (OpOk.w 2 ?_)
    refine Ok.b 1 [2] [(3,iv (jnumS (jpeekS xr 0).2).2.1)] ?_
    refine Ok.nt (Ok.ret (Ok.kr (Ok.tr ?_)))
    exact Ok.p (vs:=[.agg (aG (jnumS (jpeekS xr 0).2).1),iv (jnumS (jpeekS xr 0).2).2.1]) [0,1] [.blk bxr (.cells #[sv ((jnumS (jpeekS xr 0).2).2.2.1),iv (jnumS (jpeekS xr 0).2).2.2.2.1,.slice H0 (jnumS (jpeekS xr 0).2).2.2.2.2.length M0] 38),.own (.slice H0 (jnumS (jpeekS xr 0).2).2.2.2.2.length M0) 40 5 (jnumS (jpeekS xr 0).2).2.2.2.2.length D0] dc rfl (.inl rfl) rfl (.cons (.cellAgg 2 5 (aG (jnumS (jpeekS xr 0).2).1) rfl rfl underlying40 rfl kr kr kr) (.cons (.tmp rfl) .nil)) (hx3.trans hx9) ⟨(jnumS (jpeekS xr 0).2).1,(jnumS (jpeekS xr 0).2).2.1,(jnumS (jpeekS xr 0).2).2.2,H0,M0,D0,rfl,hL9_0,rfl,hF⟩
  refine Ok.sr (Ok.b 3 [0,2] [(19,.bool ((jpeekS xr 0).1==34))] ?_)
  refine Ok.nt (Ok.cw hF (fun K0 hF=>?_) (fun K0 hF=>?_))
  · refine Ok.sr (Ok.b 1 [2] [(22,pv bxr 0)] ?_)
    obtain ⟨hp11,hF⟩:=hF
    refine Ok.o (OpOk.ch (jtxt_c (jpeekS xr 0).2 l0 hp11) fun g12 _ _ N0 hV12=>?_)
    obtain ⟨Y0,U0,J0,rfl,hL12_0,rfl⟩:=hV12
    replace hG0:=hG0.mono N0.1
    refine Ok.b 2 [2] [(24,.agg (aG (jtxtS (jpeekS xr 0).2).1)),(25,iv (jtxtS (jpeekS xr 0).2).2.1)] ?_
    refine Ok.o (OpOk.w 2 ?_)
    refine Ok.b 1 [2] [(3,iv (jtxtS (jpeekS xr 0).2).2.1)] ?_
    refine Ok.nt (Ok.ret (Ok.kr (Ok.tr ?_)))
    exact Ok.p (vs:=[.agg (aG (jtxtS (jpeekS xr 0).2).1),iv (jtxtS (jpeekS xr 0).2).2.1]) [0,1] [.blk bxr (.cells #[sv ((jtxtS (jpeekS xr 0).2).2.2.1),iv (jtxtS (jpeekS xr 0).2).2.2.2.1,.slice Y0 (jtxtS (jpeekS xr 0).2).2.2.2.2.length U0] 38),.own (.slice Y0 (jtxtS (jpeekS xr 0).2).2.2.2.2.length U0) 40 5 (jtxtS (jpeekS xr 0).2).2.2.2.2.length J0] dc rfl (.inl rfl) rfl (.cons (.cellAgg 2 5 (aG (jtxtS (jpeekS xr 0).2).1) rfl rfl underlying40 rfl kr kr kr) (.cons (.tmp rfl) .nil)) (hx3.trans N0) ⟨(jtxtS (jpeekS xr 0).2).1,(jtxtS (jpeekS xr 0).2).2.1,(jtxtS (jpeekS xr 0).2).2.2,Y0,U0,J0,rfl,hL12_0,rfl,hF⟩
  refine Ok.k (Ok.kn (Ok.t (Ok.sr (Ok.b 1 [2] [(26,pv bxr 0)] ?_))))
  obtain ⟨hp13,hF⟩:=hF
  refine Ok.o (OpOk.ch (jsig_c (jpeekS xr 0).2 l0 hG0 hp13) fun g14 _ _ O0 hV14=>?_)
  obtain ⟨W0,X0,S0,rfl,hL14_0,rfl⟩:=hV14
  refine Ok.b 2 [2] [(28,.agg (aG (jsigS (jpeekS xr 0).2).1)),(29,iv (jsigS (jpeekS xr 0).2).2.1)] ?_
  refine Ok.o (OpOk.w 2 ?_)
  refine Ok.b 1 [2] [(3,iv (jsigS (jpeekS xr 0).2).2.1)] ?_
  refine Ok.nt (Ok.ret ?_)
  exact Ok.p (vs:=[.agg (aG (jsigS (jpeekS xr 0).2).1),iv (jsigS (jpeekS xr 0).2).2.1]) [0,1] [.blk bxr (.cells #[sv ((jsigS (jpeekS xr 0).2).2.2.1),iv (jsigS (jpeekS xr 0).2).2.2.2.1,.slice W0 (jsigS (jpeekS xr 0).2).2.2.2.2.length X0] 38),.own (.slice W0 (jsigS (jpeekS xr 0).2).2.2.2.2.length X0) 40 5 (jsigS (jpeekS xr 0).2).2.2.2.2.length S0] dc rfl (.inl rfl) rfl (.cons (.cellAgg 2 5 (aG (jsigS (jpeekS xr 0).2).1) rfl rfl underlying40 rfl kr kr kr) (.cons (.tmp rfl) .nil)) (hx3.trans O0) ⟨(jsigS (jpeekS xr 0).2).1,(jsigS (jpeekS xr 0).2).2.1,(jsigS (jpeekS xr 0).2).2.2,W0,X0,S0,rfl,hL14_0,rfl,hF⟩
def jnxtS (x:RD):TK×Int×RD :=
  if jletM (jpeekS x 0).1=true then ((jnameS x).1,0,(jnameS x).2) else if jdigM (jpeekS x 0).1=true then jnumS x else if ((jpeekS x 0).1==34)=true then jtxtS x else jsigS x
theorem jnxt_F (x:RD) (hp:jtxtP x):jnxtF x (fun r r1 r2=>(r,r1,r2)=jnxtS x):=by
  have hr:rdP x:=⟨hp.1,hp.2.1,by have:=hp.2.2; omega⟩
  unfold jnxtS
  refine ⟨⟨hr,by omega,by omega⟩,fun h=>⟨hr,?_⟩,fun h=>⟨fun h5=>⟨hr,?_⟩,fun h5=>⟨fun h6=>⟨hp,?_⟩,fun h6=>⟨hr,?_⟩⟩⟩⟩
  · rw [if_t h]; rfl
  · rw [if_f h,if_t h5]; rfl
  · rw [if_f h,if_f h5,if_t h6]; rfl
  · rw [if_f h,if_f h5,if_f h6]; rfl
theorem jnxt_c {g:Ghost} {bxr:Nat} {x0:Option Addr} {s0:Nat} {y0:List Value} (xr:Bs×Int×List TK) (d0:RepL g yT y0 xr.2.2) (hG0:GlobL g 0 yb DSpace)  (hp:jtxtP xr):CallsH prog 14 #[pv bxr 0] g [.blk bxr (.cells #[sv xr.1,iv xr.2.1,.slice x0 xr.2.2.length s0] 38),.own (.slice x0 xr.2.2.length s0) 40 5 xr.2.2.length y0] (fun g' H' v=>∃ (u0:Option Addr) (j0:Nat) (k0:List Value),v=.tuple #[.agg (aG (jnxtS xr).1),iv (jnxtS xr).2.1]∧RepL g' yT k0 (jnxtS xr).2.2.2.2∧H'=[.blk bxr (.cells #[sv ((jnxtS xr).2.2.1),iv (jnxtS xr).2.2.2.1,.slice u0 (jnxtS xr).2.2.2.2.length j0] 38),.own (.slice u0 (jnxtS xr).2.2.2.2.length j0) 40 5 (jnxtS xr).2.2.2.2.length k0]) :=
  (jnxt_ok xr d0 hG0 _ (jnxt_F xr hp)).mono (by rintro g' H' v _ ⟨r0,r1,fxr,u0,j0,k0,rfl,m0,rfl,hK⟩; obtain ⟨rfl,rfl,rfl⟩:r0=(jnxtS xr).1∧r1=(jnxtS xr).2.1∧fxr=(jnxtS xr).2.2:=⟨congrArg (fun z=>z.1) hK,congrArg (fun z=>z.2.1) hK,congrArg (fun z=>z.2.2) hK⟩; exact ⟨u0,j0,k0,rfl,m0,rfl⟩)
end Go.Proofs.YtalnampdiegmoaaDoor.Jl
