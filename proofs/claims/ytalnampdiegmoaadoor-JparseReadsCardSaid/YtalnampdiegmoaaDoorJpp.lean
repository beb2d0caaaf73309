/- Parse, by the program and by the document. -/
import Derived.Test.YtalnampdiegmoaaDoorRsf
import Derived.Test.YtalnampdiegmoaaDoorJlf
namespace Go.Proofs.YtalnampdiegmoaaDoor.Rf
open _root_.Go.Proofs.Tryd Go Go.Eng Go.RowKit Ps
set_option linter.unusedVariables false
set_option linter.unusedSimpArgs false
set_option maxHeartbeats 4000000
set_option maxRecDepth 100000
open Jl (jtokS jtok_c rtd_c DSpace KW)
open Fl (fieldsS)
noncomputable section
/-- what a token is -/
def tkO (x:TK):Prop:=1≤x.1∧x.1≤5∧(x.1=5→x.2.2.2.1≠[123])
theorem txN_tk (s:Bs) (o:List TK):∀ (k:Nat) (i:Int) (acc:List Int),(Jl.txN s o k i acc).2.1=0→(Jl.txN s o k i acc).1.1=3
 | 0,_,_,h=>(by cases h)
 | k+1,i,acc,h=>by
  unfold Jl.txN at h ⊢
  split
  ·rename_i h1
   rw [if_pos h1] at h
   split
   ·rfl
   rename_i h2
   rw [if_neg h2] at h
   split
   ·rename_i h3; rw [if_pos h3] at h; cases h
   rename_i h3
   rw [if_neg h3] at h
   split
   ·rename_i h4
    rw [if_pos h4] at h
    split
    ·rename_i h5; rw [if_pos h5] at h; cases h
    rename_i h5; rw [if_neg h5] at h; exact txN_tk s o k _ _ h
   rename_i h4
   rw [if_neg h4] at h
   exact txN_tk s o k _ _ h
  rename_i h1
  rw [if_neg h1] at h; cases h
theorem kw_no:(fieldsS KW).contains [123]=false:=by decide +kernel
theorem nxt_tk (x:Jl.RD) (h:(Jl.jnxtS x).2.1=0) (a b:Int):tkO ((Jl.jnxtS x).1.1,a,b,(Jl.jnxtS x).1.2.2.2.1,(Jl.jnxtS x).1.2.2.2.2):=by
 unfold Jl.jnxtS at h ⊢
 split
 ·show tkO (if _ then 5 else 1,a,b,_,_)
  by_cases hk:Jl.sconM (fieldsS KW) (Jl.jrunS x (fun y0=>Jl.jnbM y0)).1=true
  ·rw [if_pos hk]
   refine ⟨show (1:Int)≤5 by decide,show (5:Int)≤5 by decide,fun _ he=>?_⟩
   have he:(Jl.jrunS x (fun y0=>Jl.jnbM y0)).1=[123]:=he
   rw [Jl.scon_eq,he,kw_no] at hk
   cases hk
  rw [if_neg hk]
  exact ⟨show (1:Int)≤1 by decide,show (1:Int)≤5 by decide,fun h=>absurd (show (1:Int)=5 from h) dc⟩
 rename_i h1
 rw [if_neg h1] at h
 split
 ·rename_i h2
  rw [if_pos h2] at h
  unfold Jl.jnumS at h ⊢
  split
  ·rename_i h3
   rw [h3] at h; cases h
  rename_i n h3
  rw [h3] at h
  dsimp only at h
  split
  ·rename_i h4; rw [if_pos h4] at h; cases h
  exact ⟨by show (1:Int)≤2; decide,by show (2:Int)≤5; decide,fun h=>absurd (show (2:Int)=5 from h) dc⟩
 rename_i h2
 rw [if_neg h2] at h
 split
 ·rename_i h3
  rw [if_pos h3] at h
  have e:(Jl.jtxtS x).1.1=3:=txN_tk _ _ _ _ _ h
  unfold tkO
  dsimp only
  rw [e]
  exact ⟨by decide,by decide,fun h=>absurd h dc⟩
 rename_i h3
 rw [if_neg h3] at h
 unfold Jl.jsigS at h ⊢
 split
 ·exact ⟨by show (1:Int)≤4; decide,by show (4:Int)≤5; decide,fun h=>absurd (show (4:Int)=5 from h) dc⟩
 rename_i h4
 rw [if_neg h4] at h
 split
 ·exact ⟨by show (1:Int)≤4; decide,by show (4:Int)≤5; decide,fun h=>absurd (show (4:Int)=5 from h) dc⟩
 rename_i h5
 rw [if_neg h5] at h; cases h
theorem tkN_tk:∀ (k:Nat) (x:Jl.RD),(∀ y ∈ x.2.2,tkO y)→x.2.2.length≤1000→(∀ y ∈ (Jl.tkN k x).1,tkO y)∧(Jl.tkN k x).1.length≤1000
 | 0,x,h,hl=>⟨h,hl⟩
 | k+1,x,h,hl=>by
  rw [Jl.tkN]
  split
  ·split
   ·exact ⟨fun y hy=>absurd hy List.not_mem_nil,by simp⟩
   rename_i he
   have he:Jl.tkE x=0:=by simpa using he
   have e2:(Jl.jnxtS x).2.1=0∧x.2.2.length≠1000:=by
    unfold Jl.tkE at he
    split at he
    ·cases he
    rename_i h2
    refine ⟨he,fun h3=>h2 ?_⟩
    rw [he,h3]; rfl
   have e3:(Jl.tkA x).2.2=x.2.2++[((Jl.jnxtS x).1.1,x.2.1,(Jl.jnxtS x).2.2.2.1,(Jl.jnxtS x).1.2.2.2.1,(Jl.jnxtS x).1.2.2.2.2)]:=rfl
   refine tkN_tk k (Jl.tkA x) (fun y hy=>?_) (by rw [e3,List.length_append]; simp; omega)
   rw [e3] at hy
   rcases List.mem_append.1 hy with hy | hy
   ·exact h y hy
   rcases List.mem_singleton.1 hy with rfl
   exact nxt_tk x e2.1 _ _
  exact ⟨h,hl⟩
theorem jtok_tk (s:Bs):(∀ y ∈ (Jl.jtokS s).1,tkO y)∧(Jl.jtokS s).1.length≤1000:=by
 unfold Jl.jtokS
 split
 ·exact ⟨fun y hy=>absurd hy List.not_mem_nil,by simp⟩
 exact tkN_tk _ _ (fun y hy=>absurd hy List.not_mem_nil) (by simp [Jl.jskipS])
def parS0 (s:Bs):JN×Int :=
 if ((Jl.jtokS s).2 != 0)=true then (nd 0 0 [] [],(Jl.jtokS s).2) else
 if (!(redS (Jl.jtokS s).1).2)=true then (nd 0 0 [] [],4) else
 if decide (depI (redS (Jl.jtokS s).1).1>40)=true then (nd 0 0 [] [],2) else ((redS (Jl.jtokS s).1).1,0)
def parS:Bs→JN×Int:=Classical.choose (rigid parS0)
theorem parS_eq:parS=parS0:=Classical.choose_spec (rigid parS0)
theorem par_siz (s:Bs):siz (parS s).1≤1001:=by
 rw [parS_eq]
 unfold parS0
 have h0:siz (nd 0 0 [] [])≤1001:=by rw [siz_nd,sizL_nil]; omega
 split
 ·exact h0
 split
 ·exact h0
 split
 ·exact h0
 exact red_siz _ (jtok_tk s).2
def ppsF (xs:Bs) (K:JN→Int→Prop):Prop :=
 (((jtokS xs).2 != 0)=true→K nZ (jtokS xs).2)∧(((jtokS xs).2 != 0)=false→redP (jtokS xs).1∧((!(redS (jtokS xs).1).2)=true→K nZ 4)∧((!(redS (jtokS xs).1).2)=false→dpeP 1000001 (redS (jtokS xs).1).1∧((decide ((depI (redS (jtokS xs).1).1)>40))=true→K nZ 2)∧((decide ((depI (redS (jtokS xs).1).1)>40))=false→K (redS (jtokS xs).1).1 0)))
theorem pps_ok {g:Ghost} (xs:Bs) (hG0:GlobL g 0 yb DSpace) (K:JN→Int→Prop)
  (hF:ppsF xs K):CallsH prog 4 #[sv xs] g [] (fun g' H' v=>∃ (r0:JN),∃ (r1:Int),∃ (z0:Option Addr) (v0:Nat),v=.tuple #[.agg (aJ r0 z0 v0),iv r1]∧Rep g' yJs [.slice z0 r0.kids.length v0] r0.kids∧H'=[]∧K r0 r1):=by
 refine CallsH.en 30 func4 rfl fun w0=>?_
 refine Ok.sr (Ok.o (OpOk.aw aY fun bs2=>?_))
 refine Ok.B 1 [(0,sv xs),(2,pv bs2 0)] kr (Ok.nt (Ok.sr (Ok.b 1 [2] [(9,sv xs)] ?_)))
 refine Ok.o (OpOk.ch (jtok_c xs hG0) fun g2 _ _ hx2 hV2=>?_)
 obtain ⟨b0,c0,rfl,q0,rfl⟩:=hV2
 refine Ok.b 5 [2] [(4,.slice b0 (jtokS xs).1.length c0),(5,iv (jtokS xs).2)] ?_
 refine Ok.nt (Ok.q (Ok.sr (Ok.b 2 [2,4,5] [(14,.bool ((jtokS xs).2 != 0))] ?_)))
 refine Ok.nt (Ok.cw hF (fun hc3 hF=>?_) (fun hc3 hF=>?_))
 ·refine Ok.sr (Ok.b 2 [2] [(15,.agg aY),(16,iv (jtokS xs).2)] ?_)
  refine Ok.o (OpOk.w 0 ?_)
  refine Ok.b 1 [2] [(3,iv (jtokS xs).2)] ?_
  refine Ok.nt (Ok.ret (Ok.tr ?_))
  exact Ok.p (vs:=[.agg aY,iv (jtokS xs).2]) [] [] dc rfl (.inl rfl) rfl (.cons (.cellAgg 0 4 aY rfl rfl underlying24 rfl kr kr kr) (.cons (.tmp rfl) .nil)) hx2 ⟨nZ,(jtokS xs).2,none,0,rfl,Rep.nil,rfl,hF⟩
 refine Ok.k (Ok.t (Ok.sr (Ok.b 1 [2] [(18,.slice b0 (jtokS xs).1.length c0)] ?_)))
 obtain ⟨hp4,hF⟩:=hF
 refine Ok.o (OpOk.ch (red_c (jtokS xs).1 q0 hp4) fun g5 _ _ hx5 hV5=>?_)
 obtain ⟨u0,j0,rfl,e0,rfl⟩:=hV5
 refine Ok.b 3 [2] [(20,.agg (aM ((redS (jtokS xs).1).1.lab.1) ((redS (jtokS xs).1).1.lab.2.1) ((redS (jtokS xs).1).1.lab.2.2) u0 ((redS (jtokS xs).1).1.kids) j0)),(21,.bool (redS (jtokS xs).1).2)] ?_
 refine Ok.o (OpOk.aw aY fun bs6=>?_)
 refine Ok.o (OpOk.w 0 ?_)
 refine Ok.b 1 [2] [(6,pv bs6 0),(7,.bool (redS (jtokS xs).1).2)] ?_
 refine Ok.nt (Ok.q (Ok.sr (Ok.b 2 [2,6] [(23,.bool (!(redS (jtokS xs).1).2))] ?_)))
 refine Ok.nt (Ok.cw hF (fun hc7 hF=>?_) (fun hc7 hF=>?_))
 ·refine Ok.sr (Ok.b 1 [2] [(24,.agg aY)] ?_)
  refine Ok.o (OpOk.w 1 ?_)
  refine Ok.b 1 [2] [(3,iv 4)] ?_
  refine Ok.nt (Ok.ret (Ok.tr ?_))
  exact Ok.p (vs:=[.agg aY,iv 4]) [] [] dc rfl (.inl rfl) rfl (.cons (.cellAgg 1 4 aY rfl rfl underlying24 rfl kr kr kr) (.cons (.tmp rfl) .nil)) (hx2.trans hx5) ⟨nZ,4,none,0,rfl,Rep.nil,rfl,hF⟩
 refine Ok.k (Ok.t (Ok.q (Ok.q (Ok.r ?_))))
 obtain ⟨hp8,hF⟩:=hF
 refine Ok.rn 3 [.e 0,.k (dpe_c 1000001 (redS (jtokS xs).1).1 e0 hp8)] [2,6] [(27,.bool (decide ((depI (redS (jtokS xs).1).1)>40)))] ?_
 refine Ok.nt (Ok.cw hF (fun hc9 hF=>?_) (fun hc9 hF=>?_))
 ·refine Ok.sr (Ok.b 1 [2] [(28,.agg aY)] ?_)
  refine Ok.o (OpOk.w 1 ?_)
  refine Ok.b 1 [2] [(3,iv 2)] ?_
  refine Ok.nt (Ok.ret (Ok.tr ?_))
  exact Ok.p (vs:=[.agg aY,iv 2]) [] [] dc rfl (.inl rfl) rfl (.cons (.cellAgg 1 4 aY rfl rfl underlying24 rfl kr kr kr) (.cons (.tmp rfl) .nil)) (hx2.trans hx5) ⟨nZ,2,none,0,rfl,Rep.nil,rfl,hF⟩
 refine Ok.k (Ok.t (Ok.sr (Ok.o (OpOk.s (v:=.agg (aM ((redS (jtokS xs).1).1.lab.1) ((redS (jtokS xs).1).1.lab.2.1) ((redS (jtokS xs).1).1.lab.2.2) u0 ((redS (jtokS xs).1).1.kids) j0)) (Yields.loadAgg 0 4 (aM ((redS (jtokS xs).1).1.lab.1) ((redS (jtokS xs).1).1.lab.2.1) ((redS (jtokS xs).1).1.lab.2.2) u0 ((redS (jtokS xs).1).1.kids) j0) rfl rfl underlying24 rfl kr kr kr) rfl rfl (Ok.o (OpOk.w 1 ?_))))))
 refine Ok.b 1 [2] [(3,iv 0)] ?_
 refine Ok.nt (Ok.ret ?_)
 exact Ok.p (vs:=[.agg (aM ((redS (jtokS xs).1).1.lab.1) ((redS (jtokS xs).1).1.lab.2.1) ((redS (jtokS xs).1).1.lab.2.2) u0 ((redS (jtokS xs).1).1.kids) j0),iv 0]) [] [] dc rfl (.inl rfl) rfl (.cons (.cellAgg 1 4 (aM ((redS (jtokS xs).1).1.lab.1) ((redS (jtokS xs).1).1.lab.2.1) ((redS (jtokS xs).1).1.lab.2.2) u0 ((redS (jtokS xs).1).1.kids) j0) rfl rfl underlying24 rfl kr kr kr) (.cons (.tmp rfl) .nil)) (hx2.trans hx5) ⟨(redS (jtokS xs).1).1,0,u0,j0,rfl,e0,rfl,hF⟩
theorem pps_F (s:Bs):ppsF s (fun a b=>(a,b)=parS s):=by
 rw [parS_eq]
 have hl:=(jtok_tk s).2
 have hz:=red_siz _ hl
 refine ⟨fun h=>?_,fun h=>⟨hl,fun h2=>?_,fun h2=>⟨⟨by omega,by omega⟩,fun h3=>?_,fun h3=>?_⟩⟩⟩
 ·unfold parS0; rw [if_pos h]; rfl
 ·unfold parS0; rw [if_neg (nb h),if_pos h2]; rfl
 ·unfold parS0; rw [if_neg (nb h),if_neg (nb h2),if_pos h3]; rfl
 unfold parS0; rw [if_neg (nb h),if_neg (nb h2),if_neg (nb h3)]
theorem pps_c {g:Ghost} (xs:Bs) (hG0:GlobL g 0 yb DSpace)  : CallsH prog 4 #[sv xs] g [] (fun g' H' v=>∃ (z0:Option Addr) (v0:Nat),v=.tuple #[.agg (aJ (parS xs).1 z0 v0),iv (parS xs).2]∧Rep g' yJs [.slice z0 (parS xs).1.kids.length v0] (parS xs).1.kids∧H'=[]) :=
 (pps_ok xs hG0 _ (pps_F xs)).mono (by rintro g' H' v _ ⟨r0,r1,z0,v0,rfl,k0,rfl,hK⟩; obtain ⟨rfl,rfl⟩:r0=(parS xs).1∧r1=(parS xs).2:=⟨congrArg (fun z=>z.1) hK,congrArg (fun z=>z.2) hK⟩; exact ⟨z0,v0,rfl,k0,rfl⟩)
def rpdF (xs:Bs) (K:JN→Int→Prop):Prop :=
 (((jtokS xs).2 != 0)=true→K nZ (jtokS xs).2)∧(((jtokS xs).2 != 0)=false→redP (jtokS xs).1∧∀ q5:JN×Bool,(rscR (jtokS xs).1) q5→((!q5.2)=true→K nZ 4)∧((!q5.2)=false→dpeP 1000001 q5.1∧((decide ((depI q5.1)>40))=true→K nZ 2)∧((decide ((depI q5.1)>40))=false→K q5.1 0)))
theorem rpd_ok {g:Ghost} (xs:Bs) (hG1:SomeInt g 1) (K:JN→Int→Prop)
  (hF:rpdF xs K):CallsH prog 5 #[sv xs] g [] (fun g' H' v=>∃ (r0:JN),∃ (r1:Int),∃ (z0:Option Addr) (v0:Nat),v=.tuple #[.agg (aJ r0 z0 v0),iv r1]∧Rep g' yJs [.slice z0 r0.kids.length v0] r0.kids∧H'=[]∧K r0 r1):=by
 refine CallsH.en 30 func5 rfl fun w0=>?_
 refine Ok.sr (Ok.o (OpOk.aw aY fun bs2=>?_))
 refine Ok.B 1 [(0,sv xs),(2,pv bs2 0)] kr (Ok.nt (Ok.sr (Ok.b 1 [2] [(9,sv xs)] ?_)))
 refine Ok.o (OpOk.ch (rtd_c xs hG1) fun g2 _ _ hx2 hV2=>?_)
 obtain ⟨b0,c0,rfl,q0,rfl⟩:=hV2
 refine Ok.b 5 [2] [(4,.slice b0 (jtokS xs).1.length c0),(5,iv (jtokS xs).2)] ?_
 refine Ok.nt (Ok.q (Ok.sr (Ok.b 2 [2,4,5] [(14,.bool ((jtokS xs).2 != 0))] ?_)))
 refine Ok.nt (Ok.cw hF (fun hc3 hF=>?_) (fun hc3 hF=>?_))
 ·refine Ok.sr (Ok.b 2 [2] [(15,.agg aY),(16,iv (jtokS xs).2)] ?_)
  refine Ok.o (OpOk.w 0 ?_)
  refine Ok.b 1 [2] [(3,iv (jtokS xs).2)] ?_
  refine Ok.nt (Ok.ret (Ok.tr ?_))
  exact Ok.p (vs:=[.agg aY,iv (jtokS xs).2]) [] [] dc rfl (.inl rfl) rfl (.cons (.cellAgg 0 4 aY rfl rfl underlying24 rfl kr kr kr) (.cons (.tmp rfl) .nil)) hx2 ⟨nZ,(jtokS xs).2,none,0,rfl,Rep.nil,rfl,hF⟩
 refine Ok.k (Ok.t (Ok.sr (Ok.b 1 [2] [(18,.slice b0 (jtokS xs).1.length c0)] ?_)))
 obtain ⟨hp4,hF⟩:=hF
 refine Ok.o (OpOk.ch (rsc_c (jtokS xs).1 q0 hp4) fun g6 _ _ hx6 hV6=>?_)
 obtain ⟨q5,hq5,x0,s0,rfl,f0,rfl⟩:=hV6
 replace hF:=hF _ hq5
 refine Ok.b 3 [2] [(20,.agg (aJ q5.1 x0 s0)),(21,.bool q5.2)] ?_
 refine Ok.o (OpOk.aw aY fun bs6=>?_)
 refine Ok.o (OpOk.w 0 ?_)
 refine Ok.b 1 [2] [(6,pv bs6 0),(7,.bool q5.2)] ?_
 refine Ok.nt (Ok.q (Ok.sr (Ok.b 2 [2,6] [(23,.bool (!q5.2))] ?_)))
 refine Ok.nt (Ok.cw hF (fun hc8 hF=>?_) (fun hc8 hF=>?_))
 ·refine Ok.sr (Ok.b 1 [2] [(24,.agg aY)] ?_)
  refine Ok.o (OpOk.w 1 ?_)
  refine Ok.b 1 [2] [(3,iv 4)] ?_
  refine Ok.nt (Ok.ret (Ok.tr ?_))
  exact Ok.p (vs:=[.agg aY,iv 4]) [] [] dc rfl (.inl rfl) rfl (.cons (.cellAgg 1 4 aY rfl rfl underlying24 rfl kr kr kr) (.cons (.tmp rfl) .nil)) (hx2.trans hx6) ⟨nZ,4,none,0,rfl,Rep.nil,rfl,hF⟩
 refine Ok.k (Ok.t (Ok.q (Ok.q (Ok.r ?_))))
 obtain ⟨hp9,hF⟩:=hF
 refine Ok.rn 3 [.e 0,.k (dof_c 1000001 q5.1 f0 hp9)] [2,6] [(27,.bool (decide ((depI q5.1)>40)))] ?_
 refine Ok.nt (Ok.cw hF (fun hc10 hF=>?_) (fun hc10 hF=>?_))
 ·refine Ok.sr (Ok.b 1 [2] [(28,.agg aY)] ?_)
  refine Ok.o (OpOk.w 1 ?_)
  refine Ok.b 1 [2] [(3,iv 2)] ?_
  refine Ok.nt (Ok.ret (Ok.tr ?_))
  exact Ok.p (vs:=[.agg aY,iv 2]) [] [] dc rfl (.inl rfl) rfl (.cons (.cellAgg 1 4 aY rfl rfl underlying24 rfl kr kr kr) (.cons (.tmp rfl) .nil)) (hx2.trans hx6) ⟨nZ,2,none,0,rfl,Rep.nil,rfl,hF⟩
 refine Ok.k (Ok.t (Ok.sr (Ok.o (OpOk.s (v:=.agg (aJ q5.1 x0 s0)) (Yields.loadAgg 0 4 (aJ q5.1 x0 s0) rfl rfl underlying24 rfl kr kr kr) rfl rfl (Ok.o (OpOk.w 1 ?_))))))
 refine Ok.b 1 [2] [(3,iv 0)] ?_
 refine Ok.nt (Ok.ret ?_)
 exact Ok.p (vs:=[.agg (aJ q5.1 x0 s0),iv 0]) [] [] dc rfl (.inl rfl) rfl (.cons (.cellAgg 1 4 (aJ q5.1 x0 s0) rfl rfl underlying24 rfl kr kr kr) (.cons (.tmp rfl) .nil)) (hx2.trans hx6) ⟨q5.1,0,x0,s0,rfl,f0,rfl,hF⟩
theorem rpd_F (s:Bs):rpdF s (fun a b=>(a,b)=parS s):=by
 rw [parS_eq]
 have hl:=(jtok_tk s).2
 have hz:=red_siz _ hl
 refine ⟨fun h=>?_,fun h=>⟨hl,fun r hr=>?_⟩⟩
 ·unfold parS0; rw [if_pos h]; rfl
 obtain ⟨e1,e2⟩:=hr (jtok_tk s).1
 refine ⟨fun h2=>?_,fun h2=>?_⟩
 ·unfold parS0; rw [if_neg (nb h),if_pos (by rw [e1]; exact h2)]; rfl
 have h4:r.2=true:=by simpa using h2
 have e2:=e2 h4
 rw [e2]
 refine ⟨⟨by omega,by omega⟩,fun h3=>?_,fun h3=>?_⟩
 ·unfold parS0; rw [if_neg (nb h),if_neg (nb (by rw [e1]; exact h2)),if_pos h3]; rfl
 unfold parS0; rw [if_neg (nb h),if_neg (nb (by rw [e1]; exact h2)),if_neg (nb h3)]
theorem rpd_c {g:Ghost} (xs:Bs) (hG1:SomeInt g 1)  : CallsH prog 5 #[sv xs] g [] (fun g' H' v=>∃ (z0:Option Addr) (v0:Nat),v=.tuple #[.agg (aJ (parS xs).1 z0 v0),iv (parS xs).2]∧Rep g' yJs [.slice z0 (parS xs).1.kids.length v0] (parS xs).1.kids∧H'=[]) :=
 (rpd_ok xs hG1 _ (rpd_F xs)).mono (by rintro g' H' v _ ⟨r0,r1,z0,v0,rfl,k0,rfl,hK⟩; obtain ⟨rfl,rfl⟩:r0=(parS xs).1∧r1=(parS xs).2:=⟨congrArg (fun z=>z.1) hK,congrArg (fun z=>z.2) hK⟩; exact ⟨z0,v0,rfl,k0,rfl⟩)
def ljrF (xs:Bs) (K:Bool→Prop):Prop :=
 snoP 1000001 (parS xs).1 (parS xs).1∧K (true&&((parS xs).2==(parS xs).2))
theorem ljr_ok {g:Ghost} (xs:Bs) (hG0:GlobL g 0 yb DSpace) (hG1:SomeInt g 1) (K:Bool→Prop)
  (hF:ljrF xs K):CallsH prog 3 #[sv xs] g [] (fun g' H' v=>∃ (r0:Bool),v=.bool r0∧H'=[]∧K r0):=by
 refine CallsH.en 25 func3 rfl fun w0=>?_
 refine Ok.sr (Ok.B 1 [(0,sv xs)] kr (Ok.nt (Ok.sr (Ok.b 1 [0] [(8,sv xs)] ?_))))
 refine Ok.o (OpOk.ch (pps_c xs hG0) fun g1 _ _ hx1 hV1=>?_)
 obtain ⟨a1_0,c1_0,rfl,d0,rfl⟩:=hV1
 replace hG1:=hG1.mono hx1.1
 refine Ok.b 3 [0] [(10,.agg (aM ((parS xs).1.lab.1) ((parS xs).1.lab.2.1) ((parS xs).1.lab.2.2) a1_0 ((parS xs).1.kids) c1_0)),(11,iv (parS xs).2)] ?_
 refine Ok.o (OpOk.aw aY fun bs3=>?_)
 refine Ok.o (OpOk.w 0 ?_)
 refine Ok.b 1 [0] [(3,pv bs3 0),(4,iv (parS xs).2)] ?_
 refine Ok.nt (Ok.sr (Ok.b 1 [3,4] [(13,sv xs)] ?_))
 refine Ok.o (OpOk.ch (rpd_c xs hG1) fun g3 _ _ hx3 hV3=>?_)
 obtain ⟨a3_0,c3_0,rfl,hR3_0,rfl⟩:=hV3
 replace d0:=d0.mono hx3.1
 refine Ok.b 3 [3,4] [(15,.agg (aM ((parS xs).1.lab.1) ((parS xs).1.lab.2.1) ((parS xs).1.lab.2.2) a3_0 ((parS xs).1.kids) c3_0)),(16,iv (parS xs).2)] ?_
 refine Ok.o (OpOk.aw aY fun bs5=>?_)
 refine Ok.o (OpOk.w 0 ?_)
 refine Ok.b 1 [3,4] [(5,pv bs5 0),(6,iv (parS xs).2)] ?_
 refine Ok.nt (Ok.q (Ok.r ?_))
 obtain ⟨hp5,hF⟩:=hF
 refine Ok.rn 4 [.e 1,.e 0,.k (sno_c 1000001 (parS xs).1 (parS xs).1 d0 hR3_0 hp5)] [4,6] [(20,.bool true)] ?_
 refine Ok.w 4 [(24,.bool (true&&((parS xs).2==(parS xs).2)))] (fun hR6=>?_) ?_
 ·refine Ok.a 20 (true) rfl (fun hc7=>?_) (fun hc7=>?_)
  ·skip
   refine Ok.B 4 [(24,.bool ((parS xs).2==(parS xs).2))] kr (Ok.rb 24 (true&&((parS xs).2==(parS xs).2)) (mand_t hc7) (Ok.B 0 [(24,.bool (true&&((parS xs).2==(parS xs).2)))] kr ?_))
   exact hR6
  skip
  refine Ok.B 4 [(24,.bool false)] kr (Ok.rb 24 (true&&((parS xs).2==(parS xs).2)) (mand_f hc7) (Ok.B 0 [(24,.bool (true&&((parS xs).2==(parS xs).2)))] kr ?_))
  exact hR6
 refine Ok.B 1 [(2,.bool (true&&((parS xs).2==(parS xs).2)))] kr (Ok.nt (Ok.ret ?_))
 exact Ok.p1 (.bool (true&&((parS xs).2==(parS xs).2))) (hx1.trans hx3) ⟨_,rfl,rfl,hF⟩
theorem ljr_F (s:Bs):ljrF s (fun r=>r=true):=by
 have h:=par_siz s
 exact ⟨⟨rfl,by omega,by omega⟩,by rw [beq_self_eq_true]; rfl⟩
theorem ljr_c {g:Ghost} (xs:Bs) (hG0:GlobL g 0 yb DSpace) (hG1:SomeInt g 1)  : CallsG prog 3 #[sv xs] g (.bool ((fun _=>true) xs)) :=
 (ljr_ok xs hG0 hG1 _ (ljr_F xs)).gv
end
end Go.Proofs.YtalnampdiegmoaaDoor.Rf
