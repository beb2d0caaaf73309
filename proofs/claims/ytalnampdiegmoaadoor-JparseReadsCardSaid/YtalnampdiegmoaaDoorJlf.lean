/- The script reader: the reference's tokens and quotes. -/
import Derived.Test.YtalnampdiegmoaaDoorJle
namespace Go.Proofs.YtalnampdiegmoaaDoor.Jl
open _root_.Go.Proofs.Tryd Go Go.Eng Go.RowKit Bld Fl
set_option linter.unusedVariables false
set_option linter.unusedSimpArgs false
set_option maxHeartbeats 4000000
set_option maxRecDepth 100000
theorem bf1 (c:UInt8):btwM (w6 (c.toNat:Int)) 48 57=jdigM (c.toNat:Int):=beq_iff_eq.1 (byte_all (p:=fun c=>btwM (w6 (c.toNat:Int)) 48 57==jdigM (c.toNat:Int)) dk c)
theorem bf2 (c:UInt8) (h:jdigM (c.toNat:Int)=true):jletM (c.toNat:Int)=false:=by
 have:=byte_all (p:=fun c=>!jdigM (c.toNat:Int)||!jletM (c.toNat:Int)) dk c
 rw [h] at this
 simpa using this
theorem bf3 (c:UInt8):rnbM (c.toNat:Int)=jnbM (c.toNat:Int):=beq_iff_eq.1 (byte_all (p:=fun c=>rnbM (c.toNat:Int)==jnbM (c.toNat:Int)) dk c)
theorem bf4 (c:UInt8) (h:jnbM (c.toNat:Int)=true):c≠32:=fun e=>by
 rw [e] at h; exact absurd h dc
theorem jnb_or (x:Int):jnbM x=(jletM x||jdigM x):=rfl
theorem esc_o (s:Bs) (i:Int) (o:List TK):(jescS (s,i,o)).1=(jescS (s,i,[])).1∧(jescS (s,i,o)).2.1=(jescS (s,i,[])).2.1:=by
 unfold jescS
 have h:∀ n,(jpeekS (s,i,o) n).1=(jpeekS (s,i,[]) n).1:=fun n=>rfl
 have h2:∀ n,hexI (s,i,o) n=hexI (s,i,[]) n:=fun n=>rfl
 simp only [h,h2]
 repeat' split
 all_goals exact ⟨rfl,rfl⟩
theorem txN_o (s:Bs) (o:List TK):∀ (k:Nat) (i:Int) (acc:List Int),txN s o k i acc=((txN s [] k i acc).1,(txN s [] k i acc).2.1,(s,(txN s [] k i acc).2.2.2.1,o))
 | 0,i,acc=>rfl
 | k+1,i,acc=>by
  rw [txN,txN,(esc_o s (i+1) o).1,(esc_o s (i+1) o).2,txN_o s o k _ (acc++[(jescS (s,i+1,[])).1]),txN_o s o k (i+1) (acc++[((s.getD i.toNat 0).toNat:Int)])]
  repeat' split
  all_goals rfl
theorem txN_err (s:Bs) (o:List TK):∀ (k:Nat) (i:Int) (acc:List Int),((txN s o k i acc).2.1=0∧∃ t,(txN s o k i acc).1=(3,0,0,t,0))∨((txN s o k i acc).2.1=4)
 | 0,i,acc=>.inr rfl
 | k+1,i,acc=>by
  rw [txN]
  repeat' split
  all_goals first | exact .inl ⟨rfl,_,rfl⟩ | exact .inr rfl | exact txN_err s o k _ _
theorem sk_ws {s:Bs} {i:Int} (o:List TK) (h0:0≤i) (h1:i<(s.length:Int)) (h:wsB (s.getD i.toNat 0)=true):jskipS (s,i,o)=jskipS (s,i+1,o):=by
 unfold jskipS
 have:i+(skN (s.drop i.toNat) false:Nat)=i+1+(skN (s.drop (i+1).toNat) false:Nat):=by
  rw [drop_get (l:=s) (k:=i.toNat) 0 om,skN,if_t h,show (i+1).toNat=i.toNat+1 by omega]; omega
 show (s,i+(skN (s.drop i.toNat) false:Nat),o)=(s,i+1+(skN (s.drop (i+1).toNat) false:Nat),o)
 rw [this]
theorem hp47 (c:UInt8) (l:Bs):hpM (c::l) [47,47]=(((c.toNat:Int)==47)&&(((l.headD 0).toNat:Int)==47)):=by
 rw [hp2]
 cases l with
 | nil=>simp
 | cons d l =>
  have:((c::d::l).take 2==[47,47])=(((c.toNat:Int)==47)&&((d.toNat:Int)==47)):=by
   rw [Bool.eq_iff_iff,beq_iff_eq,Bool.and_eq_true,beq_iff_eq,beq_iff_eq]
   constructor
   ·intro h
    simp only [List.take_succ_cons,List.take_zero,List.cons.injEq,and_true] at h
    rw [h.1,h.2]; exact ⟨rfl,rfl⟩
   intro ⟨h1,h2⟩
   rw [UInt8.toNat_inj.1 (show c.toNat=(47:UInt8).toNat by show c.toNat=47; omega),UInt8.toNat_inj.1 (show d.toNat=(47:UInt8).toNat by show d.toNat=47; omega)]; rfl
  rw [this,decide_eq_true (show 2≤(c::d::l).length by simp only [List.length_cons]; omega),Bool.true_and]
  rfl
theorem run_nil {is:Int→Bool} {c:UInt8} {l:Bs} (h:is (c.toNat:Int)=false):runN is (c::l)=0:=by rw [runN,if_f h]
theorem run_cons {is:Int→Bool} {c:UInt8} {l:Bs} (h:is (c.toNat:Int)=true):runN is (c::l)=1+runN is l:=by rw [runN,if_t h]
def rtdj31 (K:(List TK)→Int→Prop) (m0:Int) (g0:Int) (c0:Bs) (d0:Int) (v0:Int) (z0:List TK) (C17:Int→List TK→Prop):Prop :=
 (((z0.length:Int)==1000)=true→K ([]:List TK) 2)∧(((z0.length:Int)==1000)=false→(z0++([(g0,v0,m0,c0,d0)]:List TK)).length≤2932031007402∧C17 m0 (z0++([(g0,v0,m0,c0,d0)]:List TK)))
def rtdj46 (xs:Bs) (f0:Int) (z0:List TK) (C17:Int→List TK→Prop) (C44:Int→Prop):Prop :=
 (((decide (f0<(xs.length:Int)))&&(((xs.getD f0.toNat 0).toNat:Int) != 10))=true→C44 (w6 (f0+1)))∧(((decide (f0<(xs.length:Int)))&&(((xs.getD f0.toNat 0).toNat:Int) != 10))=false→C17 f0 z0)
def rtdl44b (xs:Bs) (z0:List TK) (C17:Int→List TK→Prop) (f0:Int) (C44:Int→Prop):Prop :=
 ((decide (f0<(xs.length:Int)))=true→0≤f0∧f0.toNat<xs.length∧rtdj46 xs f0 z0 C17 C44)∧((decide (f0<(xs.length:Int)))=false→rtdj46 xs f0 z0 C17 C44)
def rtdl44 (xs:Bs) (z0:List TK) (C17:Int→List TK→Prop):Nat→Int→Prop
 | 0,_=>False
 | k+1,f0=>rtdl44b xs z0 C17 f0 (rtdl44 xs z0 C17 k)
def rtdj80 (xs:Bs) (K:(List TK)→Int→Prop) (j0:Int) (x0:Int) (v0:Int) (z0:List TK) (C17:Int→List TK→Prop):Prop :=
 (((decide (j0<(xs.length:Int)))&&(rnbM ((xs.getD j0.toNat 0).toNat:Int)))=true→K ([]:List TK) 4)∧(((decide (j0<(xs.length:Int)))&&(rnbM ((xs.getD j0.toNat 0).toNat:Int)))=false→rtdj31 K j0 2 ([]:Bs) x0 v0 z0 C17)
def rtdj63 (xs:Bs) (K:(List TK)→Int→Prop) (j0:Int) (x0:Int) (v0:Int) (z0:List TK) (C17:Int→List TK→Prop) (C61:Int→Int→Prop):Prop :=
 (((decide (j0<(xs.length:Int)))&&(btwM (w6 ((xs.getD j0.toNat 0).toNat:Int)) 48 57))=true→0≤j0∧j0.toNat<xs.length∧((decide ((w6 ((w6 (10 * x0))+(w6 (IntKind.wrap .u8 (((xs.getD j0.toNat 0).toNat:Int) - 48)))))>9007199254740992))=true→K ([]:List TK) 2)∧((decide ((w6 ((w6 (10 * x0))+(w6 (IntKind.wrap .u8 (((xs.getD j0.toNat 0).toNat:Int) - 48)))))>9007199254740992))=false→C61 (w6 (j0+1)) (w6 ((w6 (10 * x0))+(w6 (IntKind.wrap .u8 (((xs.getD j0.toNat 0).toNat:Int) - 48)))))))∧(((decide (j0<(xs.length:Int)))&&(btwM (w6 ((xs.getD j0.toNat 0).toNat:Int)) 48 57))=false→((decide (j0<(xs.length:Int)))=true→0≤j0∧j0.toNat<xs.length∧rtdj80 xs K j0 x0 v0 z0 C17)∧((decide (j0<(xs.length:Int)))=false→rtdj80 xs K j0 x0 v0 z0 C17))
def rtdl61b (xs:Bs) (K:(List TK)→Int→Prop) (v0:Int) (z0:List TK) (C17:Int→List TK→Prop) (j0:Int) (x0:Int) (C61:Int→Int→Prop):Prop :=
 ((decide (j0<(xs.length:Int)))=true→0≤j0∧j0.toNat<xs.length∧rtdj63 xs K j0 x0 v0 z0 C17 C61)∧((decide (j0<(xs.length:Int)))=false→rtdj63 xs K j0 x0 v0 z0 C17 C61)
def rtdl61 (xs:Bs) (K:(List TK)→Int→Prop) (v0:Int) (z0:List TK) (C17:Int→List TK→Prop):Nat→Int→Int→Prop
 | 0,_,_=>False
 | k+1,j0,x0=>rtdl61b xs K v0 z0 C17 j0 x0 (rtdl61 xs K v0 z0 C17 k)
def rtdj94 (xs:Bs) (K:(List TK)→Int→Prop) (s0:Int) (v0:Int) (z0:List TK) (C17:Int→List TK→Prop) (C92:Int→Prop):Prop :=
 (((decide (s0<(xs.length:Int)))&&(rnbM ((xs.getD s0.toNat 0).toNat:Int)))=true→C92 (w6 (s0+1)))∧(((decide (s0<(xs.length:Int)))&&(rnbM ((xs.getD s0.toNat 0).toNat:Int)))=false→0≤v0∧(v0:Int)≤s0∧s0≤(xs.length:Int)∧rwordP ((xs.take s0.toNat).drop v0.toNat)∧((rwordS ((xs.take s0.toNat).drop v0.toNat))=true→rtdj31 K s0 5 ((xs.take s0.toNat).drop v0.toNat) 0 v0 z0 C17)∧((rwordS ((xs.take s0.toNat).drop v0.toNat))=false→rtdj31 K s0 1 ((xs.take s0.toNat).drop v0.toNat) 0 v0 z0 C17))
def rtdl92b (xs:Bs) (K:(List TK)→Int→Prop) (v0:Int) (z0:List TK) (C17:Int→List TK→Prop) (s0:Int) (C92:Int→Prop):Prop :=
 ((decide (s0<(xs.length:Int)))=true→0≤s0∧s0.toNat<xs.length∧rtdj94 xs K s0 v0 z0 C17 C92)∧((decide (s0<(xs.length:Int)))=false→rtdj94 xs K s0 v0 z0 C17 C92)
def rtdl92 (xs:Bs) (K:(List TK)→Int→Prop) (v0:Int) (z0:List TK) (C17:Int→List TK→Prop):Nat→Int→Prop
 | 0,_=>False
 | k+1,s0=>rtdl92b xs K v0 z0 C17 s0 (rtdl92 xs K v0 z0 C17 k)
def rtdl17b (xs:Bs) (K:(List TK)→Int→Prop) (v0:Int) (z0:List TK) (C17:Int→List TK→Prop):Prop :=
 ((decide (v0<(xs.length:Int)))=true→0≤v0∧v0.toNat<xs.length∧(((((((xs.getD v0.toNat 0).toNat:Int)==32)||(((xs.getD v0.toNat 0).toNat:Int)==9))||(((xs.getD v0.toNat 0).toNat:Int)==10))||(((xs.getD v0.toNat 0).toNat:Int)==13))=true→C17 (w6 (v0+1)) z0)∧(((((((xs.getD v0.toNat 0).toNat:Int)==32)||(((xs.getD v0.toNat 0).toNat:Int)==9))||(((xs.getD v0.toNat 0).toNat:Int)==10))||(((xs.getD v0.toNat 0).toNat:Int)==13))=false→0≤v0∧(v0:Int)≤(xs.length:Int)∧(xs.length:Int)≤(xs.length:Int)∧((hpM (xs.drop v0.toNat) ([47,47]:Bs))=true→∃ k,rtdl44 xs z0 C17 k v0)∧((hpM (xs.drop v0.toNat) ([47,47]:Bs))=false→((btwM (w6 ((xs.getD v0.toNat 0).toNat:Int)) 48 57)=true→∃ k,rtdl61 xs K v0 z0 C17 k v0 0)∧((btwM (w6 ((xs.getD v0.toNat 0).toNat:Int)) 48 57)=false→((rnbM ((xs.getD v0.toNat 0).toNat:Int))=true→∃ k,rtdl92 xs K v0 z0 C17 k v0)∧((rnbM ((xs.getD v0.toNat 0).toNat:Int))=false→((((xs.getD v0.toNat 0).toNat:Int)==34)=true→rtaP xs v0∧((decide ((rtaS xs v0).2<0))=true→K ([]:List TK) 4)∧((decide ((rtaS xs v0).2<0))=false→rtdj31 K (rtaS xs v0).2 3 (rtaS xs v0).1 0 v0 z0 C17))∧((((xs.getD v0.toNat 0).toNat:Int)==34)=false→0≤v0∧(v0:Int)≤(xs.length:Int)∧(xs.length:Int)≤(xs.length:Int)∧rsaP (xs.drop v0.toNat)∧(((rsaS (xs.drop v0.toNat))==([]:Bs))=true→K ([]:List TK) 4)∧(((rsaS (xs.drop v0.toNat))==([]:Bs))=false→rtdj31 K (w6 (v0+((rsaS (xs.drop v0.toNat)).length:Int))) 4 (rsaS (xs.drop v0.toNat)) 0 v0 z0 C17)))))))∧((decide (v0<(xs.length:Int)))=false→K z0 0)
def rtdl17 (xs:Bs) (K:(List TK)→Int→Prop):Nat→Int→List TK→Prop
 | 0,_,_=>False
 | k+1,v0,z0=>rtdl17b xs K v0 z0 (rtdl17 xs K k)
def rtdF (xs:Bs) (K:(List TK)→Int→Prop):Prop :=
 ((decide ((xs.length:Int)>2000))=true→K ([]:List TK) 2)∧((decide ((xs.length:Int)>2000))=false→∃ k,rtdl17 xs K k 0 ([]:List TK))
theorem rtd_ok {g:Ghost} (xs:Bs) (hG1:SomeInt g 1) (K:(List TK)→Int→Prop)
  (hF:rtdF xs K):CallsH prog 10 #[sv xs] g [] (fun g' H' v=>∃ (r0:List TK),∃ (r1:Int),∃ (t0:Option Addr) (l0:Nat),v=.tuple #[.slice t0 r0.length l0,iv r1]∧Rep g' yTs [.slice t0 r0.length l0] r0∧H'=[]∧K r0 r1):=by
 refine CallsH.en 160 func10 rfl fun w0=>?_
 refine Ok.sr (Ok.B 1 [(0,sv xs)] kr (Ok.b 1 [0] [] ?_))
 refine Ok.nt (Ok.q (Ok.sr (Ok.b 3 [0] [(11,.bool (decide ((xs.length:Int)>2000)))] ?_)))
 refine Ok.nt (Ok.cw hF (fun hc1 hF=>?_) (fun hc1 hF=>?_))
 ·refine Ok.sr (Ok.B 1 [(2,.slice none 0 0)] kr ?_)
  have hL2:RepL g yT [] []:=rfl
  refine Ok.ownNil 40 5 (Ok.B 1 [(2,.slice none ([]:List TK).length 0),(3,iv 2)] kr (Ok.nt (Ok.ret (Ok.tr (Ok.frz 0 rfl hL2 fun g3 hx3 hRf3=>?_)))))
  replace hG1:=hG1.mono hx3.1
  exact Ok.resH (vs:=[.slice none ([]:List TK).length 0,iv 2]) (.inl rfl) rfl (.cons (.tmp rfl) (.cons (.tmp rfl) .nil)) hx3 ⟨([]:List TK),2,none,0,rfl,hRf3,rfl,hF⟩
 refine Ok.k (Ok.t (Ok.sr (Ok.b 1 [0] [(4,.slice none 0 0)] ?_)))
 have hL4:RepL g yT [] []:=rfl
 refine Ok.ownNil 40 5 (Ok.nt (Ok.q (Ok.sr (Ok.b 1 [0] [(4,.slice none ([]:List TK).length 0),(5,iv 0)] ?_))))
 refine Ok.nt (Ok.block ?_)
 obtain ⟨k,hF⟩:=hF
 refine Ok.L (fun k a W=>∃ n0:Ghost,Gext w0 g n0∧∃ (v0:Int) (k0:Option Addr) (u0:Nat) (z0:List TK) (b0:List Value),RepL n0 yT b0 z0∧StA 160 [(0,sv xs),(4,.slice k0 z0.length u0),(5,iv v0)] a∧StW w0 [.own (.slice k0 z0.length u0) 40 5 z0.length b0] n0 W∧rtdl17 xs K k v0 z0) k ?_ ?_
 ·
  exact fun _ _ u v=>⟨g,Gext.r w0 g,0,none,0,([]:List TK),[],hL4,fA u v hF⟩
 clear hF
 rintro (_ | k17) _ _ ⟨n0,o0,v0,k0,u0,z0,b0,q0,q⟩
 exact (q.2.2:False).elim
 refine jn (fun hF=>?_) _ _ q
 replace hG1:=hG1.mono o0.1
 refine Ok.q (Ok.sr (Ok.b 4 [0,4,5] [(15,.bool (decide (v0<(xs.length:Int))))] ?_))
 refine Ok.nt (Ok.cw hF (fun hc5 hF=>?_) (fun hc5 hF=>?_))
 ·refine Ok.k (Ok.t (Ok.block (Ok.sr (Ok.b 2 [0,4,5] [(17,.agg #[iv 0,iv v0,iv 0,sv Bz,iv 0])] ?_))))
  refine Ok.o (OpOk.aw #[iv 0,iv 0,iv 0,sv Bz,iv 0] fun bs6=>?_)
  refine Ok.o (OpOk.w 0 ?_)
  refine Ok.nt (Ok.sr (Ok.b 2 [0,4,5] [(6,pv bs6 0),(18,sv xs),(19,iv v0)] ?_))
  obtain ⟨h07,h17,hF⟩:=hF
  have he7:=get_of (l:=xs) (0:UInt8) h17
  generalize hg7:(xs.getD v0.toNat 0)=e7 at he7 hF ⊢
  refine Ok.o (OpOk.s (v:=.int .u8 (e7.toNat:Int)) (Yields.ix (k:=.i64) (i:=v0) (s:=xs) (b:=e7) kr kr underlying9 h07 he7) rfl rfl (Ok.b 1 [0,4,5,6] [(7,.int .u8 (e7.toNat:Int))] ?_))
  refine Ok.nt (Ok.sr (Ok.b 2 [0,4,5,6,7] [(8,iv v0)] ?_))
  refine Ok.nt (Ok.cut (fun a W=>∃ B0:Ghost,Gext w0 n0 B0∧∃ (m0:Int) (g0:Int) (c0:Bs) (d0:Int),StA 160 [(0,sv xs),(4,.slice k0 z0.length u0),(6,pv bs6 0),(8,iv m0)] a∧StW w0 [.blk bs6 (.cells #[iv g0,iv v0,iv 0,sv c0,iv d0] 40),.own (.slice k0 z0.length u0) 40 5 z0.length b0] B0 W∧rtdj31 K m0 g0 c0 d0 v0 z0 (rtdl17 xs K k17)) ?_ ?_)
  ·
   refine Ok.block (Ok.sr (Ok.b 3 [0,4,5,6,7,8] [(39,.bool ((e7.toNat:Int)==32))] ?_))
   refine Ok.w 3 [(0,sv xs),(4,.slice k0 z0.length u0),(5,iv v0),(6,pv bs6 0),(7,.int .u8 (e7.toNat:Int)),(8,iv v0),(42,.bool (((e7.toNat:Int)==32)||((e7.toNat:Int)==9)))] (fun y1=>?_) ?_
   ·refine Ok.a 39 ((e7.toNat:Int)==32) rfl (fun E0=>?_) (fun E0=>?_)
    ·skip
     refine Ok.b 3 [0,4,5,6,7,8] [(42,.bool true)] ?_
     refine Ok.rb 42 (((e7.toNat:Int)==32)||((e7.toNat:Int)==9)) (mor_t E0) (Ok.b 0 [0,4,5,6,7,8] [(42,.bool (((e7.toNat:Int)==32)||((e7.toNat:Int)==9)))] ?_)
     exact y1
    skip
    refine Ok.b 3 [0,4,5,6,7,8] [(42,.bool ((e7.toNat:Int)==9))] ?_
    refine Ok.rb 42 (((e7.toNat:Int)==32)||((e7.toNat:Int)==9)) (mor_f E0) (Ok.b 0 [0,4,5,6,7,8] [(42,.bool (((e7.toNat:Int)==32)||((e7.toNat:Int)==9)))] ?_)
    exact y1
   refine Ok.b 1 [0,4,5,6,7,8] [(43,.bool (((e7.toNat:Int)==32)||((e7.toNat:Int)==9)))] ?_
   refine Ok.w 3 [(0,sv xs),(4,.slice k0 z0.length u0),(5,iv v0),(6,pv bs6 0),(7,.int .u8 (e7.toNat:Int)),(8,iv v0),(46,.bool ((((e7.toNat:Int)==32)||((e7.toNat:Int)==9))||((e7.toNat:Int)==10)))] (fun u1=>?_) ?_
   ·refine Ok.a 43 (((e7.toNat:Int)==32)||((e7.toNat:Int)==9)) rfl (fun F0=>?_) (fun F0=>?_)
    ·skip
     refine Ok.b 3 [0,4,5,6,7,8] [(46,.bool true)] ?_
     refine Ok.rb 46 ((((e7.toNat:Int)==32)||((e7.toNat:Int)==9))||((e7.toNat:Int)==10)) (mor_t F0) (Ok.b 0 [0,4,5,6,7,8] [(46,.bool ((((e7.toNat:Int)==32)||((e7.toNat:Int)==9))||((e7.toNat:Int)==10)))] ?_)
     exact u1
    skip
    refine Ok.b 3 [0,4,5,6,7,8] [(46,.bool ((e7.toNat:Int)==10))] ?_
    refine Ok.rb 46 ((((e7.toNat:Int)==32)||((e7.toNat:Int)==9))||((e7.toNat:Int)==10)) (mor_f F0) (Ok.b 0 [0,4,5,6,7,8] [(46,.bool ((((e7.toNat:Int)==32)||((e7.toNat:Int)==9))||((e7.toNat:Int)==10)))] ?_)
    exact u1
   refine Ok.b 1 [0,4,5,6,7,8] [(47,.bool ((((e7.toNat:Int)==32)||((e7.toNat:Int)==9))||((e7.toNat:Int)==10)))] ?_
   refine Ok.w 3 [(0,sv xs),(4,.slice k0 z0.length u0),(5,iv v0),(6,pv bs6 0),(7,.int .u8 (e7.toNat:Int)),(8,iv v0),(50,.bool (((((e7.toNat:Int)==32)||((e7.toNat:Int)==9))||((e7.toNat:Int)==10))||((e7.toNat:Int)==13)))] (fun j1=>?_) ?_
   ·refine Ok.a 47 ((((e7.toNat:Int)==32)||((e7.toNat:Int)==9))||((e7.toNat:Int)==10)) rfl (fun G0=>?_) (fun G0=>?_)
    ·skip
     refine Ok.b 3 [0,4,5,6,7,8] [(50,.bool true)] ?_
     refine Ok.rb 50 (((((e7.toNat:Int)==32)||((e7.toNat:Int)==9))||((e7.toNat:Int)==10))||((e7.toNat:Int)==13)) (mor_t G0) (Ok.b 0 [0,4,5,6,7,8] [(50,.bool (((((e7.toNat:Int)==32)||((e7.toNat:Int)==9))||((e7.toNat:Int)==10))||((e7.toNat:Int)==13)))] ?_)
     exact j1
    skip
    refine Ok.b 3 [0,4,5,6,7,8] [(50,.bool ((e7.toNat:Int)==13))] ?_
    refine Ok.rb 50 (((((e7.toNat:Int)==32)||((e7.toNat:Int)==9))||((e7.toNat:Int)==10))||((e7.toNat:Int)==13)) (mor_f G0) (Ok.b 0 [0,4,5,6,7,8] [(50,.bool (((((e7.toNat:Int)==32)||((e7.toNat:Int)==9))||((e7.toNat:Int)==10))||((e7.toNat:Int)==13)))] ?_)
    exact j1
   refine Ok.b 1 [0,4,5,6,7,8] [(36,.bool (((((e7.toNat:Int)==32)||((e7.toNat:Int)==9))||((e7.toNat:Int)==10))||((e7.toNat:Int)==13)))] ?_
   refine Ok.nt (Ok.cn hF rfl (fun H0=>?_) (fun H0=>?_))
   ·replace hF:=hF.1 H0
    refine Ok.sr (Ok.b 3 [0,4] [(5,iv (w6 (v0+1)))] ?_)
    refine Ok.nt (Ok.x (Ok.blockMiss rfl (Ok.thenE (Ok.blockHit (Ok.t ?_)))))
    subst hg7
    exact fun _ _ u v=>⟨k17,nl,n0,o0,w6 (v0+1),k0,u0,z0,b0,q0,fA u v hF⟩
   replace hF:=hF.2 H0
   refine Ok.sr (Ok.b 2 [0,4,5,6,7,8] [(54,sv xs),(55,iv v0)] ?_)
   obtain ⟨h020,h120,h220,hF⟩:=hF
   refine Ok.o (OpOk.s (Yields.ss (s:=xs) (l:=v0) (h:=(xs.length:Int)) kr underlying9 (.inl ⟨_,_,rfl,rfl⟩) (.inr ⟨rfl,rfl⟩) h020 h120 h220 (xs.drop v0.toNat) (tkd _ _)) rfl rfl (Ok.rn 2 [.k (hp_c (xs.drop v0.toNat) ([47,47]:Bs))] [0,4,5,6,7,8] [(53,.bool (hpM (xs.drop v0.toNat) ([47,47]:Bs)))] ?_))
   refine Ok.nt (Ok.cn hF rfl (fun M0=>?_) (fun M0=>?_))
   ·replace hF:=hF.1 M0
    refine Ok.q (Ok.block ?_)
    obtain ⟨k,hF⟩:=hF
    refine Ok.L (fun k a W=>∃ Z0:Ghost,Gext w0 n0 Z0∧∃ (f0:Int),StA 160 [(0,sv xs),(4,.slice k0 z0.length u0),(5,iv f0)] a∧StW w0 [.own (.slice k0 z0.length u0) 40 5 z0.length b0] Z0 W∧rtdl44 xs z0 (rtdl17 xs K k17) k f0) k ?_ ?_
    ·
     exact fun _ _ u v=>⟨n0,Gext.r w0 n0,v0,fA u v hF⟩
    clear hF
    rintro (_ | k44) _ _ ⟨Z0,J0,f0,q⟩
    exact (q.2.2:False).elim
    refine jn (fun hF=>?_) _ _ q
    replace q0:=q0.mono J0.1
    replace hG1:=hG1.mono J0.1
    refine Ok.q (Ok.cut (fun a W=>∃ C0:Ghost,Gext w0 Z0 C0∧StA 160 [(0,sv xs),(4,.slice k0 z0.length u0),(5,iv f0),(67,.bool ((decide (f0<(xs.length:Int)))&&(((xs.getD f0.toNat 0).toNat:Int) != 10)))] a∧StW w0 [.own (.slice k0 z0.length u0) 40 5 z0.length b0] C0 W∧rtdj46 xs f0 z0 (rtdl17 xs K k17) (rtdl44 xs z0 (rtdl17 xs K k17) k44)) ?_ ?_)
    ·
     refine Ok.r (Ok.b 5 [0,4,5] [(62,.bool (decide (f0<(xs.length:Int))))] ?_)
     refine Ok.bw 62 hF (fun N0 hF=>?_) (fun N0 hF=>?_)
     ·refine Ok.b 2 [0,4,5] [(62,.bool true),(63,sv xs),(64,iv f0)] ?_
      obtain ⟨h024,h124,hF⟩:=hF
      have x1:=get_of (l:=xs) (0:UInt8) h124
      generalize hg24:(xs.getD f0.toNat 0)=e24 at x1 hF ⊢
      refine Ok.oy (OpOk.s (v:=.int .u8 (e24.toNat:Int)) (Yields.ix (k:=.i64) (i:=f0) (s:=xs) (b:=e24) kr kr underlying9 h024 x1) rfl rfl (Ok.b 2 [0,4,5] [(67,.bool ((e24.toNat:Int) != 10))] ?_))
      refine Ok.j (Ok.t ?_)
      subst hg24
      refine Ok.rb 67 ((decide (f0<(xs.length:Int)))&&(((xs.getD f0.toNat 0).toNat:Int) != 10)) (mand_t N0) ?_
      exact fg hF
     refine Ok.b 5 [0,4,5] [(67,.bool false)] ?_
     refine Ok.nt (Ok.rb 67 ((decide (f0<(xs.length:Int)))&&(((xs.getD f0.toNat 0).toNat:Int) != 10)) (mand_f N0) ?_)
     exact fg hF
    clear hF
    rintro _ _ ⟨C0,W0,q⟩
    refine jn (fun hF=>?_) _ _ q
    replace q0:=q0.mono W0.1
    replace hG1:=hG1.mono W0.1
    refine Ok.cn hF rfl (fun O0=>?_) (fun O0=>?_)
    ·replace hF:=hF.1 O0
     refine Ok.k (Ok.t (Ok.block (Ok.r (Ok.b 3 [0,4] [(5,iv (w6 (f0+1)))] ?_))))
     refine Ok.j (Ok.kn (Ok.t ?_))
     exact fun _ _ u v=>⟨k44,nl,C0,J0.trans W0,w6 (f0+1),fA u v hF⟩
    replace hF:=hF.2 O0
    refine Ok.x (Ok.thenE (Ok.thenE (Ok.blockHit (Ok.t (Ok.x (Ok.blockMiss rfl (Ok.thenE (Ok.blockHit (Ok.t ?_)))))))))
    subst hg7
    exact fun _ _ u v=>⟨k17,nl,C0,((o0.trans J0).trans W0),f0,k0,u0,z0,b0,q0,fA u v hF⟩
   replace hF:=hF.2 M0
   refine Ok.sr (Ok.rn 4 [.k (btw_c (w6 (e7.toNat:Int)) 48 57)] [0,4,5,6,7,8] [(70,.bool (btwM (w6 (e7.toNat:Int)) 48 57))] ?_)
   refine Ok.nt (Ok.cw hF (fun hc25 hF=>?_) (fun hc25 hF=>?_))
   ·refine Ok.sr (Ok.b 1 [0,4,6,8] [(74,pv bs6 0)] ?_)
    refine Ok.o (OpOk.w1 0 ?_)
    refine Ok.nt (Ok.q (Ok.block ?_))
    obtain ⟨k,hF⟩:=hF
    refine Ok.L (fun k a W=>∃ V0:Ghost,Gext w0 n0 V0∧∃ (j0:Int) (x0:Int),StA 160 [(0,sv xs),(4,.slice k0 z0.length u0),(6,pv bs6 0),(8,iv j0)] a∧StW w0 [.blk bs6 (.cells #[iv 2,iv v0,iv 0,sv Bz,iv x0] 40),.own (.slice k0 z0.length u0) 40 5 z0.length b0] V0 W∧rtdl61 xs K v0 z0 (rtdl17 xs K k17) k j0 x0) k ?_ ?_
    ·
     exact fun _ _ u v=>⟨n0,Gext.r w0 n0,v0,0,fA u v hF⟩
    clear hF
    rintro (_ | k61) _ _ ⟨V0,a0,j0,x0,q⟩
    exact (q.2.2:False).elim
    refine jn (fun hF=>?_) _ _ q
    replace q0:=q0.mono a0.1
    replace hG1:=hG1.mono a0.1
    refine Ok.q (Ok.cg V0 [(0,sv xs),(4,.slice k0 z0.length u0),(6,pv bs6 0),(8,iv j0),(85,.bool ((decide (j0<(xs.length:Int)))&&(btwM (w6 ((xs.getD j0.toNat 0).toNat:Int)) 48 57)))] [.blk bs6 (.cells #[iv 2,iv v0,iv 0,sv Bz,iv x0] 40),.own (.slice k0 z0.length u0) 40 5 z0.length b0] (rtdj63 xs K j0 x0 v0 z0 (rtdl17 xs K k17) (rtdl61 xs K v0 z0 (rtdl17 xs K k17) k61)) ?_ (fun U0 i0 hF=>?_))
    ·
     refine Ok.r (Ok.b 5 [0,4,6,8] [(79,.bool (decide (j0<(xs.length:Int))))] ?_)
     refine Ok.bw 79 hF (fun P0 hF=>?_) (fun P0 hF=>?_)
     ·refine Ok.b 2 [0,4,6,8] [(79,.bool true),(80,sv xs),(81,iv j0)] ?_
      obtain ⟨h037,h137,hF⟩:=hF
      have b1:=get_of (l:=xs) (0:UInt8) h137
      generalize hg37:(xs.getD j0.toNat 0)=e37 at b1 hF ⊢
      refine Ok.oy (OpOk.s (v:=.int .u8 (e37.toNat:Int)) (Yields.ix (k:=.i64) (i:=j0) (s:=xs) (b:=e37) kr kr underlying9 h037 b1) rfl rfl (Ok.rn 3 [.k (btw_c (w6 (e37.toNat:Int)) 48 57)] [0,4,6,8] [(85,.bool (btwM (w6 (e37.toNat:Int)) 48 57))] ?_))
      refine Ok.j (Ok.t ?_)
      subst hg37
      refine Ok.rb 85 ((decide (j0<(xs.length:Int)))&&(btwM (w6 ((xs.getD j0.toNat 0).toNat:Int)) 48 57)) (mand_t P0) ?_
      exact fg hF
     refine Ok.b 6 [0,4,6,8] [(85,.bool false)] ?_
     refine Ok.nt (Ok.rb 85 ((decide (j0<(xs.length:Int)))&&(btwM (w6 ((xs.getD j0.toNat 0).toNat:Int)) 48 57)) (mand_f P0) ?_)
     exact fg hF
    replace q0:=q0.mono i0.1
    replace hG1:=hG1.mono i0.1
    refine Ok.cw hF (fun hc26 hF=>?_) (fun hc26 hF=>?_)
    ·refine Ok.k (Ok.t (Ok.block (Ok.q (Ok.mi [0,1,2,3,4,5,6,7,8,9] [] [0,1] [(0,true),(1,true),(2,true),(3,true),(4,true),(5,true),(6,true),(7,true),(8,true),(9,true),(10,false)] ?_))))
     refine OkM.b 1 [0,4,6,8] [(86,pv bs6 4)] ?_
     refine OkM.hd (OpQ.s (v:=iv x0) (Yields.l 0 rfl rfl underlying3 rfl kr) rfl rfl ?_)
     refine OkM.b 3 [0,4,6,8] [(88,iv (w6 (10 * x0))),(89,sv xs),(90,iv j0)] ?_
     obtain ⟨h027,h127,hF⟩:=hF
     have c1:=get_of (l:=xs) (0:UInt8) h127
     generalize hg27:(xs.getD j0.toNat 0)=e27 at c1 hF ⊢
     refine OkM.hd (OpQ.s (v:=.int .u8 (e27.toNat:Int)) (Yields.ix (k:=.i64) (i:=j0) (s:=xs) (b:=e27) kr kr underlying9 h027 c1) rfl rfl ?_)
     refine OkM.b 4 [0,4,6,8] [(94,iv (w6 ((w6 (10 * x0))+(w6 (IntKind.wrap .u8 ((e27.toNat:Int) - 48)))))),(95,pv bs6 4)] ?_
     refine OkM.t rfl rfl (OpOk.w1 0 ?_)
     refine OkM.l1 (Gle.refl _) (OkM.nil (Ok.t (Ok.q (Ok.sr (Ok.rn 3 [.e 0] [0,4,6,8] [(98,.bool (decide ((w6 ((w6 (10 * x0))+(w6 (IntKind.wrap .u8 ((e27.toNat:Int) - 48)))))>9007199254740992)))] ?_)))))
     refine Ok.nt (Ok.cn hF rfl (fun R0=>?_) (fun R0=>?_))
     ·replace hF:=hF.1 R0
      refine Ok.sr (Ok.B 1 [(2,.slice none 0 0)] kr ?_)
      have hL29:RepL U0 yT [] []:=rfl
      refine Ok.ownNil 40 5 (Ok.B 1 [(2,.slice none ([]:List TK).length 0),(3,iv 2)] kr (Ok.nt (Ok.ret (Ok.tr (Ok.kr (Ok.tr (Ok.kr (Ok.tr (Ok.kr (Ok.tr (Ok.kr (Ok.tr (Ok.kr (Ok.tr (Ok.frz 0 rfl hL29 fun g30 T0 hRf30=>?_)))))))))))))))
      replace q0:=q0.mono T0.1
      replace hG1:=hG1.mono T0.1
      exact Ok.p (vs:=[.slice none ([]:List TK).length 0,iv 2]) [] [] dc rfl (.inl rfl) rfl (.cons (.tmp rfl) (.cons (.tmp rfl) .nil)) (((o0.trans a0).trans i0).trans T0) ⟨([]:List TK),2,none,0,rfl,hRf30,rfl,hF⟩
     replace hF:=hF.2 R0
     refine Ok.k (Ok.t (Ok.r (Ok.b 3 [0,4,6] [(8,iv (w6 (j0+1)))] ?_)))
     refine Ok.j (Ok.kn (Ok.t ?_))
     subst hg27
     exact fun _ _ u v=>⟨k61,nl,U0,a0.trans i0,w6 (j0+1),w6 ((w6 (10 * x0))+(w6 (IntKind.wrap .u8 (((xs.getD j0.toNat 0).toNat:Int) - 48)))),fA u v hF⟩
    refine Ok.x (Ok.thenE (Ok.thenE (Ok.blockHit (Ok.t (Ok.cg U0 [(0,sv xs),(4,.slice k0 z0.length u0),(6,pv bs6 0),(8,iv j0),(110,.bool ((decide (j0<(xs.length:Int)))&&(rnbM ((xs.getD j0.toNat 0).toNat:Int))))] [.blk bs6 (.cells #[iv 2,iv v0,iv 0,sv Bz,iv x0] 40),.own (.slice k0 z0.length u0) 40 5 z0.length b0] (rtdj80 xs K j0 x0 v0 z0 (rtdl17 xs K k17)) ?_ (fun d1 X0 hF=>?_))))))
    ·
     refine Ok.r (Ok.b 5 [0,4,6,8] [(105,.bool (decide (j0<(xs.length:Int))))] ?_)
     refine Ok.bw 105 hF (fun L0 hF=>?_) (fun L0 hF=>?_)
     ·refine Ok.b 2 [0,4,6,8] [(105,.bool true),(106,sv xs),(107,iv j0)] ?_
      obtain ⟨h035,h135,hF⟩:=hF
      have e1:=get_of (l:=xs) (0:UInt8) h135
      generalize hg35:(xs.getD j0.toNat 0)=e35 at e1 hF ⊢
      refine Ok.oy (OpOk.s (v:=.int .u8 (e35.toNat:Int)) (Yields.ix (k:=.i64) (i:=j0) (s:=xs) (b:=e35) kr kr underlying9 h035 e1) rfl rfl (Ok.rn 2 [.k (rnb_c (e35.toNat:Int))] [0,4,6,8] [(110,.bool (rnbM (e35.toNat:Int)))] ?_))
      refine Ok.j (Ok.t ?_)
      subst hg35
      refine Ok.rb 110 ((decide (j0<(xs.length:Int)))&&(rnbM ((xs.getD j0.toNat 0).toNat:Int))) (mand_t L0) ?_
      exact fg hF
     refine Ok.b 5 [0,4,6,8] [(110,.bool false)] ?_
     refine Ok.nt (Ok.rb 110 ((decide (j0<(xs.length:Int)))&&(rnbM ((xs.getD j0.toNat 0).toNat:Int))) (mand_f L0) ?_)
     exact fg hF
    replace q0:=q0.mono X0.1
    replace hG1:=hG1.mono X0.1
    refine Ok.cw hF (fun hc31 hF=>?_) (fun hc31 hF=>?_)
    ·refine Ok.sr (Ok.B 1 [(2,.slice none 0 0)] kr ?_)
     have hL32:RepL d1 yT [] []:=rfl
     refine Ok.ownNil 40 5 (Ok.B 1 [(2,.slice none ([]:List TK).length 0),(3,iv 4)] kr (Ok.nt (Ok.ret (Ok.kr (Ok.tr (Ok.kr (Ok.tr (Ok.kr (Ok.tr (Ok.frz 0 rfl hL32 fun g33 A0 hRf33=>?_))))))))))
     replace q0:=q0.mono A0.1
     replace hG1:=hG1.mono A0.1
     exact Ok.p (vs:=[.slice none ([]:List TK).length 0,iv 4]) [] [] dc rfl (.inl rfl) rfl (.cons (.tmp rfl) (.cons (.tmp rfl) .nil)) ((((o0.trans a0).trans i0).trans X0).trans A0) ⟨([]:List TK),4,none,0,rfl,hRf33,rfl,hF⟩
    refine Ok.k (Ok.kn (Ok.t ?_))
    exact fun _ _ u v=>⟨d1,((a0.trans i0).trans X0),j0,2,Bz,x0,fA u v hF⟩
   refine Ok.sr (Ok.rn 3 [.k (rnb_c (e7.toNat:Int))] [0,4,5,6,7,8] [(111,.bool (rnbM (e7.toNat:Int)))] ?_)
   refine Ok.nt (Ok.cw hF (fun hc38 hF=>?_) (fun hc38 hF=>?_))
   ·refine Ok.q (Ok.block ?_)
    obtain ⟨k,hF⟩:=hF
    refine Ok.L (fun k a W=>∃ Q0:Ghost,Gext w0 n0 Q0∧∃ (s0:Int),StA 160 [(0,sv xs),(4,.slice k0 z0.length u0),(5,iv v0),(6,pv bs6 0),(8,iv s0)] a∧StW w0 [.blk bs6 (.cells #[iv 0,iv v0,iv 0,sv Bz,iv 0] 40),.own (.slice k0 z0.length u0) 40 5 z0.length b0] Q0 W∧rtdl92 xs K v0 z0 (rtdl17 xs K k17) k s0) k ?_ ?_
    ·
     exact fun _ _ u v=>⟨n0,Gext.r w0 n0,v0,fA u v hF⟩
    clear hF
    rintro (_ | k92) _ _ ⟨Q0,K0,s0,q⟩
    exact (q.2.2:False).elim
    refine jn (fun hF=>?_) _ _ q
    replace q0:=q0.mono K0.1
    replace hG1:=hG1.mono K0.1
    refine Ok.q (Ok.cg Q0 [(0,sv xs),(4,.slice k0 z0.length u0),(5,iv v0),(6,pv bs6 0),(8,iv s0),(123,.bool ((decide (s0<(xs.length:Int)))&&(rnbM ((xs.getD s0.toNat 0).toNat:Int))))] [.blk bs6 (.cells #[iv 0,iv v0,iv 0,sv Bz,iv 0] 40),.own (.slice k0 z0.length u0) 40 5 z0.length b0] (rtdj94 xs K s0 v0 z0 (rtdl17 xs K k17) (rtdl92 xs K v0 z0 (rtdl17 xs K k17) k92)) ?_ (fun I0 Y0 hF=>?_))
    ·
     refine Ok.r (Ok.b 5 [0,4,5,6,8] [(118,.bool (decide (s0<(xs.length:Int))))] ?_)
     refine Ok.bw 118 hF (fun z1 hF=>?_) (fun z1 hF=>?_)
     ·refine Ok.b 2 [0,4,5,6,8] [(118,.bool true),(119,sv xs),(120,iv s0)] ?_
      obtain ⟨h044,h144,hF⟩:=hF
      have f1:=get_of (l:=xs) (0:UInt8) h144
      generalize hg44:(xs.getD s0.toNat 0)=e44 at f1 hF ⊢
      refine Ok.oy (OpOk.s (v:=.int .u8 (e44.toNat:Int)) (Yields.ix (k:=.i64) (i:=s0) (s:=xs) (b:=e44) kr kr underlying9 h044 f1) rfl rfl (Ok.rn 2 [.k (rnb_c (e44.toNat:Int))] [0,4,5,6,8] [(123,.bool (rnbM (e44.toNat:Int)))] ?_))
      refine Ok.j (Ok.t ?_)
      subst hg44
      refine Ok.rb 123 ((decide (s0<(xs.length:Int)))&&(rnbM ((xs.getD s0.toNat 0).toNat:Int))) (mand_t z1) ?_
      exact fg hF
     refine Ok.b 5 [0,4,5,6,8] [(123,.bool false)] ?_
     refine Ok.nt (Ok.rb 123 ((decide (s0<(xs.length:Int)))&&(rnbM ((xs.getD s0.toNat 0).toNat:Int))) (mand_f z1) ?_)
     exact fg hF
    replace q0:=q0.mono Y0.1
    replace hG1:=hG1.mono Y0.1
    refine Ok.cw hF (fun hc39 hF=>?_) (fun hc39 hF=>?_)
    ·refine Ok.k (Ok.t (Ok.block (Ok.r (Ok.b 3 [0,4,5,6] [(8,iv (w6 (s0+1)))] ?_))))
     refine Ok.j (Ok.kn (Ok.t ?_))
     exact fun _ _ u v=>⟨k92,nl,I0,K0.trans Y0,w6 (s0+1),fA u v hF⟩
    refine Ok.x (Ok.thenE (Ok.thenE (Ok.blockHit (Ok.t (Ok.q (Ok.mi [] [] [0,1] [(0,true),(1,true),(2,true),(3,true),(4,true),(5,false),(6,true),(7,false)] ?_))))))
    refine OkM.b 3 [0,4,6,8] [(126,sv xs),(127,iv v0),(128,iv s0)] ?_
    obtain ⟨h040,h140,h240,hF⟩:=hF
    refine OkM.hd (OpQ.s (v:=sv ((xs.take s0.toNat).drop v0.toNat)) (Yields.ss (s:=xs) (l:=v0) (h:=s0) kr underlying9 (.inl ⟨_,_,rfl,rfl⟩) (.inl ⟨_,_,rfl,rfl⟩) h040 h140 h240 ((xs.take s0.toNat).drop v0.toNat) rfl) rfl rfl ?_)
    refine OkM.b 1 [0,4,6,8] [(129,sv ((xs.take s0.toNat).drop v0.toNat)),(130,pv bs6 0)] ?_
    refine OkM.t rfl rfl (OpOk.w1 0 ?_)
    refine OkM.l1 (Gle.refl _) (OkM.b 1 [0,4,6,8,129] [(131,pv bs6 3)] ?_)
    refine OkM.t rfl rfl (OpOk.w1 0 ?_)
    refine OkM.l1 (Gle.refl _) (OkM.nil (Ok.t (Ok.sr (Ok.b 1 [0,4,6,8] [(132,pv bs6 3)] ?_))))
    refine Ok.o (OpOk.s (v:=sv ((xs.take s0.toNat).drop v0.toNat)) (Yields.l 0 rfl rfl underlying9 rfl kr) rfl rfl ?_)
    obtain ⟨hp41,hF⟩:=hF
    refine Ok.o (OpOk.f enr (fun W hW=>rword_c ((xs.take s0.toNat).drop v0.toNat) (hG1.mono hW.sees) hp41) rfl ?_)
    refine Ok.nt (Ok.cw hF (fun hc42 hF=>?_) (fun hc42 hF=>?_))
    ·refine Ok.r (Ok.b 1 [0,4,6,8] [(135,pv bs6 0)] ?_)
     refine Ok.o (OpOk.w1 0 ?_)
     refine Ok.j (Ok.kn (Ok.t ?_))
     exact fun _ _ u v=>⟨I0,K0.trans Y0,s0,5,(xs.take s0.toNat).drop v0.toNat,0,fA u v hF⟩
    refine Ok.k (Ok.kn (Ok.t ?_))
    exact fun _ _ u v=>⟨I0,K0.trans Y0,s0,1,(xs.take s0.toNat).drop v0.toNat,0,fA u v hF⟩
   refine Ok.sr (Ok.b 3 [0,4,5,6,8] [(136,.bool ((e7.toNat:Int)==34))] ?_)
   refine Ok.nt (Ok.cw hF (fun hc45 hF=>?_) (fun hc45 hF=>?_))
   ·refine Ok.sr (Ok.b 1 [0,4,5,6] [(139,pv bs6 0)] ?_)
    refine Ok.o (OpOk.w1 0 ?_)
    refine Ok.nt (Ok.q (Ok.r ?_))
    obtain ⟨hp46,hF⟩:=hF
    refine Ok.rn 7 [.k (rta_c xs v0 hG1 hp46)] [0,4,6] [(144,sv ((rtaS xs v0).1)),(145,iv (rtaS xs v0).2),(146,pv bs6 3)] ?_
    refine Ok.o (OpOk.w1 0 ?_)
    refine Ok.b 1 [0,4,6] [(8,iv (rtaS xs v0).2)] ?_
    refine Ok.nt (Ok.sr (Ok.b 2 [0,4,6,8] [(148,.bool (decide ((rtaS xs v0).2<0)))] ?_))
    refine Ok.nt (Ok.cw hF (fun D0 hF=>?_) (fun D0 hF=>?_))
    ·refine Ok.sr (Ok.B 1 [(2,.slice none 0 0)] kr ?_)
     have hL48:RepL n0 yT [] []:=rfl
     refine Ok.ownNil 40 5 (Ok.B 1 [(2,.slice none ([]:List TK).length 0),(3,iv 4)] kr (Ok.nt (Ok.ret (Ok.kr (Ok.tr (Ok.kr (Ok.tr (Ok.kr (Ok.tr (Ok.frz 0 rfl hL48 fun g49 v1 hRf49=>?_))))))))))
     replace q0:=q0.mono v1.1
     replace hG1:=hG1.mono v1.1
     exact Ok.p (vs:=[.slice none ([]:List TK).length 0,iv 4]) [] [] dc rfl (.inl rfl) rfl (.cons (.tmp rfl) (.cons (.tmp rfl) .nil)) (o0.trans v1) ⟨([]:List TK),4,none,0,rfl,hRf49,rfl,hF⟩
    refine Ok.k (Ok.kn (Ok.t ?_))
    exact fun _ _ u v=>⟨n0,Gext.r w0 n0,(rtaS xs v0).2,3,(rtaS xs v0).1,0,fA u v hF⟩
   refine Ok.sr (Ok.b 2 [0,4,6,8] [(22,sv xs),(23,iv v0)] ?_)
   obtain ⟨h050,h150,h250,hF⟩:=hF
   refine Ok.o (OpOk.s (Yields.ss (s:=xs) (l:=v0) (h:=(xs.length:Int)) kr underlying9 (.inl ⟨_,_,rfl,rfl⟩) (.inr ⟨rfl,rfl⟩) h050 h150 h250 (xs.drop v0.toNat) (tkd _ _)) rfl rfl ?_)
   obtain ⟨hp51,hF⟩:=hF
   refine Ok.rn 2 [.k (rsa_c (xs.drop v0.toNat) hG1 hp51)] [0,4,6,8] [(25,sv (rsaS (xs.drop v0.toNat))),(26,pv bs6 0)] ?_
   refine Ok.o (OpOk.w1 0 ?_)
   refine Ok.b 1 [0,4,6,8,25] [(27,pv bs6 3)] ?_
   refine Ok.o (OpOk.w1 0 ?_)
   refine Ok.nt (Ok.q (Ok.sr (Ok.b 1 [0,4,6,8] [(28,pv bs6 3)] ?_)))
   refine Ok.o (OpOk.s (v:=sv (rsaS (xs.drop v0.toNat))) (Yields.l 0 rfl rfl underlying9 rfl kr) rfl rfl (Ok.o (OpOk.s (v:=.bool ((rsaS (xs.drop v0.toNat))==Bz)) (Yields.sc (f:=.eql) (a:=(rsaS (xs.drop v0.toNat))) (b:=Bz) kr kr rfl) rfl rfl (Ok.nt (Ok.cw hF (fun hc52 hF=>?_) (fun hc52 hF=>?_))))))
   ·refine Ok.sr (Ok.B 1 [(2,.slice none 0 0)] kr ?_)
    have hL53:RepL n0 yT [] []:=rfl
    refine Ok.ownNil 40 5 (Ok.B 1 [(2,.slice none ([]:List TK).length 0),(3,iv 4)] kr (Ok.nt (Ok.ret (Ok.tr (Ok.kr (Ok.tr (Ok.kr (Ok.tr (Ok.kr (Ok.tr (Ok.frz 0 rfl hL53 fun g54 q1 hRf54=>?_)))))))))))
    replace q0:=q0.mono q1.1
    exact Ok.p (vs:=[.slice none ([]:List TK).length 0,iv 4]) [] [] dc rfl (.inl rfl) rfl (.cons (.tmp rfl) (.cons (.tmp rfl) .nil)) (o0.trans q1) ⟨([]:List TK),4,none,0,rfl,hRf54,rfl,hF⟩
   refine Ok.k (Ok.t (Ok.r (Ok.rn 6 [.e 0] [0,4,6] [(8,iv (w6 (v0+((rsaS (xs.drop v0.toNat)).length:Int))))] ?_)))
   refine Ok.j (Ok.kn (Ok.t ?_))
   exact fun _ _ u v=>⟨n0,Gext.r w0 n0,w6 (v0+((rsaS (xs.drop v0.toNat)).length:Int)),4,(rsaS (xs.drop v0.toNat)),0,fA u v hF⟩
  clear hF
  rintro _ _ ⟨B0,S0,m0,g0,c0,d0,q⟩
  refine jn (fun hF=>?_) _ _ q
  replace q0:=q0.mono S0.1
  refine Ok.q (Ok.sr (Ok.b 3 [0,4,6,8] [(151,.bool ((z0.length:Int)==1000))] ?_))
  refine Ok.nt (Ok.cn hF rfl (fun hc8=>?_) (fun hc8=>?_))
  ·replace hF:=hF.1 hc8
   refine Ok.sr (Ok.B 1 [(2,.slice none 0 0)] kr ?_)
   have hL9:RepL B0 yT [] []:=rfl
   refine Ok.ownNil 40 5 (Ok.B 1 [(2,.slice none ([]:List TK).length 0),(3,iv 2)] kr (Ok.nt (Ok.ret (Ok.tr (Ok.kr (Ok.tr (Ok.kr (Ok.tr (Ok.frz 0 rfl hL9 fun g10 k1 hRf10=>?_)))))))))
   replace q0:=q0.mono k1.1
   exact Ok.p (vs:=[.slice none ([]:List TK).length 0,iv 2]) [] [] dc rfl (.inl rfl) rfl (.cons (.tmp rfl) (.cons (.tmp rfl) .nil)) ((o0.trans S0).trans k1) ⟨([]:List TK),2,none,0,rfl,hRf10,rfl,hF⟩
  replace hF:=hF.2 hc8
  refine Ok.k (Ok.t (Ok.sr (Ok.b 2 [0,4,6,8] [(152,iv m0),(153,pv bs6 2)] ?_)))
  refine Ok.o (OpOk.w1 0 ?_)
  refine Ok.nt (Ok.sr (Ok.b 1 [0,6,8] [(154,.slice k0 z0.length u0)] ?_))
  refine Ok.o (OpOk.s (v:=.agg #[iv g0,iv v0,iv m0,sv c0,iv d0]) (Yields.loadAgg 0 5 #[iv g0,iv v0,iv m0,sv c0,iv d0] rfl rfl underlying40 rfl kr kr kr) rfl rfl ?_)
  have m1:RepL B0 yT ([iv g0,iv v0,iv m0,sv c0,iv d0]:List Value) ([(g0,v0,m0,c0,d0)]:List TK):=(RepL.consN (c:=[iv g0,iv v0,iv m0,sv c0,iv d0]) ⟨[iv g0],[iv v0,iv m0,sv c0,iv d0],rfl,rfl,⟨[iv v0],[iv m0,sv c0,iv d0],rfl,rfl,⟨[iv m0],[sv c0,iv d0],rfl,rfl,⟨[sv c0],[iv d0],rfl,rfl,rfl⟩⟩⟩⟩ rfl)
  refine Ok.o (OpOk.li m1 fun b11=>?_)
  obtain ⟨hb12,hF⟩:=hF
  refine Ok.o (OpOk.append' (e:=yT) 48 2932031007402 2 0 rfl rfl rfl rfl q0 m1 underlying30 kr kr kr hb12 rfl fun a12 c12 xs12 hL12=>?_)
  refine Ok.b 1 [0,8] [(4,.slice a12 (z0++([(g0,v0,m0,c0,d0)]:List TK)).length c12)] ?_
  refine Ok.nt (Ok.r (Ok.b 2 [0,4] [(5,iv m0)] ?_))
  refine Ok.j (Ok.kn (Ok.t ?_))
  subst hg7
  exact fun _ _ u v=>⟨k17,nl,B0,o0.trans S0,m0,a12,c12,(z0++([(g0,v0,m0,c0,d0)]:List TK)),xs12,hL12,fA u v hF⟩
 refine Ok.x (Ok.thenE (Ok.thenE (Ok.blockHit (Ok.t (Ok.sr (Ok.B 3 [(2,.slice k0 z0.length u0),(3,iv 0)] kr (Ok.nt (Ok.ret (Ok.frz 0 rfl q0 fun g55 o1 hRf55=>?_)))))))))
 exact Ok.resH (vs:=[.slice k0 z0.length u0,iv 0]) (.inl rfl) rfl (.cons (.tmp rfl) (.cons (.tmp rfl) .nil)) (o0.trans o1) ⟨z0,0,k0,u0,rfl,hRf55,rfl,hF⟩
theorem rtd_F (s:Bs):rtdF s (fun r e=>(r,e)=jtokS s):=by
 refine ⟨fun h=>by unfold jtokS; rw [if_t h],fun h=>?_⟩
 have hl:=of_decide_eq_false h
 have e0:jtokS s=tkN (s.length+1) (jskipS (s,0,[])):=by unfold jtokS; rw [if_f h]
 have loop:∀ (k:Nat) (i:Int) (o:List TK) (m:Nat),(s.length:Int)≤i+k→(s.length:Int)≤i+m→0≤i→i≤(s.length:Int)→(o.length:Int)≤i→jtokS s=tkN (m+1) (jskipS (s,i,o)) →
   rtdl17 s (fun r e=>(r,e)=jtokS s) (k+1) i o:=by
  intro k
  induction k with
  | zero =>
   intro i o m hk hm h0 h1 ho he
   have hn:decide (i<(s.length:Int))=false:=decide_eq_false om
   have hz:jskipS (s,i,o)=(s,i,o):=by
    unfold jskipS
    rw [show ((s,i,o):RD).1.drop (Int.toNat ((s,i,o):RD).2.1)=[] from List.drop_of_length_le (by show s.length≤i.toNat; omega)]
    show (s,i+((0:Nat):Int),o)=_
    rw [show i+((0:Nat):Int)=i by omega]
   rw [hz,tkN,if_f hn] at he
   exact ⟨fun h=>(Bool.false_ne_true (hn.symm.trans h)).elim,fun _=>he.symm⟩
  | succ k ih =>
   intro i o m hk hm h0 h1 ho he
   by_cases hi:i<(s.length:Int)
   case neg =>
    have hn:decide (i<(s.length:Int))=false:=decide_eq_false hi
    have hz:jskipS (s,i,o)=(s,i,o):=by
     unfold jskipS
     rw [show ((s,i,o):RD).1.drop (Int.toNat ((s,i,o):RD).2.1)=[] from List.drop_of_length_le (by show s.length≤i.toNat; omega)]
     show (s,i+((0:Nat):Int),o)=_
     rw [show i+((0:Nat):Int)=i by omega]
    rw [hz,tkN,if_f hn] at he
    exact ⟨fun h=>(Bool.false_ne_true (hn.symm.trans h)).elim,fun _=>he.symm⟩
   have hn:decide (i<(s.length:Int))=true:=decide_eq_true hi
   have hd:=drop_get (l:=s) (k:=i.toNat) 0 om
   have w1:w6 (i+1)=i+1:=w64 om
   have fin:∀ (e kind:Int) (text:Bs) (num:Int),jskipS (s,i,o)=(s,i,o)→jnxtS (s,i,o)=((kind,0,0,text,num),0,(s,e,o))→i<e→e≤(s.length:Int) →
     rtdj31 (fun r e=>(r,e)=jtokS s) e kind text num i o (rtdl17 s (fun r e=>(r,e)=jtokS s) (k+1)):=by
    intro e kind text num hz hx he1 he2
    rw [hz,tkN,if_t hn] at he
    refine ⟨fun hb=>?_,fun hb=>⟨by rw [List.length_append]; simp only [List.length_cons,List.length_nil]; omega,?_⟩⟩
    ·have hE:tkE (s,i,o)=2:=by unfold tkE; rw [hx]; exact if_t hb
     rw [hE] at he
     exact he.symm
    have hE:tkE (s,i,o)=0:=by unfold tkE; rw [hx]; exact if_f hb
    have hA:tkA (s,i,o)=jskipS (s,e,o++[(kind,i,e,text,num)]):=by unfold tkA; rw [hx]
    rw [hE,hA] at he
    replace he:jtokS s=tkN m (jskipS (s,e,o++[(kind,i,e,text,num)])):=he
    obtain ⟨m',rfl⟩:∃ m',m=m'+1:=⟨m - 1,by omega⟩
    exact ih e _ m' om om om he2 (by rw [List.length_append]; simp only [List.length_cons,List.length_nil]; omega) he
   have bad:∀ (t:TK) (e:Int) (x:RD),jskipS (s,i,o)=(s,i,o)→jnxtS (s,i,o)=(t,e,x)→e≠0→([],e)=jtokS s:=by
    intro t e x hz hx hne
    rw [hz,tkN,if_t hn] at he
    have hb:(e==0)=false:=by simpa using hne
    have hE:tkE (s,i,o)=e:=by
     unfold tkE; rw [hx]
     show (if (e==0&&_)=true then (2:Int) else e)=e
     rw [hb,Bool.false_and]; rfl
    rw [hE,if_t (show (e != 0)=true by simpa using hne)] at he
    exact he.symm
   have hpk:(jpeekS (s,i,o) 0).1=((s.getD i.toNat 0).toNat:Int):=by
    unfold jpeekS
    rw [show (((s,i,o):RD).2.1+0)=i from Int.add_zero _]
    exact if_t (decide_eq_true hi)
   refine ⟨fun _=>⟨h0,by omega,fun hw=>?_,fun hw=>⟨h0,by omega,by omega,?_⟩⟩,fun h=>(Bool.false_ne_true (h.symm.trans hn)).elim⟩
   ·rw [w1]
    exact ih (i+1) o m om om om om om (by rw [he,sk_ws o h0 hi hw])
   have hwf:wsB (s.getD i.toNat 0)=false:=hw
   rw [hd,hp47]
   refine ⟨fun hc=>?_,fun hc=>?_⟩
   ·have D0:(((s.getD i.toNat 0).toNat:Int)==10)=false:=by
     rw [Bool.and_eq_true,beq_iff_eq] at hc
     rw [hc.1]; rfl
    have inner:∀ (q:Nat) (j:Int),(s.length:Int)≤j+q→i≤j→j≤(s.length:Int)→i+(skN (s.drop i.toNat) false:Nat)=j+(skN (s.drop j.toNat) true:Nat) →
      rtdl44 s o (rtdl17 s (fun r e=>(r,e)=jtokS s) (k+1)) (q+1) j:=by
     intro q
     have out:∀ j:Int,i≤j→j≤(s.length:Int)→i+(skN (s.drop i.toNat) false:Nat)=j+(skN (s.drop j.toNat) true:Nat)→(decide (j<(s.length:Int))&&(((s.getD j.toNat 0).toNat:Int) != 10))=false →
       rtdl17 s (fun r e=>(r,e)=jtokS s) (k+1) j o:=by
      intro j hj1 hj2 hsum hend
      have hne:j≠i:=fun e=>by
       rw [e,decide_eq_true hi,Bool.true_and] at hend
       have:(((s.getD i.toNat 0).toNat:Int)==10)=true:=by simpa using hend
       rw [this] at D0; cases D0
      have hsk:jskipS (s,i,o)=jskipS (s,j,o):=by
       have e2:skN (s.drop j.toNat) true=skN (s.drop j.toNat) false:=by
        by_cases hjl:j<(s.length:Int)
        ·rw [decide_eq_true hjl,Bool.true_and] at hend
         have h10:(((s.getD j.toNat 0).toNat:Int)==10)=true:=by simpa using hend
         have hws:wsB (s.getD j.toNat 0)=true:=by unfold wsB; rw [h10]; simp
         rw [drop_get (l:=s) (k:=j.toNat) 0 om,skN,skN,h10,if_t hws]; rfl
        rw [List.drop_of_length_le om]; rfl
       rw [e2] at hsum
       show (s,i+(skN (s.drop i.toNat) false:Nat),o)=(s,j+(skN (s.drop j.toNat) false:Nat),o)
       rw [hsum]
      exact ih j o m om om om hj2 om (by rw [he,hsk])
     induction q with
     | zero =>
      intro j hq hj1 hj2 hsum
      have hjn:decide (j<(s.length:Int))=false:=decide_eq_false om
      refine ⟨fun h=>(Bool.false_ne_true (hjn.symm.trans h)).elim,fun _=>?_⟩
      exact ⟨fun h=>(by rw [hjn] at h; cases h),fun h=>out j hj1 hj2 hsum h⟩
     | succ q ihq =>
      intro j hq hj1 hj2 hsum
      have j46:rtdj46 s j o (rtdl17 s (fun r e=>(r,e)=jtokS s) (k+1)) (rtdl44 s o (rtdl17 s (fun r e=>(r,e)=jtokS s) (k+1)) (q+1)):=by
       refine ⟨fun h=>?_,fun h=>out j hj1 hj2 hsum h⟩
       rw [Bool.and_eq_true] at h
       have hjl:=of_decide_eq_true h.1
       have h10:(((s.getD j.toNat 0).toNat:Int)==10)=false:=by simpa using h.2
       rw [w6e om]
       refine ihq (j+1) om om om ?_
       rw [hsum,drop_get (l:=s) (k:=j.toNat) 0 om,skN,h10,show (j+1).toNat=j.toNat+1 by omega]
       show j+((1+skN (s.drop (j.toNat+1)) true:Nat):Int)=_
       omega
      exact ⟨fun h=>⟨by omega,od h,j46⟩,fun _=>j46⟩
    refine ⟨_,inner s.length i om om om ?_⟩
    rw [hd,skN,skN,if_f hwf,if_t hc,D0]; rfl
   have hz:jskipS (s,i,o)=(s,i,o):=by
    show (s,i+(skN (s.drop i.toNat) false:Nat),o)=_
    rw [hd,skN,if_f hwf,if_f hc]
    show (s,i+((0:Nat):Int),o)=_
    rw [show i+((0:Nat):Int)=i by omega]
   rw [bf1,bf3]
   refine ⟨fun hdg=>?_,fun hdg=>⟨fun hnb=>?_,fun hnb=>⟨fun hq=>?_,fun hq=>?_⟩⟩⟩
   ·have hlt:jletM (jpeekS (s,i,o) 0).1=false:=by rw [hpk]; exact bf2 _ hdg
    have hnx:jnxtS (s,i,o)=jnumS (s,i,o):=by unfold jnxtS; rw [if_f hlt,if_t (by rw [hpk]; exact hdg)]
    have htk:=run_take (x:=(s,i,o)) ⟨by show s.length≤1000000; omega,h0,h1⟩ (fun y0=>jdigM y0)
    have hnum:jnumS (s,i,o)=(match numV ((s.drop i.toNat).take (runN (fun y0=>jdigM y0) (s.drop i.toNat))) 0 with
     | none=>((0,0,0,[],0),2,(s,i+(runN (fun y0=>jdigM y0) (s.drop i.toNat):Nat),o))
     | some n=>if jletM (jpeekS (s,i+(runN (fun y0=>jdigM y0) (s.drop i.toNat):Nat),o) 0).1=true then ((0,0,0,[],0),4,(s,i+(runN (fun y0=>jdigM y0) (s.drop i.toNat):Nat),o)) else ((2,0,0,[],n),0,(s,i+(runN (fun y0=>jdigM y0) (s.drop i.toNat):Nat),o))):=by
     unfold jnumS; rw [htk]; rfl
    have inner:∀ (q:Nat) (e num:Int),(s.length:Int)≤e+q→i≤e→e≤(s.length:Int)→0≤num→num≤9007199254740992→(e=i→num=0) →
      i+(runN (fun y0=>jdigM y0) (s.drop i.toNat):Nat)=e+(runN (fun y0=>jdigM y0) (s.drop e.toNat):Nat) →
      numV ((s.drop i.toNat).take (runN (fun y0=>jdigM y0) (s.drop i.toNat))) 0=numV ((s.drop e.toNat).take (runN (fun y0=>jdigM y0) (s.drop e.toNat))) num →
      rtdl61 s (fun r e=>(r,e)=jtokS s) i o (rtdl17 s (fun r e=>(r,e)=jtokS s) (k+1)) (q+1) e num:=by
     intro q
     have out:∀ (e num:Int),i≤e→e≤(s.length:Int)→i+(runN (fun y0=>jdigM y0) (s.drop i.toNat):Nat)=e+(runN (fun y0=>jdigM y0) (s.drop e.toNat):Nat) →
       numV ((s.drop i.toNat).take (runN (fun y0=>jdigM y0) (s.drop i.toNat))) 0=numV ((s.drop e.toNat).take (runN (fun y0=>jdigM y0) (s.drop e.toNat))) num →
       (decide (e<(s.length:Int))&&jdigM ((s.getD e.toNat 0).toNat:Int))=false →
       rtdj80 s (fun r e=>(r,e)=jtokS s) e num i o (rtdl17 s (fun r e=>(r,e)=jtokS s) (k+1)):=by
      intro e num g1 g2 g3 g4 g5
      have hr0:runN (fun y0=>jdigM y0) (s.drop e.toNat)=0:=by
       by_cases hel:e<(s.length:Int)
       ·rw [decide_eq_true hel,Bool.true_and] at g5
        rw [drop_get (l:=s) (k:=e.toNat) 0 om,run_nil g5]
       rw [List.drop_of_length_le om]; rfl
      have hie:i<e:=by
       have:runN (fun y0=>jdigM y0) (s.drop i.toNat)=1+runN (fun y0=>jdigM y0) (s.drop (i.toNat+1)):=by
        rw [hd]; exact run_cons (is:=fun y0=>jdigM y0) hdg
       rw [hr0] at g3; omega
      rw [hr0] at g3 g4
      have ge:i+(runN (fun y0=>jdigM y0) (s.drop i.toNat):Nat)=e:=by rw [g3]; show e+((0:Nat):Int)=e; omega
      rw [List.take_zero] at g4
      rw [g4,ge] at hnum
      have hpe:jletM (jpeekS (s,e,o) 0).1=(decide (e<(s.length:Int))&&rnbM ((s.getD e.toNat 0).toNat:Int)):=by
       unfold jpeekS
       rw [show (((s,e,o):RD).2.1+0)=e from Int.add_zero _]
       show jletM (if decide (e<(s.length:Int))=true then ((s.getD e.toNat 0).toNat:Int) else 0)=_
       cases hel:decide (e<(s.length:Int))
       ·rfl
       rw [hel,Bool.true_and] at g5
       rw [if_t rfl,Bool.true_and,bf3,jnb_or,g5,Bool.or_false]
      change jnumS (s,i,o)=(if jletM (jpeekS (s,e,o) 0).1=true then ((0,0,0,[],0),4,(s,e,o)) else ((2,0,0,[],num),0,(s,e,o))) at hnum
      rw [hpe] at hnum
      refine ⟨fun h=>?_,fun h=>fin e 2 [] num hz (by rw [hnx,hnum,if_f h]) hie g2⟩
      exact bad _ 4 _ hz (by rw [hnx,hnum,if_t h]) dc
     induction q with
     | zero =>
      intro e num hq g1 g2 n1 n2 n3 g3 g4
      have hen:decide (e<(s.length:Int))=false:=decide_eq_false om
      have hf:(decide (e<(s.length:Int))&&jdigM ((s.getD e.toNat 0).toNat:Int))=false:=by rw [hen]; rfl
      refine ⟨fun h=>(Bool.false_ne_true (hen.symm.trans h)).elim,fun _=>?_⟩
      unfold rtdj63
      rw [bf1]
      exact ⟨fun h=>(Bool.false_ne_true (hf.symm.trans h)).elim,fun _=>⟨fun h=>(Bool.false_ne_true (hen.symm.trans h)).elim,fun _=>out e num g1 g2 g3 g4 hf⟩⟩
     | succ q ihq =>
      intro e num hq g1 g2 n1 n2 n3 g3 g4
      have j63:rtdj63 s (fun r e=>(r,e)=jtokS s) e num i o (rtdl17 s (fun r e=>(r,e)=jtokS s) (k+1)) (rtdl61 s (fun r e=>(r,e)=jtokS s) i o (rtdl17 s (fun r e=>(r,e)=jtokS s) (k+1)) (q+1)):=by
       unfold rtdj63
       rw [bf1]
       refine ⟨fun h=>?_,fun h=>⟨fun h2=>⟨by omega,od h2,out e num g1 g2 g3 g4 h⟩,fun _=>out e num g1 g2 g3 g4 h⟩⟩
       rw [Bool.and_eq_true] at h
       have hel:=of_decide_eq_true h.1
       have hb:=dig_in h.2
       have hed:=drop_get (l:=s) (k:=e.toNat) 0 om
       rw [hed,run_cons (is:=fun y0=>jdigM y0) h.2] at g3
       rw [hed,run_cons (is:=fun y0=>jdigM y0) h.2,Nat.add_comm 1,List.take_succ_cons,numV] at g4
       have hv:(w6 ((w6 (10 * num))+(w6 (IntKind.wrap .u8 (((s.getD e.toNat 0).toNat:Int) - 48)))))=10 * num+(((s.getD e.toNat 0).toNat:Int) - 48):=by
        rw [u8_in _ om,w6e (x:=10 * num) om,w6e (x:=((s.getD e.toNat 0).toNat:Int) - 48) om,w6e om]
       rw [hv]
       refine ⟨by omega,by omega,fun h3=>?_,fun h3=>?_⟩
       ·rw [if_t h3] at g4
        rw [g4] at hnum
        exact bad _ 2 _ hz (by rw [hnx,hnum]) dc
       rw [if_f h3] at g4
       have:=of_decide_eq_false h3
       rw [w6e om]
       exact ihq (e+1) _ om om om om om om (by rw [g3,show (e+1).toNat=e.toNat+1 by omega]; omega) (by rw [g4,show (e+1).toNat=e.toNat+1 by omega])
      exact ⟨fun h=>⟨by omega,od h,j63⟩,fun _=>j63⟩
    exact ⟨_,inner s.length i 0 om om om om om (fun _=>rfl) rfl rfl⟩
   ·have hlt:jletM (jpeekS (s,i,o) 0).1=true:=by
     rw [hpk]
     rw [jnb_or,hdg,Bool.or_false] at hnb
     exact hnb
    have hrd:rdP (s,i,o):=⟨by show s.length≤1000000; omega,h0,h1⟩
    have htk:=run_take (x:=(s,i,o)) hrd (fun y0=>jnbM y0)
    have hrn:=runN_le (fun y0=>jnbM y0) (s.drop i.toNat)
    rw [List.length_drop] at hrn
    have inner:∀ (q:Nat) (e:Int),(s.length:Int)≤e+q→i≤e→e≤(s.length:Int) →
      i+(runN (fun y0=>jnbM y0) (s.drop i.toNat):Nat)=e+(runN (fun y0=>jnbM y0) (s.drop e.toNat):Nat) →
      rtdl92 s (fun r e=>(r,e)=jtokS s) i o (rtdl17 s (fun r e=>(r,e)=jtokS s) (k+1)) (q+1) e:=by
     intro q
     have out:∀ (e:Int) (C:Int→Prop),i≤e→e≤(s.length:Int)→i+(runN (fun y0=>jnbM y0) (s.drop i.toNat):Nat)=e+(runN (fun y0=>jnbM y0) (s.drop e.toNat):Nat) →
       (decide (e<(s.length:Int))&&jnbM ((s.getD e.toNat 0).toNat:Int))=false →
       rtdj94 s (fun r e=>(r,e)=jtokS s) e i o (rtdl17 s (fun r e=>(r,e)=jtokS s) (k+1)) C:=by
      intro e C g1 g2 g3 g5
      have hr0:runN (fun y0=>jnbM y0) (s.drop e.toNat)=0:=by
       by_cases hel:e<(s.length:Int)
       ·rw [decide_eq_true hel,Bool.true_and] at g5
        rw [drop_get (l:=s) (k:=e.toNat) 0 om,run_nil g5]
       rw [List.drop_of_length_le om]; rfl
      have hone:1≤runN (fun y0=>jnbM y0) (s.drop i.toNat):=by
       rw [hd,run_cons (is:=fun y0=>jnbM y0) hnb]; omega
      have ge:i+(runN (fun y0=>jnbM y0) (s.drop i.toNat):Nat)=e:=by rw [g3,hr0]; show e+((0:Nat):Int)=e; omega
      have hW:(s.take e.toNat).drop i.toNat=(jrunS (s,i,o) (fun y0=>jnbM y0)).1:=by
       show _=(s.take (runE (s,i,o) (fun y0=>jnbM y0)).toNat).drop i.toNat
       rw [show runE (s,i,o) (fun y0=>jnbM y0)=e from ge]
      have hWl:((s.take e.toNat).drop i.toNat).length=runN (fun y0=>jnbM y0) (s.drop i.toNat):=by
       rw [List.length_drop,List.length_take]; omega
      have hwP:rwordP ((s.take e.toNat).drop i.toNat):=by
       refine ⟨by rw [hWl]; omega,fun c hc=>?_⟩
       rw [hW,htk] at hc
       exact bf4 c (run_all (fun y0=>jnbM y0) _ c hc)
      have hwS:rwordS ((s.take e.toNat).drop i.toNat)=sconM (fieldsS KW) (jrunS (s,i,o) (fun y0=>jnbM y0)).1:=by
       unfold rwordS
       rw [scon_eq,hW]
       have:((jrunS (s,i,o) (fun y0=>jnbM y0)).1==[])=false:=by
        rw [← hW]
        cases hc:(s.take e.toNat).drop i.toNat with
        | nil=>rw [hc] at hWl; simp at hWl; omega
        | cons a b=>rfl
       rw [this]; rfl
      have hnx:jnxtS (s,i,o)=((if rwordS ((s.take e.toNat).drop i.toNat)=true then 5 else 1,0,0,(s.take e.toNat).drop i.toNat,0),0,(s,e,o)):=by
       unfold jnxtS
       rw [if_t hlt,hwS,hW]
       show (_,(0:Int),(s,runE (s,i,o) (fun y0=>jnbM y0),o))=_
       rw [show runE (s,i,o) (fun y0=>jnbM y0)=e from ge]; rfl
      unfold rtdj94
      rw [bf3]
      refine ⟨fun h=>(Bool.false_ne_true (g5.symm.trans h)).elim,fun _=>⟨h0,g1,g2,hwP,fun h=>?_,fun h=>?_⟩⟩
      ·exact fin e 5 _ 0 hz (by rw [hnx,if_t h]) om g2
      exact fin e 1 _ 0 hz (by rw [hnx,if_f h]) om g2
     induction q with
     | zero =>
      intro e hq g1 g2 g3
      have hen:decide (e<(s.length:Int))=false:=decide_eq_false om
      exact ⟨fun h=>(Bool.false_ne_true (hen.symm.trans h)).elim,fun _=>out e _ g1 g2 g3 (by rw [hen]; rfl)⟩
     | succ q ihq =>
      intro e hq g1 g2 g3
      have j94:rtdj94 s (fun r e=>(r,e)=jtokS s) e i o (rtdl17 s (fun r e=>(r,e)=jtokS s) (k+1)) (rtdl92 s (fun r e=>(r,e)=jtokS s) i o (rtdl17 s (fun r e=>(r,e)=jtokS s) (k+1)) (q+1)):=by
       cases hb:(decide (e<(s.length:Int))&&jnbM ((s.getD e.toNat 0).toNat:Int))
       ·exact out e _ g1 g2 g3 hb
       unfold rtdj94
       rw [bf3]
       refine ⟨fun _=>?_,fun h=>(Bool.false_ne_true (h.symm.trans hb)).elim⟩
       rw [Bool.and_eq_true] at hb
       have hel:=of_decide_eq_true hb.1
       rw [drop_get (l:=s) (k:=e.toNat) 0 om,run_cons (is:=fun y0=>jnbM y0) hb.2] at g3
       rw [w6e om]
       exact ihq (e+1) om om om (by rw [g3,show (e+1).toNat=e.toNat+1 by omega]; omega)
      exact ⟨fun h=>⟨by omega,od h,j94⟩,fun _=>j94⟩
    exact ⟨_,inner s.length i om om om rfl⟩
   ·have hlt:jletM (jpeekS (s,i,o) 0).1=false:=by
     rw [hpk]
     rw [jnb_or,Bool.or_eq_false_iff] at hnb
     exact hnb.1
    have hnx:jnxtS (s,i,o)=txN s o (s.length+1) (i+1) []:=by
     unfold jnxtS
     rw [if_f hlt,if_f (by rw [hpk]; exact hdg),if_t (by rw [hpk]; exact hq)]; rfl
    have hrd:=txN_rd s [] om (s.length+1) (i+1) [] om om
    have hadv:=txN_adv s [] om (s.length+1) (i+1) [] om om
    rw [txN_o] at hnx
    refine ⟨⟨by omega,h0,hi⟩,?_⟩
    rcases txN_err s [] (s.length+1) (i+1) [] with ⟨z,t,ht⟩ | z
    ·have hS:rtaS s i=(t,(txN s [] (s.length+1) (i+1) []).2.2.2.1):=by
      unfold rtaS rtaR; rw [if_t (by rw [z]; rfl),ht]
     rw [hS]
     have hle:(txN s [] (s.length+1) (i+1) []).2.2.2.1≤(s.length:Int):=by have:=hrd.1.2.2; rw [hrd.2.1] at this; exact this
     refine ⟨fun h=>?_,fun _=>fin _ 3 t 0 hz (by rw [hnx,ht,z]) om hle⟩
     have h':=of_decide_eq_true h
     have h'':(txN s [] (s.length+1) (i+1) []).2.2.2.1<0:=h'
     omega
    have hS:rtaS s i=([],-1):=by
     unfold rtaS rtaR; rw [if_f (by rw [z]; rfl)]
    rw [hS]
    exact ⟨fun _=>bad _ 4 _ hz (by rw [hnx,z]) dc,fun h=>absurd (of_decide_eq_false h) dc⟩
   have hlt:jletM (jpeekS (s,i,o) 0).1=false:=by
    rw [hpk]
    rw [jnb_or,Bool.or_eq_false_iff] at hnb
    exact hnb.1
   have hnx:jnxtS (s,i,o)=jsigS (s,i,o):=by
    unfold jnxtS
    rw [if_f hlt,if_f (by rw [hpk]; exact hdg),if_f (by rw [hpk]; exact hq)]
   have hWn:∀ n:Nat,sgW (s,i,o) (n:Int)=(s.drop i.toNat).take n:=fun n=>by
    show (s.take (i+(n:Int)).toNat).drop i.toNat=_
    rw [List.drop_take,show (i+(n:Int)).toNat - i.toNat=n by omega]
   have hW2:sgW (s,i,o) 2=(s.drop i.toNat).take 2:=hWn 2
   have hW1:sgW (s,i,o) 1=(s.drop i.toNat).take 1:=hWn 1
   have hdl:(s.drop i.toNat).length=s.length - i.toNat:=List.length_drop ..
   have hT2:sgT (s,i,o) 2=(decide (2≤(s.drop i.toNat).length)&&SGL.contains ((s.drop i.toNat).take 2)):=by
    unfold sgT
    rw [scon_eq,SG_l,hW2]
    congr 1
    rw [Bool.eq_iff_iff,decide_eq_true_eq,Bool.not_eq_true',decide_eq_false_iff_not,hdl]
    show ¬ (i+2>(s.length:Int))↔_
    omega
   have hT1:sgT (s,i,o) 1=SGL.contains ((s.drop i.toNat).take 1):=by
    unfold sgT
    rw [scon_eq,SG_l,hW1,decide_eq_false (show ¬ (i+1>(s.length:Int)) by omega)]; rfl
   rw [← hd]
   refine ⟨h0,by omega,by omega,by unfold rsaP; omega,?_⟩
   cases h2:(decide (2≤(s.drop i.toNat).length)&&SGL.contains ((s.drop i.toNat).take 2))
   ·cases h3:SGL.contains ((s.drop i.toNat).take 1)
    ·have hS:rsaS (s.drop i.toNat)=[]:=by unfold rsaS; rw [if_f h2,if_f h3]
     rw [hS]
     refine ⟨fun _=>bad _ 4 _ hz (by rw [hnx]; unfold jsigS; rw [hT2,h2,if_f rfl,hT1,h3,if_f rfl]) dc,fun h=>by cases h⟩
    have hS:rsaS (s.drop i.toNat)=(s.drop i.toNat).take 1:=by unfold rsaS; rw [if_f h2,if_t h3]
    have hl1:((s.drop i.toNat).take 1).length=1:=by rw [List.length_take]; omega
    rw [hS,hl1]
    refine ⟨fun h=>?_,fun _=>?_⟩
    ·rw [beq_iff_eq] at h; rw [h] at hl1; simp at hl1
    rw [show w6 (i+((1:Nat):Int))=i+1 from w1]
    refine fin (i+1) 4 _ 0 hz ?_ om om
    rw [hnx]; unfold jsigS; rw [hT2,h2,if_f rfl,hT1,h3,if_t rfl]; unfold sgR; rw [hW1]
   have hS:rsaS (s.drop i.toNat)=(s.drop i.toNat).take 2:=by unfold rsaS; rw [if_t h2]
   have hlen2:2≤(s.drop i.toNat).length:=by rw [Bool.and_eq_true] at h2; exact of_decide_eq_true h2.1
   have hl1:((s.drop i.toNat).take 2).length=2:=by rw [List.length_take]; omega
   rw [hS,hl1]
   refine ⟨fun h=>?_,fun _=>?_⟩
   ·rw [beq_iff_eq] at h; rw [h] at hl1; simp at hl1
   rw [show w6 (i+((2:Nat):Int))=i+2 from w6e om]
   refine fin (i+2) 4 _ 0 hz ?_ om om
   rw [hnx]; unfold jsigS; rw [hT2,h2,if_t rfl]; unfold sgR; rw [hW2]
 exact ⟨_,loop s.length 0 [] s.length om om om om (by show (0:Int)≤0; omega) e0⟩
theorem rtd_c {g:Ghost} (xs:Bs) (hG1:SomeInt g 1)  : CallsH prog 10 #[sv xs] g [] (fun g' H' v=>∃ (t0:Option Addr) (l0:Nat),v=.tuple #[.slice t0 (jtokS xs).1.length l0,iv (jtokS xs).2]∧Rep g' yTs [.slice t0 (jtokS xs).1.length l0] (jtokS xs).1∧H'=[]) :=
 (rtd_ok xs hG1 _ (rtd_F xs)).mono (by rintro g' H' v _ ⟨r0,r1,t0,l0,rfl,hRr0_0,rfl,hK⟩; obtain ⟨rfl,rfl⟩:r0=(jtokS xs).1∧r1=(jtokS xs).2:=⟨congrArg (fun z=>z.1) hK,congrArg (fun z=>z.2) hK⟩; exact ⟨t0,l0,rfl,hRr0_0,rfl⟩)
end Go.Proofs.YtalnampdiegmoaaDoor.Jl
