/- match: One; the law MatchOnes. -/
import Derived.Test.YtdapgmigogpdcaaGreatDoorMai
import Derived.Test.YtdapgmigogpdcaaGreatDoorSfs
namespace Go.Proofs.YtdapgmigogpdcaaGreatDoor.Ma
open _root_.Go.Proofs.Tryz Go Go.Eng Go.RowKit Ti Do Se Sr Tk Css
set_option linter.unusedVariables false
set_option linter.unusedSimpArgs false
set_option maxHeartbeats 4000000
set_option maxRecDepth 100000
noncomputable section
def monV0 (xd:Dc) (xn:Int) (xp:PH):Bool :=
 ((((dchkS xd) != 0)||decide (xn<0))||((decide (xn≥(xd.1.length:Int)))||((chkS ([xp]:List PH)) != 0)))
def monj4 (xd:Dc) (xn:Int) (xp:PH) (K:Bool→Prop):Prop :=
 (monV0 xd xn xp=true→K false)∧(monV0 xd xn xp=false→msoPE xd xn ([xp]:List PH)∧K (msoS xd xn ([xp]:List PH)))
def monF (xd:Dc) (xn:Int) (xp:PH) (K:Bool→Prop):Prop :=
 dchkP xd∧((((dchkS xd) != 0)||decide (xn<0))=true→monj4 xd xn xp K)∧((((dchkS xd) != 0)||decide (xn<0))=false→((decide (xn≥(xd.1.length:Int)))=true→monj4 xd xn xp K)∧((decide (xn≥(xd.1.length:Int)))=false→chkP ([xp]:List PH)∧monj4 xd xn xp K))
theorem mon_ok {g:Ghost} {y0:Option Addr} {u0:Nat} (xd:Dc) (xn:Int) {z0:Option Addr} {v0:Nat} {q0:Option Addr} {k0:Nat} (xp:PH) (j0:Rep g yNs [.slice y0 xd.1.length u0] xd.1) (x0:Rep g (.slice (.slice yS)) [.slice z0 xp.1.length v0] xp.1) (s0:Rep g (.slice yb) [.slice q0 xp.2.length k0] xp.2) (hG0:SomeInt g 0) (K:Bool→Prop)
  (hF:monF xd xn xp K):CallsH prog 9 #[.agg (aD xd y0 u0),iv xn,.agg #[.slice z0 xp.1.length v0,.slice q0 xp.2.length k0]] g [] (fun g' H' v=>∃ (r0:Bool),v=.bool r0∧H'=[]∧K r0):=by
 refine CallsH.en 32 func9 rfl fun w0=>?_
 refine Ok.sr (Ok.o (OpOk.bx (aD xd y0 u0) fun bs3=>?_))
 refine Ok.o (OpOk.bx #[.slice z0 xp.1.length v0,.slice q0 xp.2.length k0] fun bs5=>?_)
 refine Ok.B 1 [(1,iv xn),(3,pv bs3 0),(5,pv bs5 0)] kr (Ok.nt (Ok.q (Ok.cg g [(1,iv xn),(3,pv bs3 0),(5,pv bs5 0),(26,.bool (monV0 xd xn xp))] [.blk bs5 (.cells #[.slice z0 xp.1.length v0,.slice q0 xp.2.length k0] 28),.blk bs3 (.cells (aD xd y0 u0) 24)] (monj4 xd xn xp K) ?_ (fun gj4 b0 hF=>?_))))
 ·
  refine Ok.r ?_
  obtain ⟨hp6,hF⟩:=hF
  refine Ok.rn 4 [.e 1,.k (dchk_c xd j0 hp6)] [1,3,5] [(10,.bool ((dchkS xd) != 0))] ?_
  refine Ok.w 3 [(1,iv xn),(3,pv bs3 0),(5,pv bs5 0),(13,.bool (((dchkS xd) != 0)||decide (xn<0)))] (fun hR7=>?_) ?_
  ·refine Ok.a 10 ((dchkS xd) != 0) rfl (fun hc8=>?_) (fun hc8=>?_)
   ·skip
    refine Ok.b 3 [1,3,5] [(13,.bool true)] ?_
    refine Ok.rb 13 (((dchkS xd) != 0)||decide (xn<0)) (mor_t hc8) (Ok.b 0 [1,3,5] [(13,.bool (((dchkS xd) != 0)||decide (xn<0)))] ?_)
    exact hR7
   skip
   refine Ok.b 3 [1,3,5] [(13,.bool (decide (xn<0)))] ?_
   refine Ok.rb 13 (((dchkS xd) != 0)||decide (xn<0)) (mor_f hc8) (Ok.b 0 [1,3,5] [(13,.bool (((dchkS xd) != 0)||decide (xn<0)))] ?_)
   exact hR7
  refine Ok.b 1 [1,3,5] [(14,.bool (((dchkS xd) != 0)||decide (xn<0)))] ?_
  refine Ok.bw 14 hF (fun hc9 hF=>?_) (fun hc9 hF=>?_)
  ·refine Ok.b 12 [1,3,5] [(26,.bool true)] ?_
   refine Ok.nt (Ok.rb 26 (monV0 xd xn xp) (mor_t hc9) ?_)
   exact fg hF
  refine Ok.rn 7 [.e 1] [1,3,5] [(21,.bool (decide (xn≥(xd.1.length:Int))))] ?_
  refine Ok.bw 21 hF (fun f0 hF=>?_) (fun f0 hF=>?_)
  ·refine Ok.b 5 [1,3,5] [(26,.bool true)] ?_
   refine Ok.nt (Ok.rb 26 (monV0 xd xn xp) (Eq.trans (mor_t f0) (mor_f hc9)) ?_)
   exact fg hF
  refine Ok.oy (OpOk.s (v:=.agg #[.slice z0 xp.1.length v0,.slice q0 xp.2.length k0]) (Yields.loadAgg 0 2 #[.slice z0 xp.1.length v0,.slice q0 xp.2.length k0] rfl rfl underlying28 rfl kr kr kr) rfl rfl ?_)
  have n0:RepL g yP ([.slice z0 xp.1.length v0,.slice q0 xp.2.length k0]:List Value) ([xp]:List PH):=(RepL.consN (c:=[.slice z0 xp.1.length v0,.slice q0 xp.2.length k0]) ⟨[.slice z0 xp.1.length v0],[.slice q0 xp.2.length k0],rfl,x0,s0⟩ rfl)
  refine Ok.oy (OpOk.lit (E:=28) yP ([xp]:List PH) ([.slice z0 xp.1.length v0,.slice q0 xp.2.length k0]:List Value) kr kr rfl kr n0 rfl fun b11=>?_)
  obtain ⟨hp12,hF⟩:=hF
  refine Ok.rn 3 [.c (fun W hW=>chk_c ([xp]:List PH) (hW.seeOwn 0 rfl n0) (hG0.mono hW.sees) hp12)] [1,3,5] [(26,.bool ((chkS ([xp]:List PH)) != 0))] ?_
  refine Ok.nt (Ok.rb 26 (monV0 xd xn xp) (Eq.trans (mor_f f0) (mor_f hc9)) ?_)
  exact fg hF
 replace x0:=x0.mono b0.1
 replace s0:=s0.mono b0.1
 replace j0:=j0.mono b0.1
 replace hG0:=hG0.mono b0.1
 refine Ok.cw hF (fun hc3 hF=>?_) (fun hc3 hF=>?_)
 ·refine Ok.sr (Ok.B 1 [(6,.bool false)] kr (Ok.nt (Ok.ret (Ok.tr ?_))))
  exact Ok.p1 (.bool false) b0 ⟨_,rfl,rfl,hF⟩
 refine Ok.k (Ok.t (Ok.sr (Ok.rn 2 [.e 1] [5] [(27,.agg (aD xd y0 u0)),(28,iv xn)] ?_)))
 refine Ok.o (OpOk.s (v:=.agg #[.slice z0 xp.1.length v0,.slice q0 xp.2.length k0]) (Yields.loadAgg 0 2 #[.slice z0 xp.1.length v0,.slice q0 xp.2.length k0] rfl rfl underlying28 rfl kr kr kr) rfl rfl ?_)
 have hL4:RepL gj4 yP ([.slice z0 xp.1.length v0,.slice q0 xp.2.length k0]:List Value) ([xp]:List PH):=(RepL.consN (c:=[.slice z0 xp.1.length v0,.slice q0 xp.2.length k0]) ⟨[.slice z0 xp.1.length v0],[.slice q0 xp.2.length k0],rfl,x0,s0⟩ rfl)
 refine Ok.o (OpOk.lit (E:=28) yP ([xp]:List PH) ([.slice z0 xp.1.length v0,.slice q0 xp.2.length k0]:List Value) kr kr rfl kr hL4 rfl fun b4=>?_)
 obtain ⟨hp5,hF⟩:=hF
 refine Ok.rn 2 [.c (fun W hW=>mso_c xd xn ([xp]:List PH) (j0.mono hW.sees) (hW.seeOwn 0 rfl hL4) (hG0.mono hW.sees) hp5)] [] [(6,.bool (msoS xd xn ([xp]:List PH)))] ?_
 refine Ok.nt (Ok.ret ?_)
 exact Ok.p1 (.bool (msoS xd xn ([xp]:List PH))) b0 ⟨_,rfl,rfl,hF⟩
def monS (d:DC) (n:Int) (p:Ph):Bool:=!(monV0 d n p)&&msoS d n [p]
def monP (d:DC) (_:Int) (p:Ph):Prop:=dchkP d∧chkP [p]
theorem chk_ok3 {l:List Ph} (h:chkS l=0):ok3 l=true:=by
 unfold chkS at h
 split at h
 ·cases h
 split at h
 ·cases h
 rename_i _ hc
 have hc:ptsS l=true:=by simpa using hc
 unfold ptsS at hc
 rw [Bool.and_eq_true] at hc
 exact hc.1
structure May (d:DC) (n:Int) (p:Ph):Prop where
 good:DGood d
 at':inD d n
 bulk:b3 [p]≤1048600
 ok:ok3 [p]=true
theorem may_of {d:DC} {n:Int} {p:Ph} (h:monP d n p) (hv:monV0 d n p=false):May d n p:=by
 unfold monV0 at hv
 simp only [Bool.or_eq_false_iff,bne_eq_false_iff_eq,decide_eq_false_iff_not] at hv
 obtain ⟨⟨h1,h2⟩,h3,h4⟩:=hv
 exact ⟨(dchk_sp d h.1).2 h1,⟨by omega,by omega⟩,h.2.1,chk_ok3 h4⟩
theorem May.mso {d:DC} {n:Int} {p:Ph} (h:May d n p):msoPE d n [p]:=⟨b3 [p]+1,nl,h.bulk,h.good,h.at',h.ok⟩
theorem May.rpf {d:DC} {n:Int} {p:Ph} (h:May d n p):rpfPE d n p:=by
 have hb:=h.bulk
 have ho:=ok3_in h.ok (List.mem_singleton.2 rfl)
 rw [b3_eq] at hb
 have h2:=w3_in (List.mem_singleton.2 rfl:p ∈ [p])
 exact ⟨w2 p.1+2,by omega,by omega,h.good,h.at',ho.1.1,ho.1.2.1,ho.2,ho.1.2.2⟩
theorem May.same {d:DC} {n:Int} {p:Ph} (h:May d n p):msoS d n [p]=rpfS d n p:=by
 have hk:=ok3_K h.ok p (List.mem_singleton.2 rfl)
 show any3 d [p] n=rpB d (rf2 d p.1) p.2 n
 rw [any3_cons,any3,Bool.or_false]
 exact (path_same h.good hk h.at').symm
theorem mon_F (d:DC) (n:Int) (p:Ph) (h:monP d n p):monF d n p (fun r=>r=monS d n p):=by
 have j4:monj4 d n p (fun r=>r=monS d n p):=by
  unfold monj4 monS
  refine ⟨fun hv=>by rw [hv]; rfl,fun hv=>⟨(may_of h hv).mso,by rw [hv]; rfl⟩⟩
 exact ⟨h.1,fun _=>j4,fun _=>⟨fun _=>j4,fun _=>⟨h.2,j4⟩⟩⟩
theorem mon_c {g:Ghost} {y0:Option Addr} {u0:Nat} (xd:Dc) (xn:Int) {z0:Option Addr} {v0:Nat} {q0:Option Addr} {k0:Nat} (xp:PH) (j0:Rep g yNs [.slice y0 xd.1.length u0] xd.1) (x0:Rep g (.slice (.slice yS)) [.slice z0 xp.1.length v0] xp.1) (s0:Rep g (.slice yb) [.slice q0 xp.2.length k0] xp.2) (hG0:SomeInt g 0)  (hp:monP xd xn xp):CallsG prog 9 #[.agg (aD xd y0 u0),iv xn,.agg #[.slice z0 xp.1.length v0,.slice q0 xp.2.length k0]] g (.bool (monS xd xn xp)) :=
 (mon_ok xd xn xp j0 x0 s0 hG0 _ (mon_F xd xn xp hp)).gv
def lmoV0 (xd:Dc) (xn:Int) (xp:PH):Bool :=
 (((dchkS xd==0)&&decide (xn≥0))&&((decide (xn<(xd.1.length:Int)))&&(chkS ([xp]:List PH)==0)))
def lmoj17 (xd:Dc) (xn:Int) (xp:PH) (K:Bool→Prop):Prop :=
 K (true&&(monS xd xn xp==rpfS xd xn xp))
def lmoj5 (xd:Dc) (xn:Int) (xp:PH) (K:Bool→Prop):Prop :=
 monP xd xn xp∧((!(lmoV0 xd xn xp))=true→K (true&&(!(monS xd xn xp))))∧((!(lmoV0 xd xn xp))=false→(true=true→rpfPE xd xn xp∧lmoj17 xd xn xp K)∧(true=false→lmoj17 xd xn xp K))
def lmoF (xd:Dc) (xn:Int) (xp:PH) (K:Bool→Prop):Prop :=
 dchkP xd∧(((dchkS xd==0)&&decide (xn≥0))=true→((decide (xn<(xd.1.length:Int)))=true→chkP ([xp]:List PH)∧lmoj5 xd xn xp K)∧((decide (xn<(xd.1.length:Int)))=false→lmoj5 xd xn xp K))∧(((dchkS xd==0)&&decide (xn≥0))=false→lmoj5 xd xn xp K)
theorem lmo_ok {g:Ghost} {y0:Option Addr} {u0:Nat} (xd:Dc) (xn:Int) {z0:Option Addr} {v0:Nat} {q0:Option Addr} {k0:Nat} (xp:PH) (j0:Rep g yNs [.slice y0 xd.1.length u0] xd.1) (x0:Rep g (.slice (.slice yS)) [.slice z0 xp.1.length v0] xp.1) (s0:Rep g (.slice yb) [.slice q0 xp.2.length k0] xp.2) (hG0:SomeInt g 0) (K:Bool→Prop)
  (hF:lmoF xd xn xp K):CallsH prog 3 #[.agg (aD xd y0 u0),iv xn,.agg #[.slice z0 xp.1.length v0,.slice q0 xp.2.length k0]] g [] (fun g' H' v=>∃ (r0:Bool),v=.bool r0∧H'=[]∧K r0):=by
 refine CallsH.en 51 func3 rfl fun w0=>?_
 refine Ok.sr (Ok.o (OpOk.bx (aD xd y0 u0) fun bs3=>?_))
 refine Ok.o (OpOk.bx #[.slice z0 xp.1.length v0,.slice q0 xp.2.length k0] fun bs5=>?_)
 refine Ok.B 1 [(1,iv xn),(3,pv bs3 0),(5,pv bs5 0)] kr (Ok.nt (Ok.sr (Ok.rn 2 [.k (lsd_c  hG0)] [1,3,5] [(7,.bool true)] ?_)))
 refine Ok.nt (Ok.cg g [(1,iv xn),(3,pv bs3 0),(5,pv bs5 0),(7,.bool true),(8,.bool (lmoV0 xd xn xp))] [.blk bs5 (.cells #[.slice z0 xp.1.length v0,.slice q0 xp.2.length k0] 28),.blk bs3 (.cells (aD xd y0 u0) 24)] (lmoj5 xd xn xp K) ?_ (fun gj5 c0 hF=>?_))
 ·
  refine Ok.r ?_
  obtain ⟨hp9,hF⟩:=hF
  refine Ok.rn 4 [.e 1,.k (dchk_c xd j0 hp9)] [1,3,5,7] [(14,.bool (dchkS xd==0))] ?_
  refine Ok.w 3 [(1,iv xn),(3,pv bs3 0),(5,pv bs5 0),(7,.bool true),(17,.bool ((dchkS xd==0)&&decide (xn≥0)))] (fun o0=>?_) ?_
  ·refine Ok.a 14 (dchkS xd==0) rfl (fun g0=>?_) (fun g0=>?_)
   ·skip
    refine Ok.b 3 [1,3,5,7] [(17,.bool (decide (xn≥0)))] ?_
    refine Ok.rb 17 ((dchkS xd==0)&&decide (xn≥0)) (mand_t g0) (Ok.b 0 [1,3,5,7] [(17,.bool ((dchkS xd==0)&&decide (xn≥0)))] ?_)
    exact o0
   skip
   refine Ok.b 3 [1,3,5,7] [(17,.bool false)] ?_
   refine Ok.rb 17 ((dchkS xd==0)&&decide (xn≥0)) (mand_f g0) (Ok.b 0 [1,3,5,7] [(17,.bool ((dchkS xd==0)&&decide (xn≥0)))] ?_)
   exact o0
  refine Ok.b 1 [1,3,5,7] [(18,.bool ((dchkS xd==0)&&decide (xn≥0)))] ?_
  refine Ok.bw 18 hF (fun d0 hF=>?_) (fun d0 hF=>?_)
  ·refine Ok.rn 7 [.e 1] [1,3,5,7] [(25,.bool (decide (xn<(xd.1.length:Int))))] ?_
   refine Ok.bw 25 hF (fun m0 hF=>?_) (fun m0 hF=>?_)
   ·refine Ok.oy (OpOk.s (v:=.agg #[.slice z0 xp.1.length v0,.slice q0 xp.2.length k0]) (Yields.loadAgg 0 2 #[.slice z0 xp.1.length v0,.slice q0 xp.2.length k0] rfl rfl underlying28 rfl kr kr kr) rfl rfl ?_)
    have t0:RepL g yP ([.slice z0 xp.1.length v0,.slice q0 xp.2.length k0]:List Value) ([xp]:List PH):=(RepL.consN (c:=[.slice z0 xp.1.length v0,.slice q0 xp.2.length k0]) ⟨[.slice z0 xp.1.length v0],[.slice q0 xp.2.length k0],rfl,x0,s0⟩ rfl)
    refine Ok.oy (OpOk.lit (E:=28) yP ([xp]:List PH) ([.slice z0 xp.1.length v0,.slice q0 xp.2.length k0]:List Value) kr kr rfl kr t0 rfl fun b14=>?_)
    obtain ⟨hp15,hF⟩:=hF
    refine Ok.rn 4 [.c (fun W hW=>pfl_c ([xp]:List PH) (hW.seeOwn 0 rfl t0) (hG0.mono hW.sees) hp15)] [1,3,5,7] [(8,.bool (chkS ([xp]:List PH)==0))] ?_
    refine Ok.nt (Ok.rb 8 (lmoV0 xd xn xp) (Eq.trans (mand_t m0) (mand_t d0)) ?_)
    exact fg hF
   refine Ok.b 6 [1,3,5,7] [(8,.bool false)] ?_
   refine Ok.nt (Ok.rb 8 (lmoV0 xd xn xp) (Eq.trans (mand_f m0) (mand_t d0)) ?_)
   exact fg hF
  refine Ok.b 13 [1,3,5,7] [(8,.bool false)] ?_
  refine Ok.nt (Ok.rb 8 (lmoV0 xd xn xp) (mand_f d0) ?_)
  exact fg hF
 replace x0:=x0.mono c0.1
 replace s0:=s0.mono c0.1
 replace j0:=j0.mono c0.1
 replace hG0:=hG0.mono c0.1
 refine Ok.q (Ok.r ?_)
 obtain ⟨hp3,hF⟩:=hF
 refine Ok.rn 5 [.e 1,.e 0,.k (mon_c xd xn xp j0 x0 s0 hG0 hp3)] [1,3,5,7,8] [(9,.bool (monS xd xn xp))] ?_
 refine Ok.nt (Ok.q (Ok.sr (Ok.b 2 [1,3,5,7,9] [(36,.bool (!(lmoV0 xd xn xp)))] ?_)))
 refine Ok.nt (Ok.cw hF (fun hc4 hF=>?_) (fun hc4 hF=>?_))
 ·refine Ok.sr (Ok.b 2 [9] [(38,.bool true)] ?_)
  refine Ok.w 3 [(41,.bool (true&&(!(monS xd xn xp))))] (fun hR5=>?_) ?_
  ·refine Ok.a 38 (true) rfl (fun hc6=>?_) (fun hc6=>?_)
   ·skip
    refine Ok.B 3 [(41,.bool (!(monS xd xn xp)))] kr (Ok.rb 41 (true&&(!(monS xd xn xp))) (mand_t hc6) (Ok.B 0 [(41,.bool (true&&(!(monS xd xn xp))))] kr ?_))
    exact hR5
   skip
   refine Ok.B 3 [(41,.bool false)] kr (Ok.rb 41 (true&&(!(monS xd xn xp))) (mand_f hc6) (Ok.B 0 [(41,.bool (true&&(!(monS xd xn xp))))] kr ?_))
   exact hR5
  refine Ok.B 1 [(6,.bool (true&&(!(monS xd xn xp))))] kr (Ok.nt (Ok.ret (Ok.tr ?_)))
  exact Ok.p1 (.bool (true&&(!(monS xd xn xp)))) c0 ⟨_,rfl,rfl,hF⟩
 refine Ok.k (Ok.t (Ok.cg gj5 [(6,.bool (true&&(monS xd xn xp==rpfS xd xn xp)))] [] (lmoj17 xd xn xp K) ?_ (fun gj17 e0 hF=>?_)))
 ·
  refine Ok.r (Ok.b 2 [1,3,5,9] [(43,.bool true)] ?_)
  refine Ok.bw 43 hF (fun hc7 hF=>?_) (fun hc7 hF=>?_)
  ·obtain ⟨hp8,hF⟩:=hF
   refine Ok.rn 8 [.e 1,.e 0,.k (rpf_c xd xn xp j0 x0 s0 hG0 hp8)] [] [(6,.bool (monS xd xn xp==rpfS xd xn xp))] ?_
   refine Ok.nt (Ok.rb 6 (true&&(monS xd xn xp==rpfS xd xn xp)) (mand_t hc7) ?_)
   exact fg hF
  refine Ok.B 8 [(6,.bool false)] kr (Ok.nt (Ok.rb 6 (true&&(monS xd xn xp==rpfS xd xn xp)) (mand_f hc7) ?_))
  exact fg hF
 refine Ok.ret ?_
 exact Ok.h1 (.bool (true&&(monS xd xn xp==rpfS xd xn xp))) (c0.trans e0) ⟨_,rfl,rfl,hF⟩
def lmoP (d:DC) (n:Int) (p:Ph):Prop:=DomU (.pair yNs (.bool)) d∧(Lit.int .i64 n).wf=true∧DomU yP p
theorem lmoB (p:Ph) (h:DomU yP p):chkP [p]:=by
 have h2:bulkT yP p≤1048576:=h.2
 have e:bulkT yP p=(p.1.map fun s=>(s.map bT).sum+1).sum+1+((p.2.map fun _=>1).sum+1):=rfl
 have e2:(p.2.map fun _=>1).sum=p.2.length:=by rw [List.map_const']; simp
 rw [e,w2_eq,e2] at h2
 refine ⟨?_,fun q hq=>?_⟩
 ·rw [b3_eq,w3,w3]
  omega
 obtain rfl:=List.mem_singleton.1 hq
 exact ⟨fun z hz=>bt_wf (h.1.1.2.2 z hz),fun s hs t ht=>okB_dom t ((h.1.1.1.2 s hs).2 t ht)⟩
theorem lmo_F (d:DC) (n:Int) (p:Ph) (h:lmoP d n p):lmoF d n p (fun r=>r=true):=by
 have hd:dchkP d:=fun x hx=>(h.1.1.1.1.2 x hx).2.2.2.2.2.1
 have hp:monP d n p:=⟨hd,lmoB p h.2.2⟩
 have hV:lmoV0 d n p = !(monV0 d n p):=by
  unfold lmoV0 monV0
  rw [Bool.eq_iff_iff]
  simp only [Bool.and_eq_true,Bool.not_eq_true',Bool.or_eq_false_iff,beq_iff_eq,bne_eq_false_iff_eq,decide_eq_true_eq,decide_eq_false_iff_not]
  omega
 have j5:lmoj5 d n p (fun r=>r=true):=by
  unfold lmoj5
  rw [hV,Bool.not_not]
  refine ⟨hp,fun hv=>?_,fun hv=>⟨fun _=>⟨(may_of hp hv).rpf,?_⟩,(fun h=>by cases h)⟩⟩
  ·unfold monS; rw [hv]; rfl
  show (true&&(monS d n p==rpfS d n p))=true
  unfold monS
  rw [hv,(may_of hp hv).same]
  simp
 exact ⟨hd,fun _=>⟨fun _=>⟨hp.2,j5⟩,fun _=>j5⟩,fun _=>j5⟩
theorem lmo_c {g:Ghost} {y0:Option Addr} {u0:Nat} (xd:Dc) (xn:Int) {z0:Option Addr} {v0:Nat} {q0:Option Addr} {k0:Nat} (xp:PH) (j0:Rep g yNs [.slice y0 xd.1.length u0] xd.1) (x0:Rep g (.slice (.slice yS)) [.slice z0 xp.1.length v0] xp.1) (s0:Rep g (.slice yb) [.slice q0 xp.2.length k0] xp.2) (hG0:SomeInt g 0)  (hp:lmoP xd xn xp):CallsG prog 3 #[.agg (aD xd y0 u0),iv xn,.agg #[.slice z0 xp.1.length v0,.slice q0 xp.2.length k0]] g (.bool true) :=
 (lmo_ok xd xn xp j0 x0 s0 hG0 _ (lmo_F xd xn xp hp)).gv
end
end Go.Proofs.YtdapgmigogpdcaaGreatDoor.Ma
