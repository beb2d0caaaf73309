/- selector: how many tests there are, by the program and by the document. -/
import Derived.Test.YtdapgmigogpdcaaGreatDoorSec
import Derived.Test.YtdapgmigogpdcaaGreatDoorSfa
namespace Go.Proofs.YtdapgmigogpdcaaGreatDoor.Se
open _root_.Go.Proofs.Tryz Go Go.Eng Go.RowKit Bld Trm Css Tk Ti
set_option linter.unusedVariables false
set_option linter.unusedSimpArgs false
set_option maxHeartbeats 4000000
set_option maxRecDepth 100000
def tssS (l:List Ph) (d:Int):Int×Bool:=ts3 l d 0
def tssP (N:Nat) (l:List Ph) (d:Int):Prop:=b3 l<N∧b3 l≤1048600∧0≤d∧d+b3 l≤1000000000
theorem tssP_in {N:Nat} {l:List Ph} {d:Int} (h:tssP (N+1) l d) {q:Ph} (hq:q ∈ l) {s:List Ts} (hs:s ∈ q.1) {t:Ts} (ht:t ∈ s):tssP N t.kids (d+1):=by
 have h1:=w3_in hq
 have h2:=w2_in hs
 have h3:=w1_in ht
 have h4:=bT_kids t
 have h5:=b3_eq l
 obtain ⟨a,b,c,e⟩:=h
 exact ⟨by omega,by omega,by omega,by omega⟩
def tss_C (N:Nat):Prop:=∀ (g:Ghost) {y0:Option Addr} {u0:Nat} (xl:List PH) (xdeep:Int) (c0:Rep g (.slice yP) [.slice y0 xl.length u0] xl)  (hp:tssP N xl xdeep),CallsG prog 38 #[.slice y0 xl.length u0,iv xdeep] g (.tuple #[iv (tssS xl xdeep).1,.bool (tssS xl xdeep).2])
def tssV4 (xdeep:Int) (e7:List TS) (x0:Int) (z0:Int):Int :=
 (if (((e7.getD z0.toNat default).kids.length:Int)==0)=true then x0 else w6 (x0+(tssS (e7.getD z0.toNat default).kids (w6 (xdeep+1))).1))
def tssj46 (xdeep:Int) (e7:List TS) (x0:Int) (z0:Int) (C39:Int→Int→Prop):Prop :=
 C39 (tssV4 xdeep e7 x0 z0) (w6 (z0+1))
def tssl39b (N:Nat) (xdeep:Int) (K:Int→Bool→Prop) (e7:List TS) (j0:Int) (C23:Int→Int→Prop) (x0:Int) (z0:Int) (C39:Int→Int→Prop):Prop :=
 ((decide (z0<(e7.length:Int)))=true→0≤z0∧z0.toNat<e7.length∧((((e7.getD z0.toNat default).kids.length:Int)==0)=true→tssj46 xdeep e7 x0 z0 C39)∧((((e7.getD z0.toNat default).kids.length:Int)==0)=false→tssP N (e7.getD z0.toNat default).kids (w6 (xdeep+1))∧((((!((tssS (e7.getD z0.toNat default).kids (w6 (xdeep+1))).2))||decide (xdeep≥3))||(decide ((w6 (x0+(tssS (e7.getD z0.toNat default).kids (w6 (xdeep+1))).1))>40)))=true→K (w6 (x0+(tssS (e7.getD z0.toNat default).kids (w6 (xdeep+1))).1)) false)∧((((!((tssS (e7.getD z0.toNat default).kids (w6 (xdeep+1))).2))||decide (xdeep≥3))||(decide ((w6 (x0+(tssS (e7.getD z0.toNat default).kids (w6 (xdeep+1))).1))>40)))=false→tssj46 xdeep e7 x0 z0 C39)))∧((decide (z0<(e7.length:Int)))=false→C23 x0 (w6 (j0+1)))
def tssl39 (N:Nat) (xdeep:Int) (K:Int→Bool→Prop) (e7:List TS) (j0:Int) (C23:Int→Int→Prop):Nat→Int→Int→Prop
 | 0,_,_=>False
 | k+1,x0,z0=>tssl39b N xdeep K e7 j0 C23 x0 z0 (tssl39 N xdeep K e7 j0 C23 k)
def tssl23b (N:Nat) (xdeep:Int) (K:Int→Bool→Prop) (e3:PH) (b0:Int) (C9:Int→Int→Prop) (d0:Int) (j0:Int) (C23:Int→Int→Prop):Prop :=
 ((decide (j0<(e3.1.length:Int)))=true→0≤j0∧j0.toNat<e3.1.length∧∃ k,tssl39 N xdeep K (e3.1.getD j0.toNat default) j0 C23 k (w6 (d0+((e3.1.getD j0.toNat default).length:Int))) 0)∧((decide (j0<(e3.1.length:Int)))=false→C9 d0 (w6 (b0+1)))
def tssl23 (N:Nat) (xdeep:Int) (K:Int→Bool→Prop) (e3:PH) (b0:Int) (C9:Int→Int→Prop):Nat→Int→Int→Prop
 | 0,_,_=>False
 | k+1,d0,j0=>tssl23b N xdeep K e3 b0 C9 d0 j0 (tssl23 N xdeep K e3 b0 C9 k)
def tssl9b (N:Nat) (xl:List PH) (xdeep:Int) (K:Int→Bool→Prop) (s0:Int) (b0:Int) (C9:Int→Int→Prop):Prop :=
 ((decide (b0<(xl.length:Int)))=true→0≤b0∧b0.toNat<xl.length∧∃ k,tssl23 N xdeep K (xl.getD b0.toNat default) b0 C9 k s0 0)∧((decide (b0<(xl.length:Int)))=false→K s0 (decide (s0≤40)))
def tssl9 (N:Nat) (xl:List PH) (xdeep:Int) (K:Int→Bool→Prop):Nat→Int→Int→Prop
 | 0,_,_=>False
 | k+1,s0,b0=>tssl9b N xl xdeep K s0 b0 (tssl9 N xl xdeep K k)
def tssF (N:Nat) (xl:List PH) (xdeep:Int) (K:Int→Bool→Prop):Prop :=
 ∃ k,tssl9 N xl xdeep K k 0 0
theorem tss_ok {g:Ghost} (N:Nat) (ih_tss:tss_C N) {y0:Option Addr} {u0:Nat} (xl:List PH) (xdeep:Int) (c0:Rep g (.slice yP) [.slice y0 xl.length u0] xl) (K:Int→Bool→Prop)
  (hF:tssF N xl xdeep K):CallsH prog 38 #[.slice y0 xl.length u0,iv xdeep] g [] (fun g' H' v=>∃ (r0:Int),∃ (r1:Bool),v=.tuple #[iv r0,.bool r1]∧H'=[]∧K r0 r1):=by
 refine CallsH.en 70 func38 rfl fun w0=>?_
 refine Ok.sr (Ok.B 2 [(0,.slice y0 xl.length u0),(1,iv xdeep)] kr (Ok.nt (Ok.sr (Ok.b 1 [0,1] [(6,iv 0)] ?_))))
 refine Ok.nt (Ok.q (Ok.sr (Ok.b 3 [1,6] [(15,.slice y0 xl.length u0),(16,iv (xl.length:Int)),(17,iv 0)] ?_)))
 refine Ok.nt (Ok.block ?_)
 obtain ⟨k,hF⟩:=hF
 refine Ok.L (fun k a W=>∃ (s0:Int) (b0:Int),StA 70 [(1,iv xdeep),(6,iv s0),(15,.slice y0 xl.length u0),(16,iv (xl.length:Int)),(17,iv b0)] a∧StW w0 [] g W∧tssl9 N xl xdeep K k s0 b0) k ?_ ?_
 ·
  exact fun _ _ u v=>⟨0,0,fA u v hF⟩
 clear hF
 rintro (_ | k9) _ _ ⟨s0,b0,q⟩
 exact (q.2.2:False).elim
 refine jn (fun hF=>?_) _ _ q
 refine Ok.sr (Ok.b 1 [1,6,15,16,17] [(18,.bool (decide (b0<(xl.length:Int))))] ?_)
 refine Ok.nt (Ok.q (Ok.cw hF (fun hc1 hF=>?_) (fun hc1 hF=>?_)))
 ·refine Ok.k (Ok.t (Ok.q (Ok.block (Ok.q (Ok.r ?_)))))
  obtain ⟨h03,h13,hF⟩:=hF
  have he3:=get_of (l:=xl) default h13
  generalize hg3:(xl.getD b0.toNat default)=e3 at he3 hF ⊢
  refine Ok.o (OpOk.indexRo (e:=yP) rfl rfl underlying33 kr c0 h03 he3 rfl fun q2 o2 cs2 _ i0 hr2=>?_)
  obtain ⟨_,_,rfl,⟨e0,f0,rfl,S0,B0⟩,⟨m0,n0,rfl,C0,D0⟩⟩:=hr2
  have L0:Rep g (.slice (.slice yS)) [.slice e0 e3.1.length f0] e3.1:=⟨e0,f0,rfl,S0,B0⟩
  have hR2_1:Rep g (.slice yb) [.slice m0 e3.2.length n0] e3.2:=⟨m0,n0,rfl,C0,D0⟩
  replace i0:At g q2 o2 [.slice e0 e3.1.length f0,.slice m0 e3.2.length n0]:=i0
  refine Ok.o (OpOk.s (v:=.agg #[.slice e0 e3.1.length f0,.slice m0 e3.2.length n0]) (Yields.loadAggRo 0 2 #[.slice e0 e3.1.length f0,.slice m0 e3.2.length n0] i0 kr underlying28 rfl kr kr kr) rfl rfl (Ok.o (OpOk.aw #[.slice none 0 0,.slice none 0 0] fun bs8=>?_)))
  refine Ok.o (OpOk.sw 0 #[.slice e0 e3.1.length f0,.slice m0 e3.2.length n0] rfl rfl rfl ?_)
  refine Ok.nt (Ok.sr (Ok.rn 4 [.e 0] [1,6,15,16,17] [(22,.slice e0 e3.1.length f0),(23,iv (e3.1.length:Int)),(24,iv 0)] ?_))
  refine Ok.nt (Ok.block ?_)
  obtain ⟨k,hF⟩:=hF
  refine Ok.L (fun k a W=>∃ (d0:Int) (j0:Int),StA 70 [(1,iv xdeep),(6,iv d0),(15,.slice y0 xl.length u0),(16,iv (xl.length:Int)),(17,iv b0),(22,.slice e0 e3.1.length f0),(23,iv (e3.1.length:Int)),(24,iv j0)] a∧StW w0 [] g W∧tssl23 N xdeep K e3 b0 (tssl9 N xl xdeep K k9) k d0 j0) k ?_ ?_
  ·
   exact fun _ _ u v=>⟨s0,0,fA u v hF⟩
  clear hF
  rintro (_ | k23) _ _ ⟨d0,j0,q⟩
  exact (q.2.2:False).elim
  refine jn (fun hF=>?_) _ _ q
  refine Ok.sr (Ok.b 1 [1,6,15,16,17,22,23,24] [(25,.bool (decide (j0<(e3.1.length:Int))))] ?_)
  refine Ok.nt (Ok.q (Ok.cn hF rfl (fun hc5=>?_) (fun hc5=>?_)))
  ·replace hF:=hF.1 hc5
   refine Ok.k (Ok.t (Ok.q (Ok.block (Ok.q (Ok.r ?_)))))
   obtain ⟨h07,h17,hF⟩:=hF
   have he7:=get_of (l:=e3.1) default h17
   generalize hg7:(e3.1.getD j0.toNat default)=e7 at he7 hF ⊢
   refine Ok.o (OpOk.indexRo (e:=.slice yS) rfl rfl underlying25 kr L0 h07 he7 rfl fun q6 o6 cs6 _ I0 hr6=>?_)
   obtain ⟨Z0,V0,rfl,A0⟩:=oS hr6
   refine Ok.rn 2 [.a 0 I0] [1,6,15,16,17,22,23,24] [(10,.slice Z0 e7.length V0)] ?_
   refine Ok.nt (Ok.sr (Ok.b 5 [1,10,15,16,17,22,23,24] [(6,iv (w6 (d0+(e7.length:Int))))] ?_))
   refine Ok.nt (Ok.sr (Ok.b 3 [1,6,15,16,17,22,23,24] [(32,.slice Z0 e7.length V0),(33,iv (e7.length:Int)),(34,iv 0)] ?_))
   refine Ok.nt (Ok.block ?_)
   obtain ⟨k,hF⟩:=hF
   refine Ok.L (fun k a W=>∃ (x0:Int) (z0:Int),StA 70 [(1,iv xdeep),(6,iv x0),(15,.slice y0 xl.length u0),(16,iv (xl.length:Int)),(17,iv b0),(22,.slice e0 e3.1.length f0),(23,iv (e3.1.length:Int)),(24,iv j0),(32,.slice Z0 e7.length V0),(33,iv (e7.length:Int)),(34,iv z0)] a∧StW w0 [] g W∧tssl39 N xdeep K e7 j0 (tssl23 N xdeep K e3 b0 (tssl9 N xl xdeep K k9) k23) k x0 z0) k ?_ ?_
   ·
    exact fun _ _ u v=>⟨w6 (d0+(e7.length:Int)),0,fA u v hF⟩
   clear hF
   rintro (_ | k39) _ _ ⟨x0,z0,q⟩
   exact (q.2.2:False).elim
   refine jn (fun hF=>?_) _ _ q
   refine Ok.sr (Ok.b 1 [1,6,15,16,17,22,23,24,32,33,34] [(35,.bool (decide (z0<(e7.length:Int))))] ?_)
   refine Ok.nt (Ok.q (Ok.cn hF rfl (fun hc8=>?_) (fun hc8=>?_)))
   ·replace hF:=hF.1 hc8
    refine Ok.k (Ok.t (Ok.ct [(1,iv xdeep),(6,iv (tssV4 xdeep e7 x0 z0)),(15,.slice y0 xl.length u0),(16,iv (xl.length:Int)),(17,iv b0),(22,.slice e0 e3.1.length f0),(23,iv (e3.1.length:Int)),(24,iv j0),(32,.slice Z0 e7.length V0),(33,iv (e7.length:Int)),(34,iv z0)] [] (tssj46 xdeep e7 x0 z0 (tssl39 N xdeep K e7 j0 (tssl23 N xdeep K e3 b0 (tssl9 N xl xdeep K k9) k23) k39)) ?_ (fun hF=>?_)))
    ·
     refine Ok.block (Ok.q (Ok.r ?_))
     obtain ⟨h010,h110,hF⟩:=hF
     have j1:=get_of (l:=e7) default h110
     generalize x1:(e7.getD z0.toNat default)=e10 at j1 hF ⊢
     refine Ok.o (OpOk.indexRo (e:=yS) rfl rfl underlying54 kr A0 h010 j1 rfl fun q9 o9 cs9 _ Q0 hr9=>?_)
     have E0:=hr9
     replace E0:=Rep.tst.1 E0
     obtain ⟨_,_,rfl,⟨_,_,rfl,rfl,⟨_,_,rfl,rfl,⟨_,_,rfl,rfl,⟨_,_,rfl,rfl,⟨_,_,rfl,rfl,rfl⟩⟩⟩⟩⟩,⟨K0,Y0,rfl,hm9_6,hr9_6⟩⟩:=E0
     have hR9_6:Rep g (.slice yP) [.slice K0 e10.kids.length Y0] e10.kids:=⟨K0,Y0,rfl,hm9_6,hr9_6⟩
     replace Q0:At g q9 o9 (vL e10.lab K0 e10.kids.length Y0):=Q0
     refine Ok.o (OpOk.s (v:=.agg (aL e10.lab K0 e10.kids.length Y0)) (Yields.loadAggRo 0 7 (aL e10.lab K0 e10.kids.length Y0) Q0 kr underlying60 rfl kr kr kr) rfl rfl (Ok.o (OpOk.aw #[iv 0,sv ([]:Bs),.int .u8 0,sv ([]:Bs),iv 0,iv 0,.slice none 0 0] fun bs12=>?_)))
     refine Ok.o (OpOk.sw 0 (aL e10.lab K0 e10.kids.length Y0) rfl rfl rfl ?_)
     refine Ok.nt (Ok.q (Ok.sr (Ok.rn 4 [.e 0] [1,6,15,16,17,22,23,24,32,33,34] [(12,pv bs12 0),(41,.bool ((e10.kids.length:Int)==0))] ?_)))
     refine Ok.nt (Ok.cn hF rfl (fun F0=>?_) (fun F0=>?_))
     ·replace hF:=hF.1 F0
      refine Ok.x (Ok.thenE (Ok.blockHit (Ok.t ?_)))
      subst x1
      refine Ok.v 6 rfl (show (iv x0:Value)=iv (tssV4 xdeep e7 x0 z0) from congrArg (Value.int .i64) ((if_t F0).symm)) ?_
      exact fz hF
     replace hF:=hF.2 F0
     refine Ok.k (Ok.t (Ok.q (Ok.r ?_)))
     obtain ⟨hp13,hF⟩:=hF
     refine Ok.rn 10 [.e 0,.k (ih_tss _ e10.kids (w6 (xdeep+1)) hR9_6 hp13)] [1,6,15,16,17,22,23,24,32,33,34] [(13,iv (tssS e10.kids (w6 (xdeep+1))).1),(14,.bool (tssS e10.kids (w6 (xdeep+1))).2)] ?_
     refine Ok.nt (Ok.sr (Ok.b 4 [1,14,15,16,17,22,23,24,32,33,34] [(6,iv (w6 (x0+(tssS e10.kids (w6 (xdeep+1))).1)))] ?_))
     refine Ok.nt (Ok.sr (Ok.b 3 [1,6,15,16,17,22,23,24,32,33,34] [(55,.bool (!((tssS e10.kids (w6 (xdeep+1))).2)))] ?_))
     refine Ok.w 3 [(1,iv xdeep),(6,iv (w6 (x0+(tssS e10.kids (w6 (xdeep+1))).1))),(15,.slice y0 xl.length u0),(16,iv (xl.length:Int)),(17,iv b0),(22,.slice e0 e3.1.length f0),(23,iv (e3.1.length:Int)),(24,iv j0),(32,.slice Z0 e7.length V0),(33,iv (e7.length:Int)),(34,iv z0),(58,.bool ((!((tssS e10.kids (w6 (xdeep+1))).2))||decide (xdeep≥3)))] (fun b1=>?_) ?_
     ·refine Ok.a 55 (!((tssS e10.kids (w6 (xdeep+1))).2)) rfl (fun U0=>?_) (fun U0=>?_)
      ·skip
       refine Ok.b 3 [1,6,15,16,17,22,23,24,32,33,34] [(58,.bool true)] ?_
       refine Ok.rb 58 ((!((tssS e10.kids (w6 (xdeep+1))).2))||decide (xdeep≥3)) (mor_t U0) (Ok.b 0 [1,6,15,16,17,22,23,24,32,33,34] [(58,.bool ((!((tssS e10.kids (w6 (xdeep+1))).2))||decide (xdeep≥3)))] ?_)
       exact b1
      skip
      refine Ok.b 3 [1,6,15,16,17,22,23,24,32,33,34] [(58,.bool (decide (xdeep≥3)))] ?_
      refine Ok.rb 58 ((!((tssS e10.kids (w6 (xdeep+1))).2))||decide (xdeep≥3)) (mor_f U0) (Ok.b 0 [1,6,15,16,17,22,23,24,32,33,34] [(58,.bool ((!((tssS e10.kids (w6 (xdeep+1))).2))||decide (xdeep≥3)))] ?_)
      exact b1
     refine Ok.b 1 [1,6,15,16,17,22,23,24,32,33,34] [(59,.bool ((!((tssS e10.kids (w6 (xdeep+1))).2))||decide (xdeep≥3)))] ?_
     refine Ok.w 3 [(1,iv xdeep),(6,iv (w6 (x0+(tssS e10.kids (w6 (xdeep+1))).1))),(15,.slice y0 xl.length u0),(16,iv (xl.length:Int)),(17,iv b0),(22,.slice e0 e3.1.length f0),(23,iv (e3.1.length:Int)),(24,iv j0),(32,.slice Z0 e7.length V0),(33,iv (e7.length:Int)),(34,iv z0),(62,.bool (((!((tssS e10.kids (w6 (xdeep+1))).2))||decide (xdeep≥3))||(decide ((w6 (x0+(tssS e10.kids (w6 (xdeep+1))).1))>40))))] (fun G0=>?_) ?_
     ·refine Ok.a 59 ((!((tssS e10.kids (w6 (xdeep+1))).2))||decide (xdeep≥3)) rfl (fun J0=>?_) (fun J0=>?_)
      ·skip
       refine Ok.b 3 [1,6,15,16,17,22,23,24,32,33,34] [(62,.bool true)] ?_
       refine Ok.rb 62 (((!((tssS e10.kids (w6 (xdeep+1))).2))||decide (xdeep≥3))||(decide ((w6 (x0+(tssS e10.kids (w6 (xdeep+1))).1))>40))) (mor_t J0) (Ok.b 0 [1,6,15,16,17,22,23,24,32,33,34] [(62,.bool (((!((tssS e10.kids (w6 (xdeep+1))).2))||decide (xdeep≥3))||(decide ((w6 (x0+(tssS e10.kids (w6 (xdeep+1))).1))>40))))] ?_)
       exact G0
      skip
      refine Ok.b 3 [1,6,15,16,17,22,23,24,32,33,34] [(62,.bool (decide ((w6 (x0+(tssS e10.kids (w6 (xdeep+1))).1))>40)))] ?_
      refine Ok.rb 62 (((!((tssS e10.kids (w6 (xdeep+1))).2))||decide (xdeep≥3))||(decide ((w6 (x0+(tssS e10.kids (w6 (xdeep+1))).1))>40))) (mor_f J0) (Ok.b 0 [1,6,15,16,17,22,23,24,32,33,34] [(62,.bool (((!((tssS e10.kids (w6 (xdeep+1))).2))||decide (xdeep≥3))||(decide ((w6 (x0+(tssS e10.kids (w6 (xdeep+1))).1))>40))))] ?_)
      exact G0
     refine Ok.nt (Ok.cn hF rfl (fun W0=>?_) (fun W0=>?_))
     ·replace hF:=hF.1 W0
      refine Ok.sr (Ok.B 3 [(4,iv (w6 (x0+(tssS e10.kids (w6 (xdeep+1))).1))),(5,.bool false)] kr (Ok.nt (Ok.ret (Ok.kr (Ok.tr (Ok.tr (Ok.kr (Ok.kr (Ok.tr (Ok.tr (Ok.kr (Ok.kr (Ok.tr (Ok.tr (Ok.kr (Ok.tr ?_))))))))))))))))
      exact Ok.p (vs:=[iv (w6 (x0+(tssS e10.kids (w6 (xdeep+1))).1)),.bool false]) [] [] dc rfl (.inl rfl) rfl (.cons (.tmp rfl) (.cons (.tmp rfl) .nil)) (Gext.r w0 g) ⟨(w6 (x0+(tssS e10.kids (w6 (xdeep+1))).1)),false,rfl,rfl,hF⟩
     replace hF:=hF.2 W0
     refine Ok.k (Ok.kn (Ok.t ?_))
     subst x1
     refine Ok.v 6 rfl (show (iv (w6 (x0+(tssS (e7.getD z0.toNat default).kids (w6 (xdeep+1))).1)):Value)=iv (tssV4 xdeep e7 x0 z0) from congrArg (Value.int .i64) ((if_f F0).symm)) ?_
     exact fz hF
    refine Ok.r (Ok.b 2 [1,6,15,16,17,22,23,24,32,33] [(34,iv (w6 (z0+1)))] ?_)
    refine Ok.j (Ok.t ?_)
    exact fun _ _ u v=>⟨k39,nl,tssV4 xdeep e7 x0 z0,w6 (z0+1),fA u v hF⟩
   replace hF:=hF.2 hc8
   refine Ok.x (Ok.thenE (Ok.thenE (Ok.blockHit (Ok.kn (Ok.t (Ok.r (Ok.b 2 [1,6,15,16,17,22,23] [(24,iv (w6 (j0+1)))] ?_)))))))
   refine Ok.j (Ok.t ?_)
   subst hg7
   exact fun _ _ u v=>⟨k23,nl,x0,w6 (j0+1),fA u v hF⟩
  replace hF:=hF.2 hc5
  refine Ok.x (Ok.thenE (Ok.thenE (Ok.blockHit (Ok.kn (Ok.t (Ok.r (Ok.b 2 [1,6,15,16] [(17,iv (w6 (b0+1)))] ?_)))))))
  refine Ok.j (Ok.t ?_)
  subst hg3
  exact fun _ _ u v=>⟨k9,nl,d0,w6 (b0+1),fA u v hF⟩
 refine Ok.x (Ok.thenE (Ok.thenE (Ok.blockHit (Ok.t (Ok.sr (Ok.B 5 [(4,iv s0),(5,.bool (decide (s0≤40)))] kr (Ok.nt (Ok.ret ?_))))))))
 exact Ok.resH (vs:=[iv s0,.bool (decide (s0≤40))]) (.inl rfl) rfl (.cons (.tmp rfl) (.cons (.tmp rfl) .nil)) (Gext.r w0 g) ⟨s0,decide (s0≤40),rfl,rfl,hF⟩
theorem tss_0 (l:List Ph) (d:Int):¬ tssP 0 l d:=fun h=>absurd h.1 (Nat.not_lt_zero _)
theorem tss39 {N:Nat} {d:Int} {r:Int×Bool} (hd:0≤d∧d≤1000000000) (s:List Ts) (hs:∀ t ∈ s,tssP N t.kids (d+1)) (hl:s.length≤1048600) (k:Int) (C:Int→Int→Prop) (F:Int→Int×Bool) (U:Int) (hU:U≤4000000)
  (hC:∀ n,0≤n→n≤U→r=F n→C n (w6 (k+1))):∀ (m i:Nat) (n:Int),i+m=s.length→0≤n→n+w1 (s.drop i)≤U+m →
  r=(if (ts1 (s.drop i) d n).2=true then F (ts1 (s.drop i) d n).1 else ((ts1 (s.drop i) d n).1,false))→tssl39 N d (fun a b=>(a,b)=r) s k C (m+1) n (i:Int):=by
 intro m
 induction m with
 | zero =>
  intro i n hi hn hu he
  rw [List.drop_of_length_le om] at he
  exact ⟨fun hc=>absurd (of_decide_eq_true hc) om,fun _=>hC n hn om (by rw [he,ts1,if_pos rfl])⟩
 | succ m ih =>
  intro i n hi hn hu he
  have hi':i<s.length:=by omega
  have ht:=hs _ (get_in default hi')
  have hb:=bT_kids (s.getD i default)
  have hbd:=(bdT (s.getD i default) (d+1)).1
  rw [drop_get (l:=s) default hi',ts1,tsT_eq] at he
  rw [drop_get (l:=s) default hi',w1] at hu
  rw [tsT_eq] at hbd
  refine ⟨fun _=>⟨by omega,by rw [tnc]; omega,?_⟩,fun hc=>absurd (of_decide_eq_false hc) om⟩
  have key:∀ n',tssV4 d s n (i:Int)=n'→0≤n'→n'+w1 (s.drop (i+1))≤U+m→r=(if (ts1 (s.drop (i+1)) d n').2=true then F (ts1 (s.drop (i+1)) d n').1 else ((ts1 (s.drop (i+1)) d n').1,false))→tssj46 d s n (i:Int) (tssl39 N d (fun a b=>(a,b)=r) s k C (m+1)):=by
   intro n' hn' h0 h1 h2
   unfold tssj46
   rw [hn',w64 om,show (i:Int)+1=((i+1:Nat):Int) by omega]
   exact ih (i+1) n' om h0 h1 h2
  unfold tssV4 at key
  rw [tnc] at key ⊢
  generalize s.getD i default=t at *
  rw [w64 (x:=d+1) om] at key ⊢
  have hcn:(((t.kids.length:Int)==0)=true)=(t.kids.length=0):=by simp
  refine ⟨fun hc=>?_,fun hc=>⟨ht,fun hb2=>?_,fun hb2=>?_⟩⟩
  ·rw [if_t hc] at key
   rw [hcn] at hc
   rw [if_pos hc] at he
   exact key n rfl hn om he
  ·have hc2:¬ t.kids.length=0:=by rw [← hcn,hc]; simp
   rw [if_neg hc2] at he
   unfold tssS at hb2 ⊢
   rw [w64 (x:=n+_) om] at hb2 ⊢
   rw [Bool.or_assoc] at hb2
   rw [hb2] at he
   simp only [Bool.false_eq_true,↓reduceIte] at he
   exact he.symm
  have hc2:¬ t.kids.length=0:=by rw [← hcn,hc]; simp
  rw [if_neg hc2] at he
  rw [if_f hc] at key
  unfold tssS at hb2 key
  rw [w64 (x:=n+_) om] at hb2 key
  rw [Bool.or_assoc] at hb2
  rw [hb2] at he
  simp only [Bool.false_eq_true,↓reduceIte] at he
  exact key _ rfl om om he
theorem tss23 {N:Nat} {d:Int} {r:Int×Bool} (hd:0≤d∧d≤1000000000) (q:Ph) (hs:∀ s ∈ q.1,∀ t ∈ s,tssP N t.kids (d+1)) (hw:w2 q.1≤1048600) (k:Int) (C:Int→Int→Prop) (F:Int→Int×Bool) (U:Int) (hU:U≤2000000)
  (hC:∀ n,0≤n→n≤U→r=F n→C n (w6 (k+1))):∀ (m i:Nat) (n:Int),i+m=q.1.length→0≤n→n+w2 (q.1.drop i)≤U →
  r=(if (ts2 (q.1.drop i) d n).2=true then F (ts2 (q.1.drop i) d n).1 else ((ts2 (q.1.drop i) d n).1,false))→tssl23 N d (fun a b=>(a,b)=r) q k C (m+1) n (i:Int):=by
 intro m
 induction m with
 | zero =>
  intro i n hi hn hu he
  rw [List.drop_of_length_le om] at he
  exact ⟨fun hc=>absurd (of_decide_eq_true hc) om,fun _=>hC n hn om (by rw [he,ts2,if_pos rfl])⟩
 | succ m ih =>
  intro i n hi hn hu he
  have hi':i<q.1.length:=by omega
  have ht:=hs _ (get_in default hi')
  have hl:=w1_len (q.1.getD i default)
  have hw2:=w2_in (get_in default hi')
  have hql:=w2_len q.1
  rw [drop_get (l:=q.1) default hi',ts2] at he
  rw [drop_get (l:=q.1) default hi',w2] at hu
  refine ⟨fun _=>⟨by omega,by rw [tnc]; omega,?_⟩,fun hc=>absurd (of_decide_eq_false hc) om⟩
  rw [tnc]
  generalize q.1.getD i default=s at *
  rw [w64 om]
  refine ⟨_,tss39 hd s ht om (i:Int) _ (fun n=>if (ts2 (q.1.drop (i+1)) d n).2=true then F (ts2 (q.1.drop (i+1)) d n).1 else ((ts2 (q.1.drop (i+1)) d n).1,false)) (n+w1 s) om (fun n' h0 h1 h2=>?_) s.length 0 (n+s.length) om om (by rw [List.drop_zero]; omega) ?_⟩
  ·rw [w64 om,show (i:Int)+1=((i+1:Nat):Int) by omega]
   exact ih (i+1) n' om h0 om h2
  rw [List.drop_zero,he]
  cases hb:(ts1 s d (n+s.length)).2
  ·rw [if_neg (by simp),if_neg (by simp),if_neg (by simp)]
  rw [if_pos rfl,if_pos rfl]
theorem tss_F (N:Nat) (l:List Ph) (d:Int) (h:tssP (N+1) l d):tssF N l d (fun a b=>(a,b)=tssS l d):=by
 have h5:=b3_eq l
 have hlen:=w3_len l
 have hin:=fun q hq s hs t ht=>tssP_in h (q:=q) hq (s:=s) hs (t:=t) ht
 obtain ⟨_,hb,hd0,hd1⟩:=h
 have loop:∀ (m i:Nat) (n:Int),i+m=l.length→0≤n→n+w3 (l.drop i)≤1048600→tssS l d=ts3 (l.drop i) d n→tssl9 N l d (fun a b=>(a,b)=tssS l d) (m+1) n (i:Int):=by
  intro m
  induction m with
  | zero =>
   intro i n hi hn hu he
   rw [List.drop_of_length_le om,ts3] at he
   exact ⟨fun hc=>absurd (of_decide_eq_true hc) om,fun _=>he.symm⟩
  | succ m ih =>
   intro i n hi hn hu he
   have hi':i<l.length:=by omega
   have hq:=get_in default hi'
   have hwq:=w3_in hq
   rw [drop_get (l:=l) default hi'] at he hu
   rw [w3] at hu
   refine ⟨fun _=>⟨by omega,by rw [tnc]; omega,?_⟩,fun hc=>absurd (of_decide_eq_false hc) om⟩
   rw [tnc]
   have z1:=hin _ hq
   generalize l.getD i default=q at *
   obtain ⟨p,js⟩:=q
   rw [ts3] at he
   have hu:n+((w2 p+js.length+2+w3 (l.drop (i+1)):Nat):Int)≤1048600:=hu
   have hwq:w2 p+js.length+2≤w3 l:=hwq
   refine ⟨_,tss23 ⟨hd0,by omega⟩ (p,js) z1 (by show w2 p≤_; omega) (i:Int) _ (fun n=>ts3 (l.drop (i+1)) d n) (n+w2 p) om (fun n' h0 h1 h2=>?_) p.length 0 n (by show 0+p.length=p.length; omega) hn (by show n+w2 (p.drop 0)≤_; rw [List.drop_zero]; omega) ?_⟩
   ·rw [w64 om,show (i:Int)+1=((i+1:Nat):Int) by omega]
    exact ih (i+1) n' om h0 om h2
   show tssS l d=(if (ts2 (p.drop 0) d n).2=true then _ else _)
   rw [List.drop_zero]
   exact he
 exact ⟨_,loop l.length 0 0 om om (by rw [List.drop_zero]; omega) (by rw [List.drop_zero]; rfl)⟩
theorem tss_rec:∀ N,tss_C N
 | 0=>(by intro g y0 u0 xl xdeep c0 hp; exact (tss_0 xl xdeep hp).elim)
 | N+1 =>
  have ih:=tss_rec N
  (by intro g y0 u0 xl xdeep c0 hp; exact (tss_ok N ih xl xdeep c0 _ (tss_F N xl xdeep hp)).gives (by rintro g' H' v _ ⟨r0,r1,rfl,rfl,hK⟩; obtain ⟨rfl,rfl⟩:r0=(tssS xl xdeep).1∧r1=(tssS xl xdeep).2:=⟨congrArg (fun z=>z.1) hK,congrArg (fun z=>z.2) hK⟩; rfl))
def tssPE (xl:List PH) (xdeep:Int):Prop:=∃ N,tssP N xl xdeep
theorem tss_c {g:Ghost} {y0:Option Addr} {u0:Nat} (xl:List PH) (xdeep:Int) (c0:Rep g (.slice yP) [.slice y0 xl.length u0] xl)  (hp:tssPE xl xdeep):CallsG prog 38 #[.slice y0 xl.length u0,iv xdeep] g (.tuple #[iv (tssS xl xdeep).1,.bool (tssS xl xdeep).2]):=by
 obtain ⟨N,hp⟩:=hp
 exact (tss_rec N) _ xl xdeep c0 hp
def tinS (l:List Ph) (d:Int):Int:=ri3 l d 0
def tinP (N:Nat) (l:List Ph) (d:Int):Prop:=tssP N l d
def tin_C (N:Nat):Prop:=∀ (g:Ghost) {y0:Option Addr} {u0:Nat} (xl:List PH) (xdeep:Int) (c0:Rep g (.slice yP) [.slice y0 xl.length u0] xl)  (hp:tinP N xl xdeep),CallsG prog 20 #[.slice y0 xl.length u0,iv xdeep] g (iv (tinS xl xdeep))
def tinV2 (xdeep:Int) (e12:TS) (v0:Int):Int :=
 (if (decide (xdeep<3)&&(decide (w6 (v0+1)≤40)))=true then (tinS e12.kids (w6 (xdeep+1))) else -1)
def tinV8 (xdeep:Int) (e7:List TS) (v0:Int) (k0:Int):Int :=
 (if (((e7.getD k0.toNat default).kids.length:Int)==0)=true then w6 (v0+1) else w6 ((w6 (v0+1))+(tinV2 xdeep (e7.getD k0.toNat default) v0)))
def tinj40 (xdeep:Int) (e3:PH) (v0:Int) (k0:Int) (q0:Int) (C33:Int→Int→Prop):Prop :=
 C33 (tinV8 xdeep (e3.1.getD q0.toNat default) v0 k0) (w6 (k0+1))
def tinj54 (xdeep:Int) (K:Int→Prop) (e3:PH) (e12:TS) (v0:Int) (k0:Int) (q0:Int) (C33:Int→Int→Prop):Prop :=
 ((decide (tinV2 xdeep e12 v0<0))=true→K (-1))∧((decide (tinV2 xdeep e12 v0<0))=false→tinj40 xdeep e3 v0 k0 q0 C33)
def tinl33b (N:Nat) (xdeep:Int) (K:Int→Prop) (e3:PH) (q0:Int) (C21:Int→Int→Prop) (v0:Int) (k0:Int) (C33:Int→Int→Prop):Prop :=
 0≤q0∧q0.toNat<e3.1.length∧((decide (k0<((e3.1.getD q0.toNat default).length:Int)))=true→0≤k0∧k0.toNat<(e3.1.getD q0.toNat default).length∧(((((e3.1.getD q0.toNat default).getD k0.toNat default).kids.length:Int)==0)=true→tinj40 xdeep e3 v0 k0 q0 C33)∧(((((e3.1.getD q0.toNat default).getD k0.toNat default).kids.length:Int)==0)=false→((decide (xdeep<3)&&(decide (w6 (v0+1)≤40)))=true→tinP N ((e3.1.getD q0.toNat default).getD k0.toNat default).kids (w6 (xdeep+1))∧tinj54 xdeep K e3 ((e3.1.getD q0.toNat default).getD k0.toNat default) v0 k0 q0 C33)∧((decide (xdeep<3)&&(decide (w6 (v0+1)≤40)))=false→tinj54 xdeep K e3 ((e3.1.getD q0.toNat default).getD k0.toNat default) v0 k0 q0 C33)))∧((decide (k0<((e3.1.getD q0.toNat default).length:Int)))=false→C21 v0 (w6 (q0+1)))
def tinl33 (N:Nat) (xdeep:Int) (K:Int→Prop) (e3:PH) (q0:Int) (C21:Int→Int→Prop):Nat→Int→Int→Prop
 | 0,_,_=>False
 | k+1,v0,k0=>tinl33b N xdeep K e3 q0 C21 v0 k0 (tinl33 N xdeep K e3 q0 C21 k)
def tinl21b (N:Nat) (xl:List PH) (xdeep:Int) (K:Int→Prop) (s0:Int) (C9:Int→Int→Prop) (g0:Int) (q0:Int) (C21:Int→Int→Prop):Prop :=
 0≤s0∧s0.toNat<xl.length∧((decide (q0<((xl.getD s0.toNat default).1.length:Int)))=true→∃ k,tinl33 N xdeep K (xl.getD s0.toNat default) q0 C21 k g0 0)∧((decide (q0<((xl.getD s0.toNat default).1.length:Int)))=false→C9 g0 (w6 (s0+1)))
def tinl21 (N:Nat) (xl:List PH) (xdeep:Int) (K:Int→Prop) (s0:Int) (C9:Int→Int→Prop):Nat→Int→Int→Prop
 | 0,_,_=>False
 | k+1,g0,q0=>tinl21b N xl xdeep K s0 C9 g0 q0 (tinl21 N xl xdeep K s0 C9 k)
def tinl9b (N:Nat) (xl:List PH) (xdeep:Int) (K:Int→Prop) (o0:Int) (s0:Int) (C9:Int→Int→Prop):Prop :=
 ((decide (s0<(xl.length:Int)))=true→∃ k,tinl21 N xl xdeep K s0 C9 k o0 0)∧((decide (s0<(xl.length:Int)))=false→K o0)
def tinl9 (N:Nat) (xl:List PH) (xdeep:Int) (K:Int→Prop):Nat→Int→Int→Prop
 | 0,_,_=>False
 | k+1,o0,s0=>tinl9b N xl xdeep K o0 s0 (tinl9 N xl xdeep K k)
def tinF (N:Nat) (xl:List PH) (xdeep:Int) (K:Int→Prop):Prop :=
 ∃ k,tinl9 N xl xdeep K k 0 0
theorem tin_ok {g:Ghost} (N:Nat) (ih_tin:tin_C N) {y0:Option Addr} {u0:Nat} (xl:List PH) (xdeep:Int) (c0:Rep g (.slice yP) [.slice y0 xl.length u0] xl) (K:Int→Prop)
  (hF:tinF N xl xdeep K):CallsH prog 20 #[.slice y0 xl.length u0,iv xdeep] g [] (fun g' H' v=>∃ (r0:Int),v=iv r0∧H'=[]∧K r0):=by
 refine CallsH.en 74 func20 rfl fun w0=>?_
 refine Ok.sr (Ok.B 1 [(0,.slice y0 xl.length u0),(1,iv xdeep)] kr (Ok.nt (Ok.sr (Ok.b 1 [0,1] [(5,iv 0)] ?_))))
 refine Ok.nt (Ok.q (Ok.sr (Ok.b 1 [0,1,5] [(6,iv 0)] ?_)))
 refine Ok.nt (Ok.block ?_)
 obtain ⟨k,hF⟩:=hF
 refine Ok.L (fun k a W=>∃ (o0:Int) (s0:Int),StA 74 [(0,.slice y0 xl.length u0),(1,iv xdeep),(5,iv o0),(6,iv s0)] a∧StW w0 [] g W∧tinl9 N xl xdeep K k o0 s0) k ?_ ?_
 ·
  exact fun _ _ u v=>⟨0,0,fA u v hF⟩
 clear hF
 rintro (_ | k9) _ _ ⟨o0,s0,q⟩
 exact (q.2.2:False).elim
 refine jn (fun hF=>?_) _ _ q
 refine Ok.q (Ok.sr (Ok.b 4 [0,1,5,6] [(14,.bool (decide (s0<(xl.length:Int))))] ?_))
 refine Ok.nt (Ok.cw hF (fun hc1 hF=>?_) (fun hc1 hF=>?_))
 ·refine Ok.k (Ok.t (Ok.q (Ok.block (Ok.sr (Ok.b 1 [0,1,5,6] [(7,iv 0)] ?_)))))
  refine Ok.nt (Ok.block ?_)
  obtain ⟨k,hF⟩:=hF
  refine Ok.L (fun k a W=>∃ (g0:Int) (q0:Int),StA 74 [(0,.slice y0 xl.length u0),(1,iv xdeep),(5,iv g0),(6,iv s0),(7,iv q0)] a∧StW w0 [] g W∧tinl21 N xl xdeep K s0 (tinl9 N xl xdeep K k9) k g0 q0) k ?_ ?_
  ·
   exact fun _ _ u v=>⟨o0,0,fA u v hF⟩
  clear hF
  rintro (_ | k21) _ _ ⟨g0,q0,q⟩
  exact (q.2.2:False).elim
  refine jn (fun hF=>?_) _ _ q
  refine Ok.q (Ok.sr (Ok.b 3 [0,1,5,6,7] [(17,iv q0),(18,.slice y0 xl.length u0),(19,iv s0)] ?_))
  obtain ⟨h03,h13,hF⟩:=hF
  have he3:=get_of (l:=xl) default h13
  generalize hg3:(xl.getD s0.toNat default)=e3 at he3 hF ⊢
  refine Ok.o (OpOk.indexRo (e:=yP) rfl rfl underlying33 kr c0 h03 he3 rfl fun q2 o2 cs2 _ i0 hr2=>?_)
  obtain ⟨_,_,rfl,⟨e0,f0,rfl,S0,B0⟩,⟨m0,n0,rfl,C0,D0⟩⟩:=hr2
  have L0:Rep g (.slice (.slice yS)) [.slice e0 e3.1.length f0] e3.1:=⟨e0,f0,rfl,S0,B0⟩
  have hR2_1:Rep g (.slice yb) [.slice m0 e3.2.length n0] e3.2:=⟨m0,n0,rfl,C0,D0⟩
  replace i0:At g q2 o2 [.slice e0 e3.1.length f0,.slice m0 e3.2.length n0]:=i0
  refine Ok.rn 4 [.a 0 i0] [0,1,5,6,7] [(24,.bool (decide (q0<(e3.1.length:Int))))] ?_
  refine Ok.nt (Ok.cn hF rfl (fun hc4=>?_) (fun hc4=>?_))
  ·replace hF:=hF.1 hc4
   refine Ok.k (Ok.t (Ok.q (Ok.block (Ok.sr (Ok.b 1 [0,1,5,6,7] [(8,iv 0)] ?_)))))
   refine Ok.nt (Ok.block ?_)
   obtain ⟨k,hF⟩:=hF
   refine Ok.L (fun k a W=>∃ (v0:Int) (k0:Int),StA 74 [(0,.slice y0 xl.length u0),(1,iv xdeep),(5,iv v0),(6,iv s0),(7,iv q0),(8,iv k0)] a∧StW w0 [] g W∧tinl33 N xdeep K e3 q0 (tinl21 N xl xdeep K s0 (tinl9 N xl xdeep K k9) k21) k v0 k0) k ?_ ?_
   ·
    exact fun _ _ u v=>⟨g0,0,fA u v hF⟩
   clear hF
   rintro (_ | k33) _ _ ⟨v0,k0,q⟩
   exact (q.2.2:False).elim
   refine jn (fun hF=>?_) _ _ q
   refine Ok.q (Ok.sr (Ok.b 3 [0,1,5,6,7,8] [(27,iv k0),(28,.slice y0 xl.length u0),(29,iv s0)] ?_))
   refine Ok.o (OpOk.indexRo (e:=yP) rfl rfl underlying33 kr c0 h03 he3 rfl fun q5 o5 cs5 _ v1 hr5=>?_)
   obtain ⟨_,_,rfl,⟨N0,O0,rfl,hm5_0,hr5_0⟩,⟨q1,k1,rfl,hm5_1,hr5_1⟩⟩:=hr5
   have hR5_0:Rep g (.slice (.slice yS)) [.slice N0 e3.1.length O0] e3.1:=⟨N0,O0,rfl,hm5_0,hr5_0⟩
   have hR5_1:Rep g (.slice yb) [.slice q1 e3.2.length k1] e3.2:=⟨q1,k1,rfl,hm5_1,hr5_1⟩
   replace v1:At g q5 o5 [.slice N0 e3.1.length O0,.slice q1 e3.2.length k1]:=v1
   refine Ok.rn 3 [.a 0 v1] [0,1,5,6,7,8,27] [(32,.slice N0 e3.1.length O0),(33,iv q0)] ?_
   obtain ⟨h07,h17,hF⟩:=hF
   have he7:=get_of (l:=e3.1) default h17
   generalize hg7:(e3.1.getD q0.toNat default)=e7 at he7 hF ⊢
   refine Ok.o (OpOk.indexRo (e:=.slice yS) rfl rfl underlying25 kr hR5_0 h07 he7 rfl fun q6 o6 cs6 _ I0 hr6=>?_)
   obtain ⟨Z0,V0,rfl,A0⟩:=oS hr6
   refine Ok.rn 3 [.a 0 I0] [0,1,5,6,7,8] [(37,.bool (decide (k0<(e7.length:Int))))] ?_
   refine Ok.nt (Ok.cn hF rfl (fun hc8=>?_) (fun hc8=>?_))
   ·replace hF:=hF.1 hc8
    refine Ok.k (Ok.t (Ok.cut (fun a W=>StA 74 [(0,.slice y0 xl.length u0),(1,iv xdeep),(5,iv (tinV8 xdeep e7 v0 k0)),(6,iv s0),(7,iv q0),(8,iv k0)] a∧StW w0 [] g W∧tinj40 xdeep e3 v0 k0 q0 (tinl33 N xdeep K e3 q0 (tinl21 N xl xdeep K s0 (tinl9 N xl xdeep K k9) k21) k33)) ?_ ?_))
    ·
     refine Ok.block (Ok.sr (Ok.b 2 [0,1,5,6,7,8] [(40,.slice y0 xl.length u0),(41,iv s0)] ?_))
     refine Ok.o (OpOk.indexRo (e:=yP) rfl rfl underlying33 kr c0 h03 he3 rfl fun q9 o9 cs9 _ Q0 hr9=>?_)
     obtain ⟨_,_,rfl,⟨P0,T0,rfl,hm9_0,hr9_0⟩,⟨y1,u1,rfl,hm9_1,hr9_1⟩⟩:=hr9
     have hR9_0:Rep g (.slice (.slice yS)) [.slice P0 e3.1.length T0] e3.1:=⟨P0,T0,rfl,hm9_0,hr9_0⟩
     have hR9_1:Rep g (.slice yb) [.slice y1 e3.2.length u1] e3.2:=⟨y1,u1,rfl,hm9_1,hr9_1⟩
     replace Q0:At g q9 o9 [.slice P0 e3.1.length T0,.slice y1 e3.2.length u1]:=Q0
     refine Ok.rn 3 [.a 0 Q0] [0,1,5,6,7,8] [(44,.slice P0 e3.1.length T0),(45,iv q0)] ?_
     refine Ok.o (OpOk.indexRo (e:=.slice yS) rfl rfl underlying25 kr hR9_0 h07 he7 rfl fun q10 o10 cs10 _ hat10 hr10=>?_)
     obtain ⟨a10_0,c10_0,rfl,hR10_0⟩:=oS hr10
     refine Ok.rn 2 [.a 0 hat10] [0,1,5,6,7,8] [(47,.slice a10_0 e7.length c10_0),(48,iv k0)] ?_
     obtain ⟨h012,h112,hF⟩:=hF
     have c1:=get_of (l:=e7) default h112
     generalize d1:(e7.getD k0.toNat default)=e12 at c1 hF ⊢
     refine Ok.o (OpOk.indexRo (e:=yS) rfl rfl underlying54 kr hR10_0 h012 c1 rfl fun q11 o11 cs11 _ H0 hr11=>?_)
     have X0:=hr11
     replace X0:=Rep.tst.1 X0
     obtain ⟨_,_,rfl,⟨_,_,rfl,rfl,⟨_,_,rfl,rfl,⟨_,_,rfl,rfl,⟨_,_,rfl,rfl,⟨_,_,rfl,rfl,rfl⟩⟩⟩⟩⟩,⟨t0,a0,rfl,hm11_6,hr11_6⟩⟩:=X0
     have hR11_6:Rep g (.slice yP) [.slice t0 e12.kids.length a0] e12.kids:=⟨t0,a0,rfl,hm11_6,hr11_6⟩
     replace H0:At g q11 o11 (vL e12.lab t0 e12.kids.length a0):=H0
     refine Ok.o (OpOk.s (v:=.agg (aL e12.lab t0 e12.kids.length a0)) (Yields.loadAggRo 0 7 (aL e12.lab t0 e12.kids.length a0) H0 kr underlying60 rfl kr kr kr) rfl rfl (Ok.o (OpOk.aw #[iv 0,sv ([]:Bs),.int .u8 0,sv ([]:Bs),iv 0,iv 0,.slice none 0 0] fun bs9=>?_)))
     refine Ok.o (OpOk.sw 0 (aL e12.lab t0 e12.kids.length a0) rfl rfl rfl ?_)
     refine Ok.nt (Ok.sr (Ok.b 3 [0,1,6,7,8] [(5,iv (w6 (v0+1))),(9,pv bs9 0)] ?_))
     refine Ok.nt (Ok.q (Ok.sr (Ok.rn 4 [.e 0] [0,1,5,6,7,8,9] [(56,.bool ((e12.kids.length:Int)==0))] ?_)))
     refine Ok.nt (Ok.cn hF rfl (fun M0=>?_) (fun M0=>?_))
     ·replace hF:=hF.1 M0
      refine Ok.x (Ok.thenE (Ok.blockHit (Ok.t ?_)))
      subst d1
      refine Ok.v 5 rfl (show (iv (w6 (v0+1)):Value)=iv (tinV8 xdeep e7 v0 k0) from congrArg (Value.int .i64) ((if_t M0).symm)) ?_
      exact fz hF
     replace hF:=hF.2 M0
     refine Ok.k (Ok.t (Ok.sr (Ok.b 1 [0,1,5,6,7,8,9] [(10,iv (-1))] ?_)))
     refine Ok.nt (Ok.cut (fun a W=>StA 74 [(0,.slice y0 xl.length u0),(1,iv xdeep),(5,iv (w6 (v0+1))),(6,iv s0),(7,iv q0),(8,iv k0),(10,iv (tinV2 xdeep e12 v0))] a∧StW w0 [] g W∧tinj54 xdeep K e3 e12 v0 k0 q0 (tinl33 N xdeep K e3 q0 (tinl21 N xl xdeep K s0 (tinl9 N xl xdeep K k9) k21) k33)) ?_ ?_)
     ·
      refine Ok.sr (Ok.b 3 [0,1,5,6,7,8,9,10] [(59,.bool (decide (xdeep<3)))] ?_)
      refine Ok.w 3 [(0,.slice y0 xl.length u0),(1,iv xdeep),(5,iv (w6 (v0+1))),(6,iv s0),(7,iv q0),(8,iv k0),(9,pv bs9 0),(10,iv (-1)),(62,.bool (decide (xdeep<3)&&(decide (w6 (v0+1)≤40))))] (fun G0=>?_) ?_
      ·refine Ok.a 59 (decide (xdeep<3)) rfl (fun J0=>?_) (fun J0=>?_)
       ·skip
        refine Ok.b 3 [0,1,5,6,7,8,9,10] [(62,.bool (decide (w6 (v0+1)≤40)))] ?_
        refine Ok.rb 62 (decide (xdeep<3)&&(decide (w6 (v0+1)≤40))) (mand_t J0) (Ok.b 0 [0,1,5,6,7,8,9,10] [(62,.bool (decide (xdeep<3)&&(decide (w6 (v0+1)≤40))))] ?_)
        exact G0
       skip
       refine Ok.b 3 [0,1,5,6,7,8,9,10] [(62,.bool false)] ?_
       refine Ok.rb 62 (decide (xdeep<3)&&(decide (w6 (v0+1)≤40))) (mand_f J0) (Ok.b 0 [0,1,5,6,7,8,9,10] [(62,.bool (decide (xdeep<3)&&(decide (w6 (v0+1)≤40))))] ?_)
       exact G0
      refine Ok.nt (Ok.cw hF (fun W0 hF=>?_) (fun W0 hF=>?_))
      ·refine Ok.r ?_
       obtain ⟨hp19,hF⟩:=hF
       refine Ok.rn 6 [.e 0,.k (ih_tin _ e12.kids (w6 (xdeep+1)) hR11_6 hp19)] [0,1,5,6,7,8] [(10,iv (tinS e12.kids (w6 (xdeep+1))))] ?_
       refine Ok.nt (Ok.v 10 rfl (show (iv (tinS e12.kids (w6 (xdeep+1))):Value)=iv (tinV2 xdeep e12 v0) from congrArg (Value.int .i64) ((if_t W0).symm)) ?_)
       exact fz hF
      refine Ok.k (Ok.t (Ok.v 10 rfl (show (iv (-1):Value)=iv (tinV2 xdeep e12 v0) from congrArg (Value.int .i64) ((if_f W0).symm)) ?_))
      exact fz hF
     clear hF
     refine jn fun hF=>?_
     refine Ok.q (Ok.sr (Ok.b 2 [0,1,5,6,7,8,10] [(69,.bool (decide (tinV2 xdeep e12 v0<0)))] ?_))
     refine Ok.nt (Ok.cn hF rfl (fun U0=>?_) (fun U0=>?_))
     ·replace hF:=hF.1 U0
      refine Ok.sr (Ok.B 1 [(4,iv (-1))] kr (Ok.nt (Ok.ret (Ok.tr (Ok.kr (Ok.tr (Ok.tr (Ok.kr (Ok.kr (Ok.tr (Ok.tr (Ok.kr (Ok.kr (Ok.tr (Ok.tr (Ok.kr (Ok.tr ?_)))))))))))))))))
      exact Ok.h0 (iv (-1)) ⟨_,rfl,rfl,hF⟩
     replace hF:=hF.2 U0
     refine Ok.k (Ok.t (Ok.r (Ok.b 4 [0,1,6,7,8] [(5,iv (w6 ((w6 (v0+1))+(tinV2 xdeep e12 v0))))] ?_)))
     refine Ok.j (Ok.kn (Ok.t ?_))
     subst d1
     refine Ok.v 5 rfl (show (iv (w6 ((w6 (v0+1))+(tinV2 xdeep (e7.getD k0.toNat default) v0))):Value)=iv (tinV8 xdeep e7 v0 k0) from congrArg (Value.int .i64) ((if_f M0).symm)) ?_
     exact fz hF
    clear hF
    refine jn fun hF=>?_
    refine Ok.r (Ok.b 3 [0,1,5,6,7] [(8,iv (w6 (k0+1)))] ?_)
    refine Ok.j (Ok.t ?_)
    subst hg7
    exact fun _ _ u v=>⟨k33,nl,(tinV8 xdeep (e3.1.getD q0.toNat default) v0 k0),w6 (k0+1),fA u v hF⟩
   replace hF:=hF.2 hc8
   refine Ok.x (Ok.thenE (Ok.thenE (Ok.blockHit (Ok.kn (Ok.t (Ok.r (Ok.b 3 [0,1,5,6] [(7,iv (w6 (q0+1)))] ?_)))))))
   refine Ok.j (Ok.t ?_)
   subst hg7
   subst hg3
   exact fun _ _ u v=>⟨k21,nl,v0,w6 (q0+1),fA u v hF⟩
  replace hF:=hF.2 hc4
  refine Ok.x (Ok.thenE (Ok.thenE (Ok.blockHit (Ok.kn (Ok.t (Ok.r (Ok.b 3 [0,1,5] [(6,iv (w6 (s0+1)))] ?_)))))))
  refine Ok.j (Ok.t ?_)
  subst hg3
  exact fun _ _ u v=>⟨k9,nl,g0,w6 (s0+1),fA u v hF⟩
 refine Ok.x (Ok.thenE (Ok.thenE (Ok.blockHit (Ok.t (Ok.sr (Ok.B 2 [(4,iv o0)] kr (Ok.nt (Ok.ret ?_))))))))
 exact Ok.h0 (iv o0) ⟨_,rfl,rfl,hF⟩
theorem tin_0 (l:List Ph) (d:Int):¬ tinP 0 l d:=fun h=>absurd h.1 (Nat.not_lt_zero _)
theorem tin33 {N:Nat} {d:Int} {r:Int} (hd:0≤d∧d≤1000000000) (q:Ph) (k:Nat) (hk:k<q.1.length) (hs:∀ t ∈ q.1.getD k default,tssP N t.kids (d+1)) (hl:(q.1.getD k default).length≤1048600) (C:Int→Int→Prop) (F:Int→Int) (U:Int) (hU:U≤4000000)
  (hC:∀ n,0≤n→n≤U→r=F n→C n (w6 ((k:Int)+1))):∀ (m i:Nat) (n:Int),i+m=(q.1.getD k default).length→0≤n→n+w1 ((q.1.getD k default).drop i)≤U →
  r=(if ri1 ((q.1.getD k default).drop i) d n<0 then -1 else F (ri1 ((q.1.getD k default).drop i) d n))→tinl33 N d (fun a=>a=r) q (k:Int) C (m+1) n (i:Int):=by
 intro m
 induction m with
 | zero =>
  intro i n hi hn hu he
  rw [List.drop_of_length_le om] at he
  refine ⟨by omega,by rw [tnc]; omega,?_⟩
  rw [tnc]
  exact ⟨fun hc=>absurd (of_decide_eq_true hc) om,fun _=>hC n hn (by rw [List.drop_of_length_le om,w1] at hu; omega) (by rw [he,ri1,if_neg om])⟩
 | succ m ih =>
  intro i n hi hn hu he
  have hi':i<(q.1.getD k default).length:=by omega
  have ht:=hs _ (get_in default hi')
  have hb:=bT_kids ((q.1.getD k default).getD i default)
  have hbd:=(bdT ((q.1.getD k default).getD i default) (d+1)).2
  rw [drop_get (l:=q.1.getD k default) default hi',ri1] at he
  rw [drop_get (l:=q.1.getD k default) default hi',w1] at hu
  refine ⟨by omega,by rw [tnc]; omega,?_⟩
  have key:∀ n',tinV8 d (q.1.getD k default) n (i:Int)=n'→0≤n'→n'+w1 ((q.1.getD k default).drop (i+1))≤U→r=(if ri1 ((q.1.getD k default).drop (i+1)) d n'<0 then -1 else F (ri1 ((q.1.getD k default).drop (i+1)) d n'))→tinj40 d q n (i:Int) (k:Int) (tinl33 N d (fun a=>a=r) q (k:Int) C (m+1)):=by
   intro n' hn' h0 h1 h2
   unfold tinj40
   rw [tnc,hn',w64 om,show (i:Int)+1=((i+1:Nat):Int) by omega]
   exact ih (i+1) n' om h0 h1 h2
  unfold tinV8 at key
  rw [tnc] at key ⊢
  rw [tnc]
  refine ⟨fun _=>⟨by omega,by omega,?_⟩,fun hc=>absurd (of_decide_eq_false hc) om⟩
  generalize (q.1.getD k default).getD i default=t at *
  have hcn:(((t.kids.length:Int)==0)=true)=(t.kids.length=0):=by simp
  rw [riT_eq] at he hbd
  have hv:tinV2 d t n=(if (decide (d<3)&&decide (n+1≤40))=true then ri3 t.kids (d+1) 0 else -1):=by
   unfold tinV2 tinS
   rw [w64 (x:=n+1) om,w64 (x:=d+1) om]
  have hv1 : -1≤tinV2 d t n∧tinV2 d t n≤b3 t.kids:=by
   rw [hv]
   split
   ·exact hbd
   omega
  rw [← hv] at he
  rw [w64 (x:=n+1) om] at key ⊢
  have fin:t.kids.length≠0→((t.kids.length:Int)==0)=false→tinj54 d (fun a=>a=r) q t n (i:Int) (k:Int) (tinl33 N d (fun a=>a=r) q (k:Int) C (m+1)):=by
   intro hc2 hc
   rw [if_neg hc2] at he
   rw [if_f hc] at key
   refine ⟨fun h1=>?_,fun h1=>?_⟩
   ·rw [if_pos (of_decide_eq_true h1),if_pos om] at he; exact he.symm
   have h1:=of_decide_eq_false h1
   rw [if_neg h1] at he
   exact key _ (w64 om) om om he
  have hne:((t.kids.length:Int)==0)=false→t.kids.length≠0:=fun hc h0=>by rw [← hcn,hc] at h0; cases h0
  refine ⟨fun hc=>?_,fun hc=>⟨fun hb2=>⟨?_,fin (hne hc) hc⟩,fun hb2=>fin (hne hc) hc⟩⟩
  ·rw [if_t hc] at key
   rw [hcn] at hc
   rw [if_pos hc] at he
   exact key (n+1) rfl om om he
  rw [w64 om]; exact ht
theorem tin21 {N:Nat} {l:List Ph} {d:Int} {r:Int} (hd:0≤d∧d≤1000000000) (j:Nat) (hj:j<l.length) (hs:∀ s ∈ (l.getD j default).1,∀ t ∈ s,tssP N t.kids (d+1)) (hw:w2 (l.getD j default).1≤1048600) (C:Int→Int→Prop) (F:Int→Int) (U:Int) (hU:U≤2000000)
  (hC:∀ n,0≤n→n≤U→r=F n→C n (w6 ((j:Int)+1))):∀ (m i:Nat) (n:Int),i+m=(l.getD j default).1.length→0≤n→n+w2 ((l.getD j default).1.drop i)≤U →
  r=(if ri2 ((l.getD j default).1.drop i) d n<0 then -1 else F (ri2 ((l.getD j default).1.drop i) d n))→tinl21 N l d (fun a=>a=r) (j:Int) C (m+1) n (i:Int):=by
 intro m
 induction m with
 | zero =>
  intro i n hi hn hu he
  rw [List.drop_of_length_le om] at he hu
  refine ⟨by omega,by rw [tnc]; omega,?_⟩
  rw [tnc]
  exact ⟨fun hc=>absurd (of_decide_eq_true hc) om,fun _=>hC n hn (by rw [w2] at hu; omega) (by rw [he,ri2,if_neg om])⟩
 | succ m ih =>
  intro i n hi hn hu he
  have hi':i<(l.getD j default).1.length:=by omega
  have ht:=hs _ (get_in default hi')
  have hl:=w1_len ((l.getD j default).1.getD i default)
  have hw2:=w2_in (get_in default hi')
  have hql:=w2_len (l.getD j default).1
  rw [drop_get (l:=(l.getD j default).1) default hi',ri2] at he
  rw [drop_get (l:=(l.getD j default).1) default hi',w2] at hu
  refine ⟨by omega,by rw [tnc]; omega,?_⟩
  rw [tnc]
  refine ⟨fun _=>?_,fun hc=>absurd (of_decide_eq_false hc) om⟩
  refine ⟨_,tin33 hd (l.getD j default) i hi' ht om _ (fun n=>if ri2 ((l.getD j default).1.drop (i+1)) d n<0 then -1 else F (ri2 ((l.getD j default).1.drop (i+1)) d n)) (n+w1 ((l.getD j default).1.getD i default)) om (fun n' h0 h1 h2=>?_) ((l.getD j default).1.getD i default).length 0 n om hn (by rw [List.drop_zero]; omega) ?_⟩
  ·rw [w64 om,show (i:Int)+1=((i+1:Nat):Int) by omega]
   exact ih (i+1) n' om h0 om h2
  rw [List.drop_zero,he]
  split
  ·rw [if_pos om]
  rfl
theorem tin_F (N:Nat) (l:List Ph) (d:Int) (h:tinP (N+1) l d):tinF N l d (fun a=>a=tinS l d):=by
 have h5:=b3_eq l
 have hlen:=w3_len l
 have hin:=fun q hq s hs t ht=>tssP_in h (q:=q) hq (s:=s) hs (t:=t) ht
 obtain ⟨_,hb,hd0,hd1⟩:=h
 have loop:∀ (m i:Nat) (n:Int),i+m=l.length→0≤n→n+w3 (l.drop i)≤1048600→tinS l d=ri3 (l.drop i) d n→tinl9 N l d (fun a=>a=tinS l d) (m+1) n (i:Int):=by
  intro m
  induction m with
  | zero =>
   intro i n hi hn hu he
   rw [List.drop_of_length_le om,ri3] at he
   exact ⟨fun hc=>absurd (of_decide_eq_true hc) om,fun _=>he.symm⟩
  | succ m ih =>
   intro i n hi hn hu he
   have hi':i<l.length:=by omega
   have hq:=get_in default hi'
   have hwq:=w3_in hq
   have z1:=hin _ hq
   rw [drop_get (l:=l) default hi'] at he hu
   rw [w3] at hu
   have e3:ri3 (l.getD i default::l.drop (i+1)) d n=if ri2 (l.getD i default).1 d n<0 then -1 else ri3 (l.drop (i+1)) d (ri2 (l.getD i default).1 d n):=by
    generalize l.getD i default=q
    obtain ⟨p,js⟩:=q
    rw [ri3]
   rw [e3] at he
   refine ⟨fun _=>?_,fun hc=>absurd (of_decide_eq_false hc) om⟩
   refine ⟨_,tin21 ⟨hd0,by omega⟩ i hi' z1 om _ (fun n=>ri3 (l.drop (i+1)) d n) (n+w2 (l.getD i default).1) om (fun n' h0 h1 h2=>?_) (l.getD i default).1.length 0 n om hn (by rw [List.drop_zero]; omega) ?_⟩
   ·rw [w64 om,show (i:Int)+1=((i+1:Nat):Int) by omega]
    exact ih (i+1) n' om h0 om h2
   rw [List.drop_zero]; exact he
 exact ⟨_,loop l.length 0 0 om om (by rw [List.drop_zero]; omega) (by rw [List.drop_zero]; rfl)⟩
theorem tin_rec:∀ N,tin_C N
 | 0=>(by intro g y0 u0 xl xdeep c0 hp; exact (tin_0 xl xdeep hp).elim)
 | N+1 =>
  have ih:=tin_rec N
  (by intro g y0 u0 xl xdeep c0 hp; exact (tin_ok N ih xl xdeep c0 _ (tin_F N xl xdeep hp)).gv)
def tinPE (xl:List PH) (xdeep:Int):Prop:=∃ N,tinP N xl xdeep
theorem tin_c {g:Ghost} {y0:Option Addr} {u0:Nat} (xl:List PH) (xdeep:Int) (c0:Rep g (.slice yP) [.slice y0 xl.length u0] xl)  (hp:tinPE xl xdeep):CallsG prog 20 #[.slice y0 xl.length u0,iv xdeep] g (iv (tinS xl xdeep)):=by
 obtain ⟨N,hp⟩:=hp
 exact (tin_rec N) _ xl xdeep c0 hp
end Go.Proofs.YtdapgmigogpdcaaGreatDoor.Se
