/- match: the document's functions, but for the tests. -/
import Derived.Test.YtdapgmigogpdcaaGreatDoorMag
namespace Go.Proofs.YtdapgmigogpdcaaGreatDoor.Ma
open _root_.Go.Proofs.Tryz Go Go.Eng Go.RowKit Ti Do Se Sr Css Tk
set_option linter.unusedVariables false
set_option linter.unusedSimpArgs false
set_option maxHeartbeats 4000000
set_option maxRecDepth 100000
noncomputable section
def rnil15b (xa:Int) (xb:Int) (xi:Int) (K:Bool→Prop) (m0:Int) (C15:Int→Prop):Prop :=
 (decide (m0≤1300)=true→(((w6 ((w6 (xa * m0))+xb))==xi)=true→K true)∧(((w6 ((w6 (xa * m0))+xb))==xi)=false→C15 (w6 (m0+1))))∧(decide (m0≤1300)=false→K false)
def rnil15 (xa:Int) (xb:Int) (xi:Int) (K:Bool→Prop):Nat→Int→Prop
 | 0,_=>False
 | k+1,m0=>rnil15b xa xb xi K m0 (rnil15 xa xb xi K k)
def rniF (xa:Int) (xb:Int) (xi:Int) (K:Bool→Prop):Prop :=
 (((((((decide (xa<(-1000)))||decide (xa>1000))||(decide (xb<(-1000))))||decide (xb>1000))||decide (xi<1))||decide (xi>200))=true→K false)∧(((((((decide (xa<(-1000)))||decide (xa>1000))||(decide (xb<(-1000))))||decide (xb>1000))||decide (xi<1))||decide (xi>200))=false→∃ k,rnil15 xa xb xi K k 0)
theorem rni_ok {g:Ghost} (xa:Int) (xb:Int) (xi:Int) (K:Bool→Prop)
  (hF:rniF xa xb xi K):CallsH prog 79 #[iv xa,iv xb,iv xi] g [] (fun g' H' v=>∃ (r0:Bool),v=.bool r0∧H'=[]∧K r0):=by
 refine CallsH.en 41 func79 rfl fun w0=>?_
 refine Ok.sr (Ok.B 1 [(0,iv xa),(1,iv xb),(2,iv xi)] kr (Ok.nt (Ok.q (Ok.sr (Ok.b 3 [0,1,2] [(10,.bool (decide (xa<(-1000))))] ?_)))))
 refine Ok.w 3 [(0,iv xa),(1,iv xb),(2,iv xi),(13,.bool ((decide (xa<(-1000)))||decide (xa>1000)))] (fun hR1=>?_) ?_
 ·refine Ok.a 10 (decide (xa<(-1000))) rfl (fun hc2=>?_) (fun hc2=>?_)
  ·skip
   refine Ok.b 3 [0,1,2] [(13,.bool true)] ?_
   refine Ok.rb 13 ((decide (xa<(-1000)))||decide (xa>1000)) (mor_t hc2) (Ok.b 0 [0,1,2] [(13,.bool ((decide (xa<(-1000)))||decide (xa>1000)))] ?_)
   exact hR1
  skip
  refine Ok.b 3 [0,1,2] [(13,.bool (decide (xa>1000)))] ?_
  refine Ok.rb 13 ((decide (xa<(-1000)))||decide (xa>1000)) (mor_f hc2) (Ok.b 0 [0,1,2] [(13,.bool ((decide (xa<(-1000)))||decide (xa>1000)))] ?_)
  exact hR1
 refine Ok.b 1 [0,1,2] [(14,.bool ((decide (xa<(-1000)))||decide (xa>1000)))] ?_
 refine Ok.w 3 [(0,iv xa),(1,iv xb),(2,iv xi),(17,.bool (((decide (xa<(-1000)))||decide (xa>1000))||(decide (xb<(-1000)))))] (fun hR3=>?_) ?_
 ·refine Ok.a 14 ((decide (xa<(-1000)))||decide (xa>1000)) rfl (fun hc4=>?_) (fun hc4=>?_)
  ·skip
   refine Ok.b 3 [0,1,2] [(17,.bool true)] ?_
   refine Ok.rb 17 (((decide (xa<(-1000)))||decide (xa>1000))||(decide (xb<(-1000)))) (mor_t hc4) (Ok.b 0 [0,1,2] [(17,.bool (((decide (xa<(-1000)))||decide (xa>1000))||(decide (xb<(-1000)))))] ?_)
   exact hR3
  skip
  refine Ok.b 3 [0,1,2] [(17,.bool (decide (xb<(-1000))))] ?_
  refine Ok.rb 17 (((decide (xa<(-1000)))||decide (xa>1000))||(decide (xb<(-1000)))) (mor_f hc4) (Ok.b 0 [0,1,2] [(17,.bool (((decide (xa<(-1000)))||decide (xa>1000))||(decide (xb<(-1000)))))] ?_)
  exact hR3
 refine Ok.b 1 [0,1,2] [(18,.bool (((decide (xa<(-1000)))||decide (xa>1000))||(decide (xb<(-1000)))))] ?_
 refine Ok.w 3 [(0,iv xa),(1,iv xb),(2,iv xi),(21,.bool ((((decide (xa<(-1000)))||decide (xa>1000))||(decide (xb<(-1000))))||decide (xb>1000)))] (fun hR5=>?_) ?_
 ·refine Ok.a 18 (((decide (xa<(-1000)))||decide (xa>1000))||(decide (xb<(-1000)))) rfl (fun hc6=>?_) (fun hc6=>?_)
  ·skip
   refine Ok.b 3 [0,1,2] [(21,.bool true)] ?_
   refine Ok.rb 21 ((((decide (xa<(-1000)))||decide (xa>1000))||(decide (xb<(-1000))))||decide (xb>1000)) (mor_t hc6) (Ok.b 0 [0,1,2] [(21,.bool ((((decide (xa<(-1000)))||decide (xa>1000))||(decide (xb<(-1000))))||decide (xb>1000)))] ?_)
   exact hR5
  skip
  refine Ok.b 3 [0,1,2] [(21,.bool (decide (xb>1000)))] ?_
  refine Ok.rb 21 ((((decide (xa<(-1000)))||decide (xa>1000))||(decide (xb<(-1000))))||decide (xb>1000)) (mor_f hc6) (Ok.b 0 [0,1,2] [(21,.bool ((((decide (xa<(-1000)))||decide (xa>1000))||(decide (xb<(-1000))))||decide (xb>1000)))] ?_)
  exact hR5
 refine Ok.b 1 [0,1,2] [(22,.bool ((((decide (xa<(-1000)))||decide (xa>1000))||(decide (xb<(-1000))))||decide (xb>1000)))] ?_
 refine Ok.w 3 [(0,iv xa),(1,iv xb),(2,iv xi),(25,.bool (((((decide (xa<(-1000)))||decide (xa>1000))||(decide (xb<(-1000))))||decide (xb>1000))||decide (xi<1)))] (fun hR7=>?_) ?_
 ·refine Ok.a 22 ((((decide (xa<(-1000)))||decide (xa>1000))||(decide (xb<(-1000))))||decide (xb>1000)) rfl (fun hc8=>?_) (fun hc8=>?_)
  ·skip
   refine Ok.b 3 [0,1,2] [(25,.bool true)] ?_
   refine Ok.rb 25 (((((decide (xa<(-1000)))||decide (xa>1000))||(decide (xb<(-1000))))||decide (xb>1000))||decide (xi<1)) (mor_t hc8) (Ok.b 0 [0,1,2] [(25,.bool (((((decide (xa<(-1000)))||decide (xa>1000))||(decide (xb<(-1000))))||decide (xb>1000))||decide (xi<1)))] ?_)
   exact hR7
  skip
  refine Ok.b 3 [0,1,2] [(25,.bool (decide (xi<1)))] ?_
  refine Ok.rb 25 (((((decide (xa<(-1000)))||decide (xa>1000))||(decide (xb<(-1000))))||decide (xb>1000))||decide (xi<1)) (mor_f hc8) (Ok.b 0 [0,1,2] [(25,.bool (((((decide (xa<(-1000)))||decide (xa>1000))||(decide (xb<(-1000))))||decide (xb>1000))||decide (xi<1)))] ?_)
  exact hR7
 refine Ok.b 1 [0,1,2] [(26,.bool (((((decide (xa<(-1000)))||decide (xa>1000))||(decide (xb<(-1000))))||decide (xb>1000))||decide (xi<1)))] ?_
 refine Ok.w 3 [(0,iv xa),(1,iv xb),(2,iv xi),(29,.bool ((((((decide (xa<(-1000)))||decide (xa>1000))||(decide (xb<(-1000))))||decide (xb>1000))||decide (xi<1))||decide (xi>200)))] (fun hR9=>?_) ?_
 ·refine Ok.a 26 (((((decide (xa<(-1000)))||decide (xa>1000))||(decide (xb<(-1000))))||decide (xb>1000))||decide (xi<1)) rfl (fun u1=>?_) (fun u1=>?_)
  ·skip
   refine Ok.b 3 [0,1,2] [(29,.bool true)] ?_
   refine Ok.rb 29 ((((((decide (xa<(-1000)))||decide (xa>1000))||(decide (xb<(-1000))))||decide (xb>1000))||decide (xi<1))||decide (xi>200)) (mor_t u1) (Ok.b 0 [0,1,2] [(29,.bool ((((((decide (xa<(-1000)))||decide (xa>1000))||(decide (xb<(-1000))))||decide (xb>1000))||decide (xi<1))||decide (xi>200)))] ?_)
   exact hR9
  skip
  refine Ok.b 3 [0,1,2] [(29,.bool (decide (xi>200)))] ?_
  refine Ok.rb 29 ((((((decide (xa<(-1000)))||decide (xa>1000))||(decide (xb<(-1000))))||decide (xb>1000))||decide (xi<1))||decide (xi>200)) (mor_f u1) (Ok.b 0 [0,1,2] [(29,.bool ((((((decide (xa<(-1000)))||decide (xa>1000))||(decide (xb<(-1000))))||decide (xb>1000))||decide (xi<1))||decide (xi>200)))] ?_)
  exact hR9
 refine Ok.nt (Ok.cw hF (fun j1 hF=>?_) (fun j1 hF=>?_))
 ·refine Ok.sr (Ok.B 1 [(6,.bool false)] kr (Ok.nt (Ok.ret (Ok.tr ?_))))
  exact Ok.pb false hF
 refine Ok.k (Ok.t (Ok.q (Ok.sr (Ok.b 1 [0,1,2] [(7,iv 0)] ?_))))
 refine Ok.nt (Ok.block ?_)
 obtain ⟨k,hF⟩:=hF
 refine Ok.L (fun k a W=>∃ (m0:Int),StA 41 [(0,iv xa),(1,iv xb),(2,iv xi),(7,iv m0)] a∧StW w0 [] g W∧rnil15 xa xb xi K k m0) k ?_ ?_
 ·
  exact fun _ _ u v=>⟨0,fA u v hF⟩
 clear hF
 rintro (_ | k15) _ _ ⟨m0,q⟩
 exact (q.2.2:False).elim
 refine jn (fun hF=>?_) _ _ q
 refine Ok.q (Ok.sr (Ok.b 2 [0,1,2,7] [(31,.bool (decide (m0≤1300)))] ?_))
 refine Ok.nt (Ok.cw hF (fun hc12 hF=>?_) (fun hc12 hF=>?_))
 ·refine Ok.k (Ok.t (Ok.q (Ok.block (Ok.sr (Ok.b 7 [0,1,2,7] [(40,.bool ((w6 ((w6 (xa * m0))+xb))==xi))] ?_)))))
  refine Ok.nt (Ok.cw hF (fun hc13 hF=>?_) (fun hc13 hF=>?_))
  ·refine Ok.sr (Ok.B 1 [(6,.bool true)] kr (Ok.nt (Ok.ret (Ok.kr (Ok.tr (Ok.tr (Ok.kr (Ok.tr ?_))))))))
   exact Ok.pb true hF
  refine Ok.k (Ok.kn (Ok.t (Ok.r (Ok.b 3 [0,1,2] [(7,iv (w6 (m0+1)))] ?_))))
  refine Ok.j (Ok.t ?_)
  exact fun _ _ u v=>⟨k15,nl,w6 (m0+1),fA u v hF⟩
 refine Ok.x (Ok.thenE (Ok.thenE (Ok.blockHit (Ok.t (Ok.sr (Ok.B 1 [(6,.bool false)] kr (Ok.nt (Ok.ret ?_))))))))
 exact Ok.pb false hF
theorem mul_bd (a k:Int) (ha : -1000≤a) (ha':a≤1000) (hk:0≤k) (hk':k≤1300) : -1300000≤a * k∧a * k≤1300000:=by
 have h1:=Int.mul_le_mul_of_nonneg_right ha hk
 have h2:=Int.mul_le_mul_of_nonneg_right ha' hk
 omega
theorem nth_hit {a b i:Int} (k:Nat) (h:a * k+b=i):nthB a b i=true:=by
 unfold nthB
 by_cases h0:a=0
 ·subst h0
  rw [if_pos rfl,beq_iff_eq]; omega
 rw [if_neg h0]
 have e:i - b=a * k:=by omega
 rw [e,Int.mul_tmod_right,Int.mul_tdiv_cancel_left _ h0,beq_self_eq_true,Bool.true_and,decide_eq_true_eq]
 omega
theorem nth_miss {a b i:Int} (hb : -1000≤b∧b≤1000) (hi:1≤i∧i≤200) (h:∀ j:Nat,j<1301→¬ a * j+b=i):nthB a b i=false:=by
 unfold nthB
 by_cases h0:a=0
 ·subst h0
  rw [if_pos rfl,beq_eq_false_iff_ne]
  intro e
  exact h 0 om om
 rw [if_neg h0]
 obtain ⟨d1,d2⟩:=tdiv_bd (i - b) a 1200 om om
 have hq:=Int.mul_tdiv_add_tmod (i - b) a
 rw [Bool.eq_false_iff]
 intro hm
 rw [Bool.and_eq_true,beq_iff_eq,decide_eq_true_eq] at hm
 exact h ((i - b).tdiv a).toNat om (by rw [Int.toNat_of_nonneg hm.2]; omega)
theorem rni_F (a b i:Int):rniF a b i (fun r=>r=nthSp a b i):=by
 have e:(((((decide (a<(-1000))||decide (a>1000))||decide (b<(-1000)))||decide (b>1000))||decide (i<1))||decide (i>200))=outB a b i:=by
  unfold outB
  rw [Bool.eq_iff_iff]
  simp only [Bool.or_eq_true,decide_eq_true_eq]
  omega
 unfold rniF
 rw [e]
 refine ⟨fun h=>by unfold nthSp; rw [if_t h],fun h=>?_⟩
 have hb : -1000≤a∧a≤1000∧-1000≤b∧b≤1000∧1≤i∧i≤200:=by
  unfold outB at h
  simp only [Bool.or_eq_false_iff,decide_eq_false_iff_not] at h
  omega
 have hn:nthSp a b i=nthB a b i:=by unfold nthSp; rw [if_f h]
 rw [hn]
 have loop:∀ (k m:Nat),m+k=1301→(∀ j:Nat,j<m→¬ a * j+b=i)→rnil15 a b i (fun r=>r=nthB a b i) (k+1) (m:Int):=by
  intro k
  induction k with
  | zero =>
   intro m hm hno
   exact ⟨fun hc=>od hc,fun _=>(nth_miss ⟨by omega,by omega⟩ ⟨by omega,by omega⟩ (by rw [show (1301:Nat)=m by omega]; exact hno)).symm⟩
  | succ k ih =>
   intro m hm hno
   obtain ⟨b1,b2⟩:=mul_bd a m om om om om
   refine ⟨fun _=>?_,fun hc=>oe hc⟩
   rw [w64 (x:=a * (m:Int)) om,w64 (x:=a * (m:Int)+b) om,w64 om]
   refine ⟨fun hc=>(nth_hit m (eq_of_beq hc)).symm,fun hc=>ih (m+1) om fun j hj=>?_⟩
   by_cases hjm:j<m
   ·exact hno j hjm
   obtain rfl:j=m:=by omega
   simpa using hc
 exact ⟨_,loop 1301 0 om (fun j hj=>absurd hj (Nat.not_lt_zero _))⟩
theorem rni_c {g:Ghost} (xa:Int) (xb:Int) (xi:Int)  : CallsG prog 79 #[iv xa,iv xb,iv xi] g (.bool (nthSp xa xb xi)) :=
 (rni_ok xa xb xi _ (rni_F xa xb xi)).gv
def ramV2 (xd:Dc) (e8:Nd) (s0:Int) (z0:List Int):List Int :=
 (if ((xd.1.getD (Int.toNat (e8.2.2.2.2.2.getD s0.toNat default)) default).1==2)=true then (z0++([e8.2.2.2.2.2.getD s0.toNat default]:List Int)) else z0)
def ramj26 (xd:Dc) (e3:Nd) (s0:Int) (z0:List Int) (C19:Int→List Int→Prop):Prop :=
 C19 (w6 (s0+1)) (ramV2 xd (xd.1.getD (Int.toNat e3.2.2.2.2.1) default) s0 z0)
def raml19b (xd:Dc) (K:(List Int)→Prop) (e3:Nd) (s0:Int) (z0:List Int) (C19:Int→List Int→Prop):Prop :=
 0≤e3.2.2.2.2.1∧Int.toNat e3.2.2.2.2.1<xd.1.length∧((decide (s0<((xd.1.getD (Int.toNat e3.2.2.2.2.1) default).2.2.2.2.2.length:Int)))=true→0≤s0∧s0.toNat<(xd.1.getD (Int.toNat e3.2.2.2.2.1) default).2.2.2.2.2.length∧0≤((xd.1.getD (Int.toNat e3.2.2.2.2.1) default).2.2.2.2.2.getD s0.toNat default)∧Int.toNat ((xd.1.getD (Int.toNat e3.2.2.2.2.1) default).2.2.2.2.2.getD s0.toNat default)<xd.1.length∧(((xd.1.getD (Int.toNat ((xd.1.getD (Int.toNat e3.2.2.2.2.1) default).2.2.2.2.2.getD s0.toNat default)) default).1==2)=true→(z0++([((xd.1.getD (Int.toNat e3.2.2.2.2.1) default).2.2.2.2.2.getD s0.toNat default)]:List Int)).length≤17592186044416∧ramj26 xd e3 s0 z0 C19)∧(((xd.1.getD (Int.toNat ((xd.1.getD (Int.toNat e3.2.2.2.2.1) default).2.2.2.2.2.getD s0.toNat default)) default).1==2)=false→ramj26 xd e3 s0 z0 C19))∧((decide (s0<((xd.1.getD (Int.toNat e3.2.2.2.2.1) default).2.2.2.2.2.length:Int)))=false→K z0)
def raml19 (xd:Dc) (K:(List Int)→Prop) (e3:Nd):Nat→Int→List Int→Prop
 | 0,_,_=>False
 | k+1,s0,z0=>raml19b xd K e3 s0 z0 (raml19 xd K e3 k)
def ramF (xd:Dc) (xn:Int) (K:(List Int)→Prop):Prop :=
 0≤xn∧xn.toNat<xd.1.length∧((decide ((xd.1.getD xn.toNat default).2.2.2.2.1<0))=true→K ([xn]:List Int))∧((decide ((xd.1.getD xn.toNat default).2.2.2.2.1<0))=false→∃ k,raml19 xd K (xd.1.getD xn.toNat default) k 0 ([]:List Int))
theorem ram_ok {g:Ghost} {y0:Option Addr} {u0:Nat} (xd:Dc) (xn:Int) (d0:Rep g yNs [.slice y0 xd.1.length u0] xd.1) (K:(List Int)→Prop)
  (hF:ramF xd xn K):CallsH prog 45 #[.agg (aD xd y0 u0),iv xn] g [] (fun g' H' v=>∃ (r0:List Int),∃ (ar0:Option Addr) (cr0:Nat) (S0:List Value),v=.slice ar0 r0.length cr0∧RepL g' (.int .i64) S0 r0∧H'=[.own (.slice ar0 r0.length cr0) 3 1 r0.length S0]∧K r0):=by
 refine CallsH.en 53 func45 rfl fun w0=>?_
 refine Ok.sr (Ok.o (OpOk.bx (aD xd y0 u0) fun bs2=>?_))
 refine Ok.B 1 [(1,iv xn),(2,pv bs2 0)] kr (Ok.nt (Ok.sr (Ok.rn 3 [.e 0] [1,2] [(9,.slice y0 xd.1.length u0),(10,iv xn)] ?_)))
 obtain ⟨h03,h13,hF⟩:=hF
 have he3:=get_of (l:=xd.1) default h13
 generalize hg3:(xd.1.getD xn.toNat default)=e3 at he3 hF ⊢
 refine Ok.o (OpOk.indexRo (e:=yN) rfl rfl underlying22 kr d0 h03 he3 rfl fun q2 o2 cs2 _ x1 hr2=>?_)
 obtain ⟨E0,F0,a2_5,c2_5,rfl,G0,hR2_5⟩:=oN hr2
 refine Ok.rn 3 [.a 4 x1] [1,2] [(5,iv e3.2.2.2.2.1)] ?_
 refine Ok.nt (Ok.q (Ok.sr (Ok.b 2 [1,2,5] [(15,.bool (decide (e3.2.2.2.2.1<0)))] ?_)))
 refine Ok.nt (Ok.cw hF (fun hc4 hF=>?_) (fun hc4 hF=>?_))
 ·refine Ok.sr (Ok.B 1 [(16,iv xn)] kr ?_)
  have hL5:RepL g (.int .i64) ([iv xn]:List Value) ([xn]:List Int):=(RepL.consN (c:=[iv xn]) rfl rfl)
  refine Ok.o (OpOk.lit (E:=3) (.int .i64) ([xn]:List Int) ([iv xn]:List Value) kr kr rfl kr hL5 rfl fun b5=>?_)
  refine Ok.B 1 [(4,.slice (some ⟨b5,0,none⟩) ([xn]:List Int).length 1)] kr (Ok.nt (Ok.ret (Ok.tr ?_)))
  exact Ok.p (vs:=[.slice (some ⟨b5,0,none⟩) ([xn]:List Int).length 1]) [0] [.own (.slice (some ⟨b5,0,none⟩) ([xn]:List Int).length 1) 3 1 ([xn]:List Int).length ([iv xn]:List Value)] dc rfl (.inl rfl) rfl (.cons (.tmp rfl) .nil) (Gext.r w0 g) ⟨([xn]:List Int),(some ⟨b5,0,none⟩),1,([iv xn]:List Value),rfl,hL5,rfl,hF⟩
 refine Ok.k (Ok.t (Ok.sr (Ok.b 1 [2,5] [(6,.slice none 0 0)] ?_)))
 have hL6:RepL g (.int .i64) [] []:=rfl
 refine Ok.ownNil 3 1 (Ok.nt (Ok.q (Ok.sr (Ok.b 1 [2,5] [(6,.slice none ([]:List Int).length 0),(7,iv 0)] ?_))))
 refine Ok.nt (Ok.block ?_)
 obtain ⟨k,hF⟩:=hF
 refine Ok.L (fun k a W=>∃ a0:Ghost,Gext w0 g a0∧∃ (s0:Int) (q0:Option Addr) (k0:Nat) (z0:List Int) (j0:List Value),RepL a0 (.int .i64) j0 z0∧StA 53 [(2,pv bs2 0),(5,iv e3.2.2.2.2.1),(6,.slice q0 z0.length k0),(7,iv s0)] a∧StW w0 [.own (.slice q0 z0.length k0) 3 1 z0.length j0,.blk bs2 (.cells (aD xd y0 u0) 24)] a0 W∧raml19 xd K e3 k s0 z0) k ?_ ?_
 ·
  exact fun _ _ u v=>⟨g,Gext.r w0 g,0,none,0,([]:List Int),[],hL6,fA u v hF⟩
 clear hF
 rintro (_ | k19) _ _ ⟨a0,K0,s0,q0,k0,z0,j0,i0,q⟩
 exact (q.2.2:False).elim
 refine jn (fun hF=>?_) _ _ q
 replace d0:=d0.mono K0.1
 refine Ok.q (Ok.sr (Ok.rn 4 [.e 1] [2,5,6,7] [(18,iv s0),(20,.slice y0 xd.1.length u0),(21,iv e3.2.2.2.2.1)] ?_))
 obtain ⟨h08,h18,hF⟩:=hF
 have he8:=get_of (l:=xd.1) default h18
 generalize hg8:(xd.1.getD (Int.toNat e3.2.2.2.2.1) default)=e8 at he8 hF ⊢
 refine Ok.o (OpOk.indexRo (e:=yN) rfl rfl underlying22 kr d0 h08 he8 rfl fun q7 o7 cs7 _ hat7 hr7=>?_)
 obtain ⟨a7_2,c7_2,a7_5,c7_5,rfl,hR7_2,hR7_5⟩:=oN hr7
 refine Ok.rn 4 [.a 5 hat7] [2,5,6,7] [(26,.bool (decide (s0<(e8.2.2.2.2.2.length:Int))))] ?_
 refine Ok.nt (Ok.cn hF rfl (fun hc9=>?_) (fun hc9=>?_))
 ·replace hF:=hF.1 hc9
  refine Ok.k (Ok.t (Ok.cut (fun a W=>∃ H0:Ghost,Gext w0 a0 H0∧∃ (o0:Option Addr) (t0:Nat) (g0:List Value),RepL H0 (.int .i64) g0 (ramV2 xd e8 s0 z0)∧StA 53 [(2,pv bs2 0),(5,iv e3.2.2.2.2.1),(6,.slice o0 (ramV2 xd e8 s0 z0).length t0),(7,iv s0)] a∧StW w0 [.own (.slice o0 (ramV2 xd e8 s0 z0).length t0) 3 1 (ramV2 xd e8 s0 z0).length g0,.blk bs2 (.cells (aD xd y0 u0) 24)] H0 W∧ramj26 xd e3 s0 z0 (raml19 xd K e3 k19)) ?_ ?_))
  ·
   refine Ok.block (Ok.q (Ok.mix [] [] [.own (.slice q0 z0.length k0) 3 1 z0.length j0,.blk bs2 (.cells (aD xd y0 u0) 24)] [(0,true),(1,true),(2,true),(3,true),(4,true),(5,true),(7,true),(6,false),(8,true),(9,false),(10,false)] kr kr (.cons_cons _ (.cons_cons _ .slnil)) (OkM.h rfl rfl rfl (OpQ.s (v:=.agg (aD xd y0 u0)) (Yields.loadAgg 1 2 (aD xd y0 u0) rfl rfl underlying24 rfl kr kr kr) rfl rfl (OkM.b 1 [2,5,6,7] [(29,.agg (aD xd y0 u0)),(30,pv bs2 0)] ?_)))))
   refine OkM.h rfl rfl rfl (OpQ.s (v:=.slice y0 xd.1.length u0) (Yields.l 1 rfl rfl underlying22 rfl kr) rfl rfl (OkM.b 1 [2,5,6,7,29] [(31,.slice y0 xd.1.length u0),(32,iv e3.2.2.2.2.1)] ?_))
   refine OkM.h rfl rfl rfl (OpQ.indexRo (e:=yN) rfl rfl underlying22 kr d0 h08 he8 rfl fun q10 o10 cs10 _ M0 c1=>?_)
   obtain ⟨a10_2,c10_2,z1,v1,rfl,hR10_2,N0⟩:=oN c1
   refine OkM.b 2 [2,5,6,7,29] [(34,.pointer (some ⟨q10,o10+5,none⟩)),(36,iv s0)] ?_
   refine OkM.t rfl rfl (OpOk.s (v:=.slice z1 e8.2.2.2.2.2.length v1) (Yields.lr 5 M0 kr underlying46 rfl kr) rfl rfl (OkM.l (i:=6) rfl (Gle.refl _) (.cons_cons _ (.cons_cons _ .slnil)) ?_))
   obtain ⟨K1,h112,hF⟩:=hF
   have e1:=get_of (l:=e8.2.2.2.2.2) default h112
   generalize Y1:(e8.2.2.2.2.2.getD s0.toNat default)=e12 at e1 hF ⊢
   refine OkM.h rfl rfl rfl (OpQ.indexRo (e:=.int .i64) rfl rfl underlying46 kr N0 K1 e1 rfl fun q11 o11 cs11 _ O0 hr11=>?_)
   obtain rfl:=hr11
   replace O0:At a0 q11 o11 [iv e12]:=O0
   refine OkM.t rfl rfl (OpOk.s (v:=iv e12) (Yields.lr 0 O0 kr underlying3 rfl kr) rfl rfl (OkM.l (i:=9) rfl (Gle.refl _) (.cons_cons _ (.cons_cons _ .slnil)) (OkM.t rfl rfl (OpOk.i (args:=#[.agg (aD xd y0 u0),iv e12]) 12 [(0,.agg (aD xd y0 u0)),(1,iv e12)] enr func44 rfl rfl rfl rfl (Ok.sr (Ok.o (OpOk.bx (aD xd y0 u0) fun B0=>?_)))))))
   refine Ok.B 1 [(1,iv e12),(2,pv B0 0)] kr (Ok.nt (Ok.sr (Ok.rn 3 [.e 0] [] [(6,.slice y0 xd.1.length u0),(7,iv e12)] ?_)))
   obtain ⟨h015,h115,hF⟩:=hF
   have U1:=get_of (l:=xd.1) default h115
   generalize J1:(xd.1.getD e12.toNat default)=e15 at U1 hF ⊢
   refine Ok.o (OpOk.indexRo (e:=yN) rfl rfl underlying22 kr d0 h015 U1 rfl fun q14 o14 cs14 _ hat14 hr14=>?_)
   obtain ⟨a14_2,c14_2,a14_5,c14_5,rfl,hR14_2,hR14_5⟩:=oN hr14
   refine Ok.rn 4 [.a 0 hat14] [] [(4,.bool (e15.1==2))] ?_
   refine Ok.nt (Ok.ret (Ok.back (vs:=[.bool (e15.1==2)]) (.inl rfl) rfl (.cons (.tmp rfl) .nil) rfl (OkM.l (i:=10) rfl (Gle.refl _) (.cons _ (.cons_cons _ (.cons_cons _ .slnil))) (OkM.nil (Ok.t (Ok.cn hF rfl (fun W0=>?_) (fun W0=>?_)))))))
   ·replace hF:=hF.1 W0
    refine Ok.r (Ok.rn 4 [.e 2] [] [(2,pv bs2 0),(5,iv e3.2.2.2.2.1),(7,iv s0),(40,.slice q0 z0.length k0),(42,.slice y0 xd.1.length u0),(43,iv e3.2.2.2.2.1)] ?_)
    refine Ok.o (OpOk.indexRo (e:=yN) rfl rfl underlying22 kr d0 h08 he8 rfl fun q17 o17 cs17 _ hat17 hr17=>?_)
    obtain ⟨a17_2,c17_2,a17_5,c17_5,rfl,hR17_2,hR17_5⟩:=oN hr17
    refine Ok.rn 3 [.a 5 hat17] [2,5,7,40] [(46,.slice a17_5 e8.2.2.2.2.2.length c17_5),(47,iv s0)] ?_
    refine Ok.o (OpOk.indexRo (e:=.int .i64) rfl rfl underlying46 kr hR17_5 K1 e1 rfl fun q18 o18 cs18 _ P0 hr18=>?_)
    obtain rfl:=hr18
    replace P0:At a0 q18 o18 [iv e12]:=P0
    refine Ok.o (OpOk.s (v:=iv e12) (Yields.lr 0 P0 kr underlying3 rfl kr) rfl rfl ?_)
    have W1:RepL a0 (.int .i64) ([iv e12]:List Value) ([e12]:List Int):=(RepL.consN (c:=[iv e12]) rfl rfl)
    refine Ok.o (OpOk.lit (E:=3) (.int .i64) ([e12]:List Int) ([iv e12]:List Value) kr kr rfl kr W1 rfl fun b19=>?_)
    obtain ⟨hb20,hF⟩:=hF
    refine Ok.o (OpOk.append' (e:=.int .i64) 8 17592186044416 2 0 rfl rfl rfl rfl i0 W1 underlying46 kr kr kr hb20 rfl fun a20 c20 A0 hL20=>?_)
    refine Ok.b 1 [2,5,7] [(6,.slice a20 (z0++([e12]:List Int)).length c20)] ?_
    refine Ok.j (Ok.kn (Ok.t ?_))
    subst J1
    subst Y1
    refine Ok.v 6 rfl (show (.slice a20 (z0++([e8.2.2.2.2.2.getD s0.toNat default]:List Int)).length c20:Value)=.slice a20 (ramV2 xd e8 s0 z0).length c20 from congrArg (fun l:List Int=>Value.slice a20 l.length c20) ((if_t W0).symm)) ?_
    refine Ok.heapEq (H':=[.own (.slice (some ⟨b19,0,none⟩) ([e8.2.2.2.2.2.getD s0.toNat default]:List Int).length 1) 3 1 ([e8.2.2.2.2.2.getD s0.toNat default]:List Int).length ([iv (e8.2.2.2.2.2.getD s0.toNat default)]:List Value),.blk B0 (.cells (aD xd y0 u0) 24),.own (.slice a20 (ramV2 xd e8 s0 z0).length c20) 3 1 (ramV2 xd e8 s0 z0).length A0,.blk bs2 (.cells (aD xd y0 u0) 24)]) (econs (rfl) (econs (rfl) (econs (congrArg (fun l:List Int=>Ent.own (.slice a20 l.length c20) 3 1 l.length A0) ((if_t W0).symm)) (econs (rfl) rfl)))) ?_
    exact fun _ _ u v=>⟨a0,Gext.r w0 a0,a20,c20,A0,(Eq.mp (congrArg (fun l:List Int=>RepL a0 (.int .i64) A0 l) ((if_t W0).symm)) hL20),fA u v hF⟩
   replace hF:=hF.2 W0
   refine Ok.k (Ok.kn (Ok.t ?_))
   subst J1
   subst Y1
   refine Ok.v 6 rfl (show (.slice q0 z0.length k0:Value)=.slice q0 (ramV2 xd e8 s0 z0).length k0 from congrArg (fun l:List Int=>Value.slice q0 l.length k0) ((if_f W0).symm)) ?_
   refine Ok.heapEq (H':=[.blk B0 (.cells (aD xd y0 u0) 24),.own (.slice q0 (ramV2 xd e8 s0 z0).length k0) 3 1 (ramV2 xd e8 s0 z0).length j0,.blk bs2 (.cells (aD xd y0 u0) 24)]) (econs (rfl) (econs (congrArg (fun l:List Int=>Ent.own (.slice q0 l.length k0) 3 1 l.length j0) ((if_f W0).symm)) (econs (rfl) rfl))) ?_
   exact fun _ _ u v=>⟨a0,Gext.r w0 a0,q0,k0,j0,(Eq.mp (congrArg (fun l:List Int=>RepL a0 (.int .i64) j0 l) ((if_f W0).symm)) i0),fA u v hF⟩
  clear hF
  rintro _ _ ⟨H0,k1,o0,t0,g0,hLyown6_0j26,q⟩
  refine jn (fun hF=>?_) _ _ q
  refine Ok.r (Ok.b 3 [2,5,6] [(7,iv (w6 (s0+1)))] ?_)
  refine Ok.j (Ok.t ?_)
  subst hg8
  exact fun _ _ u v=>⟨k19,nl,H0,K0.trans k1,w6 (s0+1),o0,t0,(ramV2 xd (xd.1.getD (Int.toNat e3.2.2.2.2.1) default) s0 z0),g0,hLyown6_0j26,fA u v hF⟩
 replace hF:=hF.2 hc9
 refine Ok.x (Ok.thenE (Ok.thenE (Ok.blockHit (Ok.t (Ok.sr (Ok.B 2 [(4,.slice q0 z0.length k0)] kr (Ok.nt (Ok.ret ?_))))))))
 exact Ok.p (vs:=[.slice q0 z0.length k0]) [0] [.own (.slice q0 z0.length k0) 3 1 z0.length j0] dc rfl (.inl rfl) rfl (.cons (.tmp rfl) .nil) K0 ⟨z0,q0,k0,j0,rfl,i0,rfl,hF⟩
theorem ram_F (d:DC) (n:Int) (hp:kinP d n):ramF d n (fun r=>r=kinL d n):=by
 obtain ⟨hG,hn⟩:=hp
 refine ⟨hn.1,inNat hn,fun hc=>?_,fun hc=>?_⟩
 ·have hc:decide (par d.1 n.toNat<0)=true:=hc
  unfold kinL; rw [if_t hc]
 have hc:decide (par d.1 n.toNat<0)=false:=hc
 have hp:=par_in hG hn (of_decide_eq_false hc)
 have hr:kinL d n=(kidsOf d.1 (par d.1 n.toNat).toNat).filter (melS d):=by unfold kinL; rw [if_f hc]
 have hkl:=kids_len hG (inNat hp)
 have hin:=fun x hx=>hG.kids.kid (par d.1 n.toNat).toNat (inNat hp) x hx
 generalize kinL d n=r at hr
 have he:(d.1.getD (Int.toNat (d.1.getD n.toNat default).2.2.2.2.1) default).2.2.2.2.2=kidsOf d.1 (par d.1 n.toNat).toNat:=rfl
 have p0:(0:Int)≤(d.1.getD n.toNat default).2.2.2.2.1:=hp.1
 have p1:Int.toNat (d.1.getD n.toNat default).2.2.2.2.1<d.1.length:=inNat hp
 generalize kidsOf d.1 (par d.1 n.toNat).toNat=l at hkl hin hr he
 have loop:∀ (k i:Nat),i+k=l.length→raml19 d (fun a=>a=r) (d.1.getD n.toNat default) (k+1) (i:Int) ((l.take i).filter (melS d)):=by
  intro k
  induction k with
  | zero =>
   intro i h
   rw [raml19]
   unfold raml19b
   rw [he]
   refine ⟨p0,p1,fun hc=>od hc,fun _=>?_⟩
   rw [List.take_of_length_le om,hr]
  | succ k ih =>
   intro i h
   have hx:=hin (l.getD i default) (mem_getD default om)
   have hln:((l.take i).filter (melS d)).length≤200:=Nat.le_trans (List.length_filter_le ..) (by rw [List.length_take]; omega)
   have j26:ramj26 d (d.1.getD n.toNat default) (i:Int) ((l.take i).filter (melS d)) (raml19 d (fun a=>a=r) (d.1.getD n.toNat default) (k+1)):=by
    unfold ramj26 ramV2
    rw [he,tnc,w64 om,show (i:Int)+1=((i+1:Nat):Int) by omega]
    have e:(if ((d.1.getD (Int.toNat (l.getD i default)) default).1==2)=true then ((l.take i).filter (melS d)++[l.getD i default]) else (l.take i).filter (melS d))=(l.take (i+1)).filter (melS d):=by
     rw [take_get default om,List.filter_append]
     cases hm:melS d (l.getD i default) with
     | true =>
      rw [List.filter_cons_of_pos hm,List.filter_nil]
      exact if_t hm
     | false =>
      rw [List.filter_cons_of_neg (by rw [hm]; decide),List.filter_nil,List.append_nil]
      exact if_f hm
    rw [e]
    exact ih (i+1) om
   rw [raml19]
   unfold raml19b
   rw [he]
   refine ⟨p0,p1,fun _=>?_,fun hc=>oe hc⟩
   rw [tnc]
   exact ⟨by omega,by omega,hx.1,by omega,fun _=>⟨by rw [List.length_append,List.length_singleton]; omega,j26⟩,fun _=>j26⟩
 exact ⟨_,loop l.length 0 om⟩
theorem ram_c {g:Ghost} {y0:Option Addr} {u0:Nat} (xd:Dc) (xn:Int) (d0:Rep g yNs [.slice y0 xd.1.length u0] xd.1)  (hp:kinP xd xn):CallsH prog 45 #[.agg (aD xd y0 u0),iv xn] g [] (fun g' H' v=>∃ (ar0:Option Addr) (cr0:Nat) (S0:List Value),v=.slice ar0 (kinL xd xn).length cr0∧RepL g' (.int .i64) S0 (kinL xd xn)∧H'=[.own (.slice ar0 (kinL xd xn).length cr0) 3 1 (kinL xd xn).length S0]) :=
 (ram_ok xd xn d0 _ (ram_F xd xn hp)).mono (by rintro g' H' v _ ⟨r0,ar0,cr0,S0,rfl,hLr0,rfl,hK⟩; subst hK; exact ⟨ar0,cr0,S0,rfl,hLr0,rfl⟩)
def raol9b (xname:Bs) (K:Bs→Bool→Prop) (e3:Nd) (n0:Int) (C9:Int→Prop):Prop :=
 ((decide (n0<(e3.2.2.1.length:Int)))=true→0≤n0∧n0.toNat<e3.2.2.1.length∧(((e3.2.2.1.getD n0.toNat default).1==xname)=true→K (e3.2.2.1.getD n0.toNat default).2 true)∧(((e3.2.2.1.getD n0.toNat default).1==xname)=false→C9 (w6 (n0+1))))∧((decide (n0<(e3.2.2.1.length:Int)))=false→K ([]:Bs) false)
def raol9 (xname:Bs) (K:Bs→Bool→Prop) (e3:Nd):Nat→Int→Prop
 | 0,_=>False
 | k+1,n0=>raol9b xname K e3 n0 (raol9 xname K e3 k)
def raoF (xd:Dc) (xn:Int) (xname:Bs) (K:Bs→Bool→Prop):Prop :=
 0≤xn∧xn.toNat<xd.1.length∧∃ k,raol9 xname K (xd.1.getD xn.toNat default) k 0
theorem rao_ok {g:Ghost} {y0:Option Addr} {u0:Nat} (xd:Dc) (xn:Int) (xname:Bs) (d0:Rep g yNs [.slice y0 xd.1.length u0] xd.1) (K:Bs→Bool→Prop)
  (hF:raoF xd xn xname K):CallsH prog 76 #[.agg (aD xd y0 u0),iv xn,sv xname] g [] (fun g' H' v=>∃ (r0:Bs),∃ (r1:Bool),v=.tuple #[sv r0,.bool r1]∧H'=[]∧K r0 r1):=by
 refine CallsH.en 34 func76 rfl fun w0=>?_
 refine Ok.sr (Ok.o (OpOk.bx (aD xd y0 u0) fun bs3=>?_))
 refine Ok.B 2 [(1,iv xn),(2,sv xname),(3,pv bs3 0)] kr (Ok.nt (Ok.sr (Ok.rn 3 [.e 0] [2] [(11,.slice y0 xd.1.length u0),(12,iv xn)] ?_)))
 obtain ⟨h03,h13,hF⟩:=hF
 have he3:=get_of (l:=xd.1) default h13
 generalize hg3:(xd.1.getD xn.toNat default)=e3 at he3 hF ⊢
 refine Ok.o (OpOk.indexRo (e:=yN) rfl rfl underlying22 kr d0 h03 he3 rfl fun q2 o2 cs2 _ x1 hr2=>?_)
 obtain ⟨E0,F0,a2_5,c2_5,rfl,G0,hR2_5⟩:=oN hr2
 refine Ok.rn 3 [.a 2 x1] [2] [(8,.slice E0 e3.2.2.1.length F0)] ?_
 refine Ok.nt (Ok.q (Ok.sr (Ok.b 1 [2,8] [(9,iv 0)] ?_)))
 refine Ok.nt (Ok.block ?_)
 obtain ⟨k,hF⟩:=hF
 refine Ok.L (fun k a W=>∃ (n0:Int),StA 34 [(2,sv xname),(8,.slice E0 e3.2.2.1.length F0),(9,iv n0)] a∧StW w0 [] g W∧raol9 xname K e3 k n0) k ?_ ?_
 ·
  exact fun _ _ u v=>⟨0,fA u v hF⟩
 clear hF
 rintro (_ | k9) _ _ ⟨n0,q⟩
 exact (q.2.2:False).elim
 refine jn (fun hF=>?_) _ _ q
 refine Ok.q (Ok.sr (Ok.b 4 [2,8,9] [(19,.bool (decide (n0<(e3.2.2.1.length:Int))))] ?_))
 refine Ok.nt (Ok.cw hF (fun hc4 hF=>?_) (fun hc4 hF=>?_))
 ·refine Ok.k (Ok.t (Ok.q (Ok.block (Ok.sr (Ok.b 2 [2,8,9] [(22,.slice E0 e3.2.2.1.length F0),(23,iv n0)] ?_)))))
  obtain ⟨h06,h16,hF⟩:=hF
  have he6:=get_of (l:=e3.2.2.1) default h16
  generalize hg6:(e3.2.2.1.getD n0.toNat default)=e6 at he6 hF ⊢
  refine Ok.o (OpOk.indexRo (e:=.pair (.str) (.str)) rfl rfl underlying45 kr G0 h06 he6 rfl fun q5 o5 cs5 _ f1 hr5=>?_)
  obtain ⟨_,_,rfl,rfl,rfl⟩:=hr5
  replace f1:At g q5 o5 [sv e6.1,sv e6.2]:=f1
  refine Ok.rn 3 [.a 0 f1] [2,8,9] [(26,sv e6.1),(27,sv xname)] ?_
  refine Ok.o (OpOk.s (v:=.bool (e6.1==xname)) (Yields.sc (f:=.eql) (a:=e6.1) (b:=xname) kr kr rfl) rfl rfl (Ok.nt (Ok.cn hF rfl (fun hc7=>?_) (fun hc7=>?_))))
  ·replace hF:=hF.1 hc7
   refine Ok.sr (Ok.B 2 [(29,.slice E0 e3.2.2.1.length F0),(30,iv n0)] kr (Ok.o (OpOk.indexRo (e:=.pair (.str) (.str)) rfl rfl underlying45 kr G0 h06 he6 rfl fun q8 o8 cs8 _ g1 hr8=>?_)))
   obtain ⟨_,_,rfl,rfl,rfl⟩:=hr8
   replace g1:At g q8 o8 [sv e6.1,sv e6.2]:=g1
   refine Ok.rn 4 [.a 1 g1] [] [(6,sv e6.2),(7,.bool true)] ?_
   refine Ok.nt (Ok.ret (Ok.kr (Ok.tr (Ok.tr (Ok.kr (Ok.tr ?_))))))
   exact Ok.resH (vs:=[sv e6.2,.bool true]) (.inl rfl) rfl (.cons (.tmp rfl) (.cons (.tmp rfl) .nil)) (Gext.r w0 g) ⟨e6.2,true,rfl,rfl,hF⟩
  replace hF:=hF.2 hc7
  refine Ok.k (Ok.kn (Ok.t (Ok.r (Ok.b 3 [2,8] [(9,iv (w6 (n0+1)))] ?_))))
  refine Ok.j (Ok.t ?_)
  subst hg6
  exact fun _ _ u v=>⟨k9,nl,w6 (n0+1),fA u v hF⟩
 refine Ok.x (Ok.thenE (Ok.thenE (Ok.blockHit (Ok.t (Ok.sr (Ok.B 2 [(6,sv ([]:Bs)),(7,.bool false)] kr (Ok.nt (Ok.ret ?_))))))))
 exact Ok.resH (vs:=[sv ([]:Bs),.bool false]) (.inl rfl) rfl (.cons (.tmp rfl) (.cons (.tmp rfl) .nil)) (Gext.r w0 g) ⟨([]:Bs),false,rfl,rfl,hF⟩
def raoS (d:DC) (n:Int) (w:Bs):Bs×Bool:=attS (nodeS d n).2.2.1 w
def raoP (d:DC) (n:Int) (_:Bs):Prop:=DGood d∧inD d n
theorem rao_F (d:DC) (n:Int) (w:Bs) (hp:raoP d n w):raoF d n w (fun a b=>(a,b)=raoS d n w):=by
 obtain ⟨hG,hn⟩:=hp
 have hl:(nodeS d n).2.2.1.length≤12:=(good_at hG hn).1
 refine ⟨hn.1,inNat hn,?_⟩
 show ∃ k,raol9 w (fun a b=>(a,b)=raoS d n w) (nodeS d n) k 0
 have hr:raoS d n w=attS (nodeS d n).2.2.1 w:=rfl
 generalize raoS d n w=r at hr
 generalize nodeS d n=x at hl hr
 have loop:∀ (k i:Nat),i+k=x.2.2.1.length→r=attS (x.2.2.1.drop i) w→raol9 w (fun a b=>(a,b)=r) x (k+1) (i:Int):=by
  intro k
  induction k with
  | zero =>
   intro i h h2
   rw [List.drop_of_length_le om,attS] at h2
   exact ⟨fun hc=>od hc,fun _=>h2.symm⟩
  | succ k ih =>
   intro i h h2
   rw [drop_get (l:=x.2.2.1) default om,attS] at h2
   refine ⟨fun _=>?_,fun hc=>oe hc⟩
   rw [tnc]
   refine ⟨by omega,by omega,fun hc=>?_,fun hc=>?_⟩
   ·rw [if_t hc] at h2; exact h2.symm
   rw [if_f hc] at h2
   rw [w64 om]
   exact ih (i+1) om h2
 exact ⟨_,loop x.2.2.1.length 0 om hr⟩
theorem rao_c {g:Ghost} {y0:Option Addr} {u0:Nat} (xd:Dc) (xn:Int) (xname:Bs) (d0:Rep g yNs [.slice y0 xd.1.length u0] xd.1)  (hp:raoP xd xn xname):CallsG prog 76 #[.agg (aD xd y0 u0),iv xn,sv xname] g (.tuple #[sv ((raoS xd xn xname).1),.bool (raoS xd xn xname).2]) :=
 (rao_ok xd xn xname d0 _ (rao_F xd xn xname hp)).gives (by rintro g' H' v _ ⟨r0,r1,rfl,rfl,hK⟩; obtain ⟨rfl,rfl⟩:r0=(raoS xd xn xname).1∧r1=(raoS xd xn xname).2:=⟨congrArg (fun z=>z.1) hK,congrArg (fun z=>z.2) hK⟩; rfl)
def rhwV1 (xs:Bs) (b0:Int):Bool :=
 ((decide (b0<(xs.length:Int)))&&(!(blankM ((xs.getD b0.toNat 0).toNat:Int))))
def rhwV2 (xs:Bs) (xw:Bs) (e0:Int) (b0:Int):Bool :=
 (decide (b0>e0)&&(((xs.take b0.toNat).drop e0.toNat)==xw))
def rhwV3 (xs:Bs) (e0:Int) (b0:Int):Int :=
 (if (rhwV1 xs b0)=true then e0 else w6 (b0+1))
def rhwj16 (xs:Bs) (e0:Int) (b0:Int) (C9:Int→Int→Prop):Prop :=
 C9 (rhwV3 xs e0 b0) (w6 (b0+1))
def rhwj25 (xs:Bs) (xw:Bs) (K:Bool→Prop) (e0:Int) (b0:Int) (C9:Int→Int→Prop):Prop :=
 (rhwV2 xs xw e0 b0=true→K true)∧(rhwV2 xs xw e0 b0=false→rhwj16 xs e0 b0 C9)
def rhwj19 (xs:Bs) (xw:Bs) (K:Bool→Prop) (e0:Int) (b0:Int) (C9:Int→Int→Prop):Prop :=
 (rhwV1 xs b0=true→rhwj16 xs e0 b0 C9)∧(rhwV1 xs b0=false→(decide (b0>e0)=true→0≤e0∧(e0:Int)≤b0∧b0≤(xs.length:Int)∧rhwj25 xs xw K e0 b0 C9)∧(decide (b0>e0)=false→rhwj25 xs xw K e0 b0 C9))
def rhwl9b (xs:Bs) (xw:Bs) (K:Bool→Prop) (e0:Int) (b0:Int) (C9:Int→Int→Prop):Prop :=
 ((decide (b0≤(xs.length:Int)))=true→((decide (b0<(xs.length:Int)))=true→0≤b0∧b0.toNat<xs.length∧rhwj19 xs xw K e0 b0 C9)∧((decide (b0<(xs.length:Int)))=false→rhwj19 xs xw K e0 b0 C9))∧((decide (b0≤(xs.length:Int)))=false→K false)
def rhwl9 (xs:Bs) (xw:Bs) (K:Bool→Prop):Nat→Int→Int→Prop
 | 0,_,_=>False
 | k+1,e0,b0=>rhwl9b xs xw K e0 b0 (rhwl9 xs xw K k)
def rhwF (xs:Bs) (xw:Bs) (K:Bool→Prop):Prop :=
 ∃ k,rhwl9 xs xw K k 0 0
theorem rhw_ok {g:Ghost} (xs:Bs) (xw:Bs) (K:Bool→Prop)
  (hF:rhwF xs xw K):CallsH prog 77 #[sv xs,sv xw] g [] (fun g' H' v=>∃ (r0:Bool),v=.bool r0∧H'=[]∧K r0):=by
 refine CallsH.en 37 func77 rfl fun w0=>?_
 refine Ok.sr (Ok.B 1 [(0,sv xs),(1,sv xw)] kr (Ok.nt (Ok.sr (Ok.b 1 [0,1] [(5,iv 0)] ?_))))
 refine Ok.nt (Ok.q (Ok.sr (Ok.b 1 [0,1,5] [(6,iv 0)] ?_)))
 refine Ok.nt (Ok.block ?_)
 obtain ⟨k,hF⟩:=hF
 refine Ok.L (fun k a W=>∃ (e0:Int) (b0:Int),StA 37 [(0,sv xs),(1,sv xw),(5,iv e0),(6,iv b0)] a∧StW w0 [] g W∧rhwl9 xs xw K k e0 b0) k ?_ ?_
 ·
  exact fun _ _ u v=>⟨0,0,fA u v hF⟩
 clear hF
 rintro (_ | k9) _ _ ⟨e0,b0,q⟩
 exact (q.2.2:False).elim
 refine jn (fun hF=>?_) _ _ q
 refine Ok.q (Ok.sr (Ok.b 4 [0,1,5,6] [(10,.bool (decide (b0≤(xs.length:Int))))] ?_))
 refine Ok.nt (Ok.cw hF (fun hc1 hF=>?_) (fun hc1 hF=>?_))
 ·refine Ok.k (Ok.t (Ok.ct [(0,sv xs),(1,sv xw),(5,iv (rhwV3 xs e0 b0)),(6,iv b0)] [] (rhwj16 xs e0 b0 (rhwl9 xs xw K k9)) ?_ (fun hF=>?_)))
  ·
   refine Ok.block (Ok.q (Ok.ct [(0,sv xs),(1,sv xw),(5,iv e0),(6,iv b0),(23,.bool (rhwV1 xs b0))] [] (rhwj19 xs xw K e0 b0 (rhwl9 xs xw K k9)) ?_ (fun hF=>?_)))
   ·
    refine Ok.r (Ok.b 5 [0,1,5,6] [(17,.bool (decide (b0<(xs.length:Int))))] ?_)
    refine Ok.bw 17 hF (fun hc6 hF=>?_) (fun hc6 hF=>?_)
    ·refine Ok.b 2 [0,1,5,6] [(17,.bool true),(18,sv xs),(19,iv b0)] ?_
     obtain ⟨h07,h17,hF⟩:=hF
     have he7:=get_of (l:=xs) (0:UInt8) h17
     generalize hg7:(xs.getD b0.toNat 0)=e7 at he7 hF ⊢
     refine Ok.oy (OpOk.s (v:=.int .u8 (e7.toNat:Int)) (Yields.ix (k:=.i64) (i:=b0) (s:=xs) (b:=e7) kr kr underlying9 h07 he7) rfl rfl (Ok.rn 3 [.k (blank_c (e7.toNat:Int))] [0,1,5,6] [(23,.bool (!(blankM (e7.toNat:Int))))] ?_))
     refine Ok.j (Ok.t ?_)
     subst hg7
     refine Ok.rb 23 (rhwV1 xs b0) (mand_t hc6) ?_
     exact fz hF
    refine Ok.b 6 [0,1,5,6] [(23,.bool false)] ?_
    refine Ok.nt (Ok.rb 23 (rhwV1 xs b0) (mand_f hc6) ?_)
    exact fz hF
   refine Ok.cw hF (fun hc2 hF=>?_) (fun hc2 hF=>?_)
   ·refine Ok.x (Ok.thenE (Ok.blockHit (Ok.t (Ok.v 5 rfl (show (iv e0:Value)=iv (rhwV3 xs e0 b0) from congrArg (Value.int .i64) ((if_t hc2).symm)) ?_))))
    exact fz hF
   refine Ok.k (Ok.t (Ok.q (Ok.ct [(0,sv xs),(1,sv xw),(6,iv b0),(34,.bool (rhwV2 xs xw e0 b0))] [] (rhwj25 xs xw K e0 b0 (rhwl9 xs xw K k9)) ?_ (fun hF=>?_))))
   ·
    refine Ok.r (Ok.b 4 [0,1,5,6] [(27,.bool (decide (b0>e0)))] ?_)
    refine Ok.bw 27 hF (fun hc4 hF=>?_) (fun hc4 hF=>?_)
    ·refine Ok.b 3 [0,1,6] [(27,.bool true),(28,sv xs),(29,iv e0),(30,iv b0)] ?_
     obtain ⟨h05,h15,h25,hF⟩:=hF
     refine Ok.oy (OpOk.s (Yields.ss (s:=xs) (l:=e0) (h:=b0) kr underlying9 (.inl ⟨_,_,rfl,rfl⟩) (.inl ⟨_,_,rfl,rfl⟩) h05 h15 h25 ((xs.take b0.toNat).drop e0.toNat) rfl) rfl rfl (Ok.rn 3 [] [0,1,6] [(34,.bool (((xs.take b0.toNat).drop e0.toNat)==xw))] ?_))
     refine Ok.nt (Ok.rb 34 (rhwV2 xs xw e0 b0) (mand_t hc4) ?_)
     exact fz hF
    refine Ok.b 7 [0,1,6] [(34,.bool false)] ?_
    refine Ok.nt (Ok.rb 34 (rhwV2 xs xw e0 b0) (mand_f hc4) ?_)
    exact fz hF
   refine Ok.cw hF (fun hc3 hF=>?_) (fun hc3 hF=>?_)
   ·refine Ok.sr (Ok.B 1 [(4,.bool true)] kr (Ok.nt (Ok.ret (Ok.tr (Ok.kr (Ok.tr (Ok.tr (Ok.kr (Ok.tr ?_)))))))))
    exact Ok.pb true hF
   refine Ok.k (Ok.t (Ok.r (Ok.b 3 [0,1,6] [(5,iv (w6 (b0+1)))] ?_)))
   refine Ok.j (Ok.kn (Ok.t (Ok.v 5 rfl (show (iv (w6 (b0+1)):Value)=iv (rhwV3 xs e0 b0) from congrArg (Value.int .i64) ((if_f hc2).symm)) ?_)))
   exact fz hF
  refine Ok.r (Ok.b 3 [0,1,5] [(6,iv (w6 (b0+1)))] ?_)
  refine Ok.j (Ok.t ?_)
  exact fun _ _ u v=>⟨k9,nl,rhwV3 xs e0 b0,w6 (b0+1),fA u v hF⟩
 refine Ok.x (Ok.thenE (Ok.thenE (Ok.blockHit (Ok.t (Ok.sr (Ok.B 1 [(4,.bool false)] kr (Ok.nt (Ok.ret ?_))))))))
 exact Ok.pb false hF
theorem blk_eq (c:UInt8):blankM (c.toNat:Int)=blkR c.toNat:=by
 have:=byte_all (p:=fun c=>blankM (c.toNat:Int)==blkR c.toNat) dk c
 simpa using this
theorem rhw_F (s w:Bs) (hp:hwP s w):rhwF s w (fun r=>r=hwS s w):=by
 have hl:s.length≤1000:=hp
 have hr:hwS s w=(wrdG [] s).any fun x=>w==x:=by rw [← fld_eq]; rfl
 generalize hwS s w=r at hr
 have I0:∀ (f i:Nat),f≤i→i≤s.length→((((s.take i).drop f)==([]:Bs))=true↔f=i):=fun f i h1 h2=>by
  rw [beq_iff_eq,← List.length_eq_zero_iff,List.length_drop,List.length_take]; omega
 have loop:∀ (k f i:Nat),i+k=s.length→f≤i→r=(wrdG ((s.take i).drop f) (s.drop i)).any (fun x=>w==x)→rhwl9 s w (fun a=>a=r) (k+2) (f:Int) (i:Int):=by
  intro k
  induction k with
  | zero =>
   intro f i h hf h2
   have hi:i=s.length:=by omega
   have hV1:rhwV1 s (i:Int)=false:=by unfold rhwV1; rw [decide_eq_false om,Bool.false_and]
   have hV2:rhwV2 s w (f:Int) (i:Int)=r:=by
    rw [h2,List.drop_of_length_le (show s.length≤i by omega),wrdG]
    unfold rhwV2
    rw [tnc,tnc]
    by_cases hfi:f=i
    ·rw [if_pos ((I0 f i hf om).2 hfi),decide_eq_false om]; rfl
    rw [if_neg (fun h=>hfi ((I0 f i hf om).1 h)),decide_eq_true om,Bool.true_and,List.any_cons,List.any_nil,Bool.or_false,Bool.eq_iff_iff,beq_iff_eq,beq_iff_eq]
    exact eq_comm
   have j16:r=false→rhwj16 s (f:Int) (i:Int) (rhwl9 s w (fun a=>a=r) 1):=fun h0=>by
    refine ⟨fun hc=>?_,fun _=>h0.symm⟩
    have:=of_decide_eq_true hc
    rw [w64 om] at this
    omega
   have j25:rhwj25 s w (fun a=>a=r) (f:Int) (i:Int) (rhwl9 s w (fun a=>a=r) 1):=by
    unfold rhwj25
    rw [hV2]
    exact ⟨fun h=>h.symm,fun h=>j16 h⟩
   have j19:rhwj19 s w (fun a=>a=r) (f:Int) (i:Int) (rhwl9 s w (fun a=>a=r) 1):=by
    unfold rhwj19
    rw [hV1]
    exact ⟨(fun h=>by cases h),fun _=>⟨fun _=>⟨by omega,by omega,by omega,j25⟩,fun _=>j25⟩⟩
   exact ⟨fun _=>⟨fun _=>⟨by omega,by rw [tnc]; have:=hi; rename_i hc; have:=of_decide_eq_true hc; omega,j19⟩,fun _=>j19⟩,fun hc=>oe hc⟩
  | succ k ih =>
   intro f i h hf h2
   have hi:i<s.length:=by omega
   have hd:s.drop i=s.getD i 0::s.drop (i+1):=drop_get 0 hi
   have ht:(s.take (i+1)).drop f=(s.take i).drop f++[s.getD i 0]:=by
    rw [take_get 0 hi,List.drop_append_of_le_length (by rw [List.length_take]; omega)]
   rw [hd] at h2
   have hw2:∀ cur,wrdG cur (s.getD i 0::s.drop (i+1))=if blkR (s.getD i 0).toNat=true then (if (cur==[])=true then wrdG [] (s.drop (i+1)) else cur::wrdG [] (s.drop (i+1))) else wrdG (cur++[s.getD i 0]) (s.drop (i+1)):=fun cur=>by rw [wrdG]
   rw [hw2] at h2
   have hV1:rhwV1 s (i:Int) = !(blkR (s.getD i 0).toNat):=by
    unfold rhwV1; rw [decide_eq_true om,Bool.true_and,tnc,blk_eq]
   have hV2:rhwV2 s w (f:Int) (i:Int)=(decide ((i:Int)>(f:Int))&&(((s.take i).drop f)==w)):=by
    unfold rhwV2; rw [tnc,tnc]
   have j16:∀ g:Nat,g≤i+1→rhwV3 s (f:Int) (i:Int)=(g:Int)→r=(wrdG ((s.take (i+1)).drop g) (s.drop (i+1))).any (fun x=>w==x)→rhwj16 s (f:Int) (i:Int) (rhwl9 s w (fun a=>a=r) (k+2)):=fun g hg h3 h4=>by
    unfold rhwj16
    rw [h3,w64 om,show (i:Int)+1=((i+1:Nat):Int) by omega]
    exact ih g (i+1) om hg h4
   have j19:rhwj19 s w (fun a=>a=r) (f:Int) (i:Int) (rhwl9 s w (fun a=>a=r) (k+2)):=by
    unfold rhwj19
    rw [hV1]
    refine ⟨fun hc=>?_,fun hc=>?_⟩
    ·have hb:blkR (s.getD i 0).toNat=false:=by rw [Bool.not_eq_true'] at hc; exact hc
     rw [if_neg (by rw [hb]; decide),← ht] at h2
     exact j16 f om (by unfold rhwV3; rw [hV1,if_t hc]) h2
    have hb:blkR (s.getD i 0).toNat=true:=by rw [Bool.not_eq_false'] at hc; exact hc
    rw [if_pos hb] at h2
    have hnew:(s.take (i+1)).drop (i+1)=[]:=List.drop_of_length_le (by rw [List.length_take]; omega)
    have hV3:rhwV3 s (f:Int) (i:Int)=((i+1:Nat):Int):=by unfold rhwV3; rw [hV1,if_f hc,w64 om]; omega
    have j25:rhwj25 s w (fun a=>a=r) (f:Int) (i:Int) (rhwl9 s w (fun a=>a=r) (k+2)):=by
     unfold rhwj25
     rw [hV2]
     by_cases hfi:f=i
     ·rw [if_pos ((I0 f i hf om).2 hfi)] at h2
      rw [decide_eq_false om,Bool.false_and]
      exact ⟨(fun h=>by cases h),fun _=>j16 (i+1) om hV3 (by rw [hnew]; exact h2)⟩
     rw [if_neg (fun h=>hfi ((I0 f i hf om).1 h)),List.any_cons] at h2
     rw [decide_eq_true om,Bool.true_and]
     refine ⟨fun hh=>?_,fun hh=>j16 (i+1) om hV3 ?_⟩
     ·rw [h2,eq_of_beq hh,beq_self_eq_true,Bool.true_or]
     rw [hnew,h2]
     have:(w==(s.take i).drop f)=false:=by
      rw [beq_eq_false_iff_ne] at hh ⊢
      exact fun e=>hh e.symm
     rw [this,Bool.false_or]
    exact ⟨fun _=>⟨by omega,by omega,by omega,j25⟩,fun _=>j25⟩
   exact ⟨fun _=>⟨fun _=>⟨by omega,by rw [tnc]; omega,j19⟩,fun _=>j19⟩,fun hc=>oe hc⟩
 exact ⟨_,loop s.length 0 0 om (Nat.le_refl _) (by rw [List.take_zero,List.drop_nil,List.drop_zero]; exact hr)⟩
theorem rhw_c {g:Ghost} (xs:Bs) (xw:Bs)  (hp:hwP xs xw):CallsG prog 77 #[sv xs,sv xw] g (.bool (hwS xs xw)) :=
 (rhw_ok xs xw _ (rhw_F xs xw hp)).gv
def rinV1 (xs:Bs) (xw:Bs) (c0:Int):Bool :=
 (decide (c0≥0)&&(((xs.take (Int.toNat (w6 (c0+(xw.length:Int))))).drop c0.toNat)==xw))
def rinj16 (xs:Bs) (xw:Bs) (K:Bool→Prop) (c0:Int) (C7:Int→Prop):Prop :=
 (rinV1 xs xw c0=true→K true)∧(rinV1 xs xw c0=false→C7 (w6 (c0+1)))
def rinl7b (xs:Bs) (xw:Bs) (xto:Int) (K:Bool→Prop) (c0:Int) (C7:Int→Prop):Prop :=
 ((decide (c0≤xto)&&(decide ((w6 (c0+(xw.length:Int)))≤(xs.length:Int))))=true→(decide (c0≥0)=true→0≤c0∧(c0:Int)≤(w6 (c0+(xw.length:Int)))∧(w6 (c0+(xw.length:Int)))≤(xs.length:Int)∧rinj16 xs xw K c0 C7)∧(decide (c0≥0)=false→rinj16 xs xw K c0 C7))∧((decide (c0≤xto)&&(decide ((w6 (c0+(xw.length:Int)))≤(xs.length:Int))))=false→K false)
def rinl7 (xs:Bs) (xw:Bs) (xto:Int) (K:Bool→Prop):Nat→Int→Prop
 | 0,_=>False
 | k+1,c0=>rinl7b xs xw xto K c0 (rinl7 xs xw xto K k)
def rinF (xs:Bs) (xw:Bs) (xfrom:Int) (xto:Int) (K:Bool→Prop):Prop :=
 ∃ k,rinl7 xs xw xto K k xfrom
theorem rin_ok {g:Ghost} (xs:Bs) (xw:Bs) (xfrom:Int) (xto:Int) (K:Bool→Prop)
  (hF:rinF xs xw xfrom xto K):CallsH prog 122 #[sv xs,sv xw,iv xfrom,iv xto] g [] (fun g' H' v=>∃ (r0:Bool),v=.bool r0∧H'=[]∧K r0):=by
 refine CallsH.en 38 func122 rfl fun w0=>?_
 refine Ok.sr (Ok.B 1 [(0,sv xs),(1,sv xw),(2,iv xfrom),(3,iv xto)] kr (Ok.nt (Ok.q (Ok.sr (Ok.b 2 [0,1,3] [(9,iv xfrom)] ?_)))))
 refine Ok.nt (Ok.block ?_)
 obtain ⟨k,hF⟩:=hF
 refine Ok.L (fun k a W=>∃ (c0:Int),StA 38 [(0,sv xs),(1,sv xw),(3,iv xto),(9,iv c0)] a∧StW w0 [] g W∧rinl7 xs xw xto K k c0) k ?_ ?_
 ·
  exact fun _ _ u v=>⟨xfrom,fA u v hF⟩
 clear hF
 rintro (_ | k7) _ _ ⟨c0,q⟩
 exact (q.2.2:False).elim
 refine jn (fun hF=>?_) _ _ q
 refine Ok.q (Ok.sr (Ok.b 4 [0,1,3,9] [(14,.bool (decide (c0≤xto)))] ?_))
 refine Ok.w 8 [(0,sv xs),(1,sv xw),(3,iv xto),(9,iv c0),(22,.bool (decide (c0≤xto)&&(decide ((w6 (c0+(xw.length:Int)))≤(xs.length:Int)))))] (fun hR1=>?_) ?_
 ·refine Ok.a 14 (decide (c0≤xto)) rfl (fun hc2=>?_) (fun hc2=>?_)
  ·skip
   refine Ok.b 8 [0,1,3,9] [(22,.bool (decide ((w6 (c0+(xw.length:Int)))≤(xs.length:Int))))] ?_
   refine Ok.rb 22 (decide (c0≤xto)&&(decide ((w6 (c0+(xw.length:Int)))≤(xs.length:Int)))) (mand_t hc2) (Ok.b 0 [0,1,3,9] [(22,.bool (decide (c0≤xto)&&(decide ((w6 (c0+(xw.length:Int)))≤(xs.length:Int)))))] ?_)
   exact hR1
  skip
  refine Ok.b 8 [0,1,3,9] [(22,.bool false)] ?_
  refine Ok.rb 22 (decide (c0≤xto)&&(decide ((w6 (c0+(xw.length:Int)))≤(xs.length:Int)))) (mand_f hc2) (Ok.b 0 [0,1,3,9] [(22,.bool (decide (c0≤xto)&&(decide ((w6 (c0+(xw.length:Int)))≤(xs.length:Int)))))] ?_)
  exact hR1
 refine Ok.nt (Ok.cw hF (fun hc3 hF=>?_) (fun hc3 hF=>?_))
 ·refine Ok.k (Ok.t (Ok.q (Ok.block (Ok.ct [(0,sv xs),(1,sv xw),(3,iv xto),(9,iv c0),(37,.bool (rinV1 xs xw c0))] [] (rinj16 xs xw K c0 (rinl7 xs xw xto K k7)) ?_ (fun hF=>?_)))))
  ·
   refine Ok.r (Ok.b 3 [0,1,3,9] [(27,.bool (decide (c0≥0)))] ?_)
   refine Ok.bw 27 hF (fun hc5 hF=>?_) (fun hc5 hF=>?_)
   ·refine Ok.b 6 [0,1,3,9] [(27,.bool true),(28,sv xs),(29,iv c0),(33,iv (w6 (c0+(xw.length:Int))))] ?_
    obtain ⟨h06,h16,h26,hF⟩:=hF
    refine Ok.oy (OpOk.s (Yields.ss (s:=xs) (l:=c0) (h:=(w6 (c0+(xw.length:Int)))) kr underlying9 (.inl ⟨_,_,rfl,rfl⟩) (.inl ⟨_,_,rfl,rfl⟩) h06 h16 h26 ((xs.take (Int.toNat (w6 (c0+(xw.length:Int))))).drop c0.toNat) rfl) rfl rfl (Ok.rn 3 [] [0,1,3,9] [(37,.bool (((xs.take (Int.toNat (w6 (c0+(xw.length:Int))))).drop c0.toNat)==xw))] ?_))
    refine Ok.nt (Ok.rb 37 (rinV1 xs xw c0) (mand_t hc5) ?_)
    exact fz hF
   refine Ok.b 10 [0,1,3,9] [(37,.bool false)] ?_
   refine Ok.nt (Ok.rb 37 (rinV1 xs xw c0) (mand_f hc5) ?_)
   exact fz hF
  refine Ok.cw hF (fun hc4 hF=>?_) (fun hc4 hF=>?_)
  ·refine Ok.sr (Ok.B 1 [(8,.bool true)] kr (Ok.nt (Ok.ret (Ok.kr (Ok.tr (Ok.tr (Ok.kr (Ok.tr ?_))))))))
   exact Ok.pb true hF
  refine Ok.k (Ok.kn (Ok.t (Ok.r (Ok.b 3 [0,1,3] [(9,iv (w6 (c0+1)))] ?_))))
  refine Ok.j (Ok.t ?_)
  exact fun _ _ u v=>⟨k7,nl,w6 (c0+1),fA u v hF⟩
 refine Ok.x (Ok.thenE (Ok.thenE (Ok.blockHit (Ok.t (Ok.sr (Ok.B 1 [(8,.bool false)] kr (Ok.nt (Ok.ret ?_))))))))
 exact Ok.pb false hF
def rinN (s w:Bs) (b:Int):Nat→Int→Bool
 | 0,_=>false
 | k+1,i=>if (decide (i≤b)&&decide (i+(w.length:Int)≤(s.length:Int)))=true then (if (decide (i≥0)&&((s.drop i.toNat).take w.length==w))=true then true else rinN s w b k (i+1)) else false
def rinS (s w:Bs) (a b:Int):Bool:=rinN s w b (s.length+2) a
def rinP (s w:Bs) (a b:Int):Prop:=s.length≤1000∧w.length≤4000000∧0≤a+(w.length:Int)∧a≤1000∧b≤1000
theorem rin_F (s w:Bs) (a b:Int) (hp:rinP s w a b):rinF s w a b (fun r=>r=rinS s w a b):=by
 obtain ⟨h1,h2,h3,h4,h5⟩:=hp
 have hr:rinS s w a b=rinN s w b (s.length+2) a:=rfl
 generalize rinS s w a b=r at hr
 have loop:∀ (k:Nat) (i:Int),0≤i+(w.length:Int)→i≤1001→(s.length:Int)+1≤i+(w.length:Int)+k→r=rinN s w b (k+1) i→rinl7 s w b (fun a=>a=r) (k+1) i:=by
  intro k
  induction k with
  | zero =>
   intro i q1 q2 q3 q4
   refine ⟨fun hc=>?_,fun hc=>?_⟩
   ·rw [w64 om,Bool.and_eq_true] at hc
    have:=of_decide_eq_true hc.2
    omega
   rw [w64 om] at hc
   rw [rinN,if_f hc] at q4
   exact q4.symm
  | succ k ih =>
   intro i q1 q2 q3 q4
   rw [rinN] at q4
   refine ⟨fun hc=>?_,fun hc=>?_⟩
   ·rw [w64 om] at hc
    rw [if_t hc] at q4
    rw [Bool.and_eq_true] at hc
    have hc1:=of_decide_eq_true hc.1
    have hc2:=of_decide_eq_true hc.2
    have hV:rinV1 s w i=(decide (i≥0)&&((s.drop i.toNat).take w.length==w)):=by
     unfold rinV1
     by_cases hi:i≥0
     ·rw [w64 om,List.drop_take,show Int.toNat (i+(w.length:Int)) - i.toNat=w.length by omega]
     rw [decide_eq_false hi,Bool.false_and,Bool.false_and]
    have j16:rinj16 s w (fun a=>a=r) i (rinl7 s w b (fun a=>a=r) (k+1)):=by
     unfold rinj16
     rw [hV]
     refine ⟨fun h=>?_,fun h=>?_⟩
     ·rw [if_t h] at q4; exact q4.symm
     rw [if_f h] at q4
     rw [w64 om]
     exact ih (i+1) om om om q4
    rw [w64 om]
    refine ⟨fun hi=>⟨of_decide_eq_true hi,od hi,hc2,j16⟩,fun _=>j16⟩
   rw [w64 om] at hc
   rw [if_f hc] at q4
   exact q4.symm
 exact ⟨_,loop (s.length+1) a h3 om om hr⟩
theorem rin_c {g:Ghost} (xs:Bs) (xw:Bs) (xfrom:Int) (xto:Int)  (hp:rinP xs xw xfrom xto):CallsG prog 122 #[sv xs,sv xw,iv xfrom,iv xto] g (.bool (rinS xs xw xfrom xto)) :=
 (rin_ok xs xw xfrom xto _ (rin_F xs xw xfrom xto hp)).gv
theorem rin_pre (s w:Bs):rinS s w 0 0=preB s w:=by
 unfold rinS preB
 rw [rinN]
 by_cases h:w.length≤s.length
 ·rw [if_pos (by rw [Bool.and_eq_true]; exact ⟨by decide,decide_eq_true om⟩)]
  rw [show (0:Int).toNat=0 from rfl,List.drop_zero]
  rw [decide_eq_true (show (0:Int)≥0 from Int.le_refl _),Bool.true_and,decide_eq_true (show (s.length:Int)≥(w.length:Int) by omega),Bool.true_and]
  cases hc:(s.take w.length==w) with
  | true=>rfl
  | false=>rw [if_neg dc,rinN,if_neg (by simp)]
 rw [if_neg (by rw [Bool.and_eq_true]; intro h2; have:=of_decide_eq_true h2.2; omega),decide_eq_false om,Bool.false_and]
theorem rin_suf (s w:Bs):rinS s w ((s.length:Int) - (w.length:Int)) (s.length:Int)=sufB s w:=by
 unfold rinS sufB
 rw [rinN,if_pos (by rw [Bool.and_eq_true]; exact ⟨decide_eq_true om,decide_eq_true om⟩)]
 have last:rinN s w (s.length:Int) (s.length+1) ((s.length:Int) - (w.length:Int)+1)=false:=by
  rw [rinN,if_neg (by rw [Bool.and_eq_true]; intro h2; have:=of_decide_eq_true h2.2; omega)]
 rw [last]
 by_cases h:w.length≤s.length
 ·rw [decide_eq_true (show (s.length:Int) - (w.length:Int)≥0 by omega),decide_eq_true (show (s.length:Int)≥(w.length:Int) by omega),Bool.true_and,Bool.true_and]
  rw [show ((s.length:Int) - (w.length:Int)).toNat=s.length - w.length by omega,List.take_of_length_le (by rw [List.length_drop]; omega)]
  cases (s.drop (s.length - w.length)==w) <;> rfl
 rw [decide_eq_false (show ¬ (s.length:Int) - (w.length:Int)≥0 by omega),decide_eq_false (show ¬ (s.length:Int)≥(w.length:Int) by omega)]; rfl
theorem occ_eq (s w:Bs) (i:Nat):Lib.occAt s w i=((s.drop i).take w.length==w):=by
 unfold Lib.occAt
 rw [Bool.eq_iff_iff,List.isPrefixOf_iff_prefix,beq_iff_eq,List.prefix_iff_eq_take]
 exact eq_comm
theorem rin_idx (s w:Bs):rinS s w 0 (s.length:Int)=decide (idxS s w≥0):=by
 have key:∀ (k i:Nat),(s.length:Int)+1≤(i:Int)+k→Lib.NoOcc s w i→rinN s w (s.length:Int) (k+1) (i:Int)=decide (idxS s w≥0):=by
  have stop:∀ i:Nat,Lib.NoOcc s w i→¬ ((i:Int)+(w.length:Int)≤(s.length:Int))→decide (idxS s w≥0)=false:=fun i hN h=>by
   rw [decide_eq_false_iff_not]
   intro hi
   unfold idxS at hi
   rcases Lib.index_spec s w with ⟨he,-⟩ | ⟨j,he,hj,ho,-⟩
   ·rw [he] at hi; exact absurd hi dc
   have hroom:=Lib.index_room s w hi
   rw [he] at hroom
   rw [hN j om] at ho
   cases ho
  intro k
  induction k with
  | zero =>
   intro i h hN
   rw [rinN,if_neg (by rw [Bool.and_eq_true]; intro h2; have:=of_decide_eq_true h2.1; omega)]
   exact (stop i hN om).symm
  | succ k ih =>
   intro i h hN
   rw [rinN]
   by_cases hc:(i:Int)+(w.length:Int)≤(s.length:Int)
   ·rw [if_pos (by rw [Bool.and_eq_true]; exact ⟨decide_eq_true om,decide_eq_true hc⟩),tnc,decide_eq_true (show (i:Int)≥0 by omega),Bool.true_and,← occ_eq]
    cases ho:Lib.occAt s w i with
    | true =>
     rw [if_pos rfl]
     have:=Lib.index_hit hN om ho
     unfold idxS
     rw [this,decide_eq_true om]
    | false =>
     rw [if_neg dc]
     refine ih (i+1) om fun j hj=>?_
     by_cases hji:j<i
     ·exact hN j hji
     obtain rfl:j=i:=by omega
     exact ho
   rw [if_neg (by rw [Bool.and_eq_true]; intro h2; exact hc (of_decide_eq_true h2.2))]
   exact (stop i hN hc).symm
 exact key (s.length+1) 0 om (Lib.NoOcc.zero s w)
def rafV0 (xv:Bs) (xt:TS):Bool :=
 ((xv==xt.lab.2.2.2.1)||(rinS xv (xt.lab.2.2.2.1++([45]:Bs)) 0 0))
def rafj15 (xv:Bs) (xt:TS) (K:Bool→Prop):Prop :=
 K (rafV0 xv xt)
def rafF (xv:Bs) (xt:TS) (K:Bool→Prop):Prop :=
 ((xt.lab.2.2.1==61)=true→K (xv==xt.lab.2.2.2.1))∧((xt.lab.2.2.1==61)=false→((xt.lab.2.2.1==124)=true→((xv==xt.lab.2.2.2.1)=true→rafj15 xv xt K)∧((xv==xt.lab.2.2.2.1)=false→xt.lab.2.2.2.1.length+([45]:Bs).length≤maxLen∧rinP xv (xt.lab.2.2.2.1++([45]:Bs)) 0 0∧rafj15 xv xt K))∧((xt.lab.2.2.1==124)=false→((xt.lab.2.2.2.1==([]:Bs))=true→K false)∧((xt.lab.2.2.2.1==([]:Bs))=false→((xt.lab.2.2.1==126)=true→hwP xv xt.lab.2.2.2.1∧K (hwS xv xt.lab.2.2.2.1))∧((xt.lab.2.2.1==126)=false→((xt.lab.2.2.1==94)=true→rinP xv xt.lab.2.2.2.1 0 0∧K (rinS xv xt.lab.2.2.2.1 0 0))∧((xt.lab.2.2.1==94)=false→((xt.lab.2.2.1==36)=true→rinP xv xt.lab.2.2.2.1 (w6 ((xv.length:Int) - (xt.lab.2.2.2.1.length:Int))) (xv.length:Int)∧K (rinS xv xt.lab.2.2.2.1 (w6 ((xv.length:Int) - (xt.lab.2.2.2.1.length:Int))) (xv.length:Int)))∧((xt.lab.2.2.1==36)=false→rinP xv xt.lab.2.2.2.1 0 (xv.length:Int)∧K (rinS xv xt.lab.2.2.2.1 0 (xv.length:Int))))))))
theorem raf_ok {g:Ghost} (xv:Bs) {Y0:Option Addr} {U0:Nat} (xt:TS) (T0:Rep g (.slice yP) [.slice Y0 xt.kids.length U0] xt.kids) (K:Bool→Prop)
  (hF:rafF xv xt K):CallsH prog 78 #[sv xv,.agg (aL xt.lab Y0 xt.kids.length U0)] g [] (fun g' H' v=>∃ (r0:Bool),v=.bool r0∧H'=[]∧K r0):=by
 refine CallsH.en 64 func78 rfl fun w0=>?_
 refine Ok.sr (Ok.o (OpOk.bx (aL xt.lab Y0 xt.kids.length U0) fun bs3=>?_))
 refine Ok.B 1 [(0,sv xv),(3,pv bs3 0)] kr (Ok.nt (Ok.q (Ok.sr (Ok.rn 3 [.e 0] [0,3] [(7,.bool (xt.lab.2.2.1==61))] ?_))))
 refine Ok.nt (Ok.cw hF (fun hc2 hF=>?_) (fun hc2 hF=>?_))
 ·refine Ok.sr (Ok.rn 5 [.e 0] [] [(4,.bool (xv==xt.lab.2.2.2.1))] ?_)
  refine Ok.nt (Ok.ret (Ok.tr ?_))
  exact Ok.pb (xv==xt.lab.2.2.2.1) hF
 refine Ok.k (Ok.t (Ok.q (Ok.sr (Ok.rn 3 [.e 0] [0,3] [(14,.bool (xt.lab.2.2.1==124))] ?_))))
 refine Ok.nt (Ok.cw hF (fun hc3 hF=>?_) (fun hc3 hF=>?_))
 ·refine Ok.ct [(4,.bool (rafV0 xv xt))] [] (rafj15 xv xt K) ?_ (fun hF=>?_)
  ·
   refine Ok.r (Ok.rn 5 [.e 0] [0,3] [(19,.bool (xv==xt.lab.2.2.2.1))] ?_)
   refine Ok.bw 19 hF (fun hc4 hF=>?_) (fun hc4 hF=>?_)
   ·refine Ok.B 7 [(4,.bool true)] kr (Ok.nt (Ok.rb 4 (rafV0 xv xt) (mor_t hc4) ?_))
    exact fz hF
   refine Ok.B 2 [(19,.bool false),(20,sv xv),(21,pv bs3 3)] kr (Ok.oy (OpOk.s (v:=sv xt.lab.2.2.2.1) (Yields.l 0 rfl rfl underlying9 rfl kr) rfl rfl ?_))
   obtain ⟨hv,hF⟩:=hF
   refine Ok.oy (OpOk.s (v:=sv (xt.lab.2.2.2.1++([45]:Bs))) (Yields.sa rfl rfl hv) rfl rfl ?_)
   obtain ⟨hp5,hF⟩:=hF
   refine Ok.rn 3 [.k (rin_c xv (xt.lab.2.2.2.1++([45]:Bs)) 0 0 hp5)] [] [(4,.bool (rinS xv (xt.lab.2.2.2.1++([45]:Bs)) 0 0))] ?_
   refine Ok.nt (Ok.rb 4 (rafV0 xv xt) (mor_f hc4) ?_)
   exact fz hF
  refine Ok.ret (Ok.tr ?_)
  exact Ok.pb (rafV0 xv xt) hF
 refine Ok.k (Ok.t (Ok.q (Ok.sr (Ok.b 1 [0,3] [(26,pv bs3 3)] ?_))))
 refine Ok.o (OpOk.s (v:=sv xt.lab.2.2.2.1) (Yields.l 0 rfl rfl underlying9 rfl kr) rfl rfl (Ok.o (OpOk.s (v:=.bool (xt.lab.2.2.2.1==([]:Bs))) (Yields.sc (f:=.eql) (a:=xt.lab.2.2.2.1) (b:=([]:Bs)) kr kr rfl) rfl rfl (Ok.nt (Ok.cw hF (fun hc6 hF=>?_) (fun hc6 hF=>?_))))))
 ·refine Ok.sr (Ok.B 1 [(4,.bool false)] kr (Ok.nt (Ok.ret (Ok.tr ?_))))
  exact Ok.pb false hF
 refine Ok.k (Ok.t (Ok.q (Ok.sr (Ok.rn 3 [.e 0] [0,3] [(31,.bool (xt.lab.2.2.1==126))] ?_))))
 refine Ok.nt (Ok.cw hF (fun hc7 hF=>?_) (fun hc7 hF=>?_))
 ·refine Ok.q (Ok.r ?_)
  obtain ⟨hp8,hF⟩:=hF
  refine Ok.rn 5 [.e 0,.k (rhw_c xv xt.lab.2.2.2.1 hp8)] [] [(4,.bool (hwS xv xt.lab.2.2.2.1))] ?_
  refine Ok.nt (Ok.ret (Ok.tr ?_))
  exact Ok.pb (hwS xv xt.lab.2.2.2.1) hF
 refine Ok.k (Ok.t (Ok.q (Ok.sr (Ok.rn 3 [.e 0] [0,3] [(38,.bool (xt.lab.2.2.1==94))] ?_))))
 refine Ok.nt (Ok.cw hF (fun hc9 hF=>?_) (fun hc9 hF=>?_))
 ·refine Ok.q (Ok.r ?_)
  obtain ⟨hp10,hF⟩:=hF
  refine Ok.rn 5 [.e 0,.k (rin_c xv xt.lab.2.2.2.1 0 0 hp10)] [] [(4,.bool (rinS xv xt.lab.2.2.2.1 0 0))] ?_
  refine Ok.nt (Ok.ret (Ok.tr ?_))
  exact Ok.pb (rinS xv xt.lab.2.2.2.1 0 0) hF
 refine Ok.k (Ok.t (Ok.q (Ok.sr (Ok.rn 3 [.e 0] [0,3] [(45,.bool (xt.lab.2.2.1==36))] ?_))))
 refine Ok.nt (Ok.cw hF (fun j1 hF=>?_) (fun j1 hF=>?_))
 ·refine Ok.q (Ok.r ?_)
  obtain ⟨m1,hF⟩:=hF
  refine Ok.rn 13 [.e 0,.e 0,.k (rin_c xv xt.lab.2.2.2.1 (w6 ((xv.length:Int) - (xt.lab.2.2.2.1.length:Int))) (xv.length:Int) m1)] [] [(4,.bool (rinS xv xt.lab.2.2.2.1 (w6 ((xv.length:Int) - (xt.lab.2.2.2.1.length:Int))) (xv.length:Int)))] ?_
  refine Ok.nt (Ok.ret (Ok.tr ?_))
  exact Ok.pb (rinS xv xt.lab.2.2.2.1 (w6 ((xv.length:Int) - (xt.lab.2.2.2.1.length:Int))) (xv.length:Int)) hF
 refine Ok.k (Ok.t (Ok.q (Ok.r ?_)))
 obtain ⟨hp13,hF⟩:=hF
 refine Ok.rn 7 [.e 0,.k (rin_c xv xt.lab.2.2.2.1 0 (xv.length:Int) hp13)] [] [(4,.bool (rinS xv xt.lab.2.2.2.1 0 (xv.length:Int)))] ?_
 refine Ok.nt (Ok.ret ?_)
 exact Ok.pb (rinS xv xt.lab.2.2.2.1 0 (xv.length:Int)) hF
def rafS (v:Bs) (t:Ts):Bool:=aftB v t.lab
def rafP (v:Bs) (t:Ts):Prop:=v.length≤400∧t.lab.2.2.2.1.length≤2000000
theorem raf_F (v:Bs) (t:Ts) (hp:rafP v t):rafF v t (fun r=>r=rafS v t):=by
 obtain ⟨h1,h2⟩:=hp
 have hr:rafS v t=aftB v t.lab:=rfl
 generalize rafS v t=r at hr
 unfold aftB at hr
 have hw:w6 ((v.length:Int) - (t.lab.2.2.2.1.length:Int))=(v.length:Int) - (t.lab.2.2.2.1.length:Int):=w64 om
 unfold rafF rafj15 rafV0
 rw [hw,rin_pre,rin_pre,rin_suf,rin_idx]
 have hlen:((t.lab.2.2.2.1++([45]:Bs)).length:Int)=(t.lab.2.2.2.1.length:Int)+1:=by rw [List.length_append]; rfl
 refine ⟨fun q1=>?_,fun q1=>⟨fun q2=>⟨fun _=>?_,fun _=>⟨?_,⟨by omega,by omega,by omega,by omega,by omega⟩,?_⟩⟩,fun q2=>⟨fun q3=>?_,fun q3=>⟨fun q4=>⟨?_,?_⟩,fun q4=>⟨fun q5=>⟨⟨by omega,by omega,by omega,by omega,by omega⟩,?_⟩,fun q5=>⟨fun q6=>⟨⟨by omega,by omega,by omega,by omega,by omega⟩,?_⟩,fun q6=>⟨⟨by omega,by omega,by omega,by omega,by omega⟩,?_⟩⟩⟩⟩⟩⟩⟩
 ·rw [if_t q1] at hr; exact hr.symm
 ·rw [if_f q1,if_t q2] at hr; exact hr.symm
 ·show t.lab.2.2.2.1.length+1≤maxLen
  have:(2000001:Nat)≤maxLen:=by decide
  omega
 ·rw [if_f q1,if_t q2] at hr; exact hr.symm
 ·rw [if_f q1,if_f q2,if_t q3] at hr; exact hr.symm
 ·show v.length≤1000; omega
 ·rw [if_f q1,if_f q2,if_f q3,if_t q4] at hr; exact hr.symm
 ·rw [if_f q1,if_f q2,if_f q3,if_f q4,if_t q5] at hr; exact hr.symm
 ·rw [if_f q1,if_f q2,if_f q3,if_f q4,if_f q5,if_t q6] at hr; exact hr.symm
 rw [if_f q1,if_f q2,if_f q3,if_f q4,if_f q5,if_f q6] at hr; exact hr.symm
theorem raf_c {g:Ghost} (xv:Bs) {Y0:Option Addr} {U0:Nat} (xt:TS) (T0:Rep g (.slice yP) [.slice Y0 xt.kids.length U0] xt.kids)  (hp:rafP xv xt):CallsG prog 78 #[sv xv,.agg (aL xt.lab Y0 xt.kids.length U0)] g (.bool (rafS xv xt)) :=
 (raf_ok xv xt T0 _ (raf_F xv xt hp)).gv
def rstl19b (xd:Dc) (xa:Int) (K:Bool→Prop) (f0:Int) (C19:Int→Prop):Prop :=
 (decide (f0≥0)=true→((f0==xa)=true→K true)∧((f0==xa)=false→0≤f0∧f0.toNat<xd.1.length∧C19 (xd.1.getD f0.toNat default).2.2.2.2.1))∧(decide (f0≥0)=false→K false)
def rstl19 (xd:Dc) (xa:Int) (K:Bool→Prop):Nat→Int→Prop
 | 0,_=>False
 | k+1,f0=>rstl19b xd xa K f0 (rstl19 xd xa K k)
def rstj53 (v0:Int) (C46:Int→Prop):Prop :=
 C46 (w6 (v0+1))
def rstl64b (xd:Dc) (xb:Int) (xjoin:Int) (K:Bool→Prop) (v0:Int) (C46:Int→Prop) (x0:Int) (C64:Int→Prop):Prop :=
 ((decide (x0<((kinL xd xb).length:Int)))=true→0≤x0∧x0.toNat<(kinL xd xb).length∧(((((kinL xd xb).getD x0.toNat default)==xb)&&((xjoin==126)||(x0==w6 (v0+1))))=true→K true)∧(((((kinL xd xb).getD x0.toNat default)==xb)&&((xjoin==126)||(x0==w6 (v0+1))))=false→C64 (w6 (x0+1))))∧((decide (x0<((kinL xd xb).length:Int)))=false→rstj53 v0 C46)
def rstl64 (xd:Dc) (xb:Int) (xjoin:Int) (K:Bool→Prop) (v0:Int) (C46:Int→Prop):Nat→Int→Prop
 | 0,_=>False
 | k+1,x0=>rstl64b xd xb xjoin K v0 C46 x0 (rstl64 xd xb xjoin K v0 C46 k)
def rstl46b (xd:Dc) (xa:Int) (xb:Int) (xjoin:Int) (K:Bool→Prop) (v0:Int) (C46:Int→Prop):Prop :=
 ((decide (v0<((kinL xd xb).length:Int)))=true→0≤v0∧v0.toNat<(kinL xd xb).length∧((((kinL xd xb).getD v0.toNat default) != xa)=true→rstj53 v0 C46)∧((((kinL xd xb).getD v0.toNat default) != xa)=false→∃ k,rstl64 xd xb xjoin K v0 C46 k (w6 (v0+1))))∧((decide (v0<((kinL xd xb).length:Int)))=false→K false)
def rstl46 (xd:Dc) (xa:Int) (xb:Int) (xjoin:Int) (K:Bool→Prop):Nat→Int→Prop
 | 0,_=>False
 | k+1,v0=>rstl46b xd xa xb xjoin K v0 (rstl46 xd xa xb xjoin K k)
def rstF (xd:Dc) (xa:Int) (xb:Int) (xjoin:Int) (K:Bool→Prop):Prop :=
 ((xjoin==62)=true→0≤xb∧xb.toNat<xd.1.length∧K ((xd.1.getD xb.toNat default).2.2.2.2.1==xa))∧((xjoin==62)=false→((xjoin==32)=true→0≤xb∧xb.toNat<xd.1.length∧∃ k,rstl19 xd xa K k (xd.1.getD xb.toNat default).2.2.2.2.1)∧((xjoin==32)=false→kinP xd xb∧∃ k,rstl46 xd xa xb xjoin K k 0))
theorem rst_ok {g:Ghost} {y0:Option Addr} {u0:Nat} (xd:Dc) (xa:Int) (xb:Int) (xjoin:Int) (d0:Rep g yNs [.slice y0 xd.1.length u0] xd.1) (K:Bool→Prop)
  (hF:rstF xd xa xb xjoin K):CallsH prog 25 #[.agg (aD xd y0 u0),iv xa,iv xb,.int .u8 xjoin] g [] (fun g' H' v=>∃ (r0:Bool),v=.bool r0∧H'=[]∧K r0):=by
 refine CallsH.en 81 func25 rfl fun w0=>?_
 refine Ok.sr (Ok.o (OpOk.bx (aD xd y0 u0) fun bs4=>?_))
 refine Ok.B 1 [(1,iv xa),(2,iv xb),(3,.int .u8 xjoin),(4,pv bs4 0)] kr (Ok.nt (Ok.q (Ok.sr (Ok.b 2 [1,2,3,4] [(14,.bool (xjoin==62))] ?_))))
 refine Ok.nt (Ok.cw hF (fun hc2 hF=>?_) (fun hc2 hF=>?_))
 ·refine Ok.sr (Ok.rn 3 [.e 0] [1] [(16,.slice y0 xd.1.length u0),(17,iv xb)] ?_)
  obtain ⟨h04,h14,hF⟩:=hF
  have he4:=get_of (l:=xd.1) default h14
  generalize hg4:(xd.1.getD xb.toNat default)=e4 at he4 hF ⊢
  refine Ok.o (OpOk.indexRo (e:=yN) rfl rfl underlying22 kr d0 h04 he4 rfl fun q3 o3 cs3 _ hat3 hr3=>?_)
  obtain ⟨a3_2,c3_2,a3_5,c3_5,rfl,hR3_2,hR3_5⟩:=oN hr3
  refine Ok.rn 5 [.a 4 hat3] [] [(8,.bool (e4.2.2.2.2.1==xa))] ?_
  refine Ok.nt (Ok.ret (Ok.tr ?_))
  exact Ok.pb (e4.2.2.2.2.1==xa) hF
 refine Ok.k (Ok.t (Ok.q (Ok.sr (Ok.b 2 [1,2,3,4] [(24,.bool (xjoin==32))] ?_))))
 refine Ok.nt (Ok.cw hF (fun hc5 hF=>?_) (fun hc5 hF=>?_))
 ·refine Ok.q (Ok.sr (Ok.rn 3 [.e 0] [1,4] [(26,.slice y0 xd.1.length u0),(27,iv xb)] ?_))
  obtain ⟨h07,h17,hF⟩:=hF
  have he7:=get_of (l:=xd.1) default h17
  generalize hg7:(xd.1.getD xb.toNat default)=e7 at he7 hF ⊢
  refine Ok.o (OpOk.indexRo (e:=yN) rfl rfl underlying22 kr d0 h07 he7 rfl fun q6 o6 cs6 _ hat6 hr6=>?_)
  obtain ⟨a6_2,c6_2,a6_5,c6_5,rfl,hR6_2,hR6_5⟩:=oN hr6
  refine Ok.rn 3 [.a 4 hat6] [1,4] [(9,iv e7.2.2.2.2.1)] ?_
  refine Ok.nt (Ok.block ?_)
  obtain ⟨k,hF⟩:=hF
  refine Ok.L (fun k a W=>∃ a0:Ghost,Gext w0 g a0∧∃ (f0:Int),StA 81 [(1,iv xa),(4,pv bs4 0),(9,iv f0)] a∧StW w0 [.blk bs4 (.cells (aD xd y0 u0) 24)] a0 W∧rstl19 xd xa K k f0) k ?_ ?_
  ·
   exact fun _ _ u v=>⟨g,Gext.r w0 g,e7.2.2.2.2.1,fA u v hF⟩
  clear hF
  rintro (_ | k19) _ _ ⟨a0,K0,f0,q⟩
  exact (q.2.2:False).elim
  refine jn (fun hF=>?_) _ _ q
  replace d0:=d0.mono K0.1
  refine Ok.q (Ok.sr (Ok.b 2 [1,4,9] [(32,.bool (decide (f0≥0)))] ?_))
  refine Ok.nt (Ok.cw hF (fun hc8 hF=>?_) (fun hc8 hF=>?_))
  ·refine Ok.k (Ok.t (Ok.q (Ok.block (Ok.sr (Ok.b 3 [1,4,9] [(41,.bool (f0==xa))] ?_)))))
   refine Ok.nt (Ok.cw hF (fun hc9 hF=>?_) (fun hc9 hF=>?_))
   ·refine Ok.sr (Ok.B 1 [(8,.bool true)] kr (Ok.nt (Ok.ret (Ok.kr (Ok.tr (Ok.tr (Ok.kr (Ok.tr (Ok.tr ?_)))))))))
    exact Ok.p1 (.bool true) K0 ⟨_,rfl,rfl,hF⟩
   refine Ok.k (Ok.kn (Ok.t (Ok.r (Ok.rn 3 [.e 0] [1,4] [(34,.slice y0 xd.1.length u0),(35,iv f0)] ?_))))
   obtain ⟨h011,h111,hF⟩:=hF
   have X1:=get_of (l:=xd.1) default h111
   generalize hg11:(xd.1.getD f0.toNat default)=e11 at X1 hF ⊢
   refine Ok.o (OpOk.indexRo (e:=yN) rfl rfl underlying22 kr d0 h011 X1 rfl fun q10 o10 cs10 _ M0 c1=>?_)
   obtain ⟨a10_2,c10_2,z1,v1,rfl,hR10_2,N0⟩:=oN c1
   refine Ok.rn 3 [.a 4 M0] [1,4] [(9,iv e11.2.2.2.2.1)] ?_
   refine Ok.j (Ok.t ?_)
   subst hg11
   exact fun _ _ u v=>⟨k19,nl,a0,K0,(xd.1.getD f0.toNat default).2.2.2.2.1,fA u v hF⟩
  refine Ok.x (Ok.thenE (Ok.thenE (Ok.blockHit (Ok.t (Ok.sr (Ok.B 1 [(8,.bool false)] kr (Ok.nt (Ok.ret (Ok.tr ?_)))))))))
  exact Ok.p1 (.bool false) K0 ⟨_,rfl,rfl,hF⟩
 refine Ok.k (Ok.t (Ok.sr (Ok.rn 2 [.e 0] [1,2,3] [(42,.agg (aD xd y0 u0)),(43,iv xb)] ?_)))
 obtain ⟨m1,hF⟩:=hF
 refine Ok.o (OpOk.callH [] _ enr rfl (ram_c xd xb d0 m1) rfl fun g13 _ _ n1 hV13=>?_)
 obtain ⟨Z0,V0,J0,rfl,Q0,rfl⟩:=hV13
 refine Ok.b 1 [1,2,3] [(10,.slice Z0 (kinL xd xb).length V0)] ?_
 refine Ok.nt (Ok.q (Ok.sr (Ok.b 1 [1,2,3,10] [(11,iv 0)] ?_)))
 refine Ok.nt (Ok.block ?_)
 obtain ⟨k,hF⟩:=hF
 refine Ok.L (fun k a W=>∃ X0:Ghost,Gext w0 g13 X0∧∃ (v0:Int),StA 81 [(1,iv xa),(2,iv xb),(3,.int .u8 xjoin),(10,.slice Z0 (kinL xd xb).length V0),(11,iv v0)] a∧StW w0 [.own (.slice Z0 (kinL xd xb).length V0) 3 1 (kinL xd xb).length J0] X0 W∧rstl46 xd xa xb xjoin K k v0) k ?_ ?_
 ·
  exact fun _ _ u v=>⟨g13,Gext.r w0 g13,0,fA u v hF⟩
 clear hF
 rintro (_ | k46) _ _ ⟨X0,C0,v0,q⟩
 exact (q.2.2:False).elim
 refine jn (fun hF=>?_) _ _ q
 replace Q0:=Q0.mono C0.1
 refine Ok.q (Ok.sr (Ok.b 4 [1,2,3,10,11] [(48,.bool (decide (v0<((kinL xd xb).length:Int))))] ?_))
 refine Ok.nt (Ok.cw hF (fun hc14 hF=>?_) (fun hc14 hF=>?_))
 ·refine Ok.k (Ok.t (Ok.cg X0 [(1,iv xa),(2,iv xb),(3,.int .u8 xjoin),(10,.slice Z0 (kinL xd xb).length V0),(11,iv v0)] [.own (.slice Z0 (kinL xd xb).length V0) 3 1 (kinL xd xb).length J0] (rstj53 v0 (rstl46 xd xa xb xjoin K k46)) ?_ (fun gj53 y1 hF=>?_)))
  ·
   refine Ok.block (Ok.q (Ok.sr (Ok.b 2 [1,2,3,10,11] [(51,.slice Z0 (kinL xd xb).length V0),(52,iv v0)] ?_)))
   obtain ⟨h016,h116,hF⟩:=hF
   have S1:=get_of (l:=kinL xd xb) default h116
   generalize B1:((kinL xd xb).getD v0.toNat default)=e16 at S1 hF ⊢
   refine Ok.o (OpOk.indexOwn (e:=.int .i64) 0 rfl Q0 rfl rfl underlying46 kr kr h016 S1 rfl fun cs15 _ hr15 o1=>?_)
   obtain rfl:=hr15
   replace o1:∀ j v,([iv e16]:List Value)[j]? = some v→J0[v0.toNat * 1+j]? = some v:=o1
   refine Ok.o (OpOk.s (v:=iv e16) (Yields.loadOwn 0 0 rfl o1 rfl underlying3 rfl kr) rfl rfl (Ok.b 2 [1,2,3,10,11] [(56,.bool (e16 != xa))] ?_))
   refine Ok.nt (Ok.cn hF rfl (fun t1=>?_) (fun t1=>?_))
   ·replace hF:=hF.1 t1
    refine Ok.x (Ok.thenE (Ok.blockHit (Ok.t ?_)))
    subst B1
    exact fg hF
   replace hF:=hF.2 t1
   refine Ok.k (Ok.t (Ok.sr (Ok.b 3 [1,2,3,10,11] [(12,iv (w6 (v0+1)))] ?_)))
   refine Ok.nt (Ok.block ?_)
   obtain ⟨k,hF⟩:=hF
   refine Ok.L (fun k a W=>∃ L0:Ghost,Gext w0 X0 L0∧∃ (x0:Int),StA 81 [(1,iv xa),(2,iv xb),(3,.int .u8 xjoin),(10,.slice Z0 (kinL xd xb).length V0),(11,iv v0),(12,iv x0)] a∧StW w0 [.own (.slice Z0 (kinL xd xb).length V0) 3 1 (kinL xd xb).length J0] L0 W∧rstl64 xd xb xjoin K v0 (rstl46 xd xa xb xjoin K k46) k x0) k ?_ ?_
   ·
    exact fun _ _ u v=>⟨X0,Gext.r w0 X0,w6 (v0+1),fA u v hF⟩
   clear hF
   rintro (_ | k64) _ _ ⟨L0,D0,x0,q⟩
   exact (q.2.2:False).elim
   refine jn (fun hF=>?_) _ _ q
   replace Q0:=Q0.mono D0.1
   refine Ok.q (Ok.sr (Ok.b 4 [1,2,3,10,11,12] [(62,.bool (decide (x0<((kinL xd xb).length:Int))))] ?_))
   refine Ok.nt (Ok.cn hF rfl (fun a1=>?_) (fun a1=>?_))
   ·replace hF:=hF.1 a1
    refine Ok.k (Ok.t (Ok.q (Ok.block (Ok.sr (Ok.b 2 [1,2,3,10,11,12] [(65,.slice Z0 (kinL xd xb).length V0),(66,iv x0)] ?_)))))
    obtain ⟨h020,h120,hF⟩:=hF
    have C1:=get_of (l:=kinL xd xb) default h120
    generalize hg20:((kinL xd xb).getD x0.toNat default)=e20 at C1 hF ⊢
    refine Ok.o (OpOk.indexOwn (e:=.int .i64) 0 rfl Q0 rfl rfl underlying46 kr kr h020 C1 rfl fun cs19 _ hr19 i1=>?_)
    obtain rfl:=hr19
    replace i1:∀ j v,([iv e20]:List Value)[j]? = some v→J0[x0.toNat * 1+j]? = some v:=i1
    refine Ok.o (OpOk.s (v:=iv e20) (Yields.loadOwn 0 0 rfl i1 rfl underlying3 rfl kr) rfl rfl (Ok.b 3 [1,2,3,10,11,12] [(71,.bool (e20==xb))] ?_))
    refine Ok.w 9 [(1,iv xa),(2,iv xb),(3,.int .u8 xjoin),(10,.slice Z0 (kinL xd xb).length V0),(11,iv v0),(12,iv x0),(80,.bool ((e20==xb)&&((xjoin==126)||(x0==w6 (v0+1)))))] (fun D1=>?_) ?_
    ·refine Ok.a 71 (e20==xb) rfl (fun Z1=>?_) (fun Z1=>?_)
     ·skip
      refine Ok.b 3 [1,2,3,10,11,12] [(71,.bool true),(74,.bool (xjoin==126))] ?_
      refine Ok.w 5 [(1,iv xa),(2,iv xb),(3,.int .u8 xjoin),(10,.slice Z0 (kinL xd xb).length V0),(11,iv v0),(12,iv x0),(71,.bool true),(79,.bool ((xjoin==126)||(x0==w6 (v0+1))))] (fun E1=>?_) ?_
      ·refine Ok.a 74 (xjoin==126) rfl (fun V1=>?_) (fun V1=>?_)
       ·skip
        refine Ok.b 5 [1,2,3,10,11,12,71] [(79,.bool true)] ?_
        refine Ok.rb 79 ((xjoin==126)||(x0==w6 (v0+1))) (mor_t V1) (Ok.b 0 [1,2,3,10,11,12,71] [(79,.bool ((xjoin==126)||(x0==w6 (v0+1))))] ?_)
        exact E1
       skip
       refine Ok.b 5 [1,2,3,10,11,12,71] [(79,.bool (x0==w6 (v0+1)))] ?_
       refine Ok.rb 79 ((xjoin==126)||(x0==w6 (v0+1))) (mor_f V1) (Ok.b 0 [1,2,3,10,11,12,71] [(79,.bool ((xjoin==126)||(x0==w6 (v0+1))))] ?_)
       exact E1
      refine Ok.b 1 [1,2,3,10,11,12] [(80,.bool ((xjoin==126)||(x0==w6 (v0+1))))] ?_
      refine Ok.rb 80 ((e20==xb)&&((xjoin==126)||(x0==w6 (v0+1)))) (mand_t Z1) (Ok.b 0 [1,2,3,10,11,12] [(80,.bool ((e20==xb)&&((xjoin==126)||(x0==w6 (v0+1)))))] ?_)
      exact D1
     skip
     refine Ok.b 9 [1,2,3,10,11,12] [(80,.bool false)] ?_
     refine Ok.rb 80 ((e20==xb)&&((xjoin==126)||(x0==w6 (v0+1)))) (mand_f Z1) (Ok.b 0 [1,2,3,10,11,12] [(80,.bool ((e20==xb)&&((xjoin==126)||(x0==w6 (v0+1)))))] ?_)
     exact D1
    refine Ok.nt (Ok.cn hF rfl (fun Q1=>?_) (fun Q1=>?_))
    ·replace hF:=hF.1 Q1
     refine Ok.sr (Ok.B 1 [(8,.bool true)] kr (Ok.nt (Ok.ret (Ok.kr (Ok.tr (Ok.tr (Ok.kr (Ok.kr (Ok.tr (Ok.tr (Ok.kr (Ok.tr ?_))))))))))))
     exact Ok.p1 (.bool true) ((n1.trans C0).trans D0) ⟨_,rfl,rfl,hF⟩
    replace hF:=hF.2 Q1
    refine Ok.k (Ok.kn (Ok.t (Ok.r (Ok.b 3 [1,2,3,10,11] [(12,iv (w6 (x0+1)))] ?_))))
    refine Ok.j (Ok.t ?_)
    subst hg20
    exact fun _ _ u v=>⟨k64,nl,L0,D0,w6 (x0+1),fA u v hF⟩
   replace hF:=hF.2 a1
   refine Ok.x (Ok.thenE (Ok.thenE (Ok.blockHit (Ok.kn (Ok.t ?_)))))
   subst B1
   exact fun _ _ u v=>⟨L0,D0,fA u v hF⟩
  refine Ok.r (Ok.b 3 [1,2,3,10] [(11,iv (w6 (v0+1)))] ?_)
  refine Ok.j (Ok.t ?_)
  exact fun _ _ u v=>⟨k46,nl,gj53,C0.trans y1,w6 (v0+1),fA u v hF⟩
 refine Ok.x (Ok.thenE (Ok.thenE (Ok.blockHit (Ok.t (Ok.sr (Ok.B 1 [(8,.bool false)] kr (Ok.nt (Ok.ret ?_))))))))
 exact Ok.p1 (.bool false) (n1.trans C0) ⟨_,rfl,rfl,hF⟩
def rstP (d:DC) (a b _:Int):Prop:=DGood d∧inD d b
theorem rst_F (d:DC) (a b j:Int) (hp:rstP d a b j):rstF d a b j (fun r=>r=staS d a b j):=by
 obtain ⟨hG,hb⟩:=hp
 have hr:staS d a b j=if (j==62)=true then par d.1 b.toNat==a else if (j==32)=true then stN d.1 42 (par d.1 b.toNat) a else sb1 j a b (kinL d b):=rfl
 generalize staS d a b j=r at hr
 have hE:=up_ends hG hb
 have hkl:=kin_len hG hb
 refine ⟨fun q1=>⟨hb.1,inNat hb,?_⟩,fun q1=>⟨fun q2=>⟨hb.1,inNat hb,?_⟩,fun q2=>⟨⟨hG,hb⟩,?_⟩⟩⟩
 ·rw [if_t q1] at hr; exact hr.symm
 ·rw [if_f q1,if_t q2] at hr
  have loop:∀ (k:Nat) (p:Int),Ends d.1 k p→r=stN d.1 k p a→rstl19 d a (fun x=>x=r) (k+1) p:=by
   intro k
   induction k with
   | zero =>
    intro p h h2
    have h:p<0:=h
    exact ⟨fun hc=>od hc,fun _=>h2.symm⟩
   | succ k ih =>
    intro p h h2
    rw [stN] at h2
    refine ⟨fun hc=>?_,fun hc=>?_⟩
    ·rw [if_t hc] at h2
     have hc:=of_decide_eq_true hc
     have hi:=ends_in h hc
     refine ⟨fun h3=>?_,fun h3=>⟨hc,by omega,ih _ ?_ ?_⟩⟩
     ·rw [if_t h3] at h2; exact h2.symm
     ·rcases h with h | h
      ·omega
      exact h.2
     rw [if_f h3] at h2; exact h2
    rw [if_f hc] at h2; exact h2.symm
  exact ⟨_,loop 42 _ hE hr⟩
 rw [if_f q1,if_f q2] at hr
 generalize hL:kinL d b=l at hr hkl
 have outer:∀ (k i:Nat),i+k=l.length→r=sb1 j a b (l.drop i)→rstl46 d a b j (fun x=>x=r) (k+1) (i:Int):=by
  intro k
  induction k with
  | zero =>
   intro i h h2
   rw [rstl46]
   unfold rstl46b
   rw [hL]
   rw [List.drop_of_length_le om,sb1] at h2
   exact ⟨fun hc=>od hc,fun _=>h2.symm⟩
  | succ k ih =>
   intro i h h2
   rw [drop_get (l:=l) default om,sb1] at h2
   have next:r=sb1 j a b (l.drop (i+1))→rstj53 (i:Int) (rstl46 d a b j (fun x=>x=r) (k+1)):=fun h3=>by
    unfold rstj53
    rw [w64 om]
    exact ih (i+1) om h3
   rw [rstl46]
   unfold rstl46b
   rw [hL]
   refine ⟨fun _=>?_,fun hc=>oe hc⟩
   rw [tnc]
   refine ⟨by omega,by omega,fun hc=>?_,fun hc=>?_⟩
   ·have hc:(l.getD i default==a)=false:=by
     rw [beq_eq_false_iff_ne]; rw [bne_iff_ne] at hc; exact hc
    rw [hc,Bool.false_and,if_neg dc] at h2
    exact next h2
   have hc:(l.getD i default==a)=true:=by
    rw [bne_eq_false_iff_eq] at hc; rw [beq_iff_eq]; exact hc
   rw [hc,Bool.true_and] at h2
   have inner:∀ (k2 m:Nat),m+k2=l.length→i+1≤m→(r=if sb2 j b (l.drop m) (decide (m=i+1))=true then true else sb1 j a b (l.drop (i+1)))→rstl64 d b j (fun x=>x=r) (i:Int) (rstl46 d a b j (fun x=>x=r) (k+1)) (k2+1) (m:Int):=by
    intro k2
    induction k2 with
    | zero =>
     intro m h3 h4 h5
     rw [List.drop_of_length_le om,sb2,if_neg dc] at h5
     rw [rstl64]
     unfold rstl64b
     rw [hL]
     exact ⟨fun hc=>od hc,fun _=>next h5⟩
    | succ k2 ih2 =>
     intro m h3 h4 h5
     rw [drop_get (l:=l) default om,sb2] at h5
     rw [rstl64]
     unfold rstl64b
     rw [hL]
     refine ⟨fun _=>?_,fun hc=>oe hc⟩
     rw [tnc,w64 (x:=(i:Int)+1) om]
     have e:((m:Int)==(i:Int)+1)=decide (m=i+1):=by
      rw [Bool.eq_iff_iff,beq_iff_eq,decide_eq_true_eq]; omega
     rw [e]
     refine ⟨by omega,by omega,fun hh=>?_,fun hh=>?_⟩
     ·rw [if_t hh,if_pos rfl] at h5; exact h5.symm
     rw [if_f hh] at h5
     rw [w64 om]
     refine ih2 (m+1) om om ?_
     rw [decide_eq_false (show ¬ m+1=i+1 by omega)]
     exact h5
   rw [w64 om,show (i:Int)+1=((i+1:Nat):Int) by omega]
   exact ⟨_,inner (l.length - (i+1)) (i+1) om (Nat.le_refl _) (by rw [decide_eq_true rfl]; exact h2)⟩
 exact ⟨_,outer l.length 0 om hr⟩
theorem rst_c {g:Ghost} {y0:Option Addr} {u0:Nat} (xd:Dc) (xa:Int) (xb:Int) (xjoin:Int) (d0:Rep g yNs [.slice y0 xd.1.length u0] xd.1)  (hp:rstP xd xa xb xjoin):CallsG prog 25 #[.agg (aD xd y0 u0),iv xa,iv xb,.int .u8 xjoin] g (.bool (staS xd xa xb xjoin)) :=
 (rst_ok xd xa xb xjoin d0 _ (rst_F xd xa xb xjoin hp)).gv
end
end Go.Proofs.YtdapgmigogpdcaaGreatDoor.Ma
