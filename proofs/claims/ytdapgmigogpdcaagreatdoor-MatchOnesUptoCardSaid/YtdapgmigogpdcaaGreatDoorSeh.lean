/- selector: what is wrong with a selector. -/
import Derived.Test.YtdapgmigogpdcaaGreatDoorSeg
namespace Go.Proofs.YtdapgmigogpdcaaGreatDoor.Se
open _root_.Go.Proofs.Tryz Go Go.Eng Go.RowKit Bld Trm Css Tk Ti
set_option linter.unusedVariables false
set_option linter.unusedSimpArgs false
set_option maxHeartbeats 4000000
set_option maxRecDepth 100000
def chkF (xl:List PH) (K:Int→Prop):Prop :=
 tssPE xl 0∧((!((tssS xl 0).2))=true→K 2)∧((!((tssS xl 0).2))=false→ptsPE xl∧((!(ptsS xl))=true→K 3)∧((!(ptsS xl))=false→K 0))
theorem chk_ok {g:Ghost} {z0:Option Addr} {v0:Nat} (xl:List PH) (q0:Rep g (.slice yP) [.slice z0 xl.length v0] xl) (hG0:SomeInt g 0) (K:Int→Prop)
  (hF:chkF xl K):CallsH prog 22 #[.slice z0 xl.length v0] g [] (fun g' H' v=>∃ (r0:Int),v=iv r0∧H'=[]∧K r0):=by
 refine CallsH.en 15 func22 rfl fun w0=>?_
 refine Ok.sr (Ok.B 1 [(0,.slice z0 xl.length v0)] kr (Ok.nt (Ok.q (Ok.q (Ok.r ?_)))))
 obtain ⟨hp1,hF⟩:=hF
 refine Ok.rn 7 [.k (tss_c xl 0 q0 hp1)] [0] [(4,.bool (tssS xl 0).2)] ?_
 refine Ok.nt (Ok.sr (Ok.b 2 [0] [(11,.bool (!((tssS xl 0).2)))] ?_))
 refine Ok.nt (Ok.cw hF (fun hc2 hF=>?_) (fun hc2 hF=>?_))
 ·refine Ok.sr (Ok.B 1 [(2,iv 2)] kr (Ok.nt (Ok.ret (Ok.tr ?_))))
  exact Ok.h0 (iv 2) ⟨_,rfl,rfl,hF⟩
 refine Ok.k (Ok.t (Ok.q (Ok.q (Ok.r ?_))))
 obtain ⟨hp3,hF⟩:=hF
 refine Ok.rn 3 [.k (pts_c xl q0 hG0 hp3)] [] [(14,.bool (!(ptsS xl)))] ?_
 refine Ok.nt (Ok.cw hF (fun hc4 hF=>?_) (fun hc4 hF=>?_))
 ·refine Ok.sr (Ok.B 1 [(2,iv 3)] kr (Ok.nt (Ok.ret (Ok.tr ?_))))
  exact Ok.h0 (iv 3) ⟨_,rfl,rfl,hF⟩
 refine Ok.k (Ok.t (Ok.sr (Ok.B 1 [(2,iv 0)] kr (Ok.nt (Ok.ret ?_)))))
 exact Ok.h0 (iv 0) ⟨_,rfl,rfl,hF⟩
def pflF (xl:List PH) (K:Int→Prop):Prop :=
 tinPE xl 0∧(((decide (tinS xl 0<0))||(decide ((tinS xl 0)>40)))=true→K 2)∧(((decide (tinS xl 0<0))||(decide ((tinS xl 0)>40)))=false→pmyPE xl∧((!(ptsS xl))=true→K 3)∧((!(ptsS xl))=false→K 0))
theorem pfl_ok {g:Ghost} {z0:Option Addr} {v0:Nat} (xl:List PH) (q0:Rep g (.slice yP) [.slice z0 xl.length v0] xl) (hG0:SomeInt g 0) (K:Int→Prop)
  (hF:pflF xl K):CallsH prog 8 #[.slice z0 xl.length v0] g [] (fun g' H' v=>∃ (r0:Int),v=iv r0∧H'=[]∧K r0):=by
 refine CallsH.en 15 func8 rfl fun w0=>?_
 refine Ok.sr (Ok.B 1 [(0,.slice z0 xl.length v0)] kr (Ok.nt (Ok.q (Ok.r ?_))))
 obtain ⟨hp1,hF⟩:=hF
 refine Ok.rn 3 [.k (tin_c xl 0 q0 hp1)] [0] [(3,iv (tinS xl 0))] ?_
 refine Ok.nt (Ok.q (Ok.sr (Ok.b 3 [0,3] [(8,.bool (decide (tinS xl 0<0)))] ?_)))
 refine Ok.w 3 [(0,.slice z0 xl.length v0),(11,.bool ((decide (tinS xl 0<0))||(decide ((tinS xl 0)>40))))] (fun hR2=>?_) ?_
 ·refine Ok.a 8 (decide (tinS xl 0<0)) rfl (fun hc3=>?_) (fun hc3=>?_)
  ·skip
   refine Ok.b 3 [0] [(11,.bool true)] ?_
   refine Ok.rb 11 ((decide (tinS xl 0<0))||(decide ((tinS xl 0)>40))) (mor_t hc3) (Ok.b 0 [0] [(11,.bool ((decide (tinS xl 0<0))||(decide ((tinS xl 0)>40))))] ?_)
   exact hR2
  skip
  refine Ok.b 3 [0] [(11,.bool (decide ((tinS xl 0)>40)))] ?_
  refine Ok.rb 11 ((decide (tinS xl 0<0))||(decide ((tinS xl 0)>40))) (mor_f hc3) (Ok.b 0 [0] [(11,.bool ((decide (tinS xl 0<0))||(decide ((tinS xl 0)>40))))] ?_)
  exact hR2
 refine Ok.nt (Ok.cw hF (fun hc4 hF=>?_) (fun hc4 hF=>?_))
 ·refine Ok.sr (Ok.B 1 [(2,iv 2)] kr (Ok.nt (Ok.ret (Ok.tr ?_))))
  exact Ok.h0 (iv 2) ⟨_,rfl,rfl,hF⟩
 refine Ok.k (Ok.t (Ok.q (Ok.q (Ok.r ?_))))
 obtain ⟨hp5,hF⟩:=hF
 refine Ok.rn 3 [.k (pmy_c xl q0 hG0 hp5)] [] [(14,.bool (!(ptsS xl)))] ?_
 refine Ok.nt (Ok.cw hF (fun hc6 hF=>?_) (fun hc6 hF=>?_))
 ·refine Ok.sr (Ok.B 1 [(2,iv 3)] kr (Ok.nt (Ok.ret (Ok.tr ?_))))
  exact Ok.h0 (iv 3) ⟨_,rfl,rfl,hF⟩
 refine Ok.k (Ok.t (Ok.sr (Ok.B 1 [(2,iv 0)] kr (Ok.nt (Ok.ret ?_)))))
 exact Ok.h0 (iv 0) ⟨_,rfl,rfl,hF⟩
def chkS (l:List Ph):Int:=if (!((ts3 l 0 0).2))=true then 2 else if (!(ptsS l))=true then 3 else 0
def chkP (l:List Ph):Prop:=b3 l≤1048600∧okB3 l
theorem tssE {l:List Ph} (h:chkP l):tssPE l 0:=⟨b3 l+1,by omega,h.1,by omega,by have:=h.1; omega⟩
theorem ptsE {l:List Ph} (h:chkP l):ptsPE l:=⟨b3 l+1,by omega,h.1,h.2⟩
theorem chk_F (l:List Ph) (h:chkP l):chkF l (fun r=>r=chkS l):=by
 have e:∀ b,(!((tssS l 0).2))=b→(!((ts3 l 0 0).2))=b:=fun b h=>h
 refine ⟨tssE h,fun h1=>?_,fun h1=>⟨ptsE h,fun h2=>?_,fun h2=>?_⟩⟩
 ·unfold chkS; rw [if_t (e _ h1)]
 ·unfold chkS; rw [if_f (e _ h1),if_t h2]
 unfold chkS; rw [if_f (e _ h1),if_f h2]
theorem pfl_F (l:List Ph) (h:chkP l):pflF l (fun r=>r=chkS l):=by
 have m:=many_alike l
 refine ⟨tssE h,fun h1=>?_,fun h1=>⟨ptsE h,fun h2=>?_,fun h2=>?_⟩⟩
 ·rw [Bool.or_eq_true,decide_eq_true_eq,decide_eq_true_eq] at h1
  have:(ts3 l 0 0).2=false:=by
   cases hb:(ts3 l 0 0).2
   ·rfl
   have:=m.1 hb
   unfold tinS at h1; omega
  unfold chkS; rw [this]; rfl
 ·rw [Bool.or_eq_false_iff,decide_eq_false_iff_not,decide_eq_false_iff_not] at h1
  have:(ts3 l 0 0).2=true:=m.2 (by unfold tinS at h1; omega)
  unfold chkS; rw [this,if_f (show (!true)=false from rfl),if_t h2]
 rw [Bool.or_eq_false_iff,decide_eq_false_iff_not,decide_eq_false_iff_not] at h1
 have:(ts3 l 0 0).2=true:=m.2 (by unfold tinS at h1; omega)
 unfold chkS; rw [this,if_f (show (!true)=false from rfl),if_f h2]
theorem chk_c {g:Ghost} {z0:Option Addr} {v0:Nat} (xl:List PH) (q0:Rep g (.slice yP) [.slice z0 xl.length v0] xl) (hG0:SomeInt g 0)  (hp:chkP xl):CallsG prog 22 #[.slice z0 xl.length v0] g (iv (chkS xl)) :=
 (chk_ok xl q0 hG0 _ (chk_F xl hp)).gv
theorem pfl_c {g:Ghost} {z0:Option Addr} {v0:Nat} (xl:List PH) (q0:Rep g (.slice yP) [.slice z0 xl.length v0] xl) (hG0:SomeInt g 0)  (hp:chkP xl):CallsG prog 8 #[.slice z0 xl.length v0] g (iv (chkS xl)) :=
 (pfl_ok xl q0 hG0 _ (pfl_F xl hp)).gv
end Go.Proofs.YtdapgmigogpdcaaGreatDoor.Se
