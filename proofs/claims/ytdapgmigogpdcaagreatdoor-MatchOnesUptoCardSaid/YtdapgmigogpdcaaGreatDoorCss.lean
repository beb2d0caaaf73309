/- csstok: its functions on names, texts and numbers. -/
import Derived.Test.YtdapgmigogpdcaaGreatDoorBlc
namespace Go.Proofs.YtdapgmigogpdcaaGreatDoor.Css
open _root_.Go.Proofs.Tryz Go Go.Eng Bld
set_option linter.unusedVariables false
set_option linter.unusedSimpArgs false
theorem sdCssa {p:Prop} (h:p:=by first | omega | assumption | exact trivial | (have h0:=List.length_pos_iff.mpr asm; omega) | (simp; omega) | (simp at *; omega)):p:=h
set_option maxHeartbeats 4000000
set_option maxRecDepth 100000
def digitF (xc:Int) (K:Bool→Prop):Prop :=
 K (decide (xc≥48)&&decide (xc≤57))
theorem digit_ok {g:Ghost} (xc:Int) (K:Bool→Prop)
  (hF:digitF xc K):CallsH prog 137 #[.int .u8 xc] g [] (fun g' H' v=>∃ (r0:Bool),v=.bool r0∧H'=[]∧K r0):=by
 refine CallsH.en 9 func137 rfl fun w0=>?_
 refine Ok.sr (Ok.B 1 [(0,.int .u8 xc)] kr (Ok.nt (Ok.sr (Ok.b 3 [0] [(5,.bool (decide (xc≥48)))] ?_))))
 refine Ok.w 3 [(8,.bool (decide (xc≥48)&&decide (xc≤57)))] (fun hR1=>?_) ?_
 ·refine Ok.a 5 (decide (xc≥48)) rfl (fun hc2=>?_) (fun hc2=>?_)
  ·skip
   refine Ok.B 3 [(8,.bool (decide (xc≤57)))] kr (Ok.rb 8 (decide (xc≥48)&&decide (xc≤57)) (mand_t hc2) (Ok.B 0 [(8,.bool (decide (xc≥48)&&decide (xc≤57)))] kr ?_))
   exact hR1
  skip
  refine Ok.B 3 [(8,.bool false)] kr (Ok.rb 8 (decide (xc≥48)&&decide (xc≤57)) (mand_f hc2) (Ok.B 0 [(8,.bool (decide (xc≥48)&&decide (xc≤57)))] kr ?_))
  exact hR1
 refine Ok.B 1 [(2,.bool (decide (xc≥48)&&decide (xc≤57)))] kr (Ok.nt (Ok.ret ?_))
 exact Ok.pb (decide (xc≥48)&&decide (xc≤57)) hF
def digitM (xc:Int):Bool:=(decide (xc≥48)&&decide (xc≤57))
theorem digitF_A (xc:Int) (P:Bool→Prop) (h:P (digitM xc)):digitF xc (fun k0=>P k0):=by
 unfold digitM at h
 unfold digitF
 exact h
theorem digit_F (xc:Int):digitF xc (fun k0=>k0=digitM xc) :=
 digitF_A xc (fun z=>z=digitM xc) rfl
theorem digit_c {g:Ghost} (xc:Int)  : CallsG prog 137 #[.int .u8 xc] g (.bool (digitM xc)) :=
 (digit_ok xc _ (digit_F xc)).gv
def startsF (xc:Int) (K:Bool→Prop):Prop :=
 K ((decide (xc≥128)||(xc==95))||((decide (bitOr .u8 xc 32≥97))&&(decide (bitOr .u8 xc 32≤122))))
theorem starts_ok {g:Ghost} (xc:Int) (K:Bool→Prop)
  (hF:startsF xc K):CallsH prog 136 #[.int .u8 xc] g [] (fun g' H' v=>∃ (r0:Bool),v=.bool r0∧H'=[]∧K r0):=by
 refine CallsH.en 19 func136 rfl fun w0=>?_
 refine Ok.sr (Ok.B 1 [(0,.int .u8 xc)] kr (Ok.nt (Ok.sr (Ok.b 3 [0] [(5,.bool (decide (xc≥128)))] ?_))))
 refine Ok.w 3 [(0,.int .u8 xc),(8,.bool (decide (xc≥128)||(xc==95)))] (fun hR1=>?_) ?_
 ·refine Ok.a 5 (decide (xc≥128)) rfl (fun hc2=>?_) (fun hc2=>?_)
  ·skip
   refine Ok.b 3 [0] [(8,.bool true)] ?_
   refine Ok.rb 8 (decide (xc≥128)||(xc==95)) (mor_t hc2) (Ok.b 0 [0] [(8,.bool (decide (xc≥128)||(xc==95)))] ?_)
   exact hR1
  skip
  refine Ok.b 3 [0] [(8,.bool (xc==95))] ?_
  refine Ok.rb 8 (decide (xc≥128)||(xc==95)) (mor_f hc2) (Ok.b 0 [0] [(8,.bool (decide (xc≥128)||(xc==95)))] ?_)
  exact hR1
 refine Ok.b 1 [0] [(9,.bool (decide (xc≥128)||(xc==95)))] ?_
 refine Ok.w 9 [(18,.bool ((decide (xc≥128)||(xc==95))||((decide (bitOr .u8 xc 32≥97))&&(decide (bitOr .u8 xc 32≤122)))))] (fun hR3=>?_) ?_
 ·refine Ok.a 9 (decide (xc≥128)||(xc==95)) rfl (fun hc4=>?_) (fun hc4=>?_)
  ·skip
   refine Ok.B 9 [(18,.bool true)] kr (Ok.rb 18 ((decide (xc≥128)||(xc==95))||((decide (bitOr .u8 xc 32≥97))&&(decide (bitOr .u8 xc 32≤122)))) (mor_t hc4) (Ok.B 0 [(18,.bool ((decide (xc≥128)||(xc==95))||((decide (bitOr .u8 xc 32≥97))&&(decide (bitOr .u8 xc 32≤122)))))] kr ?_))
   exact hR3
  skip
  refine Ok.b 4 [0] [(9,.bool false),(13,.bool (decide (bitOr .u8 xc 32≥97)))] ?_
  refine Ok.w 4 [(9,.bool false),(17,.bool ((decide (bitOr .u8 xc 32≥97))&&(decide (bitOr .u8 xc 32≤122))))] (fun hR5=>?_) ?_
  ·refine Ok.a 13 (decide (bitOr .u8 xc 32≥97)) rfl (fun hc6=>?_) (fun hc6=>?_)
   ·skip
    refine Ok.b 4 [9] [(17,.bool (decide (bitOr .u8 xc 32≤122)))] ?_
    refine Ok.rb 17 ((decide (bitOr .u8 xc 32≥97))&&(decide (bitOr .u8 xc 32≤122))) (mand_t hc6) (Ok.b 0 [9] [(17,.bool ((decide (bitOr .u8 xc 32≥97))&&(decide (bitOr .u8 xc 32≤122))))] ?_)
    exact hR5
   skip
   refine Ok.b 4 [9] [(17,.bool false)] ?_
   refine Ok.rb 17 ((decide (bitOr .u8 xc 32≥97))&&(decide (bitOr .u8 xc 32≤122))) (mand_f hc6) (Ok.b 0 [9] [(17,.bool ((decide (bitOr .u8 xc 32≥97))&&(decide (bitOr .u8 xc 32≤122))))] ?_)
   exact hR5
  refine Ok.B 1 [(18,.bool ((decide (bitOr .u8 xc 32≥97))&&(decide (bitOr .u8 xc 32≤122))))] kr (Ok.rb 18 ((decide (xc≥128)||(xc==95))||((decide (bitOr .u8 xc 32≥97))&&(decide (bitOr .u8 xc 32≤122)))) (mor_f hc4) (Ok.B 0 [(18,.bool ((decide (xc≥128)||(xc==95))||((decide (bitOr .u8 xc 32≥97))&&(decide (bitOr .u8 xc 32≤122)))))] kr ?_))
  exact hR3
 refine Ok.B 1 [(2,.bool ((decide (xc≥128)||(xc==95))||((decide (bitOr .u8 xc 32≥97))&&(decide (bitOr .u8 xc 32≤122)))))] kr (Ok.nt (Ok.ret ?_))
 exact Ok.pb ((decide (xc≥128)||(xc==95))||((decide (bitOr .u8 xc 32≥97))&&(decide (bitOr .u8 xc 32≤122)))) hF
def startsM (xc:Int):Bool:=((decide (xc≥128)||(xc==95))||((decide (bitOr .u8 xc 32≥97))&&(decide (bitOr .u8 xc 32≤122))))
theorem startsF_A (xc:Int) (P:Bool→Prop) (h:P (startsM xc)):startsF xc (fun k0=>P k0):=by
 unfold startsM at h
 unfold startsF
 exact h
theorem starts_F (xc:Int):startsF xc (fun k0=>k0=startsM xc) :=
 startsF_A xc (fun z=>z=startsM xc) rfl
theorem starts_c {g:Ghost} (xc:Int)  : CallsG prog 136 #[.int .u8 xc] g (.bool (startsM xc)) :=
 (starts_ok xc _ (starts_F xc)).gv
def signj3 (xc:Int) (K:Bool→Prop):Prop :=
 K (startsM xc||(digitM xc||(xc==45)))
def signF (xc:Int) (K:Bool→Prop):Prop :=
 (startsM xc=true→signj3 xc K)∧(startsM xc=false→signj3 xc K)
theorem sign_ok {g:Ghost} (xc:Int) (K:Bool→Prop)
  (hF:signF xc K):CallsH prog 91 #[.int .u8 xc] g [] (fun g' H' v=>∃ (r0:Bool),v=.bool r0∧H'=[]∧K r0):=by
 refine CallsH.en 13 func91 rfl fun w0=>?_
 refine Ok.sr (Ok.B 1 [(0,.int .u8 xc)] kr (Ok.nt (Ok.ct [(2,.bool (startsM xc||(digitM xc||(xc==45))))] [] (signj3 xc K) ?_ (fun hF=>?_))))
 ·
  refine Ok.r (Ok.rn 3 [.k (starts_c xc)] [0] [(5,.bool (startsM xc))] ?_)
  refine Ok.bw 5 hF (fun hc1 hF=>?_) (fun hc1 hF=>?_)
  ·refine Ok.B 8 [(2,.bool true)] kr (Ok.nt (Ok.rb 2 (startsM xc||(digitM xc||(xc==45))) (mor_t hc1) ?_))
   exact fz hF
  refine Ok.rn 4 [.k (digit_c xc)] [0] [(9,.bool (digitM xc))] ?_
  refine Ok.w 3 [(12,.bool (digitM xc||(xc==45)))] (fun hR2=>?_) ?_
  ·refine Ok.a 9 (digitM xc) rfl (fun hc3=>?_) (fun hc3=>?_)
   ·skip
    refine Ok.B 3 [(12,.bool true)] kr (Ok.rb 12 (digitM xc||(xc==45)) (mor_t hc3) (Ok.B 0 [(12,.bool (digitM xc||(xc==45)))] kr ?_))
    exact hR2
   skip
   refine Ok.B 3 [(12,.bool (xc==45))] kr (Ok.rb 12 (digitM xc||(xc==45)) (mor_f hc3) (Ok.B 0 [(12,.bool (digitM xc||(xc==45)))] kr ?_))
   exact hR2
  refine Ok.B 1 [(2,.bool (digitM xc||(xc==45)))] kr (Ok.nt (Ok.rb 2 (startsM xc||(digitM xc||(xc==45))) (mor_f hc1) ?_))
  exact fz hF
 refine Ok.ret ?_
 exact Ok.pb (startsM xc||(digitM xc||(xc==45))) hF
def signj3M (xc:Int):Bool:=(startsM xc||(digitM xc||(xc==45)))
theorem signj3_A (xc:Int) (P:Bool→Prop) (h:P (signj3M xc)):signj3 xc (fun k0=>P k0):=by
 unfold signj3M at h
 unfold signj3
 exact h
def signM (xc:Int):Bool:=(signj3M xc)
theorem signF_A (xc:Int) (P:Bool→Prop) (h:P (signM xc)):signF xc (fun k0=>P k0):=by
 unfold signM at h
 unfold signF
 refine ⟨fun hc0=>?_,fun hc0=>?_⟩
 ·skip
  exact signj3_A xc _ h
 skip
 exact signj3_A xc _ h
theorem sign_F (xc:Int):signF xc (fun k0=>k0=signM xc) :=
 signF_A xc (fun z=>z=signM xc) rfl
theorem sign_c {g:Ghost} (xc:Int)  : CallsG prog 91 #[.int .u8 xc] g (.bool (signM xc)) :=
 (sign_ok xc _ (sign_F xc)).gv
def escj3 (xs:Bs) (K:Bool→Prop):Prop :=
 K ((decide ((xs.length:Int)>1))&&((((xs.getD (Int.toNat 0) 0).toNat:Int)==92)&&(((xs.getD (Int.toNat 1) 0).toNat:Int) != 10)))
def escF (xs:Bs) (K:Bool→Prop):Prop :=
 ((decide ((xs.length:Int)>1))=true→(0:Int)≤0∧Int.toNat 0<xs.length∧((((xs.getD (Int.toNat 0) 0).toNat:Int)==92)=true→(0:Int)≤1∧Int.toNat 1<xs.length∧escj3 xs K)∧((((xs.getD (Int.toNat 0) 0).toNat:Int)==92)=false→escj3 xs K))∧((decide ((xs.length:Int)>1))=false→escj3 xs K)
theorem esc_ok {g:Ghost} (xs:Bs) (K:Bool→Prop)
  (hF:escF xs K):CallsH prog 92 #[sv xs] g [] (fun g' H' v=>∃ (r0:Bool),v=.bool r0∧H'=[]∧K r0):=by
 refine CallsH.en 16 func92 rfl fun w0=>?_
 refine Ok.sr (Ok.B 1 [(0,sv xs)] kr (Ok.nt (Ok.ct [(2,.bool ((decide ((xs.length:Int)>1))&&((((xs.getD (Int.toNat 0) 0).toNat:Int)==92)&&(((xs.getD (Int.toNat 1) 0).toNat:Int) != 10))))] [] (escj3 xs K) ?_ (fun hF=>?_))))
 ·
  refine Ok.r (Ok.b 4 [0] [(6,.bool (decide ((xs.length:Int)>1)))] ?_)
  refine Ok.bw 6 hF (fun hc1 hF=>?_) (fun hc1 hF=>?_)
  ·refine Ok.b 1 [0] [(6,.bool true),(7,sv xs)] ?_
   obtain ⟨h02,h12,hF⟩:=hF
   have he2:=get_of (l:=xs) (0:UInt8) h12
   generalize hg2:(xs.getD (Int.toNat 0) 0)=e2 at he2 hF ⊢
   refine Ok.oy (OpOk.s (v:=.int .u8 (e2.toNat:Int)) (Yields.ix (k:=.i64) (i:=0) (s:=xs) (b:=e2) kr kr underlying9 h02 he2) rfl rfl (Ok.b 3 [0] [(11,.bool ((e2.toNat:Int)==92))] ?_))
   refine Ok.a 11 ((e2.toNat:Int)==92) rfl (fun hc3=>?_) (fun hc3=>?_)
   ·replace hF:=hF.1 hc3
    refine Ok.B 1 [(11,.bool true),(12,sv xs)] kr ?_
    obtain ⟨h04,h14,hF⟩:=hF
    have he4:=get_of (l:=xs) (0:UInt8) h14
    generalize hg4:(xs.getD (Int.toNat 1) 0)=e4 at he4 hF ⊢
    refine Ok.oy (OpOk.s (v:=.int .u8 (e4.toNat:Int)) (Yields.ix (k:=.i64) (i:=1) (s:=xs) (b:=e4) kr kr underlying9 h04 he4) rfl rfl (Ok.B 3 [(2,.bool ((e4.toNat:Int) != 10))] kr (Ok.j (Ok.t ?_))))
    subst hg4
    subst hg2
    refine Ok.rb 2 ((decide ((xs.length:Int)>1))&&((((xs.getD (Int.toNat 0) 0).toNat:Int)==92)&&(((xs.getD (Int.toNat 1) 0).toNat:Int) != 10))) (Eq.trans (mand_t hc3) (mand_t hc1)) ?_
    exact fz hF
   replace hF:=hF.2 hc3
   refine Ok.B 5 [(2,.bool false)] kr (Ok.j (Ok.t ?_))
   subst hg2
   refine Ok.rb 2 ((decide ((xs.length:Int)>1))&&((((xs.getD (Int.toNat 0) 0).toNat:Int)==92)&&(((xs.getD (Int.toNat 1) 0).toNat:Int) != 10))) (Eq.trans (mand_f hc3) (mand_t hc1)) ?_
   exact fz hF
  refine Ok.B 10 [(2,.bool false)] kr (Ok.nt (Ok.rb 2 ((decide ((xs.length:Int)>1))&&((((xs.getD (Int.toNat 0) 0).toNat:Int)==92)&&(((xs.getD (Int.toNat 1) 0).toNat:Int) != 10))) (mand_f hc1) ?_))
  exact fz hF
 refine Ok.ret ?_
 exact Ok.pb ((decide ((xs.length:Int)>1))&&((((xs.getD (Int.toNat 0) 0).toNat:Int)==92)&&(((xs.getD (Int.toNat 1) 0).toNat:Int) != 10))) hF
def escj3M (xs:Bs):Bool:=((decide ((xs.length:Int)>1))&&((((xs.getD (Int.toNat 0) 0).toNat:Int)==92)&&(((xs.getD (Int.toNat 1) 0).toNat:Int) != 10)))
theorem escj3_A (xs:Bs) (P:Bool→Prop) (h:P (escj3M xs)):escj3 xs (fun k0=>P k0):=by
 unfold escj3M at h
 unfold escj3
 exact h
def escM (xs:Bs):Bool:=(escj3M xs)
theorem escF_A (xs:Bs) (P:Bool→Prop) (h:P (escM xs)):escF xs (fun k0=>P k0):=by
 unfold escM at h
 unfold escF
 refine ⟨fun hc0=>?_,fun hc0=>?_⟩
 ·skip
  have hd0:=of_decide_eq_true hc0
  refine ⟨?_,?_,?_⟩
  ·exact sdCssa
  ·exact sdCssa
  refine ⟨fun hc1=>?_,fun hc1=>?_⟩
  ·skip
   have hd1:=hc1; try simp only [Bool.and_eq_true,Bool.or_eq_true,Bool.and_eq_false_iff,Bool.or_eq_false_iff,Bool.not_eq_true',Bool.not_eq_false',decide_eq_true_eq,decide_eq_false_iff_not,beq_iff_eq,beq_eq_false_iff_ne,ne_eq] at hd1
   refine ⟨?_,?_,?_⟩
   ·exact sdCssa
   ·exact sdCssa
   exact escj3_A xs _ h
  skip
  have hd1:=hc1; try simp only [Bool.and_eq_true,Bool.or_eq_true,Bool.and_eq_false_iff,Bool.or_eq_false_iff,Bool.not_eq_true',Bool.not_eq_false',decide_eq_true_eq,decide_eq_false_iff_not,beq_iff_eq,beq_eq_false_iff_ne,ne_eq] at hd1
  exact escj3_A xs _ h
 skip
 have hd0:=of_decide_eq_false hc0
 exact escj3_A xs _ h
theorem esc_F (xs:Bs):escF xs (fun k0=>k0=escM xs) :=
 escF_A xs (fun z=>z=escM xs) rfl
theorem esc_c {g:Ghost} (xs:Bs)  : CallsG prog 92 #[sv xs] g (.bool (escM xs)) :=
 (esc_ok xs _ (esc_F xs)).gv
def begj15 (xs:Bs) (K:Bool→Prop):Prop :=
 K ((((xs.getD (Int.toNat 1) 0).toNat:Int)==45)||((startsM ((xs.getD (Int.toNat 1) 0).toNat:Int))||(escM (xs.drop (Int.toNat 1)))))
def begj19 (xs:Bs) (K:Bool→Prop) (e2:UInt8):Prop :=
 K (startsM (e2.toNat:Int)||escM xs)
def begF (xs:Bs) (K:Bool→Prop):Prop :=
 ((xs==([]:Bs))=true→K false)∧((xs==([]:Bs))=false→(0:Int)≤0∧Int.toNat 0<xs.length∧(((((xs.getD (Int.toNat 0) 0).toNat:Int)==45)&&(decide ((xs.length:Int)>1)))=true→(0:Int)≤1∧Int.toNat 1<xs.length∧((((xs.getD (Int.toNat 1) 0).toNat:Int)==45)=true→begj15 xs K)∧((((xs.getD (Int.toNat 1) 0).toNat:Int)==45)=false→((startsM ((xs.getD (Int.toNat 1) 0).toNat:Int))=true→begj15 xs K)∧((startsM ((xs.getD (Int.toNat 1) 0).toNat:Int))=false→(0:Int)≤1∧(1:Int)≤(xs.length:Int)∧(xs.length:Int)≤(xs.length:Int)∧begj15 xs K)))∧(((((xs.getD (Int.toNat 0) 0).toNat:Int)==45)&&(decide ((xs.length:Int)>1)))=false→((startsM ((xs.getD (Int.toNat 0) 0).toNat:Int))=true→begj19 xs K (xs.getD (Int.toNat 0) 0))∧((startsM ((xs.getD (Int.toNat 0) 0).toNat:Int))=false→begj19 xs K (xs.getD (Int.toNat 0) 0))))
theorem beg_ok {g:Ghost} (xs:Bs) (K:Bool→Prop)
  (hF:begF xs K):CallsH prog 94 #[sv xs] g [] (fun g' H' v=>∃ (r0:Bool),v=.bool r0∧H'=[]∧K r0):=by
 refine CallsH.en 33 func94 rfl fun w0=>?_
 refine Ok.sr (Ok.B 1 [(0,sv xs)] kr (Ok.nt (Ok.q (Ok.sr (Ok.b 1 [0] [(3,sv xs)] ?_)))))
 refine Ok.o (OpOk.s (v:=.bool (xs==([]:Bs))) (Yields.sc (f:=.eql) (a:=xs) (b:=([]:Bs)) kr kr rfl) rfl rfl (Ok.nt (Ok.cw hF (fun hc1 hF=>?_) (fun hc1 hF=>?_))))
 ·refine Ok.sr (Ok.B 1 [(2,.bool false)] kr (Ok.nt (Ok.ret (Ok.tr ?_))))
  exact Ok.pb false hF
 refine Ok.k (Ok.t (Ok.q (Ok.sr (Ok.b 1 [0] [(5,sv xs)] ?_))))
 obtain ⟨h02,h12,hF⟩:=hF
 have he2:=get_of (l:=xs) (0:UInt8) h12
 generalize hg2:(xs.getD (Int.toNat 0) 0)=e2 at he2 hF ⊢
 refine Ok.o (OpOk.s (v:=.int .u8 (e2.toNat:Int)) (Yields.ix (k:=.i64) (i:=0) (s:=xs) (b:=e2) kr kr underlying9 h02 he2) rfl rfl (Ok.b 2 [0] [(8,.bool ((e2.toNat:Int)==45))] ?_))
 refine Ok.w 4 [(0,sv xs),(12,.bool (((e2.toNat:Int)==45)&&(decide ((xs.length:Int)>1))))] (fun hR3=>?_) ?_
 ·refine Ok.a 8 ((e2.toNat:Int)==45) rfl (fun hc4=>?_) (fun hc4=>?_)
  ·skip
   refine Ok.b 4 [0] [(12,.bool (decide ((xs.length:Int)>1)))] ?_
   refine Ok.rb 12 (((e2.toNat:Int)==45)&&(decide ((xs.length:Int)>1))) (mand_t hc4) (Ok.b 0 [0] [(12,.bool (((e2.toNat:Int)==45)&&(decide ((xs.length:Int)>1))))] ?_)
   exact hR3
  skip
  refine Ok.b 4 [0] [(12,.bool false)] ?_
  refine Ok.rb 12 (((e2.toNat:Int)==45)&&(decide ((xs.length:Int)>1))) (mand_f hc4) (Ok.b 0 [0] [(12,.bool (((e2.toNat:Int)==45)&&(decide ((xs.length:Int)>1))))] ?_)
  exact hR3
 refine Ok.nt (Ok.cw hF (fun hc5 hF=>?_) (fun hc5 hF=>?_))
 ·refine Ok.ct [(2,.bool ((((xs.getD (Int.toNat 1) 0).toNat:Int)==45)||((startsM ((xs.getD (Int.toNat 1) 0).toNat:Int))||(escM (xs.drop (Int.toNat 1))))))] [] (begj15 xs K) ?_ (fun hF=>?_)
  ·
   refine Ok.r (Ok.b 1 [0] [(13,sv xs)] ?_)
   obtain ⟨h06,h16,hF⟩:=hF
   have he6:=get_of (l:=xs) (0:UInt8) h16
   generalize hg6:(xs.getD (Int.toNat 1) 0)=e6 at he6 hF ⊢
   refine Ok.o (OpOk.s (v:=.int .u8 (e6.toNat:Int)) (Yields.ix (k:=.i64) (i:=1) (s:=xs) (b:=e6) kr kr underlying9 h06 he6) rfl rfl (Ok.b 2 [0] [(16,.bool ((e6.toNat:Int)==45))] ?_))
   refine Ok.a 16 ((e6.toNat:Int)==45) rfl (fun hc7=>?_) (fun hc7=>?_)
   ·replace hF:=hF.1 hc7
    refine Ok.B 10 [(2,.bool true)] kr (Ok.j (Ok.t ?_))
    subst hg6
    refine Ok.rb 2 ((((xs.getD (Int.toNat 1) 0).toNat:Int)==45)||((startsM ((xs.getD (Int.toNat 1) 0).toNat:Int))||(escM (xs.drop (Int.toNat 1))))) (mor_t hc7) ?_
    exact fz hF
   replace hF:=hF.2 hc7
   refine Ok.b 1 [0] [(16,.bool false),(17,sv xs)] ?_
   refine Ok.oy (OpOk.s (v:=.int .u8 (e6.toNat:Int)) (Yields.ix (k:=.i64) (i:=1) (s:=xs) (b:=e6) kr kr underlying9 h06 he6) rfl rfl (Ok.rn 3 [.k (starts_c (e6.toNat:Int))] [0] [(21,.bool (startsM (e6.toNat:Int)))] ?_))
   refine Ok.a 21 (startsM (e6.toNat:Int)) rfl (fun hc8=>?_) (fun hc8=>?_)
   ·replace hF:=hF.1 hc8
    refine Ok.B 5 [(2,.bool true)] kr (Ok.j (Ok.t ?_))
    subst hg6
    refine Ok.rb 2 ((((xs.getD (Int.toNat 1) 0).toNat:Int)==45)||((startsM ((xs.getD (Int.toNat 1) 0).toNat:Int))||(escM (xs.drop (Int.toNat 1))))) (Eq.trans (mor_t hc8) (mor_f hc7)) ?_
    exact fz hF
   replace hF:=hF.2 hc8
   refine Ok.B 1 [(21,.bool false),(22,sv xs)] kr ?_
   obtain ⟨h09,h19,h29,hF⟩:=hF
   refine Ok.oy (OpOk.s (Yields.ss (s:=xs) (l:=1) (h:=(xs.length:Int)) kr underlying9 (.inl ⟨_,_,rfl,rfl⟩) (.inr ⟨rfl,rfl⟩) h09 h19 h29 (xs.drop (Int.toNat 1)) (tkd _ _)) rfl rfl (Ok.rn 3 [.k (esc_c (xs.drop (Int.toNat 1)))] [] [(2,.bool (escM (xs.drop (Int.toNat 1))))] ?_))
   refine Ok.j (Ok.t ?_)
   subst hg6
   refine Ok.rb 2 ((((xs.getD (Int.toNat 1) 0).toNat:Int)==45)||((startsM ((xs.getD (Int.toNat 1) 0).toNat:Int))||(escM (xs.drop (Int.toNat 1))))) (Eq.trans (mor_f hc8) (mor_f hc7)) ?_
   exact fz hF
  refine Ok.ret (Ok.tr ?_)
  exact Ok.pb ((((xs.getD (Int.toNat 1) 0).toNat:Int)==45)||((startsM ((xs.getD (Int.toNat 1) 0).toNat:Int))||(escM (xs.drop (Int.toNat 1))))) hF
 refine Ok.k (Ok.t (Ok.ct [(2,.bool (startsM (e2.toNat:Int)||escM xs))] [] (begj19 xs K e2) ?_ (fun hF=>?_)))
 ·
  refine Ok.r (Ok.b 1 [0] [(26,sv xs)] ?_)
  refine Ok.o (OpOk.s (v:=.int .u8 (e2.toNat:Int)) (Yields.ix (k:=.i64) (i:=0) (s:=xs) (b:=e2) kr kr underlying9 h02 he2) rfl rfl (Ok.rn 2 [.k (starts_c (e2.toNat:Int))] [0] [(29,.bool (startsM (e2.toNat:Int)))] ?_))
  refine Ok.bw 29 hF (fun K0 hF=>?_) (fun K0 hF=>?_)
  ·refine Ok.B 4 [(2,.bool true)] kr (Ok.nt (Ok.rb 2 (startsM (e2.toNat:Int)||escM xs) (mor_t K0) ?_))
   exact fz hF
  refine Ok.rn 4 [.k (esc_c xs)] [] [(2,.bool (escM xs))] ?_
  refine Ok.nt (Ok.rb 2 (startsM (e2.toNat:Int)||escM xs) (mor_f K0) ?_)
  exact fz hF
 refine Ok.ret ?_
 exact Ok.pb (startsM (e2.toNat:Int)||escM xs) hF
def begj15M (xs:Bs):Bool:=((((xs.getD (Int.toNat 1) 0).toNat:Int)==45)||((startsM ((xs.getD (Int.toNat 1) 0).toNat:Int))||(escM (xs.drop (Int.toNat 1)))))
theorem begj15_A (xs:Bs) (P:Bool→Prop) (h:P (begj15M xs)):begj15 xs (fun k0=>P k0):=by
 unfold begj15M at h
 unfold begj15
 exact h
def begj19M (xs:Bs) (e2:UInt8):Bool:=(startsM (e2.toNat:Int)||escM xs)
theorem begj19_A (xs:Bs) (e2:UInt8) (P:Bool→Prop) (h:P (begj19M xs e2)):begj19 xs (fun k0=>P k0) e2:=by
 unfold begj19M at h
 unfold begj19
 exact h
def begM (xs:Bs):Bool:=(if (xs==([]:Bs))=true then false else (if ((((xs.getD (Int.toNat 0) 0).toNat:Int)==45)&&(decide ((xs.length:Int)>1)))=true then (begj15M xs) else (begj19M xs (xs.getD (Int.toNat 0) 0))))
theorem begF_A (xs:Bs) (P:Bool→Prop) (h:P (begM xs)):begF xs (fun k0=>P k0):=by
 unfold begM at h
 unfold begF
 refine ⟨fun hc0=>?_,fun hc0=>?_⟩
 ·rw [if_t hc0] at h
  have hd0:=hc0; try simp only [Bool.and_eq_true,Bool.or_eq_true,Bool.and_eq_false_iff,Bool.or_eq_false_iff,Bool.not_eq_true',Bool.not_eq_false',decide_eq_true_eq,decide_eq_false_iff_not,beq_iff_eq,beq_eq_false_iff_ne,ne_eq] at hd0
  exact h
 rw [if_f hc0] at h
 have hd0:=hc0; try simp only [Bool.and_eq_true,Bool.or_eq_true,Bool.and_eq_false_iff,Bool.or_eq_false_iff,Bool.not_eq_true',Bool.not_eq_false',decide_eq_true_eq,decide_eq_false_iff_not,beq_iff_eq,beq_eq_false_iff_ne,ne_eq] at hd0
 refine ⟨?_,?_,?_⟩
 ·exact sdCssa
 ·exact sdCssa
 refine ⟨fun hc1=>?_,fun hc1=>?_⟩
 ·rw [if_t hc1] at h
  have hd1:=hc1; try simp only [Bool.and_eq_true,Bool.or_eq_true,Bool.and_eq_false_iff,Bool.or_eq_false_iff,Bool.not_eq_true',Bool.not_eq_false',decide_eq_true_eq,decide_eq_false_iff_not,beq_iff_eq,beq_eq_false_iff_ne,ne_eq] at hd1
  refine ⟨?_,?_,?_⟩
  ·exact sdCssa
  ·exact sdCssa
  refine ⟨fun hc2=>?_,fun hc2=>?_⟩
  ·skip
   have hd2:=hc2; try simp only [Bool.and_eq_true,Bool.or_eq_true,Bool.and_eq_false_iff,Bool.or_eq_false_iff,Bool.not_eq_true',Bool.not_eq_false',decide_eq_true_eq,decide_eq_false_iff_not,beq_iff_eq,beq_eq_false_iff_ne,ne_eq] at hd2
   exact begj15_A xs _ h
  skip
  have hd2:=hc2; try simp only [Bool.and_eq_true,Bool.or_eq_true,Bool.and_eq_false_iff,Bool.or_eq_false_iff,Bool.not_eq_true',Bool.not_eq_false',decide_eq_true_eq,decide_eq_false_iff_not,beq_iff_eq,beq_eq_false_iff_ne,ne_eq] at hd2
  refine ⟨fun hc3=>?_,fun hc3=>?_⟩
  ·skip
   exact begj15_A xs _ h
  skip
  refine ⟨?_,?_,?_,?_⟩
  ·exact sdCssa
  ·exact sdCssa
  ·exact sdCssa
  exact begj15_A xs _ h
 rw [if_f hc1] at h
 have hd1:=hc1; try simp only [Bool.and_eq_true,Bool.or_eq_true,Bool.and_eq_false_iff,Bool.or_eq_false_iff,Bool.not_eq_true',Bool.not_eq_false',decide_eq_true_eq,decide_eq_false_iff_not,beq_iff_eq,beq_eq_false_iff_ne,ne_eq] at hd1
 refine ⟨fun hc2=>?_,fun hc2=>?_⟩
 ·skip
  exact begj19_A xs (xs.getD (Int.toNat 0) 0) _ h
 skip
 exact begj19_A xs (xs.getD (Int.toNat 0) 0) _ h
theorem beg_F (xs:Bs):begF xs (fun k0=>k0=begM xs) :=
 begF_A xs (fun z=>z=begM xs) rfl
theorem beg_c {g:Ghost} (xs:Bs)  : CallsG prog 94 #[sv xs] g (.bool (begM xs)) :=
 (beg_ok xs _ (beg_F xs)).gv
def namel9b (xs:Bs) (K:Bs→Int→Prop) (y0:Int) (q0:List Int) (C9:Int→List Int→Prop):Prop :=
 ((decide (y0<(xs.length:Int)))=true→0≤y0∧(y0:Int)≤(xs.length:Int)∧(xs.length:Int)≤(xs.length:Int)∧((escM (xs.drop y0.toNat))=true→0≤w6 (y0+1)∧Int.toNat (w6 (y0+1))<xs.length∧Bld.wbP q0 ((xs.getD (Int.toNat (w6 (y0+1))) 0).toNat:Int)∧C9 (w6 (y0+2)) (Bld.wbS q0 ((xs.getD (Int.toNat (w6 (y0+1))) 0).toNat:Int)).2)∧((escM (xs.drop y0.toNat))=false→0≤y0∧y0.toNat<xs.length∧((signM ((xs.getD y0.toNat 0).toNat:Int))=true→Bld.wbP q0 ((xs.getD y0.toNat 0).toNat:Int)∧C9 (w6 (y0+1)) (Bld.wbS q0 ((xs.getD y0.toNat 0).toNat:Int)).2)∧((signM ((xs.getD y0.toNat 0).toNat:Int))=false→Bld.stP q0∧K (bytesOf q0) y0)))∧((decide (y0<(xs.length:Int)))=false→Bld.stP q0∧K (bytesOf q0) y0)
def namel9 (xs:Bs) (K:Bs→Int→Prop):Nat→Int→List Int→Prop
 | 0,_,_=>False
 | k+1,y0,q0=>namel9b xs K y0 q0 (namel9 xs K k)
def nameF (xs:Bs) (K:Bs→Int→Prop):Prop :=
 ∃ k,namel9 xs K k 0 ([]:List Int)
theorem name_ok {g:Ghost} (xs:Bs) (K:Bs→Int→Prop)
  (hF:nameF xs K):CallsH prog 138 #[sv xs] g [] (fun g' H' v=>∃ (r0:Bs),∃ (r1:Int),v=.tuple #[sv r0,iv r1]∧H'=[]∧K r0 r1):=by
 refine CallsH.en 37 func138 rfl fun w0=>?_
 refine Ok.sr (Ok.B 2 [(0,sv xs)] kr (Ok.nt (Ok.q (Ok.r ?_))))
 have hL1:RepL g yb [] []:=rfl
 refine Ok.ownNil 5 1 (Ok.o (OpOk.aw #[.pointer none,.slice none 0 0] fun b2=>?_))
 refine Ok.bhd (Ok.nt (Ok.sr (Ok.B 1 [(0,sv xs),(4,pv b2 0),(5,iv 0)] kr (Ok.nt (Ok.q (Ok.block ?_))))))
 obtain ⟨k,hF⟩:=hF
 refine Ok.L (fun k a W=>∃ gl9:Ghost,Gext w0 g gl9∧∃ (y0:Int) (e0:Option Addr) (f0:Nat) (q0:List Int) (b0:List Value),RepL gl9 yb b0 q0∧StA 37 [(0,sv xs),(4,pv b2 0),(5,iv y0)] a∧StW w0 [.bhd b2 87 (.slice e0 q0.length f0),.own (.slice e0 q0.length f0) 5 1 q0.length b0] gl9 W∧namel9 xs K k y0 q0) k ?_ ?_
 ·
  exact fun _ _ u v=>⟨g,Gext.r w0 g,0,none,0,([]:List Int),[],hL1,fA u v hF⟩
 clear hF
 rintro (_ | k9) _ _ ⟨gl9,o0,y0,e0,f0,q0,b0,j0,q⟩
 exact (q.2.2:False).elim
 refine jn (fun hF=>?_) _ _ q
 refine Ok.q (Ok.sr (Ok.b 4 [0,4,5] [(9,.bool (decide (y0<(xs.length:Int))))] ?_))
 refine Ok.nt (Ok.cw hF (fun hc3 hF=>?_) (fun hc3 hF=>?_))
 ·refine Ok.k (Ok.t (Ok.block (Ok.block (Ok.sr (Ok.b 2 [0,4,5] [(13,sv xs),(14,iv y0)] ?_)))))
  obtain ⟨h04,h14,h24,hF⟩:=hF
  refine Ok.o (OpOk.s (Yields.ss (s:=xs) (l:=y0) (h:=(xs.length:Int)) kr underlying9 (.inl ⟨_,_,rfl,rfl⟩) (.inr ⟨rfl,rfl⟩) h04 h14 h24 (xs.drop y0.toNat) (tkd _ _)) rfl rfl (Ok.rn 2 [.k (esc_c (xs.drop y0.toNat))] [0,4,5] [(12,.bool (escM (xs.drop y0.toNat)))] ?_))
  refine Ok.nt (Ok.cw hF (fun hc5 hF=>?_) (fun hc5 hF=>?_))
  ·refine Ok.sr (Ok.b 3 [0,4,5] [(17,sv xs),(19,iv (w6 (y0+1)))] ?_)
   obtain ⟨h06,h16,hF⟩:=hF
   have he6:=get_of (l:=xs) (0:UInt8) h16
   generalize hg6:(xs.getD (Int.toNat (w6 (y0+1))) 0)=e6 at he6 hF ⊢
   refine Ok.o (OpOk.s (v:=.int .u8 (e6.toNat:Int)) (Yields.ix (k:=.i64) (i:=w6 (y0+1)) (s:=xs) (b:=e6) kr kr underlying9 h06 he6) rfl rfl ?_)
   obtain ⟨hp7,hF⟩:=hF
   refine Ok.o (OpOk.callH [_,_] _ enr rfl (Bld.wb_c q0 (e6.toNat:Int) j0 hp7) rfl fun g8 _ _ hx8 hV8=>?_)
   obtain ⟨a8_0,c8_0,xs8_0,rfl,hL8_0,rfl⟩:=hV8
   refine Ok.nt (Ok.r (Ok.b 3 [0,4] [(5,iv (w6 (y0+2)))] ?_))
   refine Ok.j (Ok.kn (Ok.kn (Ok.t ?_)))
   subst hg6
   exact fun _ _ u v=>⟨k9,nl,g8,o0.trans hx8,w6 (y0+2),a8_0,c8_0,(Bld.wbS q0 ((xs.getD (Int.toNat (w6 (y0+1))) 0).toNat:Int)).2,xs8_0,hL8_0,fA u v hF⟩
  refine Ok.sr (Ok.b 2 [0,4,5] [(25,sv xs),(26,iv y0)] ?_)
  obtain ⟨h09,h19,hF⟩:=hF
  have he9:=get_of (l:=xs) (0:UInt8) h19
  generalize hg9:(xs.getD y0.toNat 0)=e9 at he9 hF ⊢
  refine Ok.o (OpOk.s (v:=.int .u8 (e9.toNat:Int)) (Yields.ix (k:=.i64) (i:=y0) (s:=xs) (b:=e9) kr kr underlying9 h09 he9) rfl rfl (Ok.rn 2 [.k (sign_c (e9.toNat:Int))] [0,4,5] [(24,.bool (signM (e9.toNat:Int)))] ?_))
  refine Ok.nt (Ok.cn hF rfl (fun K0=>?_) (fun K0=>?_))
  ·replace hF:=hF.1 K0
   refine Ok.sr (Ok.b 2 [0,4,5] [(29,sv xs),(30,iv y0)] ?_)
   refine Ok.o (OpOk.s (v:=.int .u8 (e9.toNat:Int)) (Yields.ix (k:=.i64) (i:=y0) (s:=xs) (b:=e9) kr kr underlying9 h09 he9) rfl rfl ?_)
   obtain ⟨hp11,hF⟩:=hF
   refine Ok.o (OpOk.callH [_,_] _ enr rfl (Bld.wb_c q0 (e9.toNat:Int) j0 hp11) rfl fun g12 _ _ hx12 hV12=>?_)
   obtain ⟨a12_0,c12_0,xs12_0,rfl,hL12_0,rfl⟩:=hV12
   refine Ok.nt (Ok.r (Ok.b 3 [0,4] [(5,iv (w6 (y0+1)))] ?_))
   refine Ok.j (Ok.kn (Ok.kn (Ok.t ?_)))
   subst hg9
   exact fun _ _ u v=>⟨k9,nl,g12,o0.trans hx12,w6 (y0+1),a12_0,c12_0,(Bld.wbS q0 ((xs.getD y0.toNat 0).toNat:Int)).2,xs12_0,hL12_0,fA u v hF⟩
  replace hF:=hF.2 K0
  refine Ok.q (Ok.r ?_)
  obtain ⟨hp13,hF⟩:=hF
  refine Ok.o (OpOk.callH [_,_] _ enr rfl (Bld.st_c q0 j0 hp13) rfl fun g14 _ _ hx14 hV14=>?_)
  obtain ⟨rfl,rfl⟩:=hV14
  refine Ok.B 3 [(2,sv (bytesOf q0)),(3,iv y0)] kr (Ok.nt (Ok.ret (Ok.kr (Ok.kr (Ok.tr (Ok.kr (Ok.tr ?_)))))))
  exact Ok.resH (vs:=[sv (bytesOf q0),iv y0]) (.inl rfl) rfl (.cons (.tmp rfl) (.cons (.tmp rfl) .nil)) (o0.trans hx14) ⟨bytesOf q0,y0,rfl,rfl,hF⟩
 refine Ok.x (Ok.thenE (Ok.thenE (Ok.blockHit (Ok.t (Ok.q (Ok.r ?_))))))
 obtain ⟨hp15,hF⟩:=hF
 refine Ok.o (OpOk.callH [_,_] _ enr rfl (Bld.st_c q0 j0 hp15) rfl fun g16 _ _ hx16 hV16=>?_)
 obtain ⟨rfl,rfl⟩:=hV16
 refine Ok.B 3 [(2,sv (bytesOf q0)),(3,iv y0)] kr (Ok.nt (Ok.ret ?_))
 exact Ok.resH (vs:=[sv (bytesOf q0),iv y0]) (.inl rfl) rfl (.cons (.tmp rfl) (.cons (.tmp rfl) .nil)) (o0.trans hx16) ⟨bytesOf q0,y0,rfl,rfl,hF⟩
def textj16 (xs:Bs) (v0:Int) (z0:List Int) (C9:Int→List Int→Prop):Prop :=
 C9 (w6 ((if ((((xs.getD v0.toNat 0).toNat:Int)==92)&&(decide (w6 (v0+1)<(xs.length:Int))))=true then w6 (v0+1) else v0)+1)) (if ((((xs.getD v0.toNat 0).toNat:Int)==92)&&(decide (w6 (v0+1)<(xs.length:Int))))=true then (Bld.wbS z0 ((xs.getD (Int.toNat (w6 (v0+1))) 0).toNat:Int)).2 else (Bld.wbS z0 ((xs.getD v0.toNat 0).toNat:Int)).2)
def textl9b (xs:Bs) (K:KT→Prop) (v0:Int) (z0:List Int) (C9:Int→List Int→Prop):Prop :=
 ((decide (v0<(xs.length:Int)))=true→0≤v0∧v0.toNat<xs.length∧(0:Int)≤0∧Int.toNat 0<xs.length∧((((xs.getD v0.toNat 0).toNat:Int)==((xs.getD (Int.toNat 0) 0).toNat:Int))=true→(0:Int)≤0∧0≤w6 (v0+1)∧w6 (v0+1)≤(xs.length:Int)∧Bld.stP z0∧K (5,xs.take (Int.toNat (w6 (v0+1))),bytesOf z0,0))∧((((xs.getD v0.toNat 0).toNat:Int)==((xs.getD (Int.toNat 0) 0).toNat:Int))=false→((((xs.getD v0.toNat 0).toNat:Int)==10)=true→(0:Int)≤0∧0≤v0∧v0≤(xs.length:Int)∧K (6,xs.take v0.toNat,([]:Bs),0))∧((((xs.getD v0.toNat 0).toNat:Int)==10)=false→(((((xs.getD v0.toNat 0).toNat:Int)==92)&&(decide (w6 (v0+1)<(xs.length:Int))))=true→0≤w6 (v0+1)∧Int.toNat (w6 (v0+1))<xs.length∧Bld.wbP z0 ((xs.getD (Int.toNat (w6 (v0+1))) 0).toNat:Int)∧textj16 xs v0 z0 C9)∧(((((xs.getD v0.toNat 0).toNat:Int)==92)&&(decide (w6 (v0+1)<(xs.length:Int))))=false→Bld.wbP z0 ((xs.getD v0.toNat 0).toNat:Int)∧textj16 xs v0 z0 C9))))∧((decide (v0<(xs.length:Int)))=false→K (6,xs,([]:Bs),0))
def textl9 (xs:Bs) (K:KT→Prop):Nat→Int→List Int→Prop
 | 0,_,_=>False
 | k+1,v0,z0=>textl9b xs K v0 z0 (textl9 xs K k)
def textF (xs:Bs) (K:KT→Prop):Prop :=
 ∃ k,textl9 xs K k 1 ([]:List Int)
theorem text_ok {g:Ghost} (xs:Bs) (K:KT→Prop)
  (hF:textF xs K):CallsH prog 90 #[sv xs] g [] (fun g' H' v=>∃ (r0:Int×Bs×Bs×Int),v=.agg (aK r0)∧H'=[]∧K r0):=by
 refine CallsH.en 53 func90 rfl fun w0=>?_
 refine Ok.sr (Ok.o (OpOk.aw zK fun bs2=>?_))
 refine Ok.nt (Ok.q (Ok.r ?_))
 have hL2:RepL g yb [] []:=rfl
 refine Ok.ownNil 5 1 (Ok.o (OpOk.aw #[.pointer none,.slice none 0 0] fun b3=>?_))
 refine Ok.bhd (Ok.nt (Ok.q (Ok.sr (Ok.B 1 [(0,sv xs),(2,pv bs2 0),(3,pv b3 0),(4,iv 1)] kr (Ok.nt (Ok.block ?_))))))
 obtain ⟨k,hF⟩:=hF
 refine Ok.L (fun k a W=>∃ gl9:Ghost,Gext w0 g gl9∧∃ (v0:Int) (g0:Option Addr) (m0:Nat) (z0:List Int) (c0:List Value),RepL gl9 yb c0 z0∧StA 53 [(0,sv xs),(2,pv bs2 0),(3,pv b3 0),(4,iv v0)] a∧StW w0 [.bhd b3 87 (.slice g0 z0.length m0),.own (.slice g0 z0.length m0) 5 1 z0.length c0,.blk bs2 (.cells zK 98)] gl9 W∧textl9 xs K k v0 z0) k ?_ ?_
 ·
  exact fun _ _ u v=>⟨g,Gext.r w0 g,1,none,0,([]:List Int),[],hL2,fA u v hF⟩
 clear hF
 rintro (_ | k9) _ _ ⟨gl9,o0,v0,g0,m0,z0,c0,d0,q⟩
 exact (q.2.2:False).elim
 refine jn (fun hF=>?_) _ _ q
 refine Ok.q (Ok.sr (Ok.b 4 [0,2,3,4] [(9,.bool (decide (v0<(xs.length:Int))))] ?_))
 refine Ok.nt (Ok.cw hF (fun hc4 hF=>?_) (fun hc4 hF=>?_))
 ·refine Ok.k (Ok.t (Ok.cut (fun a W=>∃ Y0:Ghost,Gext w0 gl9 Y0∧∃ (x0:Option Addr) (s0:Nat) (u0:List Value),RepL Y0 yb u0 (if ((((xs.getD v0.toNat 0).toNat:Int)==92)&&(decide (w6 (v0+1)<(xs.length:Int))))=true then (Bld.wbS z0 ((xs.getD (Int.toNat (w6 (v0+1))) 0).toNat:Int)).2 else (Bld.wbS z0 ((xs.getD v0.toNat 0).toNat:Int)).2)∧StA 53 [(0,sv xs),(2,pv bs2 0),(3,pv b3 0),(4,iv (if ((((xs.getD v0.toNat 0).toNat:Int)==92)&&(decide (w6 (v0+1)<(xs.length:Int))))=true then w6 (v0+1) else v0))] a∧StW w0 [.bhd b3 87 (.slice x0 (if ((((xs.getD v0.toNat 0).toNat:Int)==92)&&(decide (w6 (v0+1)<(xs.length:Int))))=true then (Bld.wbS z0 ((xs.getD (Int.toNat (w6 (v0+1))) 0).toNat:Int)).2 else (Bld.wbS z0 ((xs.getD v0.toNat 0).toNat:Int)).2).length s0),.own (.slice x0 (if ((((xs.getD v0.toNat 0).toNat:Int)==92)&&(decide (w6 (v0+1)<(xs.length:Int))))=true then (Bld.wbS z0 ((xs.getD (Int.toNat (w6 (v0+1))) 0).toNat:Int)).2 else (Bld.wbS z0 ((xs.getD v0.toNat 0).toNat:Int)).2).length s0) 5 1 (if ((((xs.getD v0.toNat 0).toNat:Int)==92)&&(decide (w6 (v0+1)<(xs.length:Int))))=true then (Bld.wbS z0 ((xs.getD (Int.toNat (w6 (v0+1))) 0).toNat:Int)).2 else (Bld.wbS z0 ((xs.getD v0.toNat 0).toNat:Int)).2).length u0,.blk bs2 (.cells zK 98)] Y0 W∧textj16 xs v0 z0 (textl9 xs K k9)) ?_ ?_))
  ·
   refine Ok.block (Ok.sr (Ok.b 2 [0,2,3,4] [(12,sv xs),(13,iv v0)] ?_))
   obtain ⟨h05,h15,hF⟩:=hF
   have he5:=get_of (l:=xs) (0:UInt8) h15
   generalize hg5:(xs.getD v0.toNat 0)=e5 at he5 hF ⊢
   refine Ok.o (OpOk.s (v:=.int .u8 (e5.toNat:Int)) (Yields.ix (k:=.i64) (i:=v0) (s:=xs) (b:=e5) kr kr underlying9 h05 he5) rfl rfl (Ok.b 1 [0,2,3,4] [(5,.int .u8 (e5.toNat:Int))] ?_))
   refine Ok.nt (Ok.block (Ok.sr (Ok.b 2 [0,2,3,4,5] [(18,.int .u8 (e5.toNat:Int)),(19,sv xs)] ?_)))
   obtain ⟨h06,h16,hF⟩:=hF
   have he6:=get_of (l:=xs) (0:UInt8) h16
   generalize hg6:(xs.getD (Int.toNat 0) 0)=e6 at he6 hF ⊢
   refine Ok.o (OpOk.s (v:=.int .u8 (e6.toNat:Int)) (Yields.ix (k:=.i64) (i:=0) (s:=xs) (b:=e6) kr kr underlying9 h06 he6) rfl rfl (Ok.b 2 [0,2,3,4,5] [(17,.bool ((e5.toNat:Int)==(e6.toNat:Int)))] ?_))
   refine Ok.nt (Ok.cn hF rfl (fun hc7=>?_) (fun hc7=>?_))
   ·replace hF:=hF.1 hc7
    refine Ok.q (Ok.mix [] [] [] [(0,true),(1,true),(2,true),(3,true),(4,false),(5,true),(6,false)] kr kr (.cons _ (.cons _ (.cons _ .slnil))) (OkM.b 3 [2,3] [(22,sv xs),(24,iv (w6 (v0+1)))] ?_))
    obtain ⟨h08,h18,h28,hF⟩:=hF
    refine OkM.h rfl rfl rfl (OpQ.s (v:=sv (xs.take (Int.toNat (w6 (v0+1))))) (Yields.ss (s:=xs) (l:=0) (h:=w6 (v0+1)) kr underlying9 (.inr ⟨rfl,rfl⟩) (.inl ⟨_,_,rfl,rfl⟩) h08 h18 h28 (xs.take (Int.toNat (w6 (v0+1)))) (by simp)) rfl rfl ?_)
    obtain ⟨hp9,hF⟩:=hF
    refine OkM.t rfl rfl (OpOk.callH [_,_] _ enr rfl (Bld.st_c z0 d0 hp9) rfl fun g10 _ _ U0 hV10=>?_)
    obtain ⟨rfl,rfl⟩:=hV10
    refine OkM.l (i:=4) rfl U0.1 (.cons _ .slnil) (OkM.b 1 [2] [(27,.agg #[iv 5,sv (xs.take (Int.toNat (w6 (v0+1)))),sv (bytesOf z0),iv 0])] ?_)
    refine OkM.t rfl rfl (OpOk.sw 0 #[iv 5,sv (xs.take (Int.toNat (w6 (v0+1)))),sv (bytesOf z0),iv 0] rfl rfl rfl ?_)
    refine OkM.l (i:=6) rfl U0.1 (.cons _ .slnil) (OkM.nil (Ok.t (Ok.ret (Ok.kr (Ok.kr (Ok.tr (Ok.tr (Ok.kr (Ok.tr ?_)))))))))
    exact Ok.p (vs:=[.agg #[iv 5,sv (xs.take (Int.toNat (w6 (v0+1)))),sv (bytesOf z0),iv 0]]) [] [] dc rfl (.inl rfl) rfl (.cons (.cellAgg 0 4 #[iv 5,sv (xs.take (Int.toNat (w6 (v0+1)))),sv (bytesOf z0),iv 0] rfl rfl underlying98 rfl kr kr kr) .nil) (o0.trans U0) ⟨(5,xs.take (Int.toNat (w6 (v0+1))),bytesOf z0,0),rfl,rfl,hF⟩
   replace hF:=hF.2 hc7
   refine Ok.sr (Ok.b 3 [0,2,3,4,5] [(28,.bool ((e5.toNat:Int)==10))] ?_)
   refine Ok.nt (Ok.cn hF rfl (fun J0=>?_) (fun J0=>?_))
   ·replace hF:=hF.1 J0
    refine Ok.sr (Ok.b 2 [2] [(31,sv xs),(32,iv v0)] ?_)
    obtain ⟨h012,h112,h212,hF⟩:=hF
    refine Ok.o (OpOk.s (Yields.ss (s:=xs) (l:=0) (h:=v0) kr underlying9 (.inr ⟨rfl,rfl⟩) (.inl ⟨_,_,rfl,rfl⟩) h012 h112 h212 (xs.take v0.toNat) (by simp)) rfl rfl (Ok.b 1 [2] [(34,.agg #[iv 6,sv (xs.take v0.toNat),sv ([]:Bs),iv 0])] ?_))
    refine Ok.o (OpOk.sw 2 #[iv 6,sv (xs.take v0.toNat),sv ([]:Bs),iv 0] rfl rfl rfl ?_)
    refine Ok.nt (Ok.ret (Ok.kr (Ok.kr (Ok.tr (Ok.tr (Ok.kr (Ok.tr ?_)))))))
    exact Ok.p (vs:=[.agg #[iv 6,sv (xs.take v0.toNat),sv ([]:Bs),iv 0]]) [] [] dc rfl (.inl rfl) rfl (.cons (.cellAgg 2 4 #[iv 6,sv (xs.take v0.toNat),sv ([]:Bs),iv 0] rfl rfl underlying98 rfl kr kr kr) .nil) o0 ⟨(6,xs.take v0.toNat,([]:Bs),0),rfl,rfl,hF⟩
   replace hF:=hF.2 J0
   refine Ok.sr (Ok.b 3 [0,2,3,4,5] [(38,.bool ((e5.toNat:Int)==92))] ?_)
   refine Ok.w 6 [(0,sv xs),(2,pv bs2 0),(3,pv b3 0),(4,iv v0),(5,.int .u8 (e5.toNat:Int)),(44,.bool (((e5.toNat:Int)==92)&&(decide (w6 (v0+1)<(xs.length:Int)))))] (fun X0=>?_) ?_
   ·refine Ok.a 38 ((e5.toNat:Int)==92) rfl (fun W0=>?_) (fun W0=>?_)
    ·skip
     refine Ok.b 6 [0,2,3,4,5] [(44,.bool (decide (w6 (v0+1)<(xs.length:Int))))] ?_
     refine Ok.rb 44 (((e5.toNat:Int)==92)&&(decide (w6 (v0+1)<(xs.length:Int)))) (mand_t W0) (Ok.b 0 [0,2,3,4,5] [(44,.bool (((e5.toNat:Int)==92)&&(decide (w6 (v0+1)<(xs.length:Int)))))] ?_)
     exact X0
    skip
    refine Ok.b 6 [0,2,3,4,5] [(44,.bool false)] ?_
    refine Ok.rb 44 (((e5.toNat:Int)==92)&&(decide (w6 (v0+1)<(xs.length:Int)))) (mand_f W0) (Ok.b 0 [0,2,3,4,5] [(44,.bool (((e5.toNat:Int)==92)&&(decide (w6 (v0+1)<(xs.length:Int)))))] ?_)
    exact X0
   refine Ok.b 1 [0,2,3,4,5] [(35,.bool (((e5.toNat:Int)==92)&&(decide (w6 (v0+1)<(xs.length:Int)))))] ?_
   refine Ok.nt (Ok.cn hF rfl (fun n0=>?_) (fun n0=>?_))
   ·replace hF:=hF.1 n0
    refine Ok.sr (Ok.b 3 [0,2,3] [(4,iv (w6 (v0+1)))] ?_)
    refine Ok.nt (Ok.r (Ok.b 2 [0,2,3,4] [(47,sv xs),(48,iv (w6 (v0+1)))] ?_))
    obtain ⟨h016,h116,hF⟩:=hF
    have S0:=get_of (l:=xs) (0:UInt8) h116
    generalize hg16:(xs.getD (Int.toNat (w6 (v0+1))) 0)=e16 at S0 hF ⊢
    refine Ok.o (OpOk.s (v:=.int .u8 (e16.toNat:Int)) (Yields.ix (k:=.i64) (i:=w6 (v0+1)) (s:=xs) (b:=e16) kr kr underlying9 h016 S0) rfl rfl ?_)
    obtain ⟨hp17,hF⟩:=hF
    refine Ok.o (OpOk.callH [_,_] _ enr rfl (Bld.wb_c z0 (e16.toNat:Int) d0 hp17) rfl fun g18 _ _ hx18 hV18=>?_)
    obtain ⟨i0,Z0,t0,rfl,hL18_0,rfl⟩:=hV18
    refine Ok.j (Ok.kn (Ok.kn (Ok.t ?_)))
    subst hg16
    subst hg6
    subst hg5
    refine Ok.v 4 rfl (show (iv (w6 (v0+1)):Value)=iv (if ((((xs.getD v0.toNat 0).toNat:Int)==92)&&(decide (w6 (v0+1)<(xs.length:Int))))=true then w6 (v0+1) else v0) from congrArg (Value.int .i64) ((if_t n0).symm)) (Ok.heapEq (H':=[.bhd b3 87 (.slice i0 (if ((((xs.getD v0.toNat 0).toNat:Int)==92)&&(decide (w6 (v0+1)<(xs.length:Int))))=true then (Bld.wbS z0 ((xs.getD (Int.toNat (w6 (v0+1))) 0).toNat:Int)).2 else (Bld.wbS z0 ((xs.getD v0.toNat 0).toNat:Int)).2).length Z0),.own (.slice i0 (if ((((xs.getD v0.toNat 0).toNat:Int)==92)&&(decide (w6 (v0+1)<(xs.length:Int))))=true then (Bld.wbS z0 ((xs.getD (Int.toNat (w6 (v0+1))) 0).toNat:Int)).2 else (Bld.wbS z0 ((xs.getD v0.toNat 0).toNat:Int)).2).length Z0) 5 1 (if ((((xs.getD v0.toNat 0).toNat:Int)==92)&&(decide (w6 (v0+1)<(xs.length:Int))))=true then (Bld.wbS z0 ((xs.getD (Int.toNat (w6 (v0+1))) 0).toNat:Int)).2 else (Bld.wbS z0 ((xs.getD v0.toNat 0).toNat:Int)).2).length t0,.blk bs2 (.cells zK 98)]) (econs (congrArg (fun l:Value=>Ent.bhd b3 87 l) (congrArg (fun l:List Int=>Value.slice i0 l.length Z0) ((if_t n0).symm))) (econs (congrArg (fun l:List Int=>Ent.own (.slice i0 l.length Z0) 5 1 l.length t0) ((if_t n0).symm)) (econs (rfl) rfl))) ?_)
    exact fun _ _ u v=>⟨g18,hx18,i0,Z0,t0,(Eq.mp (congrArg (fun l:List Int=>RepL g18 yb t0 l) ((if_t n0).symm)) hL18_0),fA u v hF⟩
   replace hF:=hF.2 n0
   refine Ok.r (Ok.b 1 [0,2,3,4] [(15,.int .u8 (e5.toNat:Int))] ?_)
   obtain ⟨hp19,hF⟩:=hF
   refine Ok.o (OpOk.callH [_,_] _ enr rfl (Bld.wb_c z0 (e5.toNat:Int) d0 hp19) rfl fun g20 _ _ hx20 hV20=>?_)
   obtain ⟨V0,Q0,a0,rfl,hL20_0,rfl⟩:=hV20
   refine Ok.j (Ok.kn (Ok.kn (Ok.t ?_)))
   subst hg6
   subst hg5
   refine Ok.v 4 rfl (show (iv v0:Value)=iv (if ((((xs.getD v0.toNat 0).toNat:Int)==92)&&(decide (w6 (v0+1)<(xs.length:Int))))=true then w6 (v0+1) else v0) from congrArg (Value.int .i64) ((if_f n0).symm)) (Ok.heapEq (H':=[.bhd b3 87 (.slice V0 (if ((((xs.getD v0.toNat 0).toNat:Int)==92)&&(decide (w6 (v0+1)<(xs.length:Int))))=true then (Bld.wbS z0 ((xs.getD (Int.toNat (w6 (v0+1))) 0).toNat:Int)).2 else (Bld.wbS z0 ((xs.getD v0.toNat 0).toNat:Int)).2).length Q0),.own (.slice V0 (if ((((xs.getD v0.toNat 0).toNat:Int)==92)&&(decide (w6 (v0+1)<(xs.length:Int))))=true then (Bld.wbS z0 ((xs.getD (Int.toNat (w6 (v0+1))) 0).toNat:Int)).2 else (Bld.wbS z0 ((xs.getD v0.toNat 0).toNat:Int)).2).length Q0) 5 1 (if ((((xs.getD v0.toNat 0).toNat:Int)==92)&&(decide (w6 (v0+1)<(xs.length:Int))))=true then (Bld.wbS z0 ((xs.getD (Int.toNat (w6 (v0+1))) 0).toNat:Int)).2 else (Bld.wbS z0 ((xs.getD v0.toNat 0).toNat:Int)).2).length a0,.blk bs2 (.cells zK 98)]) (econs (congrArg (fun l:Value=>Ent.bhd b3 87 l) (congrArg (fun l:List Int=>Value.slice V0 l.length Q0) ((if_f n0).symm))) (econs (congrArg (fun l:List Int=>Ent.own (.slice V0 l.length Q0) 5 1 l.length a0) ((if_f n0).symm)) (econs (rfl) rfl))) ?_)
   exact fun _ _ u v=>⟨g20,hx20,V0,Q0,a0,(Eq.mp (congrArg (fun l:List Int=>RepL g20 yb a0 l) ((if_f n0).symm)) hL20_0),fA u v hF⟩
  clear hF
  rintro _ _ ⟨Y0,hxj16,x0,s0,u0,hLyown2_0j16,q⟩
  refine jn (fun hF=>?_) _ _ q
  refine Ok.r (Ok.b 3 [0,2,3] [(4,iv (w6 ((if ((((xs.getD v0.toNat 0).toNat:Int)==92)&&(decide (w6 (v0+1)<(xs.length:Int))))=true then w6 (v0+1) else v0)+1)))] ?_)
  refine Ok.j (Ok.t ?_)
  exact fun _ _ u v=>⟨k9,nl,Y0,o0.trans hxj16,w6 ((if ((((xs.getD v0.toNat 0).toNat:Int)==92)&&(decide (w6 (v0+1)<(xs.length:Int))))=true then w6 (v0+1) else v0)+1),x0,s0,(if ((((xs.getD v0.toNat 0).toNat:Int)==92)&&(decide (w6 (v0+1)<(xs.length:Int))))=true then (Bld.wbS z0 ((xs.getD (Int.toNat (w6 (v0+1))) 0).toNat:Int)).2 else (Bld.wbS z0 ((xs.getD v0.toNat 0).toNat:Int)).2),u0,hLyown2_0j16,fA u v hF⟩
 refine Ok.x (Ok.thenE (Ok.thenE (Ok.blockHit (Ok.t (Ok.sr (Ok.b 2 [2] [(52,.agg #[iv 6,sv xs,sv ([]:Bs),iv 0])] ?_))))))
 refine Ok.o (OpOk.sw 2 #[iv 6,sv xs,sv ([]:Bs),iv 0] rfl rfl rfl ?_)
 refine Ok.nt (Ok.ret ?_)
 exact Ok.p (vs:=[.agg #[iv 6,sv xs,sv ([]:Bs),iv 0]]) [] [] dc rfl (.inl rfl) rfl (.cons (.cellAgg 2 4 #[iv 6,sv xs,sv ([]:Bs),iv 0] rfl rfl underlying98 rfl kr kr kr) .nil) o0 ⟨(6,xs,([]:Bs),0),rfl,rfl,hF⟩
end Go.Proofs.YtdapgmigogpdcaaGreatDoor.Css
