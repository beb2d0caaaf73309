/- The reference's tokens: bytes, names, lower letters. -/
import Derived.Test.YtdapgmigogpdcaaGreatDoorCut
namespace Go.Proofs.YtdapgmigogpdcaaGreatDoor.Tk
open _root_.Go.Proofs.Tryz Go Go.Eng Bld Trm Css
set_option linter.unusedVariables false
set_option linter.unusedSimpArgs false
theorem sdTraa {p:Prop} (h:p:=by first | (have:=hp.2.1; have:=of_decide_eq_true hc0; omega) | (have:=hp.2.1; have:=hp.2.2; have:=hp.1; unfold nameP at this; rw [w64 om] at *; omega) | (have:=hp.2.1; have:=hp.2.2; have:=hp.1; unfold nameP at this; rw [w64 om]; omega) | exact hp.2.1 | omega | assumption | exact trivial | (have h0:=List.length_pos_iff.mpr asm; omega) | (simp; omega) | (simp at *; omega)):p:=h
set_option maxHeartbeats 4000000
set_option maxRecDepth 100000
def rplP (s:Bs) (i:Int):Prop:=nameP s∧0≤i∧i≤s.length+4
def blankF (xc:Int) (K:Bool→Prop):Prop :=
 K (((((xc==32)||(xc==9))||(xc==10))||(xc==12))||(xc==13))
theorem blank_ok {g:Ghost} (xc:Int) (K:Bool→Prop)
  (hF:blankF xc K):CallsH prog 121 #[.int .u8 xc] g [] (fun g' H' v=>∃ (r0:Bool),v=.bool r0∧H'=[]∧K r0):=by
 refine CallsH.en 21 func121 rfl fun w0=>?_
 refine Ok.sr (Ok.B 1 [(0,.int .u8 xc)] kr (Ok.nt (Ok.sr (Ok.b 3 [0] [(5,.bool (xc==32))] ?_))))
 refine Ok.w 3 [(0,.int .u8 xc),(8,.bool ((xc==32)||(xc==9)))] (fun hR1=>?_) ?_
 ·refine Ok.a 5 (xc==32) rfl (fun hc2=>?_) (fun hc2=>?_)
  ·skip
   refine Ok.b 3 [0] [(8,.bool true)] ?_
   refine Ok.rb 8 ((xc==32)||(xc==9)) (mor_t hc2) (Ok.b 0 [0] [(8,.bool ((xc==32)||(xc==9)))] ?_)
   exact hR1
  skip
  refine Ok.b 3 [0] [(8,.bool (xc==9))] ?_
  refine Ok.rb 8 ((xc==32)||(xc==9)) (mor_f hc2) (Ok.b 0 [0] [(8,.bool ((xc==32)||(xc==9)))] ?_)
  exact hR1
 refine Ok.b 1 [0] [(9,.bool ((xc==32)||(xc==9)))] ?_
 refine Ok.w 3 [(0,.int .u8 xc),(12,.bool (((xc==32)||(xc==9))||(xc==10)))] (fun hR3=>?_) ?_
 ·refine Ok.a 9 ((xc==32)||(xc==9)) rfl (fun hc4=>?_) (fun hc4=>?_)
  ·skip
   refine Ok.b 3 [0] [(12,.bool true)] ?_
   refine Ok.rb 12 (((xc==32)||(xc==9))||(xc==10)) (mor_t hc4) (Ok.b 0 [0] [(12,.bool (((xc==32)||(xc==9))||(xc==10)))] ?_)
   exact hR3
  skip
  refine Ok.b 3 [0] [(12,.bool (xc==10))] ?_
  refine Ok.rb 12 (((xc==32)||(xc==9))||(xc==10)) (mor_f hc4) (Ok.b 0 [0] [(12,.bool (((xc==32)||(xc==9))||(xc==10)))] ?_)
  exact hR3
 refine Ok.b 1 [0] [(13,.bool (((xc==32)||(xc==9))||(xc==10)))] ?_
 refine Ok.w 3 [(0,.int .u8 xc),(16,.bool ((((xc==32)||(xc==9))||(xc==10))||(xc==12)))] (fun hR5=>?_) ?_
 ·refine Ok.a 13 (((xc==32)||(xc==9))||(xc==10)) rfl (fun hc6=>?_) (fun hc6=>?_)
  ·skip
   refine Ok.b 3 [0] [(16,.bool true)] ?_
   refine Ok.rb 16 ((((xc==32)||(xc==9))||(xc==10))||(xc==12)) (mor_t hc6) (Ok.b 0 [0] [(16,.bool ((((xc==32)||(xc==9))||(xc==10))||(xc==12)))] ?_)
   exact hR5
  skip
  refine Ok.b 3 [0] [(16,.bool (xc==12))] ?_
  refine Ok.rb 16 ((((xc==32)||(xc==9))||(xc==10))||(xc==12)) (mor_f hc6) (Ok.b 0 [0] [(16,.bool ((((xc==32)||(xc==9))||(xc==10))||(xc==12)))] ?_)
  exact hR5
 refine Ok.b 1 [0] [(17,.bool ((((xc==32)||(xc==9))||(xc==10))||(xc==12)))] ?_
 refine Ok.w 3 [(20,.bool (((((xc==32)||(xc==9))||(xc==10))||(xc==12))||(xc==13)))] (fun hR7=>?_) ?_
 ·refine Ok.a 17 ((((xc==32)||(xc==9))||(xc==10))||(xc==12)) rfl (fun hc8=>?_) (fun hc8=>?_)
  ·skip
   refine Ok.B 3 [(20,.bool true)] kr (Ok.rb 20 (((((xc==32)||(xc==9))||(xc==10))||(xc==12))||(xc==13)) (mor_t hc8) (Ok.B 0 [(20,.bool (((((xc==32)||(xc==9))||(xc==10))||(xc==12))||(xc==13)))] kr ?_))
   exact hR7
  skip
  refine Ok.B 3 [(20,.bool (xc==13))] kr (Ok.rb 20 (((((xc==32)||(xc==9))||(xc==10))||(xc==12))||(xc==13)) (mor_f hc8) (Ok.B 0 [(20,.bool (((((xc==32)||(xc==9))||(xc==10))||(xc==12))||(xc==13)))] kr ?_))
  exact hR7
 refine Ok.B 1 [(2,.bool (((((xc==32)||(xc==9))||(xc==10))||(xc==12))||(xc==13)))] kr (Ok.nt (Ok.ret ?_))
 exact Ok.pb (((((xc==32)||(xc==9))||(xc==10))||(xc==12))||(xc==13)) hF
def blankM (xc:Int):Bool:=(((((xc==32)||(xc==9))||(xc==10))||(xc==12))||(xc==13))
theorem blankF_A (xc:Int) (P:Bool→Prop) (h:P (blankM xc)):blankF xc (fun k0=>P k0):=by
 unfold blankM at h
 unfold blankF
 exact h
theorem blank_F (xc:Int):blankF xc (fun k0=>k0=blankM xc) :=
 blankF_A xc (fun z=>z=blankM xc) rfl
theorem blank_c {g:Ghost} (xc:Int)  : CallsG prog 121 #[.int .u8 xc] g (.bool (blankM xc)) :=
 (blank_ok xc _ (blank_F xc)).gv
def rdigF (xc:Int) (K:Bool→Prop):Prop :=
 K (decide (xc≥48)&&decide (xc≤57))
theorem rdig_ok {g:Ghost} (xc:Int) (K:Bool→Prop)
  (hF:rdigF xc K):CallsH prog 211 #[.int .u8 xc] g [] (fun g' H' v=>∃ (r0:Bool),v=.bool r0∧H'=[]∧K r0):=by
 refine CallsH.en 9 func211 rfl fun w0=>?_
 refine Ok.sr (Ok.B 1 [(0,.int .u8 xc)] kr (Ok.nt (Ok.sr (Ok.b 3 [0] [(5,.bool (decide (xc≥48)))] ?_))))
 refine Ok.w 3 [(8,.bool (decide (xc≥48)&&decide (xc≤57)))] (fun hR1=>?_) ?_
 ·refine Ok.a 5 (decide (xc≥48)) rfl (fun hc2=>?_) (fun hc2=>?_)
  ·skip
   refine Ok.B 3 [(8,.bool (decide (xc≤57)))] kr (Ok.rb 8 (decide (xc≥48)&&decide (xc≤57)) (mand_t hc2) (Ok.B 0 [(8,.bool (decide (xc≥48)&&decide (xc≤57)))] kr ?_))
   exact hR1
  skip
  refine Ok.B 3 [(8,.bool false)] kr (Ok.rb 8 (decide (xc≥48)&&decide (xc≤57)) (mand_f hc2) (Ok.B 0 [(8,.bool (decide (xc≥48)&&decide (xc≤57)))] kr ?_))
  exact hR1
 refine Ok.B 1 [(2,.bool (decide (xc≥48)&&decide (xc≤57)))] kr (Ok.nt (Ok.ret ?_))
 exact Ok.pb (decide (xc≥48)&&decide (xc≤57)) hF
def rdigM (xc:Int):Bool:=(decide (xc≥48)&&decide (xc≤57))
theorem rdigF_A (xc:Int) (P:Bool→Prop) (h:P (rdigM xc)):rdigF xc (fun k0=>P k0):=by
 unfold rdigM at h
 unfold rdigF
 exact h
theorem rdig_F (xc:Int):rdigF xc (fun k0=>k0=rdigM xc) :=
 rdigF_A xc (fun z=>z=rdigM xc) rfl
theorem rdig_c {g:Ghost} (xc:Int)  : CallsG prog 211 #[.int .u8 xc] g (.bool (rdigM xc)) :=
 (rdig_ok xc _ (rdig_F xc)).gv
def rletF (xc:Int) (K:Bool→Prop):Prop :=
 K ((((decide (xc≥97)&&decide (xc≤122))||(decide (xc≥65)&&decide (xc≤90)))||(xc==95))||decide (xc≥128))
theorem rlet_ok {g:Ghost} (xc:Int) (K:Bool→Prop)
  (hF:rletF xc K):CallsH prog 212 #[.int .u8 xc] g [] (fun g' H' v=>∃ (r0:Bool),v=.bool r0∧H'=[]∧K r0):=by
 refine CallsH.en 25 func212 rfl fun w0=>?_
 refine Ok.sr (Ok.B 1 [(0,.int .u8 xc)] kr (Ok.nt (Ok.sr (Ok.b 3 [0] [(5,.bool (decide (xc≥97)))] ?_))))
 refine Ok.w 3 [(0,.int .u8 xc),(8,.bool (decide (xc≥97)&&decide (xc≤122)))] (fun hR1=>?_) ?_
 ·refine Ok.a 5 (decide (xc≥97)) rfl (fun hc2=>?_) (fun hc2=>?_)
  ·skip
   refine Ok.b 3 [0] [(8,.bool (decide (xc≤122)))] ?_
   refine Ok.rb 8 (decide (xc≥97)&&decide (xc≤122)) (mand_t hc2) (Ok.b 0 [0] [(8,.bool (decide (xc≥97)&&decide (xc≤122)))] ?_)
   exact hR1
  skip
  refine Ok.b 3 [0] [(8,.bool false)] ?_
  refine Ok.rb 8 (decide (xc≥97)&&decide (xc≤122)) (mand_f hc2) (Ok.b 0 [0] [(8,.bool (decide (xc≥97)&&decide (xc≤122)))] ?_)
  exact hR1
 refine Ok.b 1 [0] [(9,.bool (decide (xc≥97)&&decide (xc≤122)))] ?_
 refine Ok.w 7 [(0,.int .u8 xc),(16,.bool ((decide (xc≥97)&&decide (xc≤122))||(decide (xc≥65)&&decide (xc≤90))))] (fun hR3=>?_) ?_
 ·refine Ok.a 9 (decide (xc≥97)&&decide (xc≤122)) rfl (fun hc4=>?_) (fun hc4=>?_)
  ·skip
   refine Ok.b 7 [0] [(16,.bool true)] ?_
   refine Ok.rb 16 ((decide (xc≥97)&&decide (xc≤122))||(decide (xc≥65)&&decide (xc≤90))) (mor_t hc4) (Ok.b 0 [0] [(16,.bool ((decide (xc≥97)&&decide (xc≤122))||(decide (xc≥65)&&decide (xc≤90))))] ?_)
   exact hR3
  skip
  refine Ok.b 3 [0] [(9,.bool false),(12,.bool (decide (xc≥65)))] ?_
  refine Ok.w 3 [(0,.int .u8 xc),(9,.bool false),(15,.bool (decide (xc≥65)&&decide (xc≤90)))] (fun hR5=>?_) ?_
  ·refine Ok.a 12 (decide (xc≥65)) rfl (fun hc6=>?_) (fun hc6=>?_)
   ·skip
    refine Ok.b 3 [0,9] [(15,.bool (decide (xc≤90)))] ?_
    refine Ok.rb 15 (decide (xc≥65)&&decide (xc≤90)) (mand_t hc6) (Ok.b 0 [0,9] [(15,.bool (decide (xc≥65)&&decide (xc≤90)))] ?_)
    exact hR5
   skip
   refine Ok.b 3 [0,9] [(15,.bool false)] ?_
   refine Ok.rb 15 (decide (xc≥65)&&decide (xc≤90)) (mand_f hc6) (Ok.b 0 [0,9] [(15,.bool (decide (xc≥65)&&decide (xc≤90)))] ?_)
   exact hR5
  refine Ok.b 1 [0] [(16,.bool (decide (xc≥65)&&decide (xc≤90)))] ?_
  refine Ok.rb 16 ((decide (xc≥97)&&decide (xc≤122))||(decide (xc≥65)&&decide (xc≤90))) (mor_f hc4) (Ok.b 0 [0] [(16,.bool ((decide (xc≥97)&&decide (xc≤122))||(decide (xc≥65)&&decide (xc≤90))))] ?_)
  exact hR3
 refine Ok.b 1 [0] [(17,.bool ((decide (xc≥97)&&decide (xc≤122))||(decide (xc≥65)&&decide (xc≤90))))] ?_
 refine Ok.w 3 [(0,.int .u8 xc),(20,.bool (((decide (xc≥97)&&decide (xc≤122))||(decide (xc≥65)&&decide (xc≤90)))||(xc==95)))] (fun hR7=>?_) ?_
 ·refine Ok.a 17 ((decide (xc≥97)&&decide (xc≤122))||(decide (xc≥65)&&decide (xc≤90))) rfl (fun hc8=>?_) (fun hc8=>?_)
  ·skip
   refine Ok.b 3 [0] [(20,.bool true)] ?_
   refine Ok.rb 20 (((decide (xc≥97)&&decide (xc≤122))||(decide (xc≥65)&&decide (xc≤90)))||(xc==95)) (mor_t hc8) (Ok.b 0 [0] [(20,.bool (((decide (xc≥97)&&decide (xc≤122))||(decide (xc≥65)&&decide (xc≤90)))||(xc==95)))] ?_)
   exact hR7
  skip
  refine Ok.b 3 [0] [(20,.bool (xc==95))] ?_
  refine Ok.rb 20 (((decide (xc≥97)&&decide (xc≤122))||(decide (xc≥65)&&decide (xc≤90)))||(xc==95)) (mor_f hc8) (Ok.b 0 [0] [(20,.bool (((decide (xc≥97)&&decide (xc≤122))||(decide (xc≥65)&&decide (xc≤90)))||(xc==95)))] ?_)
  exact hR7
 refine Ok.b 1 [0] [(21,.bool (((decide (xc≥97)&&decide (xc≤122))||(decide (xc≥65)&&decide (xc≤90)))||(xc==95)))] ?_
 refine Ok.w 3 [(24,.bool ((((decide (xc≥97)&&decide (xc≤122))||(decide (xc≥65)&&decide (xc≤90)))||(xc==95))||decide (xc≥128)))] (fun hR9=>?_) ?_
 ·refine Ok.a 21 (((decide (xc≥97)&&decide (xc≤122))||(decide (xc≥65)&&decide (xc≤90)))||(xc==95)) rfl (fun e0=>?_) (fun e0=>?_)
  ·skip
   refine Ok.B 3 [(24,.bool true)] kr (Ok.rb 24 ((((decide (xc≥97)&&decide (xc≤122))||(decide (xc≥65)&&decide (xc≤90)))||(xc==95))||decide (xc≥128)) (mor_t e0) (Ok.B 0 [(24,.bool ((((decide (xc≥97)&&decide (xc≤122))||(decide (xc≥65)&&decide (xc≤90)))||(xc==95))||decide (xc≥128)))] kr ?_))
   exact hR9
  skip
  refine Ok.B 3 [(24,.bool (decide (xc≥128)))] kr (Ok.rb 24 ((((decide (xc≥97)&&decide (xc≤122))||(decide (xc≥65)&&decide (xc≤90)))||(xc==95))||decide (xc≥128)) (mor_f e0) (Ok.B 0 [(24,.bool ((((decide (xc≥97)&&decide (xc≤122))||(decide (xc≥65)&&decide (xc≤90)))||(xc==95))||decide (xc≥128)))] kr ?_))
  exact hR9
 refine Ok.B 1 [(2,.bool ((((decide (xc≥97)&&decide (xc≤122))||(decide (xc≥65)&&decide (xc≤90)))||(xc==95))||decide (xc≥128)))] kr (Ok.nt (Ok.ret ?_))
 exact Ok.pb ((((decide (xc≥97)&&decide (xc≤122))||(decide (xc≥65)&&decide (xc≤90)))||(xc==95))||decide (xc≥128)) hF
def rletM (xc:Int):Bool:=((((decide (xc≥97)&&decide (xc≤122))||(decide (xc≥65)&&decide (xc≤90)))||(xc==95))||decide (xc≥128))
theorem rletF_A (xc:Int) (P:Bool→Prop) (h:P (rletM xc)):rletF xc (fun k0=>P k0):=by
 unfold rletM at h
 unfold rletF
 exact h
theorem rlet_F (xc:Int):rletF xc (fun k0=>k0=rletM xc) :=
 rletF_A xc (fun z=>z=rletM xc) rfl
theorem rlet_c {g:Ghost} (xc:Int)  : CallsG prog 212 #[.int .u8 xc] g (.bool (rletM xc)) :=
 (rlet_ok xc _ (rlet_F xc)).gv
def rnamj3 (xc:Int) (K:Bool→Prop):Prop :=
 K (rletM xc||(rdigM xc||(xc==45)))
def rnamF (xc:Int) (K:Bool→Prop):Prop :=
 (rletM xc=true→rnamj3 xc K)∧(rletM xc=false→rnamj3 xc K)
theorem rnam_ok {g:Ghost} (xc:Int) (K:Bool→Prop)
  (hF:rnamF xc K):CallsH prog 191 #[.int .u8 xc] g [] (fun g' H' v=>∃ (r0:Bool),v=.bool r0∧H'=[]∧K r0):=by
 refine CallsH.en 13 func191 rfl fun w0=>?_
 refine Ok.sr (Ok.B 1 [(0,.int .u8 xc)] kr (Ok.nt (Ok.ct [(2,.bool (rletM xc||(rdigM xc||(xc==45))))] [] (rnamj3 xc K) ?_ (fun hF=>?_))))
 ·
  refine Ok.r (Ok.rn 3 [.k (rlet_c xc)] [0] [(5,.bool (rletM xc))] ?_)
  refine Ok.bw 5 hF (fun hc1 hF=>?_) (fun hc1 hF=>?_)
  ·refine Ok.B 8 [(2,.bool true)] kr (Ok.nt (Ok.rb 2 (rletM xc||(rdigM xc||(xc==45))) (mor_t hc1) ?_))
   exact fz hF
  refine Ok.rn 4 [.k (rdig_c xc)] [0] [(9,.bool (rdigM xc))] ?_
  refine Ok.w 3 [(12,.bool (rdigM xc||(xc==45)))] (fun hR2=>?_) ?_
  ·refine Ok.a 9 (rdigM xc) rfl (fun hc3=>?_) (fun hc3=>?_)
   ·skip
    refine Ok.B 3 [(12,.bool true)] kr (Ok.rb 12 (rdigM xc||(xc==45)) (mor_t hc3) (Ok.B 0 [(12,.bool (rdigM xc||(xc==45)))] kr ?_))
    exact hR2
   skip
   refine Ok.B 3 [(12,.bool (xc==45))] kr (Ok.rb 12 (rdigM xc||(xc==45)) (mor_f hc3) (Ok.B 0 [(12,.bool (rdigM xc||(xc==45)))] kr ?_))
   exact hR2
  refine Ok.B 1 [(2,.bool (rdigM xc||(xc==45)))] kr (Ok.nt (Ok.rb 2 (rletM xc||(rdigM xc||(xc==45))) (mor_f hc1) ?_))
  exact fz hF
 refine Ok.ret ?_
 exact Ok.pb (rletM xc||(rdigM xc||(xc==45))) hF
def rnamj3M (xc:Int):Bool:=(rletM xc||(rdigM xc||(xc==45)))
theorem rnamj3_A (xc:Int) (P:Bool→Prop) (h:P (rnamj3M xc)):rnamj3 xc (fun k0=>P k0):=by
 unfold rnamj3M at h
 unfold rnamj3
 exact h
def rnamM (xc:Int):Bool:=(rnamj3M xc)
theorem rnamF_A (xc:Int) (P:Bool→Prop) (h:P (rnamM xc)):rnamF xc (fun k0=>P k0):=by
 unfold rnamM at h
 unfold rnamF
 refine ⟨fun hc0=>?_,fun hc0=>?_⟩
 ·skip
  exact rnamj3_A xc _ h
 skip
 exact rnamj3_A xc _ h
theorem rnam_F (xc:Int):rnamF xc (fun k0=>k0=rnamM xc) :=
 rnamF_A xc (fun z=>z=rnamM xc) rfl
theorem rnam_c {g:Ghost} (xc:Int)  : CallsG prog 191 #[.int .u8 xc] g (.bool (rnamM xc)) :=
 (rnam_ok xc _ (rnam_F xc)).gv
def ratF (xs:Bs) (xi:Int) (K:Int→Prop):Prop :=
 ((decide (xi<(xs.length:Int)))=true→0≤xi∧xi.toNat<xs.length∧K ((xs.getD xi.toNat 0).toNat:Int))∧((decide (xi<(xs.length:Int)))=false→K 0)
theorem rat_ok {g:Ghost} (xs:Bs) (xi:Int) (K:Int→Prop)
  (hF:ratF xs xi K):CallsH prog 186 #[sv xs,iv xi] g [] (fun g' H' v=>∃ (r0:Int),v=.int .u8 r0∧H'=[]∧K r0):=by
 refine CallsH.en 12 func186 rfl fun w0=>?_
 refine Ok.sr (Ok.B 1 [(0,sv xs),(1,iv xi)] kr (Ok.nt (Ok.q (Ok.sr (Ok.b 4 [0,1] [(8,.bool (decide (xi<(xs.length:Int))))] ?_)))))
 refine Ok.nt (Ok.cw hF (fun hc1 hF=>?_) (fun hc1 hF=>?_))
 ·refine Ok.sr (Ok.B 2 [(9,sv xs),(10,iv xi)] kr ?_)
  obtain ⟨h02,h12,hF⟩:=hF
  have he2:=get_of (l:=xs) (0:UInt8) h12
  generalize hg2:(xs.getD xi.toNat 0)=e2 at he2 hF ⊢
  refine Ok.o (OpOk.s (v:=.int .u8 (e2.toNat:Int)) (Yields.ix (k:=.i64) (i:=xi) (s:=xs) (b:=e2) kr kr underlying9 h02 he2) rfl rfl (Ok.B 1 [(4,.int .u8 (e2.toNat:Int))] kr (Ok.nt (Ok.ret (Ok.tr ?_)))))
  exact Ok.h0 (.int .u8 (e2.toNat:Int)) ⟨_,rfl,rfl,hF⟩
 refine Ok.k (Ok.t (Ok.sr (Ok.B 1 [(4,.int .u8 0)] kr (Ok.nt (Ok.ret ?_)))))
 exact Ok.h0 (.int .u8 0) ⟨_,rfl,rfl,hF⟩
def ratM (xs:Bs) (xi:Int):Int:=(if (decide (xi<(xs.length:Int)))=true then ((xs.getD xi.toNat 0).toNat:Int) else 0)
theorem ratF_A (xs:Bs) (xi:Int) (hp:rplP xs xi) (P:Int→Prop) (h:P (ratM xs xi)):ratF xs xi (fun k0=>P k0):=by
 unfold ratM at h
 unfold ratF
 refine ⟨fun hc0=>?_,fun hc0=>?_⟩
 ·rw [if_t hc0] at h
  have hd0:=of_decide_eq_true hc0
  refine ⟨?_,?_,?_⟩
  ·exact sdTraa
  ·exact sdTraa
  exact h
 rw [if_f hc0] at h
 have hd0:=of_decide_eq_false hc0
 exact h
theorem rat_F (xs:Bs) (xi:Int) (hp:rplP xs xi):ratF xs xi (fun k0=>k0=ratM xs xi) :=
 ratF_A xs xi hp (fun z=>z=ratM xs xi) rfl
theorem rat_c {g:Ghost} (xs:Bs) (xi:Int)  (hp:rplP xs xi):CallsG prog 186 #[sv xs,iv xi] g (.int .u8 (ratM xs xi)) :=
 (rat_ok xs xi _ (rat_F xs xi hp)).gv
def rescV0 (xs:Bs) (xi:Int):Bool :=
 (((ratM xs xi==92)&&(decide (w6 (xi+1)<(xs.length:Int))))&&(((xs.getD (Int.toNat (w6 (xi+1))) 0).toNat:Int) != 10))
def rescj3 (xs:Bs) (xi:Int) (K:Bool→Prop):Prop :=
 K (rescV0 xs xi)
def rescF (xs:Bs) (xi:Int) (K:Bool→Prop):Prop :=
 rplP xs xi∧(((ratM xs xi==92)&&(decide (w6 (xi+1)<(xs.length:Int))))=true→0≤w6 (xi+1)∧Int.toNat (w6 (xi+1))<xs.length∧rescj3 xs xi K)∧(((ratM xs xi==92)&&(decide (w6 (xi+1)<(xs.length:Int))))=false→rescj3 xs xi K)
theorem resc_ok {g:Ghost} (xs:Bs) (xi:Int) (K:Bool→Prop)
  (hF:rescF xs xi K):CallsH prog 192 #[sv xs,iv xi] g [] (fun g' H' v=>∃ (r0:Bool),v=.bool r0∧H'=[]∧K r0):=by
 refine CallsH.en 23 func192 rfl fun w0=>?_
 refine Ok.sr (Ok.B 1 [(0,sv xs),(1,iv xi)] kr (Ok.nt (Ok.ct [(4,.bool (rescV0 xs xi))] [] (rescj3 xs xi K) ?_ (fun hF=>?_))))
 ·
  refine Ok.r ?_
  obtain ⟨hp1,hF⟩:=hF
  refine Ok.rn 5 [.k (rat_c xs xi hp1)] [0,1] [(9,.bool (ratM xs xi==92))] ?_
  refine Ok.w 6 [(0,sv xs),(1,iv xi),(15,.bool ((ratM xs xi==92)&&(decide (w6 (xi+1)<(xs.length:Int)))))] (fun hR2=>?_) ?_
  ·refine Ok.a 9 (ratM xs xi==92) rfl (fun hc3=>?_) (fun hc3=>?_)
   ·skip
    refine Ok.b 6 [0,1] [(15,.bool (decide (w6 (xi+1)<(xs.length:Int))))] ?_
    refine Ok.rb 15 ((ratM xs xi==92)&&(decide (w6 (xi+1)<(xs.length:Int)))) (mand_t hc3) (Ok.b 0 [0,1] [(15,.bool ((ratM xs xi==92)&&(decide (w6 (xi+1)<(xs.length:Int)))))] ?_)
    exact hR2
   skip
   refine Ok.b 6 [0,1] [(15,.bool false)] ?_
   refine Ok.rb 15 ((ratM xs xi==92)&&(decide (w6 (xi+1)<(xs.length:Int)))) (mand_f hc3) (Ok.b 0 [0,1] [(15,.bool ((ratM xs xi==92)&&(decide (w6 (xi+1)<(xs.length:Int)))))] ?_)
   exact hR2
  refine Ok.b 1 [0,1] [(16,.bool ((ratM xs xi==92)&&(decide (w6 (xi+1)<(xs.length:Int)))))] ?_
  refine Ok.bw 16 hF (fun hc4 hF=>?_) (fun hc4 hF=>?_)
  ·refine Ok.B 3 [(16,.bool true),(17,sv xs),(19,iv (w6 (xi+1)))] kr ?_
   obtain ⟨h05,h15,hF⟩:=hF
   have he5:=get_of (l:=xs) (0:UInt8) h15
   generalize hg5:(xs.getD (Int.toNat (w6 (xi+1))) 0)=e5 at he5 hF ⊢
   refine Ok.oy (OpOk.s (v:=.int .u8 (e5.toNat:Int)) (Yields.ix (k:=.i64) (i:=w6 (xi+1)) (s:=xs) (b:=e5) kr kr underlying9 h05 he5) rfl rfl (Ok.B 3 [(4,.bool ((e5.toNat:Int) != 10))] kr (Ok.j (Ok.t ?_))))
   subst hg5
   refine Ok.rb 4 (rescV0 xs xi) (mand_t hc4) ?_
   exact fz hF
  refine Ok.B 7 [(4,.bool false)] kr (Ok.nt (Ok.rb 4 (rescV0 xs xi) (mand_f hc4) ?_))
  exact fz hF
 refine Ok.ret ?_
 exact Ok.pb (rescV0 xs xi) hF
def rescj3M (xs:Bs) (xi:Int):Bool:=(rescV0 xs xi)
theorem rescj3_A (xs:Bs) (xi:Int) (P:Bool→Prop) (h:P (rescj3M xs xi)):rescj3 xs xi (fun k0=>P k0):=by
 unfold rescj3M at h
 unfold rescj3
 exact h
def rescM (xs:Bs) (xi:Int):Bool:=(rescj3M xs xi)
theorem rescF_A (xs:Bs) (xi:Int) (hp:rplP xs xi) (P:Bool→Prop) (h:P (rescM xs xi)):rescF xs xi (fun k0=>P k0):=by
 unfold rescM at h
 unfold rescF
 refine ⟨?_,?_⟩
 ·exact sdTraa
 refine ⟨fun hc0=>?_,fun hc0=>?_⟩
 ·skip
  have hd0:=hc0; try simp only [Bool.and_eq_true,Bool.or_eq_true,Bool.and_eq_false_iff,Bool.or_eq_false_iff,Bool.not_eq_true',Bool.not_eq_false',decide_eq_true_eq,decide_eq_false_iff_not,beq_iff_eq,beq_eq_false_iff_ne,ne_eq] at hd0
  refine ⟨?_,?_,?_⟩
  ·exact sdTraa
  ·exact sdTraa
  exact rescj3_A xs xi _ h
 skip
 have hd0:=hc0; try simp only [Bool.and_eq_true,Bool.or_eq_true,Bool.and_eq_false_iff,Bool.or_eq_false_iff,Bool.not_eq_true',Bool.not_eq_false',decide_eq_true_eq,decide_eq_false_iff_not,beq_iff_eq,beq_eq_false_iff_ne,ne_eq] at hd0
 exact rescj3_A xs xi _ h
theorem resc_F (xs:Bs) (xi:Int) (hp:rplP xs xi):rescF xs xi (fun k0=>k0=rescM xs xi) :=
 rescF_A xs xi hp (fun z=>z=rescM xs xi) rfl
theorem resc_c {g:Ghost} (xs:Bs) (xi:Int)  (hp:rplP xs xi):CallsG prog 192 #[sv xs,iv xi] g (.bool (rescM xs xi)) :=
 (resc_ok xs xi _ (resc_F xs xi hp)).gv
theorem byte_all {p:UInt8→Bool} (h:(List.range 256).all (fun n=>p (UInt8.ofNat n))=true) (c:UInt8):p c=true:=by
 have h1:=List.all_eq_true.1 h c.toNat (by simpa using c.toNat_lt)
 simpa using h1
theorem nam_sign (c:UInt8):rnamM (c.toNat:Int)=signM (c.toNat:Int):=by
 have:=byte_all (p:=fun c=>rnamM (c.toNat:Int)==signM (c.toNat:Int)) dk c
 simpa using this
theorem let_starts (c:UInt8):rletM (c.toNat:Int)=startsM (c.toNat:Int):=by
 have:=byte_all (p:=fun c=>rletM (c.toNat:Int)==startsM (c.toNat:Int)) dk c
 simpa using this
theorem getD_drop (s:Bs) (i j:Nat):(s.drop i).getD j 0=s.getD (i+j) 0:=by
 simp [List.getD_eq_getElem?_getD,List.getElem?_drop]
theorem getD_out {s:Bs} {i:Nat} (h:s.length≤i):s.getD i 0=0:=by
 rw [List.getD_eq_getElem?_getD,List.getElem?_eq_none h]; rfl
theorem rat_nat (s:Bs) (i:Nat):ratM s (i:Int)=((s.getD i 0).toNat:Int):=by
 unfold ratM
 by_cases h:i<s.length
 ·rw [if_t (by simpa using h),tnc]
 rw [if_f (by simpa using h),getD_out om]; rfl
theorem resc_drop {s:Bs} (h:nameP s) {i:Nat} (hi:i≤s.length+4):rescM s (i:Int)=escM (s.drop i):=by
 unfold rescM rescj3M rescV0 escM escj3M
 unfold nameP at h
 rw [rat_nat,w64 om,show ((i:Int)+1).toNat=i+1 by omega,List.length_drop,getD_drop,getD_drop]
 have e:decide (((i:Int)+1)<(s.length:Int))=decide (((s.length - i:Nat):Int)>1):=by
  apply decide_eq_decide.2; omega
 rw [e,Bool.and_comm (_==_),Bool.and_assoc]; rfl
theorem esc_cons {c:UInt8} {r:Bs} (h:escM (c::r)=true):c=92:=by
 unfold escM escj3M at h
 simp only [Bool.and_eq_true] at h
 exact (byte_eq c 92).1 h.2.1
theorem byte_beq (a b:UInt8):(((a.toNat:Int)==(b.toNat:Int))=(a==b)):=by
 by_cases h:a=b
 ·subst h; simp
 have:¬ ((a.toNat:Int)==(b.toNat:Int))=true:=fun e=>h ((byte_eq a b).1 e)
 rw [Bool.not_eq_true] at this
 rw [this]; simpa using h
def rbegS (s:Bs) (i:Int):Bool:=begM (s.drop i.toNat)
def rbegV0 (xs:Bs) (xi:Int):Bool :=
 ((decide (w6 (xi+1)<(xs.length:Int)))&&((((xs.getD (Int.toNat (w6 (xi+1))) 0).toNat:Int)==45)||((rletM ((xs.getD (Int.toNat (w6 (xi+1))) 0).toNat:Int))||(rescM xs (w6 (xi+1))))))
def rbegV1 (xs:Bs) (xi:Int):Bool :=
 (if (decide (xi<(xs.length:Int)))=true then ((rletM ((xs.getD xi.toNat 0).toNat:Int))||rescM xs xi) else (rescM xs xi))
def rbegj7 (xs:Bs) (xi:Int) (K:Bool→Prop):Prop :=
 K (rbegV0 xs xi)
def rbegj11 (xs:Bs) (xi:Int) (K:Bool→Prop):Prop :=
 K (rbegV1 xs xi)
def rbegF (xs:Bs) (xi:Int) (K:Bool→Prop):Prop :=
 rplP xs xi∧((ratM xs xi==45)=true→((decide (w6 (xi+1)<(xs.length:Int)))=true→0≤w6 (xi+1)∧Int.toNat (w6 (xi+1))<xs.length∧((((xs.getD (Int.toNat (w6 (xi+1))) 0).toNat:Int)==45)=true→rbegj7 xs xi K)∧((((xs.getD (Int.toNat (w6 (xi+1))) 0).toNat:Int)==45)=false→((rletM ((xs.getD (Int.toNat (w6 (xi+1))) 0).toNat:Int))=true→rbegj7 xs xi K)∧((rletM ((xs.getD (Int.toNat (w6 (xi+1))) 0).toNat:Int))=false→rplP xs (w6 (xi+1))∧rbegj7 xs xi K)))∧((decide (w6 (xi+1)<(xs.length:Int)))=false→rbegj7 xs xi K))∧((ratM xs xi==45)=false→((decide (xi<(xs.length:Int)))=true→0≤xi∧xi.toNat<xs.length∧((rletM ((xs.getD xi.toNat 0).toNat:Int))=true→rbegj11 xs xi K)∧((rletM ((xs.getD xi.toNat 0).toNat:Int))=false→rplP xs xi∧rbegj11 xs xi K))∧((decide (xi<(xs.length:Int)))=false→rplP xs xi∧rbegj11 xs xi K))
theorem rbeg_ok {g:Ghost} (xs:Bs) (xi:Int) (K:Bool→Prop)
  (hF:rbegF xs xi K):CallsH prog 194 #[sv xs,iv xi] g [] (fun g' H' v=>∃ (r0:Bool),v=.bool r0∧H'=[]∧K r0):=by
 refine CallsH.en 49 func194 rfl fun w0=>?_
 refine Ok.sr (Ok.B 1 [(0,sv xs),(1,iv xi)] kr (Ok.nt (Ok.q (Ok.q (Ok.r ?_)))))
 obtain ⟨hp1,hF⟩:=hF
 refine Ok.rn 4 [.k (rat_c xs xi hp1)] [0,1] [(8,.bool (ratM xs xi==45))] ?_
 refine Ok.nt (Ok.cw hF (fun hc2 hF=>?_) (fun hc2 hF=>?_))
 ·refine Ok.ct [(4,.bool (rbegV0 xs xi))] [] (rbegj7 xs xi K) ?_ (fun hF=>?_)
  ·
   refine Ok.r (Ok.b 6 [0,1] [(14,.bool (decide (w6 (xi+1)<(xs.length:Int))))] ?_)
   refine Ok.bw 14 hF (fun hc3 hF=>?_) (fun hc3 hF=>?_)
   ·refine Ok.b 3 [0,1] [(14,.bool true),(15,sv xs),(17,iv (w6 (xi+1)))] ?_
    obtain ⟨h04,h14,hF⟩:=hF
    have he4:=get_of (l:=xs) (0:UInt8) h14
    generalize hg4:(xs.getD (Int.toNat (w6 (xi+1))) 0)=e4 at he4 hF ⊢
    refine Ok.oy (OpOk.s (v:=.int .u8 (e4.toNat:Int)) (Yields.ix (k:=.i64) (i:=w6 (xi+1)) (s:=xs) (b:=e4) kr kr underlying9 h04 he4) rfl rfl (Ok.b 2 [0,1,14] [(20,.bool ((e4.toNat:Int)==45))] ?_))
    refine Ok.a 20 ((e4.toNat:Int)==45) rfl (fun hc5=>?_) (fun hc5=>?_)
    ·replace hF:=hF.1 hc5
     refine Ok.B 14 [(4,.bool true)] kr (Ok.j (Ok.t ?_))
     subst hg4
     refine Ok.rb 4 (rbegV0 xs xi) (Eq.trans (mor_t hc5) (mand_t hc3)) ?_
     exact fz hF
    replace hF:=hF.2 hc5
    refine Ok.b 3 [0,1,14] [(20,.bool false),(21,sv xs),(23,iv (w6 (xi+1)))] ?_
    refine Ok.oy (OpOk.s (v:=.int .u8 (e4.toNat:Int)) (Yields.ix (k:=.i64) (i:=w6 (xi+1)) (s:=xs) (b:=e4) kr kr underlying9 h04 he4) rfl rfl (Ok.rn 3 [.k (rlet_c (e4.toNat:Int))] [0,1,14] [(27,.bool (rletM (e4.toNat:Int)))] ?_))
    refine Ok.a 27 (rletM (e4.toNat:Int)) rfl (fun hc6=>?_) (fun hc6=>?_)
    ·replace hF:=hF.1 hc6
     refine Ok.B 7 [(4,.bool true)] kr (Ok.j (Ok.t ?_))
     subst hg4
     refine Ok.rb 4 (rbegV0 xs xi) (Eq.trans (Eq.trans (mor_t hc6) (mor_f hc5)) (mand_t hc3)) ?_
     exact fz hF
    replace hF:=hF.2 hc6
    obtain ⟨hp7,hF⟩:=hF
    refine Ok.rn 7 [.k (resc_c xs (w6 (xi+1)) hp7)] [] [(4,.bool (rescM xs (w6 (xi+1))))] ?_
    refine Ok.j (Ok.t ?_)
    subst hg4
    refine Ok.rb 4 (rbegV0 xs xi) (Eq.trans (Eq.trans (mor_f hc6) (mor_f hc5)) (mand_t hc3)) ?_
    exact fz hF
   refine Ok.B 20 [(4,.bool false)] kr (Ok.nt (Ok.rb 4 (rbegV0 xs xi) (mand_f hc3) ?_))
   exact fz hF
  refine Ok.ret (Ok.tr ?_)
  exact Ok.pb (rbegV0 xs xi) hF
 refine Ok.k (Ok.t (Ok.ct [(4,.bool (rbegV1 xs xi))] [] (rbegj11 xs xi K) ?_ (fun hF=>?_)))
 ·
  refine Ok.r (Ok.b 5 [0,1] [(38,.bool (decide (xi<(xs.length:Int))))] ?_)
  refine Ok.bw 38 hF (fun hc8 hF=>?_) (fun hc8 hF=>?_)
  ·refine Ok.b 2 [0,1] [(38,.bool true),(39,sv xs),(40,iv xi)] ?_
   obtain ⟨h09,h19,hF⟩:=hF
   have he9:=get_of (l:=xs) (0:UInt8) h19
   generalize hg9:(xs.getD xi.toNat 0)=e9 at he9 hF ⊢
   refine Ok.oy (OpOk.s (v:=.int .u8 (e9.toNat:Int)) (Yields.ix (k:=.i64) (i:=xi) (s:=xs) (b:=e9) kr kr underlying9 h09 he9) rfl rfl (Ok.rn 3 [.k (rlet_c (e9.toNat:Int))] [0,1] [(44,.bool (rletM (e9.toNat:Int)))] ?_))
   refine Ok.a 44 (rletM (e9.toNat:Int)) rfl (fun e0=>?_) (fun e0=>?_)
   ·replace hF:=hF.1 e0
    refine Ok.B 5 [(4,.bool true)] kr (Ok.j (Ok.t ?_))
    subst hg9
    refine Ok.rb 4 (rbegV1 xs xi) (Eq.trans (mor_t e0) ((if_t hc8).symm)) ?_
    exact fz hF
   replace hF:=hF.2 e0
   obtain ⟨hp11,hF⟩:=hF
   refine Ok.rn 5 [.k (resc_c xs xi hp11)] [] [(4,.bool (rescM xs xi))] ?_
   refine Ok.j (Ok.t ?_)
   subst hg9
   refine Ok.rb 4 (rbegV1 xs xi) (Eq.trans (mor_f e0) ((if_t hc8).symm)) ?_
   exact fz hF
  obtain ⟨hp12,hF⟩:=hF
  refine Ok.rn 11 [.k (resc_c xs xi hp12)] [] [(4,.bool (rescM xs xi))] ?_
  refine Ok.nt (Ok.rb 4 (rbegV1 xs xi) ((if_f hc8).symm) ?_)
  exact fz hF
 refine Ok.ret ?_
 exact Ok.pb (rbegV1 xs xi) hF
theorem rpl_nat {s:Bs} {i:Nat} (h:nameP s) (hi:i≤s.length+4):rplP s (i:Int):=⟨h,by omega,by omega⟩
theorem rpl_suc {s:Bs} {i:Nat} (h:nameP s) (hi:i≤s.length+3):rplP s ((i:Int)+1):=⟨h,by omega,by omega⟩
theorem beg_cons (c:UInt8) (r:Bs):begM (c::r)=if (c==45&&decide (r≠[]))=true then (r.getD 0 0==45||(startsM ((r.getD 0 0).toNat:Int)||escM r)) else (startsM (c.toNat:Int)||escM (c::r)):=by
 unfold begM begj15M begj19M
 have e1:((((c::r).getD (Int.toNat 0) 0).toNat:Int)==45)=(c==45):=byte_beq c 45
 have e2:decide (((c::r).length:Int)>1)=decide (r≠[]):=by
  apply decide_eq_decide.2
  cases r
  ·simp
  simp only [List.length_cons,ne_eq,reduceCtorEq,not_false_eq_true,iff_true]; omega
 have e3:((((c::r).getD (Int.toNat 1) 0).toNat:Int)==45)=(r.getD 0 0==45):=byte_beq (r.getD 0 0) 45
 rw [if_f (show (c::r==([]:Bs))=false from rfl),e1,e2,e3]
 rfl
theorem rbeg_F (s:Bs) (i:Int) (hp:rplP s i):rbegF s i (fun r=>r=rbegS s i):=by
 obtain ⟨i,rfl⟩:∃ n:Nat,i=(n:Int):=⟨i.toNat,by have:=hp.2.1; omega⟩
 have hn:=hp.1
 have hi:=hp.2.2
 have hi':i≤s.length+4:=by omega
 unfold nameP at hn
 unfold rbegF rbegj7 rbegj11 rbegV0 rbegV1 rbegS
 rw [rat_nat,w64 om,show ((i:Int)+1).toNat=i+1 by omega,tnc,resc_drop hp.1 hi',let_starts,let_starts]
 by_cases hlt:i<s.length
 ·have hd:=drop_get (l:=s) (0:UInt8) hlt
  have e45:(((s.getD i 0).toNat:Int)==45)=(s.getD i 0==45):=byte_beq (s.getD i 0) 45
  rw [e45,hd,beg_cons,← hd]
  have hne:(s.drop (i+1)≠[])↔i+1<s.length:=by
   rw [ne_eq,List.drop_eq_nil_iff]; omega
  have e46:(((s.getD (i+1) 0).toNat:Int)==45)=(s.getD (i+1) 0==45):=byte_beq (s.getD (i+1) 0) 45
  refine ⟨hp,fun h45=>?_,fun h45=>?_⟩
  ·have h45':s.getD i 0=45:=by simpa using h45
   have hE:escM (s.drop i)=false:=by
    cases he:escM (s.drop i) with
    | false=>rfl
    | true=>rw [hd] at he; have:=esc_cons he; rw [h45'] at this; exact absurd this dc
   have key:(decide ((i:Int)+1<(s.length:Int))&&((((s.getD (i+1) 0).toNat:Int)==45)||(startsM ((s.getD (i+1) 0).toNat:Int)||rescM s ((i:Int)+1))))=if (s.getD i 0==45&&decide (s.drop (i+1)≠[]))=true then ((s.drop (i+1)).getD 0 0==45||(startsM (((s.drop (i+1)).getD 0 0).toNat:Int)||escM (s.drop (i+1)))) else (startsM ((s.getD i 0).toNat:Int)||escM (s.drop i)):=by
    by_cases h1:i+1<s.length
    ·rw [if_t (by rw [h45]; simpa using h1),decide_eq_true om,getD_drop,e46,show ((i:Int)+1)=((i+1:Nat):Int) by omega,resc_drop hp.1 om]
     rfl
    rw [if_f (by simp; intro _; omega),hE,h45',decide_eq_false om]
    rfl
   refine ⟨fun h1=>⟨by omega,od h1,fun _=>key,fun _=>⟨fun _=>key,fun _=>⟨rpl_suc hp.1 om,key⟩⟩⟩,fun _=>key⟩
  have key:(if decide ((i:Int)<(s.length:Int))=true then startsM ((s.getD i 0).toNat:Int)||escM (s.drop i) else escM (s.drop i))=if (s.getD i 0==45&&decide (s.drop (i+1)≠[]))=true then ((s.drop (i+1)).getD 0 0==45||(startsM (((s.drop (i+1)).getD 0 0).toNat:Int)||escM (s.drop (i+1)))) else (startsM ((s.getD i 0).toNat:Int)||escM (s.drop i)):=by
   rw [if_t (by simpa using hlt),if_f (by rw [h45]; rfl)]
  exact ⟨fun _=>⟨by omega,by omega,fun _=>key,fun _=>⟨hp,key⟩⟩,fun _=>⟨hp,key⟩⟩
 have hd:s.drop i=[]:=List.drop_of_length_le om
 have e45:(((s.getD i 0).toNat:Int)==45)=false:=by rw [getD_out om]; rfl
 have key:(if decide ((i:Int)<(s.length:Int))=true then startsM ((s.getD i 0).toNat:Int)||escM (s.drop i) else escM (s.drop i))=begM (s.drop i):=by
  rw [if_f (by simpa using hlt),hd]; rfl
 rw [e45]
 refine ⟨hp,(fun h=>by cases h),fun _=>⟨fun h=>?_,fun _=>⟨hp,key⟩⟩⟩
 have:=of_decide_eq_true h
 omega
theorem rbeg_c {g:Ghost} (xs:Bs) (xi:Int)  (hp:rplP xs xi):CallsG prog 194 #[sv xs,iv xi] g (.bool (rbegS xs xi)) :=
 (rbeg_ok xs xi _ (rbeg_F xs xi hp)).gv
def rsaidS (s:Bs) (i:Int):Bs×Int:=((nameS (s.drop i.toNat)).1,i+(nameS (s.drop i.toNat)).2)
def rsaidV2 (xs:Bs) (y0:Int):Bool :=
 ((decide (y0<(xs.length:Int)))&&((rnamM ((xs.getD y0.toNat 0).toNat:Int))||rescM xs y0))
def rsaidV4 (xs:Bs) (y0:Int):Int :=
 (if (((xs.getD y0.toNat 0).toNat:Int)==92)=true then w6 (y0+1) else y0)
def rsaidj15 (xs:Bs) (y0:Int) (s0:Bs) (C7:Int→Bs→Prop):Prop :=
 0≤rsaidV4 xs y0∧((rsaidV4 xs y0):Int)≤(w6 ((rsaidV4 xs y0)+1))∧(w6 ((rsaidV4 xs y0)+1))≤(xs.length:Int)∧s0.length+((xs.take (Int.toNat (w6 ((rsaidV4 xs y0)+1)))).drop (Int.toNat (rsaidV4 xs y0))).length≤maxLen∧C7 (w6 ((rsaidV4 xs y0)+1)) (s0++((xs.take (Int.toNat (w6 ((rsaidV4 xs y0)+1)))).drop (Int.toNat (rsaidV4 xs y0))))
def rsaidj9 (xs:Bs) (K:Bs→Int→Prop) (y0:Int) (s0:Bs) (C7:Int→Bs→Prop):Prop :=
 (rsaidV2 xs y0=true→0≤y0∧y0.toNat<xs.length∧((((xs.getD y0.toNat 0).toNat:Int)==92)=true→rsaidj15 xs y0 s0 C7)∧((((xs.getD y0.toNat 0).toNat:Int)==92)=false→rsaidj15 xs y0 s0 C7))∧(rsaidV2 xs y0=false→K s0 y0)
def rsaidl7b (xs:Bs) (K:Bs→Int→Prop) (y0:Int) (s0:Bs) (C7:Int→Bs→Prop):Prop :=
 ((decide (y0<(xs.length:Int)))=true→0≤y0∧y0.toNat<xs.length∧((rnamM ((xs.getD y0.toNat 0).toNat:Int))=true→rsaidj9 xs K y0 s0 C7)∧((rnamM ((xs.getD y0.toNat 0).toNat:Int))=false→rplP xs y0∧rsaidj9 xs K y0 s0 C7))∧((decide (y0<(xs.length:Int)))=false→rsaidj9 xs K y0 s0 C7)
def rsaidl7 (xs:Bs) (K:Bs→Int→Prop):Nat→Int→Bs→Prop
 | 0,_,_=>False
 | k+1,y0,s0=>rsaidl7b xs K y0 s0 (rsaidl7 xs K k)
def rsaidF (xs:Bs) (xi:Int) (K:Bs→Int→Prop):Prop :=
 ∃ k,rsaidl7 xs K k xi ([]:Bs)
theorem rsaid_ok {g:Ghost} (xs:Bs) (xi:Int) (K:Bs→Int→Prop)
  (hF:rsaidF xs xi K):CallsH prog 193 #[sv xs,iv xi] g [] (fun g' H' v=>∃ (r0:Bs),∃ (r1:Int),v=.tuple #[sv r0,iv r1]∧H'=[]∧K r0 r1):=by
 refine CallsH.en 39 func193 rfl fun w0=>?_
 refine Ok.sr (Ok.B 2 [(0,sv xs),(1,iv xi)] kr (Ok.nt (Ok.sr (Ok.b 1 [0,1] [(6,sv ([]:Bs))] ?_))))
 refine Ok.nt (Ok.q (Ok.block ?_))
 obtain ⟨k,hF⟩:=hF
 refine Ok.L (fun k a W=>∃ (y0:Int) (s0:Bs),StA 39 [(0,sv xs),(1,iv y0),(6,sv s0)] a∧StW w0 [] g W∧rsaidl7 xs K k y0 s0) k ?_ ?_
 ·
  exact fun _ _ u v=>⟨xi,([]:Bs),fA u v hF⟩
 clear hF
 rintro (_ | k7) _ _ ⟨y0,s0,q⟩
 exact (q.2.2:False).elim
 refine jn (fun hF=>?_) _ _ q
 refine Ok.q (Ok.ct [(0,sv xs),(1,iv y0),(6,sv s0),(21,.bool (rsaidV2 xs y0))] [] (rsaidj9 xs K y0 s0 (rsaidl7 xs K k7)) ?_ (fun hF=>?_))
 ·
  refine Ok.r (Ok.b 5 [0,1,6] [(11,.bool (decide (y0<(xs.length:Int))))] ?_)
  refine Ok.bw 11 hF (fun hc5 hF=>?_) (fun hc5 hF=>?_)
  ·refine Ok.b 2 [0,1,6] [(11,.bool true),(12,sv xs),(13,iv y0)] ?_
   obtain ⟨h06,h16,hF⟩:=hF
   have he6:=get_of (l:=xs) (0:UInt8) h16
   generalize hg6:(xs.getD y0.toNat 0)=e6 at he6 hF ⊢
   refine Ok.oy (OpOk.s (v:=.int .u8 (e6.toNat:Int)) (Yields.ix (k:=.i64) (i:=y0) (s:=xs) (b:=e6) kr kr underlying9 h06 he6) rfl rfl (Ok.rn 2 [.k (rnam_c (e6.toNat:Int))] [0,1,6,11] [(16,.bool (rnamM (e6.toNat:Int)))] ?_))
   refine Ok.a 16 (rnamM (e6.toNat:Int)) rfl (fun hc7=>?_) (fun hc7=>?_)
   ·replace hF:=hF.1 hc7
    refine Ok.b 5 [0,1,6] [(21,.bool true)] ?_
    refine Ok.j (Ok.t ?_)
    subst hg6
    refine Ok.rb 21 (rsaidV2 xs y0) (Eq.trans (mor_t hc7) (mand_t hc5)) ?_
    exact fz hF
   replace hF:=hF.2 hc7
   obtain ⟨hp8,hF⟩:=hF
   refine Ok.rn 5 [.k (resc_c xs y0 hp8)] [0,1,6] [(21,.bool (rescM xs y0))] ?_
   refine Ok.j (Ok.t ?_)
   subst hg6
   refine Ok.rb 21 (rsaidV2 xs y0) (Eq.trans (mor_f hc7) (mand_t hc5)) ?_
   exact fz hF
  refine Ok.b 10 [0,1,6] [(21,.bool false)] ?_
  refine Ok.nt (Ok.rb 21 (rsaidV2 xs y0) (mand_f hc5) ?_)
  exact fz hF
 refine Ok.cw hF (fun hc1 hF=>?_) (fun hc1 hF=>?_)
 ·refine Ok.k (Ok.t (Ok.block (Ok.ct [(0,sv xs),(1,iv (rsaidV4 xs y0)),(6,sv s0)] [] (rsaidj15 xs y0 s0 (rsaidl7 xs K k7)) ?_ (fun hF=>?_))))
  ·
   refine Ok.sr (Ok.b 2 [0,1,6] [(22,sv xs),(23,iv y0)] ?_)
   obtain ⟨h03,h13,hF⟩:=hF
   have he3:=get_of (l:=xs) (0:UInt8) h13
   generalize hg3:(xs.getD y0.toNat 0)=e3 at he3 hF ⊢
   refine Ok.o (OpOk.s (v:=.int .u8 (e3.toNat:Int)) (Yields.ix (k:=.i64) (i:=y0) (s:=xs) (b:=e3) kr kr underlying9 h03 he3) rfl rfl (Ok.b 1 [0,1,6] [(25,.bool ((e3.toNat:Int)==92))] ?_))
   refine Ok.nt (Ok.cn hF rfl (fun hc4=>?_) (fun hc4=>?_))
   ·replace hF:=hF.1 hc4
    refine Ok.r (Ok.b 3 [0,6] [(1,iv (w6 (y0+1)))] ?_)
    refine Ok.j (Ok.t ?_)
    subst hg3
    refine Ok.v 1 rfl (show (iv (w6 (y0+1)):Value)=iv (rsaidV4 xs y0) from congrArg (Value.int .i64) ((if_t hc4).symm)) ?_
    exact fz hF
   replace hF:=hF.2 hc4
   refine Ok.k (Ok.t ?_)
   subst hg3
   refine Ok.v 1 rfl (show (iv y0:Value)=iv (rsaidV4 xs y0) from congrArg (Value.int .i64) ((if_f hc4).symm)) ?_
   exact fz hF
  refine Ok.sr (Ok.b 5 [0,1] [(28,sv s0),(29,sv xs),(30,iv (rsaidV4 xs y0)),(32,iv (w6 ((rsaidV4 xs y0)+1)))] ?_)
  obtain ⟨h02,h12,h22,hF⟩:=hF
  refine Ok.o (OpOk.s (Yields.ss (s:=xs) (l:=rsaidV4 xs y0) (h:=(w6 ((rsaidV4 xs y0)+1))) kr underlying9 (.inl ⟨_,_,rfl,rfl⟩) (.inl ⟨_,_,rfl,rfl⟩) h02 h12 h22 ((xs.take (Int.toNat (w6 ((rsaidV4 xs y0)+1)))).drop (Int.toNat (rsaidV4 xs y0))) rfl) rfl rfl ?_)
  obtain ⟨hv,hF⟩:=hF
  refine Ok.o (OpOk.s (v:=sv (s0++((xs.take (Int.toNat (w6 ((rsaidV4 xs y0)+1)))).drop (Int.toNat (rsaidV4 xs y0))))) (Yields.sa rfl rfl hv) rfl rfl (Ok.b 1 [0,1] [(6,sv (s0++((xs.take (Int.toNat (w6 ((rsaidV4 xs y0)+1)))).drop (Int.toNat (rsaidV4 xs y0)))))] ?_))
  refine Ok.nt (Ok.r (Ok.b 3 [0,6] [(1,iv (w6 ((rsaidV4 xs y0)+1)))] ?_))
  refine Ok.j (Ok.kn (Ok.t ?_))
  exact fun _ _ u v=>⟨k7,nl,w6 ((rsaidV4 xs y0)+1),s0++((xs.take (Int.toNat (w6 ((rsaidV4 xs y0)+1)))).drop (Int.toNat (rsaidV4 xs y0))),fA u v hF⟩
 refine Ok.x (Ok.thenE (Ok.thenE (Ok.blockHit (Ok.t (Ok.sr (Ok.B 4 [(4,sv s0),(5,iv y0)] kr (Ok.nt (Ok.ret ?_))))))))
 exact Ok.resH (vs:=[sv s0,iv y0]) (.inl rfl) rfl (.cons (.tmp rfl) (.cons (.tmp rfl) .nil)) (Gext.r w0 g) ⟨s0,y0,rfl,rfl,hF⟩
theorem take_drop_one {s:Bs} {i:Nat} (h:i<s.length):(s.take (i+1)).drop i=[s.getD i 0]:=by
 rw [take_get (0:UInt8) h,List.drop_append_of_le_length (by simp; omega),List.drop_of_length_le (by simp; omega),List.nil_append]
theorem sign_92:signM ((92:UInt8).toNat:Int)=false:=by decide +kernel
theorem rsaid_loop (xs:Bs) (hP:nameP xs) (K:Bs→Int→Prop):∀ (k i:Nat) (acc:Bs),xs.length≤i+k→i≤xs.length→acc.length≤i →
  K (acc++(nmN k (xs.drop i)).1) ((i+(nmN k (xs.drop i)).2:Nat):Int)→rsaidl7 xs K (k+1) (i:Int) acc:=by
 have hP':=hP
 unfold nameP at hP
 intro k
 induction k using Nat.strongRecOn with
 | _ k ih =>
 intro i acc h1 h2 h3 hK
 have j9:rsaidj9 xs K (i:Int) acc (rsaidl7 xs K k):=by
  unfold rsaidj9 rsaidV2
  rw [tnc,nam_sign,resc_drop hP' om]
  refine ⟨fun hc=>?_,fun hc=>?_⟩
  ·rw [Bool.and_eq_true,Bool.or_eq_true] at hc
   have hi:i<xs.length:=by have:=of_decide_eq_true hc.1; omega
   obtain ⟨k,rfl⟩:∃ j,k=j+1:=⟨k - 1,by omega⟩
   have hd:=drop_get (l:=xs) (0:UInt8) hi
   have e92:(((xs.getD i 0).toNat:Int)==92)=(xs.getD i 0==92):=byte_beq (xs.getD i 0) 92
   unfold rsaidj15 rsaidV4
   rw [tnc,e92]
   by_cases he:escM (xs.drop i)=true
   ·have hl:=esc_len he
    rw [List.length_drop] at hl
    have hd2:=drop_get (l:=xs) (0:UInt8) (show i+1<xs.length by omega)
    have h92:xs.getD i 0=92:=by rw [hd] at he; exact esc_cons he
    rw [hd,hd2] at hK he
    rw [nmN_esc k _ _ _ he] at hK
    have key:(0:Int)≤(if (xs.getD i 0==92)=true then w6 ((i:Int)+1) else (i:Int))∧((if (xs.getD i 0==92)=true then w6 ((i:Int)+1) else (i:Int)):Int)≤(w6 ((if (xs.getD i 0==92)=true then w6 ((i:Int)+1) else (i:Int))+1))∧(w6 ((if (xs.getD i 0==92)=true then w6 ((i:Int)+1) else (i:Int))+1))≤(xs.length:Int)∧acc.length+((xs.take (Int.toNat (w6 ((if (xs.getD i 0==92)=true then w6 ((i:Int)+1) else (i:Int))+1)))).drop (Int.toNat (if (xs.getD i 0==92)=true then w6 ((i:Int)+1) else (i:Int)))).length≤maxLen∧(rsaidl7 xs K (k+1)) (w6 ((if (xs.getD i 0==92)=true then w6 ((i:Int)+1) else (i:Int))+1)) (acc++((xs.take (Int.toNat (w6 ((if (xs.getD i 0==92)=true then w6 ((i:Int)+1) else (i:Int))+1)))).drop (Int.toNat (if (xs.getD i 0==92)=true then w6 ((i:Int)+1) else (i:Int))))):=by
     rw [if_t (by rw [h92]; rfl),w64 (x:=(i:Int)+1) om,w64 om,show ((i:Int)+1+1).toNat=i+1+1 by omega,show ((i:Int)+1).toNat=i+1 by omega,take_drop_one om]
     refine ⟨by omega,by omega,by omega,by rw [maxLen_eq]; simp; omega,?_⟩
     have:=ih k om (i+2) (acc++[xs.getD (i+1) 0]) om om (by simp; omega) (by
      rw [List.append_assoc]
      have e:((i+2+(nmN k (xs.drop (i+2))).2:Nat):Int)=((i+((nmN k (xs.drop (i+2))).2+2):Nat):Int):=by omega
      rw [e]
      exact hK)
     exact this
    exact ⟨by omega,by omega,fun _=>key,fun _=>key⟩
   rw [Bool.not_eq_true] at he
   have hs:signM ((xs.getD i 0).toNat:Int)=true:=by
    rcases hc.2 with h | h
    ·exact h
    rw [he] at h; cases h
   have h92:¬ xs.getD i 0=92:=fun e=>by rw [e,sign_92] at hs; cases hs
   rw [hd] at hK he
   rw [nmN_cons k _ _ he,if_t hs] at hK
   have key:(0:Int)≤(if (xs.getD i 0==92)=true then w6 ((i:Int)+1) else (i:Int))∧((if (xs.getD i 0==92)=true then w6 ((i:Int)+1) else (i:Int)):Int)≤(w6 ((if (xs.getD i 0==92)=true then w6 ((i:Int)+1) else (i:Int))+1))∧(w6 ((if (xs.getD i 0==92)=true then w6 ((i:Int)+1) else (i:Int))+1))≤(xs.length:Int)∧acc.length+((xs.take (Int.toNat (w6 ((if (xs.getD i 0==92)=true then w6 ((i:Int)+1) else (i:Int))+1)))).drop (Int.toNat (if (xs.getD i 0==92)=true then w6 ((i:Int)+1) else (i:Int)))).length≤maxLen∧(rsaidl7 xs K (k+1)) (w6 ((if (xs.getD i 0==92)=true then w6 ((i:Int)+1) else (i:Int))+1)) (acc++((xs.take (Int.toNat (w6 ((if (xs.getD i 0==92)=true then w6 ((i:Int)+1) else (i:Int))+1)))).drop (Int.toNat (if (xs.getD i 0==92)=true then w6 ((i:Int)+1) else (i:Int))))):=by
    rw [if_f (by simpa using h92),w64 (x:=(i:Int)+1) om,show ((i:Int)+1).toNat=i+1 by omega,tnc,take_drop_one om]
    refine ⟨by omega,by omega,by omega,by rw [maxLen_eq]; simp; omega,?_⟩
    have:=ih k om (i+1) (acc++[xs.getD i 0]) om om (by simp; omega) (by
     rw [List.append_assoc]
     have e:((i+1+(nmN k (xs.drop (i+1))).2:Nat):Int)=((i+((nmN k (xs.drop (i+1))).2+1):Nat):Int):=by omega
     rw [e]
     exact hK)
    exact this
   exact ⟨by omega,by omega,fun _=>key,fun _=>key⟩
  by_cases hi:i<xs.length
  ·rw [decide_eq_true om,Bool.true_and,Bool.or_eq_false_iff] at hc
   obtain ⟨k,rfl⟩:∃ j,k=j+1:=⟨k - 1,by omega⟩
   have hd:=drop_get (l:=xs) (0:UInt8) hi
   rw [hd] at hK hc
   rw [nmN_cons k _ _ hc.2,if_f hc.1] at hK
   simpa using hK
  rw [List.drop_of_length_le om] at hK
  have e:nmN k []=([],0):=by cases k <;> rfl
  rw [e] at hK
  simpa using hK
 refine ⟨fun h=>⟨by omega,od h,fun _=>j9,fun _=>⟨rpl_nat hP' om,j9⟩⟩,fun _=>j9⟩
def rsaidP (s:Bs) (i:Int):Prop:=nameP s∧0≤i∧i≤s.length
theorem rsaid_F (s:Bs) (i:Int) (hp:rsaidP s i):rsaidF s i (fun a b=>(a,b)=rsaidS s i):=by
 obtain ⟨i,rfl⟩:∃ n:Nat,i=(n:Int):=⟨i.toNat,by have:=hp.2.1; omega⟩
 have h2:=hp.2.2
 refine ⟨_,rsaid_loop s hp.1 _ (s.length - i) i [] om om (by simp) ?_⟩
 unfold rsaidS nameS
 rw [tnc,List.length_drop,List.nil_append]
 simp
theorem rsaid_c {g:Ghost} (xs:Bs) (xi:Int)  (hp:rsaidP xs xi):CallsG prog 193 #[sv xs,iv xi] g (.tuple #[sv ((rsaidS xs xi).1),iv (rsaidS xs xi).2]) :=
 (rsaid_ok xs xi _ (rsaid_F xs xi hp)).gives (by rintro g' H' v _ ⟨r0,r1,rfl,rfl,hK⟩; obtain ⟨rfl,rfl⟩:r0=(rsaidS xs xi).1∧r1=(rsaidS xs xi).2:=⟨congrArg (fun z=>z.1) hK,congrArg (fun z=>z.2) hK⟩; rfl)
def rlowV2 (u0:Int) (z0:List Int):List Int :=
 (if ((decide (z0.getD u0.toNat default≥65))&&(decide (z0.getD u0.toNat default≤90)))=true then (z0.set u0.toNat (IntKind.wrap .u8 ((z0.getD u0.toNat default)+32))) else z0)
def rlowV3 (u0:Int) (z0:List Int):Bool :=
 ((decide (z0.getD u0.toNat default≥65))&&(decide (z0.getD u0.toNat default≤90)))
def rlowj16 (u0:Int) (z0:List Int) (C9:Int→List Int→Prop):Prop :=
 C9 (w6 (u0+1)) (rlowV2 u0 z0)
def rlowj18 (u0:Int) (z0:List Int) (C9:Int→List Int→Prop):Prop :=
 (rlowV3 u0 z0=true→0≤u0∧u0.toNat<z0.length∧rlowj16 u0 z0 C9)∧(rlowV3 u0 z0=false→rlowj16 u0 z0 C9)
def rlowl9b (K:Bs→Prop) (u0:Int) (z0:List Int) (C9:Int→List Int→Prop):Prop :=
 ((decide (u0<(z0.length:Int)))=true→0≤u0∧u0.toNat<z0.length∧((decide (z0.getD u0.toNat default≥65))=true→rlowj18 u0 z0 C9)∧((decide (z0.getD u0.toNat default≥65))=false→rlowj18 u0 z0 C9))∧((decide (u0<(z0.length:Int)))=false→K (bytesOf z0))
def rlowl9 (K:Bs→Prop):Nat→Int→List Int→Prop
 | 0,_,_=>False
 | k+1,u0,z0=>rlowl9b K u0 z0 (rlowl9 K k)
def rlowF (xs:Bs) (K:Bs→Prop):Prop :=
 ∃ k,rlowl9 K k 0 (intsOf xs)
theorem rlow_ok {g:Ghost} (xs:Bs) (K:Bs→Prop)
  (hF:rlowF xs K):CallsH prog 63 #[sv xs] g [] (fun g' H' v=>∃ (r0:Bs),v=sv r0∧H'=[]∧K r0):=by
 refine CallsH.en 35 func63 rfl fun w0=>?_
 refine Ok.sr (Ok.B 1 [(0,sv xs)] kr (Ok.nt (Ok.sr (Ok.B 1 [(5,sv xs)] kr (Ok.o (OpOk.bytesB (s:=xs) kr underlying9 underlying26 underlying5 rfl fun a1 c1 xs1 hL1=>?_))))))
 refine Ok.B 1 [(3,.slice a1 (intsOf xs).length c1)] kr (Ok.nt (Ok.q (Ok.sr (Ok.b 1 [3] [(4,iv 0)] ?_))))
 refine Ok.nt (Ok.block ?_)
 obtain ⟨k,hF⟩:=hF
 refine Ok.L (fun k a W=>∃ gl9:Ghost,Gext w0 g gl9∧∃ (u0:Int) (v0:Option Addr) (q0:Nat) (z0:List Int) (x0:List Value),RepL gl9 yb x0 z0∧StA 35 [(3,.slice v0 z0.length q0),(4,iv u0)] a∧StW w0 [.ownb (.slice v0 z0.length q0) 5 z0.length x0] gl9 W∧rlowl9 K k u0 z0) k ?_ ?_
 ·
  exact fun _ _ u v=>⟨g,Gext.r w0 g,0,a1,c1,intsOf xs,xs1,hL1,fA u v hF⟩
 clear hF
 rintro (_ | k9) _ _ ⟨gl9,n0,u0,v0,q0,z0,x0,j0,q⟩
 exact (q.2.2:False).elim
 refine jn (fun hF=>?_) _ _ q
 refine Ok.q (Ok.sr (Ok.b 4 [3,4] [(10,.bool (decide (u0<(z0.length:Int))))] ?_))
 refine Ok.nt (Ok.cw hF (fun hc2 hF=>?_) (fun hc2 hF=>?_))
 ·refine Ok.k (Ok.t (Ok.cut (fun a W=>∃ f0:Ghost,Gext w0 gl9 f0∧∃ (c0:Option Addr) (d0:Nat) (b0:List Value),RepL f0 yb b0 (rlowV2 u0 z0)∧StA 35 [(3,.slice c0 (rlowV2 u0 z0).length d0),(4,iv u0)] a∧StW w0 [.ownb (.slice c0 (rlowV2 u0 z0).length d0) 5 (rlowV2 u0 z0).length b0] f0 W∧rlowj16 u0 z0 (rlowl9 K k9)) ?_ ?_))
  ·
   refine Ok.block (Ok.cg gl9 [(3,.slice v0 z0.length q0),(4,iv u0),(24,.bool (rlowV3 u0 z0))] [.ownb (.slice v0 z0.length q0) 5 z0.length x0] (rlowj18 u0 z0 (rlowl9 K k9)) ?_ (fun m0 g0 hF=>?_))
   ·
    refine Ok.r (Ok.b 2 [3,4] [(13,.slice v0 z0.length q0),(14,iv u0)] ?_)
    obtain ⟨h09,h19,hF⟩:=hF
    have he9:=get_of (l:=z0) default h19
    generalize hg9:(z0.getD u0.toNat default)=e9 at he9 hF ⊢
    refine Ok.o (OpOk.indexB (q:=u0) (el:=e9) 0 rfl j0 rfl rfl underlying26 kr h09 he9 rfl fun hc8=>?_)
    refine Ok.o (OpOk.s (v:=.int .u8 e9) (Yields.loadB 0 0 rfl hc8 rfl underlying5 rfl kr) rfl rfl (Ok.b 2 [3,4] [(18,.bool (decide (e9≥65)))] ?_))
    refine Ok.a 18 (decide (e9≥65)) rfl (fun e0=>?_) (fun e0=>?_)
    ·replace hF:=hF.1 e0
     refine Ok.b 2 [3,4] [(18,.bool true),(19,.slice v0 z0.length q0),(20,iv u0)] ?_
     refine Ok.oy (OpOk.indexB (q:=u0) (el:=e9) 0 rfl j0 rfl rfl underlying26 kr h09 he9 rfl fun hc11=>?_)
     refine Ok.oy (OpOk.s (v:=.int .u8 e9) (Yields.loadB 0 0 rfl hc11 rfl underlying5 rfl kr) rfl rfl (Ok.b 2 [3,4] [(24,.bool (decide (e9≤90)))] ?_))
     refine Ok.j (Ok.t ?_)
     subst hg9
     refine Ok.rb 24 (rlowV3 u0 z0) (mand_t e0) ?_
     exact fg hF
    replace hF:=hF.2 e0
    refine Ok.b 6 [3,4] [(24,.bool false)] ?_
    refine Ok.j (Ok.t ?_)
    subst hg9
    refine Ok.rb 24 (rlowV3 u0 z0) (mand_f e0) ?_
    exact fg hF
   replace j0:=j0.mono g0.1
   refine Ok.cw hF (fun hc3 hF=>?_) (fun hc3 hF=>?_)
   ·refine Ok.r (Ok.b 4 [3,4] [(25,.slice v0 z0.length q0),(26,iv u0),(27,.slice v0 z0.length q0),(28,iv u0)] ?_)
    obtain ⟨h05,h15,hF⟩:=hF
    have he5:=get_of (l:=z0) default h15
    generalize hg5:(z0.getD u0.toNat default)=e5 at he5 hF ⊢
    refine Ok.o (OpOk.indexB (q:=u0) (el:=e5) 0 rfl j0 rfl rfl underlying26 kr h05 he5 rfl fun hc4=>?_)
    refine Ok.o (OpOk.s (v:=.int .u8 e5) (Yields.loadB 0 0 rfl hc4 rfl underlying5 rfl kr) rfl rfl (Ok.b 1 [3,4,25,26] [(31,.int .u8 (IntKind.wrap .u8 (e5+32)))] ?_))
    refine Ok.o (OpOk.indexB (q:=u0) (el:=e5) 0 rfl j0 rfl rfl underlying26 kr h05 he5 rfl fun hc6=>?_)
    refine Ok.o (OpOk.storeB (q:=u0.toNat) (el':=IntKind.wrap .u8 (e5+32)) 0 rfl j0 hc6 rfl rfl kr fun xs7 hL7=>?_)
    rw [show z0.length=(z0.set u0.toNat (IntKind.wrap .u8 (e5+32))).length from (List.length_set ..).symm]
    refine Ok.j (Ok.kn (Ok.t ?_))
    subst hg5
    refine Ok.v 3 rfl (show (.slice v0 (z0.set u0.toNat (IntKind.wrap .u8 ((z0.getD u0.toNat default)+32))).length q0:Value)=.slice v0 (rlowV2 u0 z0).length q0 from congrArg (fun l:List Int=>Value.slice v0 l.length q0) ((if_t hc3).symm)) ?_
    refine Ok.heapEq (H':=[.ownb (.slice v0 (rlowV2 u0 z0).length q0) 5 (rlowV2 u0 z0).length xs7]) (econs (congrArg (fun l:List Int=>Ent.ownb (.slice v0 l.length q0) 5  l.length xs7) ((if_t hc3).symm)) rfl) ?_
    exact fun _ _ u v=>⟨m0,g0,v0,q0,xs7,(Eq.mp (congrArg (fun l:List Int=>RepL m0 yb xs7 l) ((if_t hc3).symm)) hL7),fA u v hF⟩
   refine Ok.k (Ok.kn (Ok.t (Ok.v 3 rfl (show (.slice v0 z0.length q0:Value)=.slice v0 (rlowV2 u0 z0).length q0 from congrArg (fun l:List Int=>Value.slice v0 l.length q0) ((if_f hc3).symm)) ?_)))
   refine Ok.heapEq (H':=[.ownb (.slice v0 (rlowV2 u0 z0).length q0) 5 (rlowV2 u0 z0).length x0]) (econs (congrArg (fun l:List Int=>Ent.ownb (.slice v0 l.length q0) 5  l.length x0) ((if_f hc3).symm)) rfl) ?_
   exact fun _ _ u v=>⟨m0,g0,v0,q0,x0,(Eq.mp (congrArg (fun l:List Int=>RepL m0 yb x0 l) ((if_f hc3).symm)) j0),fA u v hF⟩
  clear hF
  rintro _ _ ⟨f0,hxj16,c0,d0,b0,hLyownb1_0j16,q⟩
  refine jn (fun hF=>?_) _ _ q
  refine Ok.r (Ok.b 3 [3] [(4,iv (w6 (u0+1)))] ?_)
  refine Ok.j (Ok.t ?_)
  exact fun _ _ u v=>⟨k9,nl,f0,n0.trans hxj16,w6 (u0+1),c0,d0,rlowV2 u0 z0,b0,hLyownb1_0j16,fA u v hF⟩
 refine Ok.x (Ok.thenE (Ok.thenE (Ok.blockHit (Ok.t (Ok.sr (Ok.B 1 [(33,.slice v0 z0.length q0)] kr (Ok.o (OpOk.s (v:=sv (bytesOf z0)) (Yields.strOfB 0 kr rfl rfl j0 underlying26 underlying9 underlying5) rfl rfl (Ok.B 1 [(2,sv (bytesOf z0))] kr (Ok.nt (Ok.ret ?_)))))))))))
 exact Ok.p1 (sv (bytesOf z0)) n0 ⟨bytesOf z0,rfl,rfl,hF⟩
theorem rlow_loop (xs:Bs) (hP:xs.length≤140737488351232) (K:Bs→Prop) (hK:K (lowerS xs)):∀ (k i:Nat),xs.length=i+k→rlowl9 K (k+1) (i:Int) (intsOf (lowAt xs i)):=by
 intro k
 induction k with
 | zero =>
  intro i h
  have hl:(lowAt xs i).length=xs.length:=by simp [lowAt]; omega
  refine ⟨fun hc=>?_,fun _=>?_⟩
  ·have:=of_decide_eq_true hc; rw [intsOf_length] at this; omega
  rw [bytesOf_intsOf,lowAt,List.take_of_length_le om,List.drop_of_length_le om,List.append_nil]
  exact hK
 | succ k ih =>
  intro i h
  have hl:(lowAt xs i).length=xs.length:=by simp [lowAt]; omega
  refine ⟨fun _=>?_,fun hc=>?_⟩
  ·have key:rlowj16 (i:Int) (intsOf (lowAt xs i)) (rlowl9 K (k+1)):=by
    unfold rlowj16
    have e:rlowV2 (i:Int) (intsOf (lowAt xs i))=lowerV2 (i:Int) (intsOf (lowAt xs i)):=rfl
    rw [e,w64 om,lowAt_step om]
    exact ih (i+1) om
   have j18:rlowj18 (i:Int) (intsOf (lowAt xs i)) (rlowl9 K (k+1)):=⟨fun _=>⟨by omega,by rw [intsOf_length,hl]; omega,key⟩,fun _=>key⟩
   exact ⟨by omega,by rw [intsOf_length,hl]; omega,fun _=>j18,fun _=>j18⟩
  have:=of_decide_eq_false hc; rw [intsOf_length] at this; omega
theorem rlow_F (s:Bs) (hp:lowerP s):rlowF s (fun r=>r=lowerS s) :=
 ⟨s.length+1,rlow_loop s hp (fun r=>r=lowerS s) rfl s.length 0 om⟩
theorem rlow_c {g:Ghost} (xs:Bs)  (hp:lowerP xs):CallsG prog 63 #[sv xs] g (sv (lowerS xs)) :=
 (rlow_ok xs _ (rlow_F xs hp)).gv
end Go.Proofs.YtdapgmigogpdcaaGreatDoor.Tk
