/- csstok: the number at the beginning of a text. -/
import Derived.Test.YtdapgmigogpdcaaGreatDoorCsm
namespace Go.Proofs.YtdapgmigogpdcaaGreatDoor.Css
open _root_.Go.Proofs.Tryz Go Go.Eng Bld Trm
set_option linter.unusedVariables false
set_option linter.unusedSimpArgs false
set_option maxHeartbeats 4000000
set_option maxRecDepth 100000
theorem tlS_len (s c:Bs):(tlS s c).length≤s.length:=(List.dropWhile_sublist _).length_le
def digN (s:Bs):Nat:=s.length - (tlS s [48,49,50,51,52,53,54,55,56,57]).length
theorem digN_le (s:Bs):digN s≤s.length:=Nat.sub_le _ _
theorem digits_eq {s:Bs} (h:nameP s):digitsM s=(digN s:Int):=by
 have:=tlS_len s [48,49,50,51,52,53,54,55,56,57]
 unfold nameP at h
 unfold digitsM digN
 rw [w64 om]
 omega
def stepN (n x:Int):Int:=if 1000000000<(w6 ((w6 (10 * n))+(w6 (IntKind.wrap .u8 (x - 48))))) then 1000000000 else (w6 ((w6 (10 * n))+(w6 (IntKind.wrap .u8 (x - 48)))))
def numB (xs:Bs):List Int:=intsOf ((xs.take (Int.toNat (w6 ((numbV1 xs)+(digitsM (xs.drop (Int.toNat (numbV1 xs)))))))).drop (Int.toNat (numbV1 xs)))
def numS (xs:Bs):Int×Int :=
 if (w6 ((digitsM (xs.drop (Int.toNat (numbV1 xs))))+(numbV2 xs))==0)=true then (0,0) else
  (numbV9 xs (numbV6 xs 2 (numbV6 xs 1 (numbV6 xs 0 ((numB xs).foldl stepN 0)))),numbV3 xs)
theorem v1_ok (xs:Bs):0≤numbV1 xs∧numbV1 xs≤xs.length:=by
 unfold numbV1
 cases h:numbV0 xs
 ·simp
 unfold numbV0 at h
 simp at h
 have:=List.length_pos_iff.mpr h.1
 simp
 omega
theorem l68 (xs:Bs) (K:Int→Int→Prop) (h0:0<xs.length) (n:Int) (hK:K (numbV9 xs (numbV6 xs 2 (numbV6 xs 1 (numbV6 xs 0 n)))) (numbV3 xs)):numbj56 xs K n:=by
 have fin:∀ m,K (numbV9 xs m) (numbV3 xs)→numbl68 xs K 1 3 m:=fun m hm=>⟨fun h=>by simp at h,fun _=>⟨by omega,by simpa using h0,fun _=>hm,fun _=>hm⟩⟩
 have stp:∀ (k i:Nat) m,i<3→numbl68 xs K k ((i+1:Nat):Int) (numbV6 xs (i:Int) m)→numbl68 xs K (k+1) (i:Int) m:=fun k i m hi h=>by
  have key:numbj75 xs (i:Int) m (numbl68 xs K k):=by
   unfold numbj75
   rw [w64 om]
   exact h
  refine ⟨fun _=>⟨fun hc=>⟨by omega,?_,key⟩,fun _=>key⟩,fun h=>oe h⟩
  have:=of_decide_eq_true hc
  omega
 exact ⟨4,stp 3 0 n om (stp 2 1 _ om (stp 1 2 _ om (fin _ hK)))⟩
/-- where the whole part of a number ends, and how many digits are behind the point -/
theorem end_ok {xs:Bs} (h:nameP xs):0≤numbV1 xs∧numbV1 xs≤w6 ((numbV1 xs)+(digitsM (xs.drop (Int.toNat (numbV1 xs)))))∧w6 ((numbV1 xs)+(digitsM (xs.drop (Int.toNat (numbV1 xs)))))≤xs.length:=by
 have h1:=v1_ok xs
 have h2:=digN_le (xs.drop (numbV1 xs).toNat)
 rw [digits_eq (nameP_drop h _)]
 rw [List.length_drop] at h2
 unfold nameP at h
 rw [w64 om]
 omega
theorem v2_ok {xs:Bs} (h:nameP xs):0≤numbV2 xs∧(0<numbV2 xs→w6 ((numbV1 xs)+(digitsM (xs.drop (Int.toNat (numbV1 xs)))))+1+numbV2 xs≤xs.length):=by
 have he:=end_ok h
 unfold numbV2
 generalize w6 ((numbV1 xs)+(digitsM (xs.drop (Int.toNat (numbV1 xs)))))=e at he ⊢
 split
 ·rename_i hc
  have h1:=slhp_len (s:=xs.drop e.toNat) (p:=[46]) hc
  have e1:Int.toNat 1=1:=rfl
  rw [e1,digits_eq (nameP_drop (nameP_drop h _) _)]
  have h2:=digN_le ((xs.drop e.toNat).drop 1)
  rw [List.length_drop,List.length_drop] at h2
  rw [List.length_drop] at h1
  simp at h1
  omega
 omega
theorem numb_F (xs:Bs) (h:nameP xs):numbF xs (fun a b=>(a,b)=numS xs):=by
 have he:=end_ok h
 have hv:=v2_ok h
 have h':=h
 unfold nameP at h'
 have j15:numbj15 xs (fun a b=>(a,b)=numS xs):=by
  refine ⟨fun hc=>?_,fun hc=>?_⟩
  ·unfold numS; rw [if_t hc]
  have hK:numS xs=(numbV9 xs (numbV6 xs 2 (numbV6 xs 1 (numbV6 xs 0 ((numB xs).foldl stepN 0)))),numbV3 xs):=by unfold numS; rw [if_f hc]
  have h0:0<xs.length:=by
   rcases Nat.eq_zero_or_pos xs.length with h0 | h0
   ·exfalso
    have e1:digitsM (xs.drop (Int.toNat (numbV1 xs)))=0:=by
     rw [digits_eq (nameP_drop h _)]
     have:=digN_le (xs.drop (Int.toNat (numbV1 xs)))
     rw [List.length_drop] at this
     omega
    have e2:numbV2 xs=0:=by omega
    rw [e1,e2] at hc
    exact absurd hc dc
   exact h0
  refine ⟨he.1,he.2.1,he.2.2,by rw [List.length_drop,List.length_take,maxLen_eq]; omega,(numB xs).length+1,?_⟩
  have hB:(numB xs).length≤xs.length:=by unfold numB; rw [intsOf_length,List.length_drop,List.length_take]; omega
  have loop:∀ (k i:Nat) (n:Int),(numB xs).length=i+k→((numB xs).drop i).foldl stepN n=(numB xs).foldl stepN 0→numbl39 xs (fun a b=>(a,b)=numS xs) (k+1) (i:Int) n:=by
   intro k
   induction k with
   | zero =>
    intro i n hl hf
    rw [List.drop_of_length_le om] at hf
    have fin:numbj56 xs (fun a b=>(a,b)=numS xs) n:=l68 xs _ h0 n (by rw [hK,← hf]; rfl)
    refine ⟨fun hc=>?_,fun _=>⟨fun h2=>?_,fun _=>fin⟩⟩
    ·have:=of_decide_eq_true hc
     have e:(numB xs).length=i:=by omega
     unfold numB at e
     omega
    have h2:=of_decide_eq_true h2
    have:=hv.2 h2
    generalize w6 ((numbV1 xs)+(digitsM (xs.drop (Int.toNat (numbV1 xs)))))=e at he this ⊢
    rw [w64 (x:=e+1) om,w64 om]
    exact ⟨by omega,by omega,by omega,fin⟩
   | succ k ih =>
    intro i n hl hf
    refine ⟨fun _=>⟨by omega,?_,?_⟩,fun hc=>?_⟩
    ·show _<(numB xs).length
     omega
    ·rw [w64 om]
     have hd:=drop_get (l:=numB xs) (default:Int) (show i<(numB xs).length by omega)
     rw [hd,List.foldl_cons] at hf
     exact ih (i+1) _ om hf
    have:=of_decide_eq_false hc
    have e:(numB xs).length=i+(k+1):=hl
    unfold numB at e
    omega
  exact loop _ 0 0 om rfl
 have j5:numbj5 xs (fun a b=>(a,b)=numS xs):=by
  refine ⟨he.1,by omega,by omega,by omega,he.2.2,by omega,fun hc=>⟨by omega,?_,by omega,j15⟩,fun _=>j15⟩
  have h1:=slhp_len (s:=xs.drop _) (p:=[46]) hc
  simp only [List.length_cons,List.length_nil] at h1
  omega
 have j6:numbj6 xs (fun a b=>(a,b)=numS xs):=⟨fun _=>j5,fun _=>j5⟩
 refine ⟨fun hc=>⟨by omega,?_,fun _=>j6,fun _=>j6⟩,fun _=>j6⟩
 have:=List.length_pos_iff.mpr (show xs≠[] by simpa using hc)
 simpa using this
theorem numb_c {g:Ghost} (xs:Bs)  (hp:nameP xs):CallsG prog 95 #[sv xs] g (.tuple #[iv (numS xs).1,iv (numS xs).2]) :=
 (numb_ok xs _ (numb_F xs hp)).gives (by rintro g' H' v _ ⟨r0,r1,rfl,rfl,hK⟩; obtain ⟨rfl,rfl⟩:r0=(numS xs).1∧r1=(numS xs).2:=⟨congrArg (fun z=>z.1) hK,congrArg (fun z=>z.2) hK⟩; rfl)
end Go.Proofs.YtdapgmigogpdcaaGreatDoor.Css
