/- csstok: what name and lower compute. -/
import Derived.Test.YtdapgmigogpdcaaGreatDoorCsl
namespace Go.Proofs.YtdapgmigogpdcaaGreatDoor.Css
open Go Go.Eng Bld Trm
set_option linter.unusedVariables false
theorem bytes_snoc (l:List Int) (c:UInt8):bytesOf (l++[(c.toNat:Int)])=bytesOf l++[c]:=by
 simp [bytesOf]
theorem st_snoc {l:List Int} (h:intsOf (bytesOf l)=l) (c:UInt8):intsOf (bytesOf (l++[(c.toNat:Int)]))=l++[(c.toNat:Int)]:=by
 rw [bytes_snoc,show intsOf (bytesOf l++[c])=intsOf (bytesOf l)++[(c.toNat:Int)] from by simp [intsOf],h]
def nmN:Nat→List UInt8→List UInt8×Nat
 | 0,_=>([],0)
 | _+1,[]=>([],0)
 | k+1,c::r=>if escM (c::r)=true then (match r with
   | d::r'=>(d::(nmN k r').1,(nmN k r').2+2)
   | []=>([],0))
  else if signM (c.toNat:Int)=true then (c::(nmN k r).1,(nmN k r).2+1) else ([],0)
theorem nmN_cons (k:Nat) (c:UInt8) (r:List UInt8) (h:escM (c::r)=false):nmN (k+1) (c::r)=if signM (c.toNat:Int)=true then (c::(nmN k r).1,(nmN k r).2+1) else ([],0):=if_f h
theorem nmN_esc (k:Nat) (c d:UInt8) (r:List UInt8) (h:escM (c::d::r)=true):nmN (k+1) (c::d::r)=(d::(nmN k r).1,(nmN k r).2+2):=if_t h
def nameS (s:List UInt8):List UInt8×Int:=((nmN s.length s).1,((nmN s.length s).2:Int))
def nameP (s:List UInt8):Prop:=s.length≤140737488351232
theorem esc_len {s:List UInt8} (h:escM s=true):1<s.length:=by
 unfold escM escj3M at h
 simp at h
 omega
theorem name_loop (xs:List UInt8) (hP:nameP xs) (K:List UInt8→Int→Prop):∀ (k i:Nat) (acc:List Int),xs.length≤i+k→i≤xs.length→acc.length≤i→intsOf (bytesOf acc)=acc →
  K (bytesOf acc++(nmN k (xs.drop i)).1) ((i+(nmN k (xs.drop i)).2:Nat):Int)→namel9 xs K (k+1) (i:Int) acc:=by
 unfold nameP at hP
 intro k
 induction k using Nat.strongRecOn with
 | _ k ih =>
 intro i acc h1 h2 h3 h4 hK
 refine ⟨fun h=>?_,fun h=>?_⟩
 ·have hi:i<xs.length:=od h
  obtain ⟨k,rfl⟩:∃ j,k=j+1:=⟨k - 1,by omega⟩
  have hd:=drop_get (l:=xs) (0:UInt8) hi
  rw [tnc]
  refine ⟨by omega,by omega,by omega,fun he=>?_,fun he=>?_⟩
  ·have hl:=esc_len he
   rw [List.length_drop] at hl
   have hd2:=drop_get (l:=xs) (0:UInt8) (show i+1<xs.length by omega)
   rw [hd,hd2] at hK he
   rw [nmN_esc k _ _ _ he] at hK
   rw [w64 om,w64 om,show ((i:Int)+1).toNat=i+1 by omega]
   refine ⟨by omega,by omega,by unfold wbP; omega,?_⟩
   refine ih k om (i+2) (acc++[((xs.getD (i+1) 0).toNat:Int)]) om om (by simp; omega) (by rw [st_snoc h4]) ?_
   rw [bytes_snoc,List.append_assoc]
   have e:((i+2+(nmN k (xs.drop (i+2))).2:Nat):Int)=((i+((nmN k (xs.drop (i+2))).2+2):Nat):Int):=by omega
   rw [e]
   exact hK
  rw [hd] at hK he
  rw [nmN_cons k _ _ he] at hK
  refine ⟨by omega,by omega,fun hs=>?_,fun hs=>?_⟩
  ·rw [if_t hs] at hK
   rw [w64 om]
   refine ⟨by unfold wbP; omega,?_⟩
   refine ih k om (i+1) (acc++[((xs.getD i 0).toNat:Int)]) om om (by simp; omega) (by rw [st_snoc h4]) ?_
   rw [bytes_snoc,List.append_assoc]
   have e:((i+1+(nmN k (xs.drop (i+1))).2:Nat):Int)=((i+((nmN k (xs.drop (i+1))).2+1):Nat):Int):=by omega
   rw [e]
   exact hK
  rw [if_f hs] at hK
  exact ⟨h4,by simpa using hK⟩
 have hi:i=xs.length:=oe h
 subst hi
 rw [List.drop_length] at hK
 have e:nmN k []=([],0):=by cases k <;> rfl
 rw [e] at hK
 exact ⟨h4,by simpa using hK⟩
theorem name_F (s:List UInt8) (hp:nameP s):nameF s (fun a b=>(a,b)=nameS s) :=
 ⟨s.length+1,name_loop s hp _ s.length 0 [] om om (by simp) rfl (by simp [nameS,bytesOf])⟩
theorem nmN_len:∀ (k:Nat) (s:List UInt8),(nmN k s).2≤s.length∧(nmN k s).1.length≤(nmN k s).2
 | 0,_=>⟨Nat.zero_le _,Nat.le_refl _⟩
 | _+1,[]=>⟨Nat.le_refl _,Nat.le_refl _⟩
 | k+1,c::r=>by
  cases he:escM (c::r)
  ·rw [nmN_cons k c r he]
   split
   ·have:=nmN_len k r
    simp only [List.length_cons]
    omega
   simp
  have hl:=esc_len he
  match r,he,hl with
  | d::r,he,_ =>
   rw [nmN_esc k c d r he]
   have:=nmN_len k r
   simp only [List.length_cons]
   omega
theorem name_c {g:Ghost} (xs:List UInt8)  (hp:nameP xs):CallsG Tryz.prog 138 #[.string ⟨⟨xs⟩⟩] g (.tuple #[.string ⟨⟨((nameS xs).1)⟩⟩,iv ((nameS xs).2)]) :=
 (name_ok xs _ (name_F xs hp)).gives (by rintro g' H' v _ ⟨r0,r1,rfl,rfl,hK⟩; obtain ⟨rfl,rfl⟩:r0=(nameS xs).1∧r1=(nameS xs).2:=⟨congrArg (fun z=>z.1) hK,congrArg (fun z=>z.2) hK⟩; rfl)
/-- lower letters -/
def lowB (c:UInt8):UInt8:=if 65≤c.toNat∧c.toNat≤90 then c+32 else c
def lowerS (s:List UInt8):List UInt8:=s.map lowB
theorem low_eq (c:UInt8):(if ((decide ((c.toNat:Int)≥65))&&(decide ((c.toNat:Int)≤90)))=true then IntKind.wrap .u8 ((c.toNat:Int)+32) else (c.toNat:Int))=((lowB c).toNat:Int):=by
 unfold lowB
 by_cases h:65≤c.toNat∧c.toNat≤90
 ·rw [if_t (by simp; omega),if_pos h,IntWalk.u8_in _ om,UInt8.toNat_add]
  have:(32:UInt8).toNat=32:=rfl
  omega
 rw [if_f (by simp; omega),if_neg h]
theorem ints_getD (l:List UInt8) (i:Nat) (h:i<l.length):(intsOf l).getD i default=((l.getD i 0).toNat:Int):=by
 simp [intsOf,List.getD_eq_getElem?_getD,h]
theorem ints_set (l:List UInt8) (i:Nat) (c:UInt8):(intsOf l).set i (c.toNat:Int)=intsOf (l.set i c):=by
 simp [intsOf,List.map_set]
def lowAt (xs:List UInt8) (i:Nat):List UInt8:=(xs.take i).map lowB++xs.drop i
theorem lowAt_step {xs:List UInt8} {i:Nat} (h:i<xs.length):lowerV2 (i:Int) (intsOf (lowAt xs i))=intsOf (lowAt xs (i+1)):=by
 have hl:(lowAt xs i).length=xs.length:=by simp [lowAt]; omega
 have hg:(lowAt xs i).getD i 0=xs.getD i 0:=by
  unfold lowAt
  rw [List.getD_eq_getElem?_getD,List.getElem?_append_right (by simp; omega),List.getD_eq_getElem?_getD,List.getElem?_drop]
  congr 2
  simp; omega
 have hs:(lowAt xs i).set i (lowB (xs.getD i 0))=lowAt xs (i+1):=by
  unfold lowAt
  rw [List.set_append_right _ _ (by simp; omega),take_get (0:UInt8) h,drop_get (l:=xs) (0:UInt8) h,List.map_append,List.append_assoc]
  congr 1
  have e:i - ((xs.take i).map lowB).length=0:=by simp; omega
  rw [e]; rfl
 have hn:(lowAt xs i).set i (xs.getD i 0)=lowAt xs i:=by
  rw [← hg,List.getD_eq_getElem?_getD,List.getElem?_eq_getElem om,Option.getD_some,List.set_getElem_self]
 unfold lowerV2
 rw [tnc,ints_getD _ _ om,hg,← hs]
 have:=low_eq (xs.getD i 0)
 split
 ·rename_i hc
  rw [if_t hc] at this
  rw [this,ints_set]
 rename_i hc
 rw [if_neg hc] at this
 have:lowB (xs.getD i 0)=xs.getD i 0:=UInt8.toNat_inj.1 om
 rw [this,hn]
theorem lower_loop (xs:List UInt8) (hP:xs.length≤140737488351232) (K:List UInt8→Prop) (hK:K (lowerS xs)):∀ (k i:Nat),xs.length=i+k→lowerl9 xs K (k+1) (i:Int) (intsOf (lowAt xs i)):=by
 intro k
 induction k with
 | zero =>
  intro i h
  refine ⟨fun hc=>?_,fun _=>?_⟩
  ·have:=of_decide_eq_true hc; rw [intsOf_length] at this; omega
  rw [bytesOf_intsOf,lowAt,List.take_of_length_le om,List.drop_of_length_le om,List.append_nil]
  exact hK
 | succ k ih =>
  intro i h
  refine ⟨fun _=>?_,fun hc=>?_⟩
  ·have hl:(lowAt xs i).length=xs.length:=by simp [lowAt]; omega
   have key:lowerj16 (i:Int) (intsOf (lowAt xs i)) (lowerl9 xs K (k+1)):=by
    unfold lowerj16
    rw [w64 om,lowAt_step om]
    exact ih (i+1) om
   exact ⟨by omega,by rw [intsOf_length,hl]; omega,fun _=>key,fun _=>key⟩
  have:=of_decide_eq_false hc; rw [intsOf_length] at this; omega
def lowerP (s:List UInt8):Prop:=s.length≤140737488351232
theorem lower_F (s:List UInt8) (hp:lowerP s):lowerF s (fun r=>r=lowerS s) :=
 ⟨s.length+1,lower_loop s hp (fun r=>r=lowerS s) rfl s.length 0 om⟩
theorem lower_c {g:Ghost} (xs:List UInt8)  (hp:lowerP xs):CallsG Tryz.prog 141 #[.string ⟨⟨xs⟩⟩] g (.string ⟨⟨(lowerS xs)⟩⟩) :=
 (lower_ok xs _ (lower_F xs hp)).gives (by rintro g' H' v _ ⟨r0,rfl,rfl,hK⟩; subst hK; rfl)
end Go.Proofs.YtdapgmigogpdcaaGreatDoor.Css
