/- match: the words of a text, by runes and by bytes. No program in sight. -/
import Derived.Test.YtdapgmigogpdcaaGreatDoorMab
import Derived.Lib.FieldsP
import Derived.Lib.TrimUEq
namespace Go.Proofs.YtdapgmigogpdcaaGreatDoor.Ma
open Go Go.Lib
set_option linter.unusedVariables false
def lq (x:Nat):Bool:=x==32||(x==9||(x==10||(x==12||x==13)))
def IU (s:List UInt8):List (List UInt8):=(Lib.goFieldsP lq ⟨⟨s⟩⟩).map fun b=>b.data.toList
def wrdG:List UInt8→List UInt8→List (List UInt8)
 | cur,[]=>if (cur==[])=true then [] else [cur]
 | cur,c::t=>if lq c.toNat=true then (if (cur==[])=true then wrdG [] t else cur::wrdG [] t) else wrdG (cur++[c]) t
theorem Jq:∀ (k:Nat) (cur l:List UInt8),k≤l.length→(∀ j,j<k→128≤(l.getD j 0).toNat)→wrdG cur l=wrdG (cur++l.take k) (l.drop k)
 | 0,cur,l,_,_=>by simp
 | k+1,cur,[],h,_=>by simp at h
 | k+1,cur,c::t,h,hh=>by
  have h0:128≤c.toNat:=hh 0 (by omega)
  have hb:lq c.toNat=false:=by
   unfold lq;simp only [Bool.or_eq_false_iff,beq_eq_false_iff_ne];omega
  rw [wrdG,if_neg (by rw [hb]; simp),Jq k (cur++[c]) t (by simp at h; omega) (fun j hj=>by have:=hh (j+1) (by omega); simpa using this)];simp
def sF (s:List UInt8):Option Nat→Nat→List UInt8
 | some a,pos=>(s.drop a).take (pos - a)
 | none,_=>[]
def okA:Option Nat→Nat→Prop
 | some a,pos=>a<pos
 | none,_=>True
theorem WA (p:Nat→Bool) (s:ByteArray) (f pos:Nat) (st:Option Nat) (acc:List (Nat×Nat)):spansFromP p s (f+1) pos st acc=if pos<s.size then (if p (Utf8.decode s pos).1=true then (match st with | some a=>spansFromP p s f (pos+(Utf8.decode s pos).2) none (acc++[(a,pos)]) | none=>spansFromP p s f (pos+(Utf8.decode s pos).2) none acc) else (match st with | some a=>spansFromP p s f (pos+(Utf8.decode s pos).2) (some a) acc | none=>spansFromP p s f (pos+(Utf8.decode s pos).2) (some pos) acc)) else (acc,st):=rfl
theorem aes (s:ByteArray):∀ (f pos:Nat) (st:Option Nat) (acc:List (Nat×Nat)),s.size≤pos+f→pos≤s.size→okA st pos →
  (closeSpans s (spansFromP lq s f pos st acc)).map (fun x=>(s.extract x.1 x.2).data.toList)=acc.map (fun x=>(s.extract x.1 x.2).data.toList)++wrdG (sF s.data.toList st pos) (s.data.toList.drop pos):=by
 have hsz:s.data.toList.length=s.size:=by simp
 have fin:∀ (pos:Nat) (st:Option Nat) (acc:List (Nat×Nat)),pos=s.size→okA st pos→(closeSpans s (acc,st)).map (fun x=>(s.extract x.1 x.2).data.toList)=acc.map (fun x=>(s.extract x.1 x.2).data.toList)++wrdG (sF s.data.toList st pos) (s.data.toList.drop pos):=by
  intro pos st acc h hk;subst h;rw [List.drop_of_length_le (by omega)]
  cases st with
  | none=>simp [closeSpans,sF,wrdG]
  | some a =>
   have ha:a<s.size:=hk
   have hne:¬ ((sF s.data.toList (some a) s.size==[])=true):=by
    intro h;have h:=congrArg List.length (eq_of_beq h);simp only [sF,List.length_take,List.length_drop,List.length_nil] at h;omega
   rw [wrdG,if_neg hne];simp only [closeSpans,List.map_append,List.map_cons,List.map_nil,extract_data,sF]
 intro f
 induction f with
 | zero =>
  intro pos st acc h1 h2 hk;exact fin pos st acc (by omega) hk
 | succ f ih =>
  intro pos st acc h1 h2 hk;rw [WA]
  by_cases hp:pos<s.size
  ·rw [if_pos hp]
   have hg:s.data.toList[pos]? = some (s.get! pos):=by
    have e:=getD_get!' s pos;rw [List.getD_eq_getElem?_getD,List.getElem?_eq_getElem (by omega)] at e;rw [List.getElem?_eq_getElem (by omega)];exact congrArg some e
   have hd:s.data.toList.drop pos=s.get! pos::s.data.toList.drop (pos+1):=by
    rw [List.drop_eq_getElem_cons (by omega)];rw [List.getElem?_eq_getElem (by omega)] at hg;rw [Option.some.inj hg]
   rcases decode_two s pos hp with ⟨d1,d2,d3⟩ | ⟨d1,d2,d3,d4,d5⟩
   ·rw [d1,d3,hd,wrdG]
    by_cases hb:lq (s.get! pos).toNat=true
    ·rw [if_pos hb,if_pos hb]
     cases st with
     | none =>
      rw [if_pos (show (sF s.data.toList none pos==[])=true from rfl)];exact ih (pos+1) none acc (by omega) (by omega) trivial
     | some a =>
      have ha:a<pos:=hk
      have hne:¬ ((sF s.data.toList (some a) pos==[])=true):=by
       intro h;have h:=congrArg List.length (eq_of_beq h);simp only [sF,List.length_take,List.length_drop,List.length_nil] at h;omega
      rw [if_neg hne];show (closeSpans s (spansFromP lq s f (pos+1) none (acc++[(a,pos)]))).map _=_;rw [ih (pos+1) none (acc++[(a,pos)]) (by omega) (by omega) trivial,List.map_append,List.append_assoc];simp only [List.map_cons,List.map_nil,extract_data,sF,List.singleton_append]
    rw [if_neg hb,if_neg hb]
    cases st with
    | none =>
     show (closeSpans s (spansFromP lq s f (pos+1) (some pos) acc)).map _=_;rw [ih (pos+1) (some pos) acc (by omega) (by omega) (Nat.lt_succ_self _)];congr 2;simp only [sF];rw [hd,Nat.add_sub_cancel_left]; rfl
    | some a =>
     have ha:a<pos:=hk;show (closeSpans s (spansFromP lq s f (pos+1) (some a) acc)).map _=_;rw [ih (pos+1) (some a) acc (by omega) (by omega) (by show a<pos+1; omega)];congr 2;simp only [sF];rw [show pos+1 - a=(pos - a)+1 by omega,List.take_add_one,List.getElem?_drop,show a+(pos - a)=pos by omega,hg]; rfl
   have hb:lq (Utf8.decode s pos).1=false:=by
    unfold lq;simp only [Bool.or_eq_false_iff,beq_eq_false_iff_ne];omega
   have ajs:=Jq (Utf8.decode s pos).2 (sF s.data.toList st pos) (s.data.toList.drop pos) (by rw [List.length_drop]; omega) (fun j hj=>by
    have:=d5 j hj;rw [getD_dropU,getD_get!']
    exact this)
   rw [if_neg (by rw [hb]; simp),ajs,List.drop_drop];generalize hw:(Utf8.decode s pos).2=w at *
   cases st with
   | none =>
    show (closeSpans s (spansFromP lq s f (pos+w) (some pos) acc)).map _=_;rw [ih (pos+w) (some pos) acc (by omega) (by omega) (by show pos<pos+w; omega)]
    have e:sF s.data.toList (some pos) (pos+w)=sF s.data.toList none pos++List.take w (List.drop pos s.data.toList):=by
     simp only [sF,List.nil_append];rw [Nat.add_sub_cancel_left]
    rw [e]
   | some a =>
    have ha:a<pos:=hk;show (closeSpans s (spansFromP lq s f (pos+w) (some a) acc)).map _=_;rw [ih (pos+w) (some a) acc (by omega) (by omega) (by show a<pos+w; omega)]
    have e:sF s.data.toList (some a) (pos+w)=sF s.data.toList (some a) pos++List.take w (List.drop pos s.data.toList):=by
     simp only [sF];rw [show pos+w - a=(pos - a)+w by omega,List.take_add,List.drop_drop,show a+(pos - a)=pos by omega]
    rw [e]
  rw [if_neg hp];exact fin pos st acc (by omega) hk
theorem AV:∀ (s cur:List UInt8),(wrdG cur s).length≤s.length+1
 | [],cur=>by rw [wrdG]; split <;> simp
 | c::s,cur=>by
  rw [wrdG,List.length_cons]
  split
  ·split
   ·have:=AV s []; omega
   have:=AV s []; rw [List.length_cons]; omega
  have:=AV s (cur++[c]); omega
theorem Nw (s:List UInt8):IU s=wrdG [] s:=by
 unfold IU Lib.goFieldsP Lib.spansOfP;rw [List.map_map];exact aes ⟨⟨s⟩⟩ _ 0 none [] (by omega) (by omega) trivial
end Go.Proofs.YtdapgmigogpdcaaGreatDoor.Ma
