/- Words in a text that blanks part. No program in sight. -/
import Derived.Lib.IndexMore
import Derived.Lib.IndexLaws
namespace Go.Wd
open Go.Lib
set_option linter.unusedVariables false
theorem index_ge:∀ (l sub:List UInt8),-1≤index l sub
 | [],sub=>by rw [index]; split <;> decide
 | b::l,sub=>by
  have:=index_ge l sub
  rw [index]; split
  ·decide
  split
  ·decide
  omega
theorem contains_cons (b:UInt8) (l sub:List UInt8):contains (b::l) sub=(sub.isPrefixOf (b::l)||contains l sub):=by
 have h:=index_ge l sub
 unfold contains
 rw [index]
 cases sub.isPrefixOf (b::l)
 ·rw [Bool.false_or]
  by_cases hi:index l sub = -1
  ·simp [hi]
  have h0:(index l sub==-1)=false:=by simpa using hi
  rw [h0]
  simp only [Bool.false_eq_true,if_false]
  exact Bool.eq_iff_iff.2 ⟨fun hq=>decide_eq_true (by have:=of_decide_eq_true hq; omega),fun hq=>decide_eq_true (by have:=of_decide_eq_true hq; omega)⟩
 simp
theorem contains_skip (x:List UInt8) (t:List UInt8):∀ u:List UInt8,(∀ c ∈ u,c≠32)→contains (u++t) (32::x)=contains t (32::x)
 | [],_=>rfl
 | b::u,h=>by
  rw [List.cons_append,contains_cons,contains_skip x t u fun c hc=>h c (List.mem_cons_of_mem _ hc)]
  have hb:((32:UInt8)==b)=false:=by
   have:=h b (List.mem_cons_self ..)
   simpa using fun e=>this e.symm
  rw [List.isPrefixOf,hb,Bool.false_and,Bool.false_or]
/-- the words, a blank ahead of each and one at the end -/
def wtext:List (List UInt8)→List UInt8
 | []=>[32]
 | w::ws=>32::(w++wtext ws)
theorem wtext_head:∀ ws:List (List UInt8),∃ t,wtext ws=32::t
 | []=>⟨[],rfl⟩
 | _::_=>⟨_,rfl⟩
theorem word_at (t:List UInt8):∀ (v w:List UInt8),(∀ c ∈ v,c≠32)→(∀ c ∈ w,c≠32)→(v++[32]).isPrefixOf (w++32::t)=(v==w)
 | [],[],_,_=>by simp [List.isPrefixOf]
 | [],d::w,_,hw=>by
  have:=hw d (List.mem_cons_self ..)
  have hb:((32:UInt8)==d)=false:=by simpa using fun e=>this e.symm
  show ((32:UInt8)==d&&_)=_
  rw [hb]; rfl
 | c::v,[],hv,_=>by
  have:=hv c (List.mem_cons_self ..)
  have hb:(c==(32:UInt8))=false:=by simpa using this
  show (c==(32:UInt8)&&_)=_
  rw [hb]; rfl
 | c::v,d::w,hv,hw=>by
  show (c==d&&(v++[32]).isPrefixOf (w++32::t))=(c==d&&v==w)
  rw [word_at t v w (fun c hc=>hv c (List.mem_cons_of_mem _ hc)) fun c hc=>hw c (List.mem_cons_of_mem _ hc)]
theorem contains_words (v:List UInt8) (hv:∀ c ∈ v,c≠32):∀ ws:List (List UInt8),(∀ w ∈ ws,∀ c ∈ w,c≠32)→contains (wtext ws) (32::(v++[32]))=ws.contains v
 | [],_=>by
  have h:(32::(v++[32])).isPrefixOf [(32:UInt8)]=false:=by cases v <;> rfl
  show contains [32] _=_
  rw [contains_cons,h]; rfl
 | w::ws,h=>by
  obtain ⟨t,ht⟩:=wtext_head ws
  rw [wtext,contains_cons,contains_skip _ _ w (h w (List.mem_cons_self ..)),contains_words v hv ws fun w hw=>h w (List.mem_cons_of_mem _ hw),List.contains_cons]
  have:(32::(v++[32])).isPrefixOf (32::(w++wtext ws))=(v==w):=by
   show ((32:UInt8)==32&&(v++[32]).isPrefixOf (w++wtext ws))=_
   rw [ht,word_at t v w hv (h w (List.mem_cons_self ..))]; rfl
  rw [this]
end Go.Wd
