/- slices.Sort of ints. -/
import Derived.Test.YtdapgmigogpdcaaGreatDoorSto
import Derived.Test.YtdapgmigogpdcaaGreatDoorShelf
import Derived.Lib.SlKeysI
namespace Go.Eng
set_option linter.unusedVariables false
end Go.Eng
namespace Go.Proofs.YtdapgmigogpdcaaGreatDoor.Sr
open Go Go.Eng Go.RowKit Go.Sort
def srtS (l:List Int):List Int:=l.mergeSort fun x y=>decide (x≤y)
def srtP (l:List Int):Prop:=l.length≤1000000000000
theorem repL_int {g:Ghost}:∀ l:List Int,RepL g (.int .i64) (l.map (Value.int .i64)) l
 | []=>rfl
 | x::l=>⟨[.int .i64 x],l.map (Value.int .i64),rfl,rfl,repL_int l⟩
theorem srt_c {g:Ghost} {a:Option Addr} {c:Nat} {xs:List Value} (l:List Int) (hL:RepL g (.int .i64) xs l) (hp:srtP l):CallsH Tryz.prog 74 #[.slice a l.length c] g [.own (.slice a l.length c) 3 1 l.length xs]
  (fun g' H' v=>∃ (fxs:List Value),v=.tuple #[]∧RepL g' (.int .i64) fxs (srtS l)∧H'=[.own (.slice a (srtS l).length c) 3 1 (srtS l).length fxs]∧(srtS l).length=l.length):=by
 intro W hW
 unfold srtP at hp
 have hx:=repL_ints hL
 subst hx
 have hlen:(srtS l).length=l.length:=by unfold srtS; simp
 have hok:W.ownsRow 0 3 1 (.slice a l.length c) l.length (l.map (Value.int .i64)):=hW.ents _ (List.mem_singleton.2 rfl)
 rcases hok.2 with ⟨hv,hn⟩ | ⟨q,cap,cur,hv,hb,hh,h1,h2,h3,h4⟩
 ·obtain rfl:l=[]:=List.eq_nil_of_length_eq_zero hn
  refine (Tryz.slices_Sort_int_none a c W).mono fun e W' ⟨he,hw⟩=>?_
  subst hw
  have e0:srtS []=[]:=by unfold srtS; simp
  refine ⟨_,g,_,he,⟨[],rfl,?_,rfl,?_⟩,Gext.r _ _,?_⟩
  ·rw [e0]; rfl
  ·rw [e0]
  rw [e0]; exact hW
 obtain ⟨rfl,rfl⟩:a=some ⟨q,0,none⟩∧c=cap:=by cases hv; exact ⟨rfl,rfl⟩
 have hH:=holds_of_block_i hh (by rw [Nat.mul_one] at h4; exact h4)
 refine (Tryz.slices_Sort_int q 0 c l W hH (lt_of_some hh) (by omega)).mono fun e W' ⟨he,n,os,hw⟩=>?_
 subst hw
 have ho:=ownsRow_sorted_i (w:=W) (base:=0) (n:=n) (os:=os) hlen (Nat.zero_le _) hh h1 h2 h3
 refine ⟨_,g,_,he,⟨(srtS l).map (Value.int .i64),rfl,repL_int _,rfl,hlen⟩,Gext.r _ _,?_⟩
 have:=hW.grown (i:=0) rfl (grownBy_sorted_i (n:=n) (os:=os) (srtS l).toArray) (e':=.own (.slice (some ⟨q,0,none⟩) l.length c) 3 1 l.length ((srtS l).map (Value.int .i64))) ho (.inl rfl)
 rw [hlen]; exact this
end Go.Proofs.YtdapgmigogpdcaaGreatDoor.Sr
