/- slices.Sort of ints. -/
import Derived.Test.YtdapgmigogpdcaaGreatDoorByt
import Derived.Test.YtdapgmigogpdcaaGreatDoorSha
import Derived.Lib.SlKeysI
namespace Go.iT
set_option linter.unusedVariables false
end Go.iT
namespace Go.Proofs.YtdapgmigogpdcaaGreatDoor.Sr
open Go Go.iT Go.RowKit Go.Sort
def nT (l:List Int):List Int:=l.mergeSort fun x y=>decide (x≤y)
def aaE (l:List Int):Prop:=l.length≤1000000000000
theorem CF {g:ak}:∀ l:List Int,aW g (.int .i64) (l.map (Value.int .i64)) l
 | []=>rfl
 | x::l=>⟨[.int .i64 x],l.map (Value.int .i64),rfl,rfl,CF l⟩
theorem ag4 {g:ak} {a:Option Addr} {c:Nat} {xs:List Value} (l:List Int) (hL:aW g (.int .i64) xs l) (hp:aaE l):az Tryz.prog 74 #[.slice a l.length c] g [.own (.slice a l.length c) 3 1 l.length xs]
  (fun g' H' v=>∃ (Yb:List Value),v=.tuple #[]∧aW g' (.int .i64) Yb (nT l)∧H'=[.own (.slice a (nT l).length c) 3 1 (nT l).length Yb]∧(nT l).length=l.length):=by
 intro W hW;unfold aaE at hp;have hx:=kS hL;subst hx
 have hlen:(nT l).length=l.length:=by unfold nT; simp
 have hok:W.ownsRow 0 3 1 (.slice a l.length c) l.length (l.map (Value.int .i64)):=hW.f_ _ (il.2 rfl)
 rcases hok.2 with ⟨hv,hn⟩ | ⟨q,cap,cur,hv,hb,hh,h1,h2,h3,h4⟩
 ·obtain rfl:l=[]:=iO hn;refine (Tryz.slices_Sort_int_none a c W).mono fun e W' ⟨he,hw⟩=>?_;subst hw
  have e0:nT []=[]:=by unfold nT; simp
  refine ⟨_,g,_,he,⟨[],rfl,?_,rfl,?_⟩,bu _ _,?_⟩
  ·rw [e0]; rfl
  ·rw [e0]
  rw [e0]; exact hW
 obtain ⟨rfl,rfl⟩:a=some ⟨q,0,none⟩∧c=cap:=by cases hv; exact ⟨rfl,rfl⟩
 have hH:=holds_of_block_i hh (by rw [Nat.mul_one] at h4; exact h4);refine (Tryz.slices_Sort_int q 0 c l W hH (lt_of_some hh) (om)).mono fun e W' ⟨he,n,os,hw⟩=>?_;subst hw;have ho:=ownsRow_sorted_i (w:=W) (base:=0) (n:=n) (os:=os) hlen (ik _) hh h1 h2 h3;refine ⟨_,g,_,he,⟨(nT l).map (Value.int .i64),rfl,CF _,rfl,hlen⟩,bu _ _,?_⟩;have:=hW.grown (i:=0) rfl (grownBy_sorted_i (n:=n) (os:=os) (nT l).toArray) (e':=.own (.slice (some ⟨q,0,none⟩) l.length c) 3 1 l.length ((nT l).map (Value.int .i64))) ho (.inl rfl);rw [hlen]; exact this
end Go.Proofs.YtdapgmigogpdcaaGreatDoor.Sr
