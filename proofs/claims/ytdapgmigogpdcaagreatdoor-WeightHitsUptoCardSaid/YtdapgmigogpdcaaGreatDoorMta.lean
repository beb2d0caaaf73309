/- Queries as texts: Itoa, Replace, Join, digits. -/
import Derived.Test.YtdapgmigogpdcaaGreatDoorLaid
import Derived.Test.YtdapgmigogpdcaaGreatDoorExi
import Derived.Test.YtdapgmigogpdcaaGreatDoorSha
import Derived.Test.YtdapgmigogpdcaaGreatDoorCsu
import Derived.Lib.Join
set_option linter.unusedSimpArgs false
set_option linter.unusedVariables false
namespace Go.Proofs.YtdapgmigogpdcaaGreatDoor.Me
open _root_.Go.Proofs.Tryz Go Go.iT Go.RowKit Go.Shelf Go.Proofs
def QU (x:Int):Prop:=-9223372036854775808≤x∧x≤9223372036854775807
def yZ:List Int:=[1,10,100,1000,10000,100000,1000000,10000000,100000000,1000000000,10000000000,100000000000,1000000000000,10000000000000,100000000000000,1000000000000000,10000000000000000,100000000000000000,1000000000000000000,10000000000000000000]
theorem Ib {g:ak} (x:Int) (hG:mg g 3 (.int .u64) yZ) (hp:QU x):bC prog 127 #[iv x] g (sv (Lib.itoa x)):=fun W hW=>by
 obtain ⟨xs, h1, h2⟩ := hG.var (P := prog) hW (name := "internal/strconv.uint64pow10") kr
 have htab : Lib.TabIs prog W "internal/strconv.uint64pow10" .u64 Lib.pow10Tab := by
  unfold Lib.TabIs;rw [h1,kS h2,show yZ=Lib.pow10Tab by decide]
 exact (Tryz.strconv_Itoa x hp.1 hp.2 W htab).mono fun e W' ⟨he,k,os,hw⟩=>⟨he,by subst hw; exact ⟨rfl,rfl,rfl,by simp [Sort.grow],fun i hi=>by
  show ((W.drewN k).heap++os)[i]? = _
  rw [Array.getElem?_append_left (show i<(W.drewN k).heap.size from hi)]; rfl⟩⟩
def KN (l:List Bs) (sep:Bs):Bs:=Lib.join l sep
def ZK (l:List Bs) (sep:Bs):Prop:=l.length≤140737488355328∧(Lib.join l sep).length≤140737488355328
theorem ab1 {g:ak} {a:Option Addr} {c:Nat} (l:List Bs) (sep:Bs) (hR:bE g (.slice (.str)) [.slice a l.length c] l) (hp:ZK l sep):bC prog 51 #[.slice a l.length c,sv sep] g (sv (KN l sep)):=fun W hW=>by
 obtain ⟨a',c',hcs,⟨hlc,hcm⟩,hel⟩:=hR;simp only [uW,Value.slice.injEq,nA] at hcs;obtain ⟨rfl,-,rfl⟩:=hcs;obtain ⟨h1,h2⟩:=hp
 cases l with
 | nil=>exact (Tryz.strings_Join_none a c ⟨⟨sep⟩⟩ W).mono fun e W' ⟨he,hw⟩=>⟨he,by subst hw; exact Below.refl _ _⟩
 | cons x r =>
  obtain ⟨b,off,rfl,-⟩:=hel 0 x rfl
  have hcell:∀ (j:Nat) s,(x::r)[j]? = some s→W.cell? ⟨b,off+j,none⟩=some (sv s):=fun j s hj=>by
   obtain ⟨b',off',hb,jC,hl,hat,hr⟩:=hel j s hj;simp only [jB,Addr.mk.injEq,nA] at hb;obtain ⟨rfl,rfl⟩:=hb;have hr:jC=[sv s]:=hr;subst hr;have:=l5 hW (hat 0 _ rfl);rw [show off+j * Ty.str.size+0=off+j by show off+j * 1+0=_; omega] at this;exact this
  have hb:b<W.heap.size:=by
   have:=hcell 0 x rfl;unfold World.cell? at this;apply oh;intro hn;rw [show W.heap[(⟨b,off+0,none⟩:Addr).block]? = none from Array.getElem?_eq_none (Nat.le_of_not_lt hn)] at this;cases this
  have e1:((x::r).map fun s=>(⟨⟨s⟩⟩:ByteArray)).map (·.data.toList)=x::r:=by rw [List.map_map]; exact List.map_id _
  have:=Tryz.strings_Join b off c ((x::r).map fun s=>(⟨⟨s⟩⟩:ByteArray)) ⟨⟨sep⟩⟩ W (fun j y hy=>by
   rw [iZ,gP] at hy;obtain ⟨s,hs,rfl⟩:=hy
   exact hcell j s hs) hb (by rw [iY]; exact h1) (by rw [iY]; exact hlc) (by rw [e1]; exact h2)
  rw [e1,iY] at this;exact this
theorem PU:∀ (N u:Nat),u≤N→(Lib.decDigits u).length≤u+1:=by
 intro N
 induction N with
 | zero=>intro u h; rw [Lib.decDigits,dif_pos om]; simp
 | succ N ih =>
  intro u h;rw [Lib.decDigits]
  split
  ·simp
  have:=ih (u / 10) om;simp; omega
theorem MN (n:Int):(Lib.itoa n).length≤n.natAbs+2:=by
 unfold Lib.itoa
 split
 ·have:=PU n.natAbs n.natAbs (fP _);simp only [di]; omega
 have:=PU n.toNat n.toNat (fP _);omega
end Go.Proofs.YtdapgmigogpdcaaGreatDoor.Me
