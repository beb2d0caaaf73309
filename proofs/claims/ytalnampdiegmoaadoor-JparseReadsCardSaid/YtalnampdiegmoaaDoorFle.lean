/- strings.Fields at plain text: a row of words that stays. -/
import Derived.Test.YtalnampdiegmoaaDoorMor
import Derived.Test.YtalnampdiegmoaaDoorLaid
import Derived.Test.YtalnampdiegmoaaDoorShelf
namespace Go.Eng
open Go.RowKit
set_option linter.unusedVariables false
variable {w0:Base} {H:List Ent} {g:Ghost}
theorem StW.freezeOwn {W:World} {E:TypeId} {e:Ty} {a:Option Addr} {l:List e.den} {c:Nat} {xs:List Value} {H':List Ent} (hW:StW w0 H g W) (i:Nat) (hi:H[i]? = some (.own (.slice a l.length c) E e.size l.length xs)) (hR:RepL g e xs l) (hH:H.eraseIdx i=H') :
  ∃ g',Gext w0 g g'∧Rep g' (.slice e) [.slice a l.length c] l∧StW w0 H' g' W:=by
 have hmem:=List.mem_of_getElem? hi
 have hok:W.ownsRow 0 E e.size (.slice a l.length c) l.length xs:=hW.ents _ hmem
 obtain ⟨g',h1,h2,h3,h4⟩:=own_core hok hR hW.ghost fun b hb=>hW.apart _ hmem b hb
 have hd:=hW.drop i hH
 have hnot:∀ x ∈ H',∀ b,x.block=some b→(Value.slice a l.length c).ownBlock≠some b:=fun x hx b hb hc=>by
  subst hH
  obtain ⟨j,hj⟩:=List.mem_iff_getElem?.1 hx
  rw [List.getElem?_eraseIdx] at hj
  split at hj
  ·rename_i hlt
   exact nodup_filterMap_clash hW.nodup hj hi (by omega) hb hc
  rename_i hlt
  exact nodup_filterMap_clash hW.nodup hj hi (by omega) hb hc
 refine ⟨g',⟨h1,fun b o hb=>(h4 b o hb).imp id fun hc=>hW.mine _ hmem b hc⟩,h3,⟨hd.ents,hd.nodup,h2,fun x hx b hb=>?_,hd.mine,hd.below⟩⟩
 cases hc:g' b with
 | none=>rfl
 | some o =>
  rcases h4 b o hc with h5 | h5
  ·rw [hd.apart x hx b hb] at h5; cases h5
  exact absurd h5 (hnot x hx b hb)
theorem repL_words {g:Ghost}:∀ l:List (List UInt8),RepL g .str (l.map fun x=>Value.string ⟨⟨x⟩⟩) l
 | []=>rfl
 | x::l=>⟨[.string ⟨⟨x⟩⟩],l.map fun x=>Value.string ⟨⟨x⟩⟩,rfl,rfl,repL_words l⟩
end Go.Eng
namespace Go.Proofs.YtalnampdiegmoaaDoor.Fl
open Go Go.Eng Go.RowKit
def DSpace:List (Int):=[0,0,0,0,0,0,0,0,0,1,1,1,1,1,0,0,0,0,0,0,0,0,0,0,0,0,0,0,0,0,0,0,1,0,0,0,0,0,0,0,0,0,0,0,0,0,0,0,0,0,0,0,0,0,0,0,0,0,0,0,0,0,0,0,0,0,0,0,0,0,0,0,0,0,0,0,0,0,0,0,0,0,0,0,0,0,0,0,0,0,0,0,0,0,0,0,0,0,0,0,0,0,0,0,0,0,0,0,0,0,0,0,0,0,0,0,0,0,0,0,0,0,0,0,0,0,0,0,0,0,0,0,0,0,0,0,0,0,0,0,0,0,0,0,0,0,0,0,0,0,0,0,0,0,0,0,0,0,0,0,0,0,0,0,0,0,0,0,0,0,0,0,0,0,0,0,0,0,0,0,0,0,0,0,0,0,0,0,0,0,0,0,0,0,0,0,0,0,0,0,0,0,0,0,0,0,0,0,0,0,0,0,0,0,0,0,0,0,0,0,0,0,0,0,0,0,0,0,0,0,0,0,0,0,0,0,0,0,0,0,0,0,0,0,0,0,0,0,0,0,0,0,0,0,0,0]
def fieldsS (s:List UInt8):List (List UInt8):=Lib.fields s
def fieldsP (s:List UInt8):Prop:=s.length≤1000000∧(s.all fun x=>decide (x.toNat<128))=true
theorem cntF_le:∀ (b:Bool) (l:List UInt8),Lib.cntF b l≤l.length
 | _,[]=>Nat.le_refl _
 | b,x::l=>by
  have:=cntF_le (Lib.isSp x) l
  rw [Lib.cntF_step,List.length_cons]
  split <;> omega
theorem fields_c {g:Ghost} (s:List UInt8) (hG:GlobL g 0 (.int .u8) DSpace) (hp:fieldsP s):CallsH Tryd.prog 62 #[.string ⟨⟨s⟩⟩] g []
  (fun g' H' v=>∃ (a:Option Addr) (c:Nat),v=.slice a (fieldsS s).length c∧Rep g' (.slice .str) [.slice a (fieldsS s).length c] (fieldsS s)∧H'=[]):=fun W hW=>by
 obtain ⟨xs, h1, h2⟩ := hG.var (P := Tryd.prog) hW.ghost (name := "strings.asciiSpace") (by kernel_rfl)
 have htab : Lib.TabIs Tryd.prog W "strings.asciiSpace" .u8 Lib.asciiSpaceTab := by
  unfold Lib.TabIs
  rw [h1,repL_ints h2,show DSpace=Lib.asciiSpaceTab by decide +kernel]
 have hsz:(⟨⟨s⟩⟩:ByteArray).size=s.length:=rfl
 have hl:(Lib.fields s).length≤s.length:=by
  rw [Lib.fields_length]; exact cntF_le _ _
 refine (Tryd.strings_Fields ⟨⟨s⟩⟩ W (by rw [hsz]; have:=hp.1; omega) (fun j b hb=>of_decide_eq_true (List.all_eq_true.1 hp.2 b (List.mem_of_getElem? hb))) htab).mono fun e W' ⟨he,hw⟩=>?_
 subst hw
 have h3:=hW.pushOwn ((Lib.fields s).map fun l=>Value.string ⟨l.toArray⟩).toArray 9 (size:=1) (len:=(Lib.fields s).length) (by have:=hp.1; unfold maxLen; omega) (by simp)
 obtain ⟨g',hg,hr,h4⟩:=h3.freezeOwn (e:=.str) (l:=Lib.fields s) (H':=[]) 0 rfl (repL_words _) rfl
 exact ⟨_,g',[],he,⟨_,_,rfl,hr,rfl⟩,hg,h4⟩
end Go.Proofs.YtalnampdiegmoaaDoor.Fl
