/- strings.Split, strings.Contains, strings.Index, as the walks use them. -/
import Derived.Test.YtdjcgbejnpbjlaaGreatDoorLaid
import Derived.Test.YtdjcgbejnpbjlaaGreatDoorShelf
import Derived.Lib.SplitLaws
namespace Go.Eng
open Go.RowKit
variable {w0 : Base} {H : List Ent} {g : Ghost}
theorem StW.freezeOwn {W : World} {E : TypeId} {e : Ty} {a : Option Addr} {l : List e.den} {c : Nat} {xs : List Value} {H' : List Ent} (hW : StW w0 H g W) (i : Nat) (hi : H[i]? = some (.own (.slice a l.length c) E e.size l.length xs)) (hR : RepL g e xs l) (hH : H.eraseIdx i = H') :
  ∃ g', Gext w0 g g' ∧ Rep g' (.slice e) [.slice a l.length c] l ∧ StW w0 H' g' W := by
 have hmem := List.mem_of_getElem? hi
 have hok : W.ownsRow 0 E e.size (.slice a l.length c) l.length xs := hW.ents _ hmem
 obtain ⟨g', h1, h2, h3, h4⟩ := own_core hok hR hW.ghost fun b hb => hW.apart _ hmem b hb
 have hd := hW.drop i hH
 have hnot : ∀ x ∈ H', ∀ b, x.block = some b → (Value.slice a l.length c).ownBlock ≠ some b := fun x hx b hb hc => by
  subst hH
  obtain ⟨j, hj⟩ := List.mem_iff_getElem?.1 hx
  rw [List.getElem?_eraseIdx] at hj
  split at hj
  ·rename_i hlt
   exact nodup_filterMap_clash hW.nodup hj hi (by omega) hb hc
  ·rename_i hlt
   exact nodup_filterMap_clash hW.nodup hj hi (by omega) hb hc
 refine ⟨g', ⟨h1, fun b o hb => (h4 b o hb).imp id fun hc => hW.mine _ hmem b hc⟩, h3, ⟨hd.ents, hd.nodup, h2, fun x hx b hb => ?_, hd.mine, hd.below⟩⟩
 cases hc : g' b with
 | none => rfl
 | some o =>
  rcases h4 b o hc with h5 | h5
  ·rw [hd.apart x hx b hb] at h5; cases h5
  ·exact absurd h5 (hnot x hx b hb)
theorem repL_words {g : Ghost} : ∀ l : List (List UInt8), RepL g .str (l.map fun x => Value.string ⟨⟨x⟩⟩) l
 | [] => rfl
 | x :: l => ⟨[.string ⟨⟨x⟩⟩], l.map fun x => Value.string ⟨⟨x⟩⟩, rfl, rfl, repL_words l⟩
end Go.Eng
namespace Go.Proofs.YtdjcgbejnpbjlaaGreatDoor.Sp
open Go Go.Eng Go.RowKit
set_option linter.unusedVariables false
def idxS (s sub : List UInt8) : Int := Lib.index s sub
def idxP (s _ : List UInt8) : Prop := s.length < 4294967281
theorem idx_c {g : Ghost} (s sub : List UInt8) (hG : SomeInt g 0) (hp : idxP s sub) : CallsG Tryz.prog 46 #[.string ⟨⟨s⟩⟩, .string ⟨⟨sub⟩⟩] g (.int .i64 (idxS s sub)) := fun W hW => by
 obtain ⟨cs, T, fz, m, h1, h2⟩ := hG
 refine (Tryz.strings_Index ⟨⟨s⟩⟩ ⟨⟨sub⟩⟩ m W hp (by rw [Lib.cell_of_heap (hW _ _ h1)]; exact h2)).mono fun e W' ⟨he, hw⟩ => ⟨he, by subst hw; exact Below.refl _ _⟩
def scontS (s sub : List UInt8) : Bool := Lib.contains s sub
def scontP (s _ : List UInt8) : Prop := s.length < 4294967281
theorem scont_c {g : Ghost} (s sub : List UInt8) (hG : SomeInt g 0) (hp : scontP s sub) : CallsG Tryz.prog 48 #[.string ⟨⟨s⟩⟩, .string ⟨⟨sub⟩⟩] g (.bool (scontS s sub)) := fun W hW => by
 obtain ⟨cs, T, fz, m, h1, h2⟩ := hG
 refine (Tryz.strings_Contains ⟨⟨s⟩⟩ ⟨⟨sub⟩⟩ m W hp (by rw [Lib.cell_of_heap (hW _ _ h1)]; exact h2)).mono fun e W' ⟨he, hw⟩ => ⟨he, by subst hw; exact Below.refl _ _⟩
def splB (s sep : List UInt8) : List ByteArray := Lib.splitB ⟨⟨sep⟩⟩ 0 (Lib.countB ⟨⟨s⟩⟩ ⟨⟨sep⟩⟩) ⟨⟨s⟩⟩
def splS (s sep : List UInt8) : List (List UInt8) := (splB s sep).map fun x => x.data.toList
def splP (s sep : List UInt8) : Prop := s.length ≤ 1000000 ∧ 1 ≤ sep.length
theorem spl_len {s sep : List UInt8} (h : splP s sep) : (splB s sep).length = Lib.countB ⟨⟨s⟩⟩ ⟨⟨sep⟩⟩ + 1 ∧ Lib.countB ⟨⟨s⟩⟩ ⟨⟨sep⟩⟩ ≤ 1000000 :=
 ⟨Lib.splitB_all ⟨⟨sep⟩⟩ h.2 0 _ ⟨⟨s⟩⟩ rfl, Nat.le_trans (Lib.countB_le ⟨⟨sep⟩⟩ h.2 _ ⟨⟨s⟩⟩ (Nat.le_refl _)) h.1⟩
theorem spl_c {g : Ghost} (s sep : List UInt8) (hG : SomeInt g 0) (hp : splP s sep) : CallsH Tryz.prog 50 #[.string ⟨⟨s⟩⟩, .string ⟨⟨sep⟩⟩] g []
  (fun g' H' v => ∃ (a : Option Addr) (c : Nat), v = .slice a (splS s sep).length c ∧ Rep g' (.slice .str) [.slice a (splS s sep).length c] (splS s sep) ∧ H' = []) := fun W hW => by
 obtain ⟨cs, T, fz, m, h1, h2⟩ := hG
 obtain ⟨p3, p4⟩ := spl_len hp
 obtain ⟨p1, p2⟩ := hp
 have hsz : (⟨⟨s⟩⟩ : ByteArray).size = s.length := rfl
 have hm := h1
 refine (Tryz.strings_Split ⟨⟨s⟩⟩ ⟨⟨sep⟩⟩ m W (by rw [hsz]; omega) (by rw [Lib.cell_of_heap (hW.ghost _ _ h1)]; exact h2) p2).mono fun e W' ⟨he, hw⟩ => ?_
 subst hw
 have hl : (splS s sep).length = Lib.countB ⟨⟨s⟩⟩ ⟨⟨sep⟩⟩ + 1 := by unfold splS; rw [List.length_map, p3]
 have hv : (splB s sep).map Value.string = (splS s sep).map fun x => Value.string ⟨⟨x⟩⟩ := by
  unfold splS; rw [List.map_map]; rfl
 have h3 := hW.pushOwn ((splB s sep).map Value.string).toArray 9 (size := 1) (len := (splS s sep).length) (by rw [hl]; unfold maxLen; omega) (by unfold splS; simp)
 rw [hv] at h3
 obtain ⟨g', hg, hr, h4⟩ := h3.freezeOwn (e := .str) (l := splS s sep) (H' := []) 0 rfl (repL_words _) rfl
 refine ⟨_, g', [], he, ⟨_, (splS s sep).length, ?_, hr, rfl⟩, hg, ?_⟩
 ·rw [hl]
 ·show StW _ [] g' (W.alloc (.cells ((splB s sep).map Value.string).toArray _))
  rw [hv]; exact h4
end Go.Proofs.YtdjcgbejnpbjlaaGreatDoor.Sp
