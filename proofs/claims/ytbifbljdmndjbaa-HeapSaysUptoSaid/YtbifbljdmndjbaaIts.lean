/- slices.Sorted of slices.Values of ints. -/
import Derived.Test.YtbifbljdmndjbaaItv
namespace Go.Eng
open Go.RowKit
theorem StW.pushNew {w0 : Base} {H : List Ent} {g : Ghost} {W W' : World} {v : Value} {E : TypeId} {size n : Nat} {xs : List Value} (h : StW w0 H g W) (hb : Below W.heap.size W W') (hok : W'.ownsRow W.heap.size E size v n xs) : StW w0 (.own v E size n xs :: H) g W' := by
  have h' := h.of_below hb
  have hge : ∀ q, v.ownBlock = some q → W.heap.size ≤ q := fun q hq => (hok.lt q hq).1
  refine ⟨fun e he => ?_, ?_, h'.ghost, fun e he q hq => ?_, fun e he q hq => ?_, h'.below⟩
  · rcases List.mem_cons.1 he with rfl | he
    · exact Go.Proofs.ownsRow_base_a hok (Nat.zero_le _)
    · exact h'.ents e he
  · rw [List.filterMap_cons]
    split
    · exact h'.nodup
    · rename_i q hq
      refine List.nodup_cons.2 ⟨fun hm => ?_, h'.nodup⟩
      obtain ⟨e, he, heq⟩ := List.mem_filterMap.1 hm
      have h1 := Ent.ok_lt (h.ents e he) heq
      have h2 := hge q hq
      omega
  · rcases List.mem_cons.1 he with rfl | he
    · cases hc : g q with
      | none => rfl
      | some o =>
        have h1 := lt_of_some (h.ghost q o hc)
        have h2 := hge q hq
        omega
    · exact h'.apart e he q hq
  · rcases List.mem_cons.1 he with rfl | he
    · have h2 := hge q hq
      have h3 := h.below.size
      left; omega
    · exact h'.mine e he q hq
end Go.Eng
namespace Go.Proofs.Ytbifbljdmndjbaa.It
open Go Go.RowKit Go.Maps Go.Sort Go.Shelf
theorem sorts_wide (m : Nat) : AnyZI.SortsIn Try.prog Try.itSorted_ren Fence.wide m :=
  ⟨fun blk off cap ss W hH hblk hsz => callsIn_wide.2 (Try.slices_Sort_int blk off cap ss W hH hblk hsz),
   fun p cap W => callsIn_wide.2 (Try.slices_Sort_int_none p cap W)⟩
def svP (xs : List Int) : Prop := xs.length ≤ 1000000
open Go.Eng in
theorem sv_c {g : Ghost} {b : Nat} {a : Option Addr} {c : Nat} (xs : List Int) (hR : Rep g (.slice (.int .i64)) [.slice a xs.length c] xs) (hp : svP xs) :
    CallsH Try.prog 31 #[.func (.func 66) #[] #[.pointer (some ⟨b, 0, none⟩)]] g [.blk b (.cells #[.slice a xs.length c] 61)]
      (fun g' H' v => ∃ (a' : Option Addr) (c' : Nat) (fxs : List Value), v = .slice a' (Sr.srtS xs).length c' ∧ RepL g' (.int .i64) fxs (Sr.srtS xs) ∧ H' = [.own (.slice a' (Sr.srtS xs).length c') 3 1 (Sr.srtS xs).length fxs]) := by
  intro W hW
  unfold svP at hp
  have hlen : (Sr.srtS xs).length = xs.length := by unfold Sr.srtS; simp
  have hbW : W.heap[b]? = some (.cells #[.slice a xs.length c] 61) := hW.ents _ (List.mem_singleton.2 rfl)
  have hseq : SeqB Fence.wide (4 - 1 - 1 - 1) Try.prog 66 #[.pointer (some ⟨b, 0, none⟩)] xs W := by
    refine vals1_in Fence.wide _ trivial rfl (by omega) b c a xs W (lt_of_some hbW) (by simp [World.cell?, hbW]) (by unfold maxLen; omega) fun j hj => ?_
    obtain ⟨a0, c0, h1, h2, h3⟩ := hR
    obtain ⟨rfl, -⟩ : a = a0 ∧ c = c0 := by simpa using h1
    obtain ⟨q, off, ha, ecs, hel, hat, he⟩ := h3 j (xs.getD j 0) (by rw [List.getD_eq_getElem?_getD, List.getElem?_eq_getElem hj]; rfl)
    have he : ecs = [.int .i64 (xs.getD j 0)] := he
    subst he
    refine ⟨q, off, ha, fun W' hW' => ?_⟩
    have hg' : Gh g W' := hW.ghost.of_same hW'
    have := gcell_cell hg' (hat 0 _ rfl)
    simpa [Ty.size] using this
  refine (callsIn_wide.1 (sorted_in Try.itSorted Fence.wide 4 trivial trivial trivial trivial rfl (Nat.le_refl _) (sorts_wide _) (enters_of Try.func59 (by kernel_rfl) rfl) 66 _ trivial (enters_of Try.func66 (by kernel_rfl) rfl) xs (by unfold maxLen; omega) (by omega) W hseq)).mono fun e W' ⟨v, he, hrow, hnil, hb⟩ => ?_
  subst he
  obtain ⟨a', c', rfl⟩ : ∃ a' c', v = .slice a' xs.length c' := by
    rcases hrow.2 with ⟨rfl, h0⟩ | ⟨q, cap, cur, rfl, _⟩
    · exact ⟨none, 0, by rw [h0]⟩
    · exact ⟨_, _, rfl⟩
  refine ⟨_, g, _, rfl, ⟨a', c', (Sr.srtS xs).map (Value.int .i64), by rw [hlen], Sr.repL_int _, rfl⟩, Gext.refl _ _, ?_⟩
  have := hW.pushNew hb hrow
  rw [hlen]; exact this.sub (List.Sublist.cons_cons _ (List.nil_sublist _))
end Go.Proofs.Ytbifbljdmndjbaa.It
