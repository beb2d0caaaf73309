/- slices.Values of ints gives its slice. -/
import Derived.Test.YtbifbljdmndjbaaItr
namespace Go.Proofs.Ytbifbljdmndjbaa.It
open Go Go.RowKit Go.Maps Go.Sort Go.Shelf
set_option linter.unusedVariables false
set_option maxRecDepth 100000 in
set_option maxHeartbeats 2000000 in
theorem vals1_in (F : Fence) (n : Nat) (hf : F.fn 66) (hro : F.round = none) (hn : 1 ≤ n) (b c : Nat) (a : Option Addr) (xs : List Int) (w : World) (hbw : b < w.heap.size) (hb : w.cell? ⟨b, 0, none⟩ = some (.slice a xs.length c)) (hbig : xs.length ≤ maxLen)
    (hc : ∀ j, j < xs.length → ∃ blk off, a = some ⟨blk, off, none⟩ ∧ ∀ W, Below w.heap.size w W → W.cell? ⟨blk, off + j, none⟩ = some (.int .i64 (xs.getD j 0))) : SeqB F n Try.prog 66 #[.pointer (some ⟨b, 0, none⟩)] xs w := by
  intro l J W hW hJ hB hY h0
  have hbox : W.cell? ⟨b, 0, none⟩ = some (.slice a xs.length c) := by
    rw [← hb]; unfold World.cell?; rw [hW.block b hbw]
  have hmx : xs.length ≤ 9223372036854775807 := by unfold maxLen at hbig; omega
  refine callsIn_of_wp Try.func66 rfl hf ?_ hro
  simp only [Try.ntmps66, List.size_toArray, List.length_cons, List.length_nil, Nat.reduceAdd, Nat.reduceSub, Array.replicate_succ, Array.replicate_zero, List.push_toArray, List.append_toArray, List.nil_append, List.cons_append]
  gi_wp2
  gi_loopw [4, 7] (fun _ i wr => ∃ k : Nat, k ≤ xs.length ∧ i = .int .i64 k ∧ J (xs.take k) wr) (fun _ i _ => match i with | .int _ m => xs.length - m.toNat | _ => 0)
  case atStart => exact ⟨0, Nat.zero_le _, rfl, h0⟩
  case round =>
    obtain ⟨k, hk, rfl, hJk⟩ := hrel
    by_cases hlt : k < xs.length
    · obtain ⟨blk, off, rfl, hcW⟩ := hc k hlt
      have hcell : wr.cell? ⟨blk, off + k, none⟩ = some (.int .i64 (xs[k]'hlt)) := by
        have := hcW wr (hB _ _ hJk)
        rw [List.getD_eq_getElem?_getD, List.getElem?_eq_getElem hlt] at this; exact this
      obtain ⟨fn, tmps, assign, body, hy, hR⟩ := hY (xs.take k) (xs[k]'hlt) wr hJk (by rw [List.length_take]; omega)
      dsimp only [encZ] at hy
      gi_wp2
      refine hR.mono ?_
      rintro e W3 ⟨rfl, hJ3, hk3⟩
      gi_wp2
      go_roundw
      case rel =>
        refine ⟨k + 1, by omega, rfl, ?_⟩
        rw [List.take_add_one, List.getElem?_eq_getElem hlt]; exact hJ3
      case measure =>
        show xs.length - ((k : Int) + 1).toNat < xs.length - (k : Int).toNat
        omega
    · gi_wp2
      go_end0
      have : k = xs.length := by omega
      subst this
      rw [List.take_length] at hJk
      exact ⟨⟨_, rfl⟩, hJk⟩
end Go.Proofs.Ytbifbljdmndjbaa.It
