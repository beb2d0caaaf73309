/- Labelled trees as arguments of a bounded bulk. No program in sight. -/
import Derived.Test.YtcnhdkhkadiohaaGreatDoorTst
import Derived.Test.YtcnhdkhkadiohaaGreatDoorUp
namespace Go.Eng
open Go.RowKit
open Go.ChangeShapes Go.WideShapes Go.ChangeAt
open Go.Proofs.YtcnhdkhkadiohaaGreatDoor
set_option linter.unusedVariables false
set_option linter.unusedSimpArgs false
section
variable {P : Program} {H : Type} {enc : TypeId × Value → H}
theorem bulk_unsn : ∀ (m : Nat) (a k : Ty) (x : (snocN m a k).den), bulkT (snocN m a k) x = bulkT (.pair a k) (unsn m a k x)
 | 0, _, _, _ => rfl
 | m + 1, .pair a b, k, x => by
  have := bulk_unsn m b k x.2
  show bulkT a x.1 + bulkT (snocN m b k) x.2 = (bulkT a x.1 + bulkT b _) + bulkT k _
  rw [this]
  show _ + (_ + _) = _
  rw [Nat.add_assoc]; rfl
 | _ + 1, .int _, _, _ => rfl
 | _ + 1, .bool, _, _ => rfl
 | _ + 1, .str, _, _ => rfl
 | _ + 1, .slice _, _, _ => rfl
 | _ + 1, .unit, _, _ => rfl
 | _ + 1, .tst _, _, _ => rfl
theorem bulk_of_fromT : ∀ (k : Nat) (e : Ty) (t : TypeId) (d : DataW H) (x : e.den), fromT P k e t d = some x → bulkT e x ≤ Rows.uptoBulk d
 | 0, _, _, _, _, h => by cases h
 | k + 1, e, t, d, x, h => by
  unfold fromT at h
  split at h
  ·cases e <;> simp at h; simp [bulkT, Rows.uptoBulk]
  ·cases e <;> simp at h; simp [bulkT, Rows.uptoBulk]
  ·cases e <;> simp at h
   subst h; simp [bulkT, Rows.uptoBulk]
  ·cases e <;> simp at h
   subst h; simp [bulkT, Rows.uptoBulk]
  ·cases e with
   | slice e' =>
    simp only at h
    have := bulk_mapM (fun d x => bulk_of_fromT k e' _ d x) h
    simp only [bulkT, Rows.uptoBulk]; omega
   | _ => simp at h
  ·split at h
   ·obtain ⟨y, hy, rfl⟩ := Option.map_eq_some_iff.1 h
    have := bulk_fs (fun e t d x => bulk_of_fromT k e t d x) hy
    rename_i a
    rw [bulk_unsn] at this
    generalize unsn _ a (.slice (.pair (.slice (.slice (.tst a))) (.slice (.int .u8)))) y = z at this
    have e1 : bulkT (.tst a) (.mk z.1 z.2) = bulkT (.pair a (.slice (.pair (.slice (.slice (.tst a))) (.slice (.int .u8))))) z := by
     show Tst.sum (bulkT a) _ = bulkT a z.1 + ((z.2.map (bulkT (.pair (.slice (.slice (.tst a))) (.slice (.int .u8))))).sum + 1)
     rw [Tst.sum, Tst.sum3_eq]; rfl
    rw [e1]
    simp only [Rows.uptoBulk]; omega
   ·have := bulk_fs (fun e t d x => bulk_of_fromT k e t d x) h
    simp only [Rows.uptoBulk]; omega
  ·have := bulk_fs (fun e t d x => bulk_of_fromT k e t d x) h
   simp only [Rows.uptoBulk]; omega
  ·cases h
theorem rep_of_TrodTU {W : World} {t : TypeId} {v : Value} {d : DataW H} {ps : List MemPlace} {ds : List (DataW H)} (T : TypeId) (A : Ty) (k : Nat) (e : Ty) (hT : treeOk P T A k = true) (hT2 : treePos P T A k = true) (hm : matT P T A k e t = true) (hpos : posT P T A k e t = true) (h : DataW.Trod enc P W 0 (fun _ => true) true t v d ps) (hw : ∀ n ∈ d.weights P t, n ≤ reachBytes)
  (hu : Rows.uptoSmall H ds = true) (hd : d ∈ ds) : ∃ x : e.den, Rep (ghostOf W) e v.cells.toList x ∧ DomU e x := by
 obtain ⟨f, hf⟩ := h
 obtain ⟨x, h1, h2, h3⟩ := rep_of_trodT W T A k hT true f k e t _ _ hm hf
 exact ⟨x, h1, ⟨h2, small_of_fromT T A k hT2 f k e t d x hpos h3 hw⟩, Nat.le_trans (bulk_of_fromT f e t d x h3) (Nat.le_trans (uptoBulkAll_mem hd) (of_decide_eq_true hu))⟩
end
end Go.Eng
