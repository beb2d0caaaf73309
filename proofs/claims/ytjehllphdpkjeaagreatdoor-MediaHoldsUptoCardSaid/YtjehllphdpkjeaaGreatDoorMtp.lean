/- Queries as texts: the plain law. No program in sight. -/
import Derived.Test.YtjehllphdpkjeaaGreatDoorPl
import Derived.Lib.Join
namespace Go.Eng.Md
open Go Go.Eng
abbrev Ft := Int × Int
abbrev Qu := Bool × List Ft
theorem join_snoc (sep x : List UInt8) : ∀ xs : List (List UInt8), Lib.join (xs ++ [x]) sep = if xs.isEmpty = true then x else (Lib.join xs sep ++ sep) ++ x
  | [] => Lib.join_one x sep
  | y :: ys => by
    rw [if_neg (by simp), List.cons_append, Lib.join_cons, Lib.join_cons]
    unfold Lib.joinTail
    rw [List.map_append, List.flatten_append, List.map_cons, List.map_nil, List.flatten_cons, List.flatten_nil, List.append_nil, List.append_assoc, List.append_assoc]
theorem join_len (sep : List UInt8) (B : Nat) : ∀ xs : List (List UInt8), (∀ x ∈ xs, x.length ≤ B) → (Lib.join xs sep).length ≤ xs.length * (B + sep.length)
  | [], _ => by simp [Lib.join_nil]
  | x :: xs, h => by
    rw [Lib.join_cons, List.length_append]
    have hx := h x (List.mem_cons_self ..)
    have ht : ∀ ys : List (List UInt8), (∀ y ∈ ys, y.length ≤ B) → (Lib.joinTail sep ys).length ≤ ys.length * (B + sep.length) := by
      intro ys
      induction ys with
      | nil => intro _; simp [Lib.joinTail]
      | cons y ys ih =>
        intro h
        have hy := h y (List.mem_cons_self ..)
        have := ih fun z hz => h z (List.mem_cons_of_mem _ hz)
        unfold Lib.joinTail at this ⊢
        rw [List.map_cons, List.flatten_cons, List.length_append, List.length_append, List.length_cons, Nat.succ_mul]
        omega
    have := ht xs fun z hz => h z (List.mem_cons_of_mem _ hz)
    rw [List.length_cons, Nat.succ_mul]
    omega
end Go.Eng.Md
