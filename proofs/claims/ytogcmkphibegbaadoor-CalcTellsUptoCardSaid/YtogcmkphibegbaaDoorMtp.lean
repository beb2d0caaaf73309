/- Queries as texts: the plain law. No program in sight. -/
import Derived.Test.YtogcmkphibegbaaDoorPl
import Derived.Lib.Join
namespace Go.Eng.Md
open Go Go.Eng
theorem join_snoc (sep x : List UInt8) : ∀ xs : List (List UInt8), Lib.join (xs ++ [x]) sep = if xs.isEmpty = true then x else (Lib.join xs sep ++ sep) ++ x
 | [] => Lib.join_one x sep
 | y :: ys => by
  rw [if_neg (by simp), List.cons_append, Lib.join_cons, Lib.join_cons]
  unfold Lib.joinTail
  rw [List.map_append, List.flatten_append, List.map_cons, List.map_nil, List.flatten_cons, List.flatten_nil, List.append_nil, List.append_assoc, List.append_assoc]
end Go.Eng.Md
