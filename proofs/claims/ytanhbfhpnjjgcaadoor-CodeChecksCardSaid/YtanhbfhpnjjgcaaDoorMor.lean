/- One law more of regions that write: an operation that is not wanted. -/
import Derived.Test.YtanhbfhpnjjgcaaDoorPl
namespace Go.Eng
open Go.RowKit (Below)
section
variable {P : Program} {n : Fsz} {w0 : Base} {m : Env} {H : List Ent} {g : Ghost} {R : Act → World → Prop} {ops : Array Oper} {g0 : Ghost} {pre soft : List Nat} {Hf H0 Hv : List Ent} {os : List (Nat × Bool)}
theorem OkM.tailNo {i : Nat} {o : Oper} {j d dd : Nat} {want b : Bool} (hi : ops[i]? = some o) (hg : o.guard = some (j, want)) (hj : (ops[j]?).bind (·.dst) = some d) (hb : get m d = some (.bool b)) (e : b = !want) (hd : o.dst = some dd) (hn : Nat.ble (dd + 1) n = true)
  (hv : (bif soft.contains i then Hf else H0) = Hv) (hgs : Gle g0 g) (hs : List.Sublist Hv H) (h : OkM P ops n w0 g0 pre soft Hf H0 ((dd, undef) :: m) H g R os) :
  OkM P ops n w0 g0 pre soft Hf H0 m H g R ((i, false) :: os) := fun a hA W hW => by
 unfold mOp
 simp only [hi]
 rw [if_neg (by simp [Region.wanted, hg, yielded_of hA hj hb, e])]
 exact ⟨(g, H), hW, ⟨hgs, by rw [hv]; exact hs⟩, by rw [hd]; exact h _ (hA.put (Nat.le_of_ble_eq_true hn) undef)⟩

end
section
variable {P : Program} {n : Fsz} {w0 : Base} {m : Env} {H : List Ent} {g : Ghost} {R : Act → World → Prop} {Q : Exit → Act → World → Prop} {ops : Array Oper}
end
end Go.Eng
