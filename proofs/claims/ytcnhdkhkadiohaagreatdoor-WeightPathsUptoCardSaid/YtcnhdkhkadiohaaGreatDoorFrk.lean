/-
 A region that draws its order, in which two operations that write may come in either order. No program in sight.
-/
import Derived.Test.YtcnhdkhkadiohaaGreatDoorEng
namespace Go.Eng
open Go.RowKit (Below)
section
variable {P : Program} {ops : Array Oper} {Q : Exit → Act → World → Prop}
section
variable {B : Type} {C : B → World → Prop} {S : Nat → B → Prop} {T : Nat → B → Prop} {md : Region.Mode} {Qn : Act → World → Prop}
end
variable {n : Fsz} {w0 : Base} {m : Env} {H : List Ent} {g : Ghost} {g0 : Ghost} {R : Act → World → Prop}

/-- Hf: what is left alone by the operations of soft, some of which may write -/
theorem Ok.mixs {id : Nat} {l : List Oper} (pre soft : List Nat) (Hf H0 : List Ent) (os : List (Nat × Bool)) (hm : P.follows .mixedOrders = true) (hB : mixOk l.toArray pre soft os = true) (hs : List.Sublist H0 Hf) (hf : List.Sublist Hf H)
  (h : OkM P l.toArray n w0 g pre soft Hf H0 m H g (Q .normal) os) : Ok n w0 m H g ((Code.region id l.toArray true).wp P Q) :=
 fun a _ hA hW => wp_region_mix (C := fun c W => StW w0 c.2 c.1 W) (S := fun i c => Gle g c.1 ∧ List.Sublist (bif soft.contains i then Hf else H0) c.2) (T := Asks g pre Hf H0) (c := (g, H)) os hm hB (fun c i j h hp => ⟨h.1, by
  have h2 := h.2
  rcases hp with hp | hp
  ·rw [hp] at h2
   cases pre.contains i
   ·exact hs.trans h2
   ·exact h2
  ·rw [hp]
   cases hj : soft.contains j
   ·rw [hj] at h2; exact h2
   ·rw [hj] at h2; exact hs.trans h2⟩) (fun i => ⟨Gle.refl g, by
  cases pre.contains i
  ·exact hs.trans hf
  ·exact hf⟩) (hW.of_below ((Below.refl _ _).drew)) (h a hA)

end
end Go.Eng
