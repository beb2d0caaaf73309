/-
 A slice of the call's own is cut at its end and kept. No program in sight.
-/
import Derived.Test.YtcnhdkhkadiohaaGreatDoorSto
import Derived.Test.YtcnhdkhkadiohaaGreatDoorEng
import Derived.Test.YtcnhdkhkadiohaaGreatDoorPl
import Derived.Test.YtcnhdkhkadiohaaGreatDoorShelf
import Derived.Shelf.Strings.SlTrimAscii
namespace Go.Eng
open Go.RowKit (Below)
section
variable {P : Program} {n : Fsz} {w0 : Base} {m : Env} {H : List Ent} {g : Ghost} {R : Act → World → Prop} {Q : Exit → Act → World → Prop} {ops : Array Oper}
theorem RepL.take {e : Ty} : ∀ {l : List e.den} {xs : List Value} (k : Nat), RepL g e xs l → RepL g e (xs.take (k * e.size)) (l.take k)
 | l, xs, 0, _ => by rw [Nat.zero_mul, List.take_zero, List.take_zero]; rfl
 | [], xs, k + 1, h => by rw [show xs = [] from h]; simp; rfl
 | x :: l, xs, k + 1, ⟨c, r, h1, h2, h3⟩ => by
  refine ⟨c, r.take (k * e.size), ?_, h2, RepL.take k h3⟩
  rw [h1, Nat.succ_mul, Nat.add_comm, ← h2.size, List.take_length_add_append]
end
end Go.Eng
namespace Go.Eng
open Go.RowKit (Below)
section
variable {P : Program} {ops : Array Oper} {Q : Exit → Act → World → Prop}
section
variable {B : Type} {C : B → World → Prop} {S : Nat → B → Prop} {T : Nat → B → Prop} {md : Region.Mode} {Qn : Act → World → Prop}
end
variable {n : Fsz} {w0 : Base} {m : Env} {H : List Ent} {g : Ghost} {g0 : Ghost} {R : Act → World → Prop}

/-- Hf: what is left alone by the operations of soft, some of which may write -/
theorem Ok.mixs {id : Nat} {l : List Oper} (pre soft : List Nat) (Hf H0 : List Ent) (os : List (Nat × Bool)) (hm : P.follows .mixedOrders = true) (hB : mixOk l.toArray pre soft os = true) (hs : List.Sublist H0 Hf) (hf : List.Sublist Hf H)
  (h : OkM P l.toArray n w0 g pre soft Hf H0 m H g (Q .normal) os) : Ok n w0 m H g ((Code.region id l.toArray true).wp P Q) :=
 fun a _ hA hW => wp_region_mix (C := fun c W => StW w0 c.2 c.1 W) (S := fun i c => Gle g c.1 ∧ List.Sublist (bif soft.contains i then Hf else H0) c.2) (T := Asks g pre Hf H0) (c := (g, H)) os hm hB (fun c i j h hp => ⟨h.1, by
  have h2 := h.2
  rcases hp with hp | hp
  ·rw [hp] at h2
   cases pre.contains i
   ·exact hs.trans h2
   exact h2
  ·rw [hp]
   cases hj : soft.contains j
   ·rw [hj] at h2; exact h2
   rw [hj] at h2; exact hs.trans h2⟩) (fun i => ⟨Gle.refl g, by
  cases pre.contains i
  ·exact hs.trans hf
  exact hf⟩) (hW.of_below ((Below.refl _ _).drew)) (h a hA)

end
end Go.Eng
namespace Go.Proofs.YtcnhdkhkadiohaaGreatDoor.Ti
open Go Go.Eng Go.RowKit Go.Shelf Go.Proofs
set_option linter.unusedVariables false
def ibS (s : Bs) (c : Int) : Int := Lib.indexByte s c.toNat.toUInt8
theorem ib_c {g : Ghost} (s : Bs) (c : Int) : CallsG Tryz.prog 51 #[.string ⟨⟨s⟩⟩, .int .u8 c] g (.int .i64 (ibS s c)) := fun W hW =>
 (Tryz.strings_IndexByte ⟨⟨s⟩⟩ c W).mono fun e W' ⟨he, hw⟩ => ⟨he, by subst hw; exact Below.refl _ _⟩
def trimP (s cut : Bs) : Prop := s.length ≤ 9223372036854775807 ∧ cut.length < 4294967281 ∧ cut.all (fun x => decide (x.toNat < 128)) = true
def trimS (s cut : Bs) : Bs := Lib.trimS s cut
theorem trim_c {g : Ghost} (s cut : Bs) (hp : trimP s cut) : CallsG Tryz.prog 176 #[.string ⟨⟨s⟩⟩, .string ⟨⟨cut⟩⟩] g (.string ⟨⟨trimS s cut⟩⟩) := fun W hW => by
 obtain ⟨h1, h2, h3⟩ := hp
 exact (Any.strings_Trim_laid Tryz.lays160 kr ⟨⟨s⟩⟩ ⟨⟨cut⟩⟩ W h1 h2 (ascii_of_all h3)).mono fun e w' ⟨he, hw⟩ => ⟨he, hw⟩
end Go.Proofs.YtcnhdkhkadiohaaGreatDoor.Ti
