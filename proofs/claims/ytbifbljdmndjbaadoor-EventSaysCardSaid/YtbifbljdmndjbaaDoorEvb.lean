/- Events: sending. -/
import Derived.Test.YtbifbljdmndjbaaDoorEva
namespace Go.Proofs.YtbifbljdmndjbaaDoor.Ev
open Go Go.Eng Go.RowKit Do
set_option maxHeartbeats 4000000
set_option maxRecDepth 100000
set_option linter.unusedSimpArgs false
set_option linter.unusedVariables false
noncomputable section
abbrev PS := Bool × Bool × Bool × List HD × List Int
def hitP (e : EV) (s : SP) (x : LI) : Bool := (x.2.1 == s.1) && ((x.2.2.1 == e.1) && (x.2.2.2.1 == s.2.2))
def hearP (e : EV) (at' : SP) (s : PS) (x : LI) : PS := (s.1 || x.2.2.2.2.2.1, s.2.1 || x.2.2.2.2.2.2.1, s.2.2.1 || (x.2.2.2.2.2.2.2 && e.2.2.2.2.2.2), s.2.2.2.1 ++ [(x.1, at'.1, at'.2.1)], if x.2.2.2.2.1 = true then s.2.2.2.2 ++ [x.1] else s.2.2.2.2)
def nextP (e : EV) (at' : SP) (s : PS) (x : LI) : PS := if ((!s.2.1) && hitP e at' x) = true then hearP e at' s x else s
def doP (e : EV) (at' : SP) : List LI → PS → PS
 | [], s => s
 | x :: l, s => doP e at' l (nextP e at' s x)
def stepP (e : EV) (l : List LI) (s : PS) (at' : SP) : PS := if ((!s.1) && (!s.2.1)) = true then doP e at' l s else s
def runP (e : EV) (l : List LI) (sts : List SP) (s : PS) : PS := sts.foldl (stepP e l) s
def zeroP : PS := (false, false, false, [], [])
def finP (l : List LI) (s : PS) : List HD × Bool × List LI × Int := (s.2.2.2.1, s.2.2.1, l.filter (fun x => !(ecoS s.2.2.2.2 x.1)), 0)
def eseS (d : DC) (l : List LI) (e : EV) : List HD × Bool × List LI × Int := if ((easS d l e).2 != 0) = true then ([], false, [], (easS d l e).2) else finP l (runP e l (estS (easS d l e).1 e.2.2.2.2.2.1) zeroP)
def eseP (d : DC) (_ : List LI) (_ : EV) : Prop := dchkP d
theorem next_len (e : EV) (a : SP) (s : PS) (x : LI) : (nextP e a s x).2.2.2.1.length ≤ s.2.2.2.1.length + 1 := by
 unfold nextP
 split
 ·unfold hearP; simp
 ·omega
theorem do_len (e : EV) (a : SP) : ∀ (l : List LI) (s : PS), (doP e a l s).2.2.2.1.length ≤ s.2.2.2.1.length + l.length
 | [], s => Nat.le_refl _
 | x :: l, s => by
  rw [doP, List.length_cons]
  have h1 := do_len e a l (nextP e a s x)
  have h2 := next_len e a s x
  omega
theorem step_len (e : EV) (l : List LI) (s : PS) (a : SP) : (stepP e l s a).2.2.2.1.length ≤ s.2.2.2.1.length + l.length := by
 unfold stepP
 split
 ·exact do_len e a l s
 ·omega
def MR (m : List (Int × Int)) (gone : List Int) : Prop := ∀ id, assocK id m = if ecoS gone id = true then some 1 else none
theorem eco_snoc (l : List Int) (x id : Int) : ecoS (l ++ [x]) id = (ecoS l id || (id == x)) := by
 unfold ecoS; rw [List.any_append]; simp
theorem MR.put {m : List (Int × Int)} {gone : List Int} (h : MR m gone) (id : Int) : MR (putK id 1 m) (gone ++ [id]) := fun k => by
 rw [assoc_put, eco_snoc, h]
 cases ecoS gone k <;> cases (k == id) <;> rfl
theorem ite_fst {α β : Type} (c : Bool) (a b : α × β) : (if c = true then a else b).1 = if c = true then a.1 else b.1 := by cases c <;> rfl
theorem ite_snd {α β : Type} (c : Bool) (a b : α × β) : (if c = true then a else b).2 = if c = true then a.2 else b.2 := by cases c <;> rfl
theorem two {p : Prop} {a : Bool} (h : p) : (a = true → p) ∧ (a = false → p) := ⟨fun _ => h, fun _ => h⟩
theorem tri {p : Prop} {a b : Bool} (h : p) : (a = true → p) ∧ (a = false → (b = true → p) ∧ (b = false → p)) := ⟨fun _ => h, fun _ => two h⟩
def eseV28 (xe : Bs × Int × Int × Int × Bs × Bool × Bool) (e14 : Int × Int × Bool) (yb8_11l6i54 : Bool) (e20 : LI) : Bool :=
 ((!yb8_11l6i54) && ((e20.2.1 == e14.1) && ((e20.2.2.1 == xe.1) && (e20.2.2.2.1 == e14.2.2))))
def eseV29 (e14 : Int × Int × Bool) (yown7_0l6i54 : List (Int × Int × Int)) (e20 : LI) : List (Int × Int × Int) :=
 (yown7_0l6i54 ++ ([(e20.1, e14.1, e14.2.1)] : List (Int × Int × Int)))
def eseV34 (xl : List (LI)) (xe : Bs × Int × Int × Int × Bs × Bool × Bool) (e14 : Int × Int × Bool) (x11l6i54 : Int) (yb8_10l6i54 : Bool) (yb8_11l6i54 : Bool) : Bool :=
 (if (eseV28 xe e14 yb8_11l6i54 (xl.getD (Int.toNat x11l6i54) default)) = true then (yb8_10l6i54 || (xl.getD (Int.toNat x11l6i54) default).2.2.2.2.2.1) else yb8_10l6i54)
def eseV35 (xl : List (LI)) (xe : Bs × Int × Int × Int × Bs × Bool × Bool) (e14 : Int × Int × Bool) (x11l6i54 : Int) (yb8_11l6i54 : Bool) : Bool :=
 (if (eseV28 xe e14 yb8_11l6i54 (xl.getD (Int.toNat x11l6i54) default)) = true then (yb8_11l6i54 || (xl.getD (Int.toNat x11l6i54) default).2.2.2.2.2.2.1) else yb8_11l6i54)
def eseV36 (xl : List (LI)) (xe : Bs × Int × Int × Int × Bs × Bool × Bool) (e14 : Int × Int × Bool) (x11l6i54 : Int) (yb8_11l6i54 : Bool) (yb8_12l6i54 : Bool) : Bool :=
 (if (eseV28 xe e14 yb8_11l6i54 (xl.getD (Int.toNat x11l6i54) default)) = true then (yb8_12l6i54 || ((xl.getD (Int.toNat x11l6i54) default).2.2.2.2.2.2.2 && xe.2.2.2.2.2.2)) else yb8_12l6i54)
def eseV37 (xl : List (LI)) (xe : Bs × Int × Int × Int × Bs × Bool × Bool) (e14 : Int × Int × Bool) (x11l6i54 : Int) (yb8_11l6i54 : Bool) (yown7_0l6i54 : List (Int × Int × Int)) : List (Int × Int × Int) :=
 (if (eseV28 xe e14 yb8_11l6i54 (xl.getD (Int.toNat x11l6i54) default)) = true then (eseV29 e14 yown7_0l6i54 (xl.getD (Int.toNat x11l6i54) default)) else yown7_0l6i54)
def esej26 (x36l19 : Int) (yb8_10j26 : Bool) (yb8_11j26 : Bool) (yb8_12j26 : Bool) (yown7_0j26 : List (Int × Int × Int)) (yb6_0j26 : List ((Int) × (Int))) (C19 : Int → Bool → Bool → Bool → (List (Int × Int × Int)) → (List ((Int) × (Int))) → Prop) : Prop :=
 C19 (w6 (x36l19 + 1)) yb8_10j26 yb8_11j26 yb8_12j26 yown7_0j26 yb6_0j26
def esej13i54 (xl : List (LI)) (xe : Bs × Int × Int × Int × Bs × Bool × Bool) (e14 : Int × Int × Bool) (yb6_0j13i54 : List ((Int) × (Int))) (x11l6i54 : Int) (yb8_10l6i54 : Bool) (yb8_11l6i54 : Bool) (yb8_12l6i54 : Bool) (yown7_0l6i54 : List (Int × Int × Int)) (C6x2 : Int → Bool → Bool → Bool → (List (Int × Int × Int)) → (List ((Int) × (Int))) → Prop) : Prop :=
 C6x2 (w6 (x11l6i54 + 1)) (eseV34 xl xe e14 x11l6i54 yb8_10l6i54 yb8_11l6i54) (eseV35 xl xe e14 x11l6i54 yb8_11l6i54) (eseV36 xl xe e14 x11l6i54 yb8_11l6i54 yb8_12l6i54) (eseV37 xl xe e14 x11l6i54 yb8_11l6i54 yown7_0l6i54) yb6_0j13i54
def eseji27 (xl : List (LI)) (xe : Bs × Int × Int × Int × Bs × Bool × Bool) (e14 : Int × Int × Bool) (x11l6i54 : Int) (yb8_10l6i54 : Bool) (yb8_11l6i54 : Bool) (yb8_12l6i54 : Bool) (yown7_0l6i54 : List (Int × Int × Int)) (C6x2 : Int → Bool → Bool → Bool → (List (Int × Int × Int)) → (List ((Int) × (Int))) → Prop) (yb6_0ji27 : List ((Int) × (Int))) : Prop :=
 esej13i54 xl xe e14 yb6_0ji27 x11l6i54 yb8_10l6i54 yb8_11l6i54 yb8_12l6i54 yown7_0l6i54 C6x2
def esej9i54i47 (xl : List (LI)) (xe : Bs × Int × Int × Int × Bs × Bool × Bool) (e14 : Int × Int × Bool) (x11l6i54 : Int) (yb8_10l6i54 : Bool) (yb8_11l6i54 : Bool) (yb8_12l6i54 : Bool) (yown7_0l6i54 : List (Int × Int × Int)) (yb6_0l6i54 : List ((Int) × (Int))) (e20 : LI) (C6x2 : Int → Bool → Bool → Bool → (List (Int × Int × Int)) → (List ((Int) × (Int))) → Prop) : Prop :=
 ((e20.2.2.2.2.1) = true → eseji27 xl xe e14 x11l6i54 yb8_10l6i54 yb8_11l6i54 yb8_12l6i54 yown7_0l6i54 C6x2 (putK e20.1 1 yb6_0l6i54)) ∧ ((e20.2.2.2.2.1) = false → eseji27 xl xe e14 x11l6i54 yb8_10l6i54 yb8_11l6i54 yb8_12l6i54 yown7_0l6i54 C6x2 yb6_0l6i54)
def esej7i54i47 (xl : List (LI)) (xe : Bs × Int × Int × Int × Bs × Bool × Bool) (e14 : Int × Int × Bool) (x11l6i54 : Int) (yb8_10l6i54 : Bool) (yb8_11l6i54 : Bool) (yb8_12l6i54 : Bool) (yown7_0l6i54 : List (Int × Int × Int)) (yb6_0l6i54 : List ((Int) × (Int))) (e20 : LI) (C6x2 : Int → Bool → Bool → Bool → (List (Int × Int × Int)) → (List ((Int) × (Int))) → Prop) : Prop :=
 ((yb8_12l6i54) = true → esej9i54i47 xl xe e14 x11l6i54 yb8_10l6i54 yb8_11l6i54 yb8_12l6i54 yown7_0l6i54 yb6_0l6i54 e20 C6x2) ∧ ((yb8_12l6i54) = false → ((e20.2.2.2.2.2.2.2) = true → esej9i54i47 xl xe e14 x11l6i54 yb8_10l6i54 yb8_11l6i54 yb8_12l6i54 yown7_0l6i54 yb6_0l6i54 e20 C6x2) ∧ ((e20.2.2.2.2.2.2.2) = false → esej9i54i47 xl xe e14 x11l6i54 yb8_10l6i54 yb8_11l6i54 yb8_12l6i54 yown7_0l6i54 yb6_0l6i54 e20 C6x2))
def esej5i54i47 (xl : List (LI)) (xe : Bs × Int × Int × Int × Bs × Bool × Bool) (e14 : Int × Int × Bool) (x11l6i54 : Int) (yb8_10l6i54 : Bool) (yb8_11l6i54 : Bool) (yb8_12l6i54 : Bool) (yown7_0l6i54 : List (Int × Int × Int)) (yb6_0l6i54 : List ((Int) × (Int))) (e20 : LI) (C6x2 : Int → Bool → Bool → Bool → (List (Int × Int × Int)) → (List ((Int) × (Int))) → Prop) : Prop :=
 ((yb8_11l6i54) = true → esej7i54i47 xl xe e14 x11l6i54 yb8_10l6i54 yb8_11l6i54 yb8_12l6i54 yown7_0l6i54 yb6_0l6i54 e20 C6x2) ∧ ((yb8_11l6i54) = false → esej7i54i47 xl xe e14 x11l6i54 yb8_10l6i54 yb8_11l6i54 yb8_12l6i54 yown7_0l6i54 yb6_0l6i54 e20 C6x2)
def esej17i54 (xl : List (LI)) (xe : Bs × Int × Int × Int × Bs × Bool × Bool) (e14 : Int × Int × Bool) (x11l6i54 : Int) (yb8_10l6i54 : Bool) (yb8_11l6i54 : Bool) (yb8_12l6i54 : Bool) (yown7_0l6i54 : List (Int × Int × Int)) (yb6_0l6i54 : List ((Int) × (Int))) (e20 : LI) (C6x2 : Int → Bool → Bool → Bool → (List (Int × Int × Int)) → (List ((Int) × (Int))) → Prop) : Prop :=
 (((eseV28 xe e14 yb8_11l6i54 e20)) = true → (yown7_0l6i54 ++ ([(e20.1, e14.1, e14.2.1)] : List (Int × Int × Int))).length ≤ 5864062014805 ∧ ((yb8_10l6i54) = true → esej5i54i47 xl xe e14 x11l6i54 yb8_10l6i54 yb8_11l6i54 yb8_12l6i54 yown7_0l6i54 yb6_0l6i54 e20 C6x2) ∧ ((yb8_10l6i54) = false → esej5i54i47 xl xe e14 x11l6i54 yb8_10l6i54 yb8_11l6i54 yb8_12l6i54 yown7_0l6i54 yb6_0l6i54 e20 C6x2)) ∧ (((eseV28 xe e14 yb8_11l6i54 e20)) = false → esej13i54 xl xe e14 yb6_0l6i54 x11l6i54 yb8_10l6i54 yb8_11l6i54 yb8_12l6i54 yown7_0l6i54 C6x2)
def esel6x2b (xl : List (LI)) (xe : Bs × Int × Int × Int × Bs × Bool × Bool) (e14 : Int × Int × Bool) (x36l19 : Int) (C19 : Int → Bool → Bool → Bool → (List (Int × Int × Int)) → (List ((Int) × (Int))) → Prop) (x11l6i54 : Int) (yb8_10l6i54 : Bool) (yb8_11l6i54 : Bool) (yb8_12l6i54 : Bool) (yown7_0l6i54 : List (Int × Int × Int)) (yb6_0l6i54 : List ((Int) × (Int))) (C6x2 : Int → Bool → Bool → Bool → (List (Int × Int × Int)) → (List ((Int) × (Int))) → Prop) : Prop :=
 ((decide (x11l6i54 < (xl.length : Int))) = true → (0 : Int) ≤ x11l6i54 ∧ Int.toNat x11l6i54 < xl.length ∧ ((!yb8_11l6i54) = true → ((((xl.getD (Int.toNat x11l6i54) default).2.1 == e14.1)) = true → ((((xl.getD (Int.toNat x11l6i54) default).2.2.1 == xe.1)) = true → esej17i54 xl xe e14 x11l6i54 yb8_10l6i54 yb8_11l6i54 yb8_12l6i54 yown7_0l6i54 yb6_0l6i54 (xl.getD (Int.toNat x11l6i54) default) C6x2) ∧ ((((xl.getD (Int.toNat x11l6i54) default).2.2.1 == xe.1)) = false → esej17i54 xl xe e14 x11l6i54 yb8_10l6i54 yb8_11l6i54 yb8_12l6i54 yown7_0l6i54 yb6_0l6i54 (xl.getD (Int.toNat x11l6i54) default) C6x2)) ∧ ((((xl.getD (Int.toNat x11l6i54) default).2.1 == e14.1)) = false → esej17i54 xl xe e14 x11l6i54 yb8_10l6i54 yb8_11l6i54 yb8_12l6i54 yown7_0l6i54 yb6_0l6i54 (xl.getD (Int.toNat x11l6i54) default) C6x2)) ∧ ((!yb8_11l6i54) = false → esej17i54 xl xe e14 x11l6i54 yb8_10l6i54 yb8_11l6i54 yb8_12l6i54 yown7_0l6i54 yb6_0l6i54 (xl.getD (Int.toNat x11l6i54) default) C6x2)) ∧ ((decide (x11l6i54 < (xl.length : Int))) = false → esej26 x36l19 yb8_10l6i54 yb8_11l6i54 yb8_12l6i54 yown7_0l6i54 yb6_0l6i54 C19)
def esel6x2 (xl : List (LI)) (xe : Bs × Int × Int × Int × Bs × Bool × Bool) (e14 : Int × Int × Bool) (x36l19 : Int) (C19 : Int → Bool → Bool → Bool → (List (Int × Int × Int)) → (List ((Int) × (Int))) → Prop) : Nat → Int → Bool → Bool → Bool → (List (Int × Int × Int)) → (List ((Int) × (Int))) → Prop
 | 0, _, _, _, _, _, _ => False
 | k + 1, x11l6i54, yb8_10l6i54, yb8_11l6i54, yb8_12l6i54, yown7_0l6i54, yb6_0l6i54 => esel6x2b xl xe e14 x36l19 C19 x11l6i54 yb8_10l6i54 yb8_11l6i54 yb8_12l6i54 yown7_0l6i54 yb6_0l6i54 (esel6x2 xl xe e14 x36l19 C19 k)
def esej30 (xl : List (LI)) (xe : Bs × Int × Int × Int × Bs × Bool × Bool) (e14 : Int × Int × Bool) (x36l19 : Int) (yb8_10l19 : Bool) (yb8_11l19 : Bool) (yb8_12l19 : Bool) (yown7_0l19 : List (Int × Int × Int)) (yb6_0l19 : List ((Int) × (Int))) (C19 : Int → Bool → Bool → Bool → (List (Int × Int × Int)) → (List ((Int) × (Int))) → Prop) : Prop :=
 ((((!yb8_10l19) && (!yb8_11l19))) = true → ∃ k, esel6x2 xl xe e14 x36l19 C19 k 0 yb8_10l19 yb8_11l19 yb8_12l19 yown7_0l19 yb6_0l19) ∧ ((((!yb8_10l19) && (!yb8_11l19))) = false → esej26 x36l19 yb8_10l19 yb8_11l19 yb8_12l19 yown7_0l19 yb6_0l19 C19)
def eseji31 (K : (List (Int × Int × Int)) → Bool → (List (LI)) → Int → Prop) (yb8_12l19 : Bool) (yown7_0l19 : List (Int × Int × Int)) (yown38_0_0ji31 : List (LI)) : Prop :=
 K yown7_0l19 yb8_12l19 yown38_0_0ji31 0
def esej24i59 (x5j24i59 : Int) (x6l17i59 : Int) (yown38_0_0j24i59 : List (LI)) (C17x3 : Int → Int → (List (LI)) → Prop) : Prop :=
 C17x3 x5j24i59 (w6 (x6l17i59 + 1)) yown38_0_0j24i59
def esej3i59i28 (x3j3i59i28 : Bool) (x5l17i59 : Int) (x6l17i59 : Int) (yown38_0_0l17i59 : List (LI)) (C17x3 : Int → Int → (List (LI)) → Prop) : Prop :=
 ((!x3j3i59i28) = true → (0 : Int) ≤ x5l17i59 ∧ Int.toNat x5l17i59 < yown38_0_0l17i59.length ∧ esej24i59 (w6 (x5l17i59 + 1)) x6l17i59 (yown38_0_0l17i59.set (Int.toNat x5l17i59) (yown38_0_0l17i59.getD (Int.toNat x6l17i59) default)) C17x3) ∧ ((!x3j3i59i28) = false → esej24i59 x5l17i59 x6l17i59 yown38_0_0l17i59 C17x3)
def esel17x3b (K : (List (Int × Int × Int)) → Bool → (List (LI)) → Int → Prop) (yb8_12l19 : Bool) (yown7_0l19 : List (Int × Int × Int)) (yb6_0l19 : List ((Int) × (Int))) (x5l17i59 : Int) (x6l17i59 : Int) (yown38_0_0l17i59 : List (LI)) (C17x3 : Int → Int → (List (LI)) → Prop) : Prop :=
 ((decide (x6l17i59 < (yown38_0_0l17i59.length : Int))) = true → (0 : Int) ≤ x6l17i59 ∧ Int.toNat x6l17i59 < yown38_0_0l17i59.length ∧ (∀ e51 : Int, assocK (yown38_0_0l17i59.getD (Int.toNat x6l17i59) default).1 yb6_0l19 = some e51 → esej3i59i28 (e51 == 1) x5l17i59 x6l17i59 yown38_0_0l17i59 C17x3) ∧ (assocK (yown38_0_0l17i59.getD (Int.toNat x6l17i59) default).1 yb6_0l19 = none → esej3i59i28 false x5l17i59 x6l17i59 yown38_0_0l17i59 C17x3)) ∧ ((decide (x6l17i59 < (yown38_0_0l17i59.length : Int))) = false → (0 : Int) ≤ x5l17i59 ∧ (x5l17i59 : Int) ≤ (yown38_0_0l17i59.length : Int) ∧ (yown38_0_0l17i59.length : Int) ≤ (yown38_0_0l17i59.length : Int) ∧ (Int.toNat x5l17i59) ≤ Int.toNat (yown38_0_0l17i59.length : Int) ∧ (0 : Int) ≤ x5l17i59 ∧ x5l17i59 ≤ ((clr yown38_0_0l17i59 (Int.toNat x5l17i59) ((0, 0, ([] : Bs), false, false, false, false, false) : LI)).length : Int) ∧ eseji31 K yb8_12l19 yown7_0l19 ((clr yown38_0_0l17i59 (Int.toNat x5l17i59) ((0, 0, ([] : Bs), false, false, false, false, false) : LI)).take (Int.toNat x5l17i59)))
def esel17x3 (K : (List (Int × Int × Int)) → Bool → (List (LI)) → Int → Prop) (yb8_12l19 : Bool) (yown7_0l19 : List (Int × Int × Int)) (yb6_0l19 : List ((Int) × (Int))) : Nat → Int → Int → (List (LI)) → Prop
 | 0, _, _, _ => False
 | k + 1, x5l17i59, x6l17i59, yown38_0_0l17i59 => esel17x3b K yb8_12l19 yown7_0l19 yb6_0l19 x5l17i59 x6l17i59 yown38_0_0l17i59 (esel17x3 K yb8_12l19 yown7_0l19 yb6_0l19 k)
def eseji33 (xl : List (LI)) (K : (List (Int × Int × Int)) → Bool → (List (LI)) → Int → Prop) (yb8_12l19 : Bool) (yown7_0l19 : List (Int × Int × Int)) (yb6_0l19 : List ((Int) × (Int))) (x10ji33 : Int) : Prop :=
 (((x10ji33 == (-1))) = true → eseji31 K yb8_12l19 yown7_0l19 (eclS xl)) ∧ (((x10ji33 == (-1))) = false → ∃ k, esel17x3 K yb8_12l19 yown7_0l19 yb6_0l19 k x10ji33 (w6 (x10ji33 + 1)) (eclS xl))
def esej3i59i10i16 (xl : List (LI)) (K : (List (Int × Int × Int)) → Bool → (List (LI)) → Int → Prop) (yb8_12l19 : Bool) (yown7_0l19 : List (Int × Int × Int)) (yb6_0l19 : List ((Int) × (Int))) (x3j3i59i10i16 : Bool) (x8l7i59i10 : Int) (C7x4 : Int → Prop) : Prop :=
 ((x3j3i59i10i16) = true → eseji33 xl K yb8_12l19 yown7_0l19 yb6_0l19 x8l7i59i10) ∧ ((x3j3i59i10i16) = false → C7x4 (w6 (x8l7i59i10 + 1)))
def esel7x4b (xl : List (LI)) (K : (List (Int × Int × Int)) → Bool → (List (LI)) → Int → Prop) (yb8_12l19 : Bool) (yown7_0l19 : List (Int × Int × Int)) (yb6_0l19 : List ((Int) × (Int))) (x8l7i59i10 : Int) (C7x4 : Int → Prop) : Prop :=
 ((decide (x8l7i59i10 < ((eclS xl).length : Int))) = true → (0 : Int) ≤ x8l7i59i10 ∧ Int.toNat x8l7i59i10 < (eclS xl).length ∧ (∀ e60 : Int, assocK ((eclS xl).getD (Int.toNat x8l7i59i10) default).1 yb6_0l19 = some e60 → esej3i59i10i16 xl K yb8_12l19 yown7_0l19 yb6_0l19 (e60 == 1) x8l7i59i10 C7x4) ∧ (assocK ((eclS xl).getD (Int.toNat x8l7i59i10) default).1 yb6_0l19 = none → esej3i59i10i16 xl K yb8_12l19 yown7_0l19 yb6_0l19 false x8l7i59i10 C7x4)) ∧ ((decide (x8l7i59i10 < ((eclS xl).length : Int))) = false → eseji33 xl K yb8_12l19 yown7_0l19 yb6_0l19 (-1))
def esel7x4 (xl : List (LI)) (K : (List (Int × Int × Int)) → Bool → (List (LI)) → Int → Prop) (yb8_12l19 : Bool) (yown7_0l19 : List (Int × Int × Int)) (yb6_0l19 : List ((Int) × (Int))) : Nat → Int → Prop
 | 0, _ => False
 | k + 1, x8l7i59i10 => esel7x4b xl K yb8_12l19 yown7_0l19 yb6_0l19 x8l7i59i10 (esel7x4 xl K yb8_12l19 yown7_0l19 yb6_0l19 k)
def esel19b (xd : (List (Int × Bs × (List (Bs × Bs)) × Bs × Int × List (Int))) × Bool) (xl : List (LI)) (xe : Bs × Int × Int × Int × Bs × Bool × Bool) (K : (List (Int × Int × Int)) → Bool → (List (LI)) → Int → Prop) (x36l19 : Int) (yb8_10l19 : Bool) (yb8_11l19 : Bool) (yb8_12l19 : Bool) (yown7_0l19 : List (Int × Int × Int)) (yb6_0l19 : List ((Int) × (Int))) (C19 : Int → Bool → Bool → Bool → (List (Int × Int × Int)) → (List ((Int) × (Int))) → Prop) : Prop :=
 ((decide (x36l19 < ((estS (easS xd xl xe).1 xe.2.2.2.2.2.1).length : Int))) = true → (0 : Int) ≤ x36l19 ∧ Int.toNat x36l19 < (estS (easS xd xl xe).1 xe.2.2.2.2.2.1).length ∧ ((!yb8_10l19) = true → esej30 xl xe ((estS (easS xd xl xe).1 xe.2.2.2.2.2.1).getD (Int.toNat x36l19) default) x36l19 yb8_10l19 yb8_11l19 yb8_12l19 yown7_0l19 yb6_0l19 C19) ∧ ((!yb8_10l19) = false → esej30 xl xe ((estS (easS xd xl xe).1 xe.2.2.2.2.2.1).getD (Int.toNat x36l19) default) x36l19 yb8_10l19 yb8_11l19 yb8_12l19 yown7_0l19 yb6_0l19 C19)) ∧ ((decide (x36l19 < ((estS (easS xd xl xe).1 xe.2.2.2.2.2.1).length : Int))) = false → eclP xl ∧ ∃ k, esel7x4 xl K yb8_12l19 yown7_0l19 yb6_0l19 k 0)
def esel19 (xd : (List (Int × Bs × (List (Bs × Bs)) × Bs × Int × List (Int))) × Bool) (xl : List (LI)) (xe : Bs × Int × Int × Int × Bs × Bool × Bool) (K : (List (Int × Int × Int)) → Bool → (List (LI)) → Int → Prop) : Nat → Int → Bool → Bool → Bool → (List (Int × Int × Int)) → (List ((Int) × (Int))) → Prop
 | 0, _, _, _, _, _, _ => False
 | k + 1, x36l19, yb8_10l19, yb8_11l19, yb8_12l19, yown7_0l19, yb6_0l19 => esel19b xd xl xe K x36l19 yb8_10l19 yb8_11l19 yb8_12l19 yown7_0l19 yb6_0l19 (esel19 xd xl xe K k)
def eseF (xd : (List (Int × Bs × (List (Bs × Bs)) × Bs × Int × List (Int))) × Bool) (xl : List (LI)) (xe : Bs × Int × Int × Int × Bs × Bool × Bool) (K : (List (Int × Int × Int)) → Bool → (List (LI)) → Int → Prop) : Prop :=
 easP xd xl xe ∧ ((((easS xd xl xe).2 != 0)) = true → K ([]) false ([]) (easS xd xl xe).2) ∧ ((((easS xd xl xe).2 != 0)) = false → estP (easS xd xl xe).1 xe.2.2.2.2.2.1 ∧ ∃ k, esel19 xd xl xe K k 0 false false false ([] : List (Int × Int × Int)) ([] : List ((Int) × (Int))))
theorem ese_ok {g : Ghost} {axd_0 : Option Addr} {cxd_0 : Nat} (xd : (List (Int × Bs × (List (Bs × Bs)) × Bs × Int × List (Int))) × Bool) {axl_0 : Option Addr} {cxl_0 : Nat} (xl : List (LI)) (xe : Bs × Int × Int × Int × Bs × Bool × Bool) (hRxd_0 : Rep g (.slice (.pair (.int .i64) (.pair (.str) (.pair (.slice (.pair (.str) (.str))) (.pair (.str) (.pair (.int .i64) (.slice (.int .i64)))))))) [.slice axd_0 xd.1.length cxd_0] xd.1) (hRxl_0 : Rep g (.slice (.pair (.int .i64) (.pair (.int .i64) (.pair (.str) (.pair (.bool) (.pair (.bool) (.pair (.bool) (.pair (.bool) (.bool))))))))) [.slice axl_0 xl.length cxl_0] xl) (K : (List (Int × Int × Int)) → Bool → (List (LI)) → Int → Prop)
  (hF : eseF xd xl xe K) : CallsH Tryd.prog 5 #[.agg #[.slice axd_0 xd.1.length cxd_0, .bool xd.2], .slice axl_0 xl.length cxl_0, .agg #[sv xe.1, .int .i64 xe.2.1, .int .i64 xe.2.2.1, .int .i64 xe.2.2.2.1, sv xe.2.2.2.2.1, .bool xe.2.2.2.2.2.1, .bool xe.2.2.2.2.2.2]] g [] (fun g' H' v => ∃ (r0 : List (Int × Int × Int)), ∃ (r1 : Bool), ∃ (r2 : List (LI)), ∃ (r3 : Int), ∃ (ar0_0 : Option Addr) (cr0_0 : Nat), ∃ (ar2_0 : Option Addr) (cr2_0 : Nat), v = .tuple #[.slice ar0_0 r0.length cr0_0, .bool r1, .slice ar2_0 r2.length cr2_0, .int .i64 r3] ∧ Rep g' (.slice (.pair (.int .i64) (.pair (.int .i64) (.int .i64)))) [.slice ar0_0 r0.length cr0_0] r0 ∧ Rep g' (.slice (.pair (.int .i64) (.pair (.int .i64) (.pair (.str) (.pair (.bool) (.pair (.bool) (.pair (.bool) (.pair (.bool) (.bool))))))))) [.slice ar2_0 r2.length cr2_0] r2 ∧ H' = [] ∧ K r0 r1 r2 r3) := by
 refine CallsH.enter 69 [(0, .agg #[.slice axd_0 xd.1.length cxd_0, .bool xd.2]), (1, .slice axl_0 xl.length cxl_0), (2, .agg #[sv xe.1, .int .i64 xe.2.1, .int .i64 xe.2.2.1, .int .i64 xe.2.2.2.1, sv xe.2.2.2.2.1, .bool xe.2.2.2.2.2.1, .bool xe.2.2.2.2.2.2])] Tryd.func5 rfl (by kernel_rfl) (by kernel_rfl) (by kernel_rfl) fun w0 => ?_
 refine Ok.seq (Ok.region (Ok.op rfl (OpOk.box (v := .agg #[.slice axd_0 xd.1.length cxd_0, .bool xd.2]) (cs := #[.slice axd_0 xd.1.length cxd_0, .bool xd.2]) rfl (by kernel_rfl) rfl fun b1 => ?_)))
 refine Ok.op rfl (OpOk.box (v := .agg #[sv xe.1, .int .i64 xe.2.1, .int .i64 xe.2.2.1, .int .i64 xe.2.2.2.1, sv xe.2.2.2.2.1, .bool xe.2.2.2.2.2.1, .bool xe.2.2.2.2.2.2]) (cs := #[sv xe.1, .int .i64 xe.2.1, .int .i64 xe.2.2.1, .int .i64 xe.2.2.2.1, sv xe.2.2.2.2.1, .bool xe.2.2.2.2.2.1, .bool xe.2.2.2.2.2.2]) rfl (by kernel_rfl) rfl fun b2 => ?_)
 refine Ok.batch 4 [(1, .slice axl_0 xl.length cxl_0), (3, pv b1 0), (5, pv b2 0)] (by kernel_rfl) (Ok.nil (Ok.thenN (Ok.seq (Ok.region (Ok.op rfl (OpOk.step (v := .agg #[.slice axd_0 xd.1.length cxd_0, .bool xd.2]) (Yields.loadAgg 1 2 #[.slice axd_0 xd.1.length cxd_0, .bool xd.2] rfl rfl Tryd.underlying24 rfl (by kernel_rfl) (by kernel_rfl) (by kernel_rfl)) rfl rfl (Ok.bat 1 [1, 5] [(17, .agg #[.slice axd_0 xd.1.length cxd_0, .bool xd.2]), (18, .slice axl_0 xl.length cxl_0)] ?_)))))))
 refine Ok.op rfl (OpOk.step (v := .agg #[sv xe.1, .int .i64 xe.2.1, .int .i64 xe.2.2.1, .int .i64 xe.2.2.2.1, sv xe.2.2.2.2.1, .bool xe.2.2.2.2.2.1, .bool xe.2.2.2.2.2.2]) (Yields.loadAgg 0 7 #[sv xe.1, .int .i64 xe.2.1, .int .i64 xe.2.2.1, .int .i64 xe.2.2.2.1, sv xe.2.2.2.2.1, .bool xe.2.2.2.2.2.1, .bool xe.2.2.2.2.2.2] rfl rfl Tryd.underlying27 rfl (by kernel_rfl) (by kernel_rfl) (by kernel_rfl)) rfl rfl ?_)
 obtain ⟨hp3, hF⟩ := hF
 refine Ok.op rfl (OpOk.callH [] _ enr rfl (eas_c xd xl xe hRxd_0 hRxl_0 hp3) rfl fun g4 _ _ hx4 hV4 => ?_)
 obtain ⟨a4_0, c4_0, rfl, hR4_0, rfl⟩ := hV4
 replace hRxl_0 := hRxl_0.mono hx4.1
 replace hRxd_0 := hRxd_0.mono hx4.1
 refine Ok.bat 5 [1, 5] [(10, .slice a4_0 ((easS xd xl xe).1).length c4_0), (11, .int .i64 (easS xd xl xe).2)] ?_
 refine Ok.nil (Ok.thenN (Ok.seq (Ok.seq (Ok.region (Ok.bat 2 [1, 5, 10, 11] [(24, .bool ((easS xd xl xe).2 != 0))] ?_)))))
 refine Ok.nil (Ok.thenN (Ok.cond (b := ((easS xd xl xe).2 != 0)) rfl (fun hc5 => ?_) (fun hc5 => ?_)))
 ·replace hF := hF.1 hc5
  refine Ok.seq (Ok.region (Ok.batch 5 [(6, .slice none 0 0), (7, .bool false), (8, .slice none 0 0), (9, .int .i64 (easS xd xl xe).2)] (by kernel_rfl) (Ok.nil (Ok.thenN (Ok.ret (Ok.thenR ?_))))))
  exact Ok.resP (vs := [.slice none 0 0, .bool false, .slice none 0 0, .int .i64 (easS xd xl xe).2]) [] [] (by decide) rfl (.inl rfl) rfl (.cons (.tmp rfl) (.cons (.tmp rfl) (.cons (.tmp rfl) (.cons (.tmp rfl) .nil)))) hx4 ⟨([]), false, ([]), (easS xd xl xe).2, none, 0, none, 0, rfl, Rep.nil, Rep.nil, rfl, hF⟩
 ·replace hF := hF.2 hc5
  refine Ok.skip (Ok.thenN (Ok.seq (Ok.region (Ok.bat 1 [1, 5, 10] [(26, .slice axl_0 xl.length cxl_0)] ?_))))
  refine Ok.op rfl (OpOk.step (v := .agg #[sv xe.1, .int .i64 xe.2.1, .int .i64 xe.2.2.1, .int .i64 xe.2.2.2.1, sv xe.2.2.2.2.1, .bool xe.2.2.2.2.2.1, .bool xe.2.2.2.2.2.2]) (Yields.loadAgg 0 7 #[sv xe.1, .int .i64 xe.2.1, .int .i64 xe.2.2.1, .int .i64 xe.2.2.2.1, sv xe.2.2.2.2.1, .bool xe.2.2.2.2.2.1, .bool xe.2.2.2.2.2.2] rfl rfl Tryd.underlying27 rfl (by kernel_rfl) (by kernel_rfl) (by kernel_rfl)) rfl rfl (Ok.op rfl (OpOk.makeMap (.int .i64) false (kt := (Value.int .i64)) rfl fun b6 hM6 => ?_)))
  refine Ok.bat 1 [1, 5, 10] [(29, .agg #[.slice axl_0 xl.length cxl_0, sv xe.1, .int .i64 xe.2.1, .int .i64 xe.2.2.1, .int .i64 xe.2.2.2.1, sv xe.2.2.2.2.1, .bool xe.2.2.2.2.2.1, .bool xe.2.2.2.2.2.2, .slice none 0 0, .map (some b6), .bool false, .bool false, .bool false])] ?_
  have hL7 : RepL g4 (.pair (.int .i64) (.pair (.int .i64) (.int .i64))) [] [] := rfl
  refine Ok.ownNil 38 3 (Ok.op rfl (OpOk.box (v := .agg #[.slice axl_0 xl.length cxl_0, sv xe.1, .int .i64 xe.2.1, .int .i64 xe.2.2.1, .int .i64 xe.2.2.2.1, sv xe.2.2.2.2.1, .bool xe.2.2.2.2.2.1, .bool xe.2.2.2.2.2.2, .slice none ([] : List (Int × Int × Int)).length 0, .map (some b6), .bool false, .bool false, .bool false]) (cs := #[.slice axl_0 xl.length cxl_0, sv xe.1, .int .i64 xe.2.1, .int .i64 xe.2.2.1, .int .i64 xe.2.2.2.1, sv xe.2.2.2.2.1, .bool xe.2.2.2.2.2.1, .bool xe.2.2.2.2.2.2, .slice none ([] : List (Int × Int × Int)).length 0, .map (some b6), .bool false, .bool false, .bool false]) rfl (by kernel_rfl) rfl fun b8 => ?_))
  refine Ok.op rfl (OpOk.alloc (z := .pointer none) (cs := #[.pointer none]) (by kernel_rfl) (by kernel_rfl) rfl fun b9 => ?_)
  refine Ok.op rfl (OpOk.sto (k := 1) (v := pv b8 0) 0 #[pv b8 0] rfl rfl rfl ?_)
  refine Ok.nil (Ok.thenN (Ok.seq (Ok.seq (Ok.region (Ok.bat 2 [1] [(12, pv b9 0), (31, .slice a4_0 ((easS xd xl xe).1).length c4_0), (32, pv b2 5)] ?_)))))
  refine Ok.op rfl (OpOk.step (v := .bool xe.2.2.2.2.2.1) (Yields.load 4 rfl rfl Tryd.underlying4 rfl (by kernel_rfl)) rfl rfl ?_)
  obtain ⟨hp10, hF⟩ := hF
  refine Ok.op rfl (OpOk.callH [] _ enr rfl (est_c (easS xd xl xe).1 xe.2.2.2.2.2.1 hR4_0 hp10) rfl fun g11 _ _ hx11 hV11 => ?_)
  obtain ⟨a11_0, c11_0, rfl, hR11_0, rfl⟩ := hV11
  replace hRxl_0 := hRxl_0.mono hx11.1
  replace hR4_0 := hR4_0.mono hx11.1
  replace hL7 := hL7.mono hx11.1
  replace hM6 := hM6.mono hx11.1
  replace hRxd_0 := hRxd_0.mono hx11.1
  refine Ok.bat 2 [1, 12] [(34, .slice a11_0 (estS (easS xd xl xe).1 xe.2.2.2.2.2.1).length c11_0), (35, .int .i64 ((estS (easS xd xl xe).1 xe.2.2.2.2.2.1).length : Int)), (36, .int .i64 0)] ?_
  refine Ok.nil (Ok.thenN (Ok.block ?_))
  obtain ⟨k, hF⟩ := hF
  refine Ok.loop (fun k a W => ∃ gl19 : Ghost, Gext w0 g11 gl19 ∧ ∃ (x36l19 : Int) (yb8_10l19 : Bool) (yb8_11l19 : Bool) (yb8_12l19 : Bool) (ayown7_0l19 : Option Addr) (cyown7_0l19 : Nat) (yown7_0l19 : List (Int × Int × Int)) (xsyown7_0l19 : List Value) (esyb6_0l19 : Array MapEntry) (ckyb6_0l19 : Nat) (yb6_0l19 : List ((Int) × (Int))), RepL gl19 (.pair (.int .i64) (.pair (.int .i64) (.int .i64))) xsyown7_0l19 yown7_0l19 ∧ RepMap gl19 (.int .i64) false (Value.int .i64) esyb6_0l19.toList yb6_0l19 ∧ StA 69 [(1, .slice axl_0 xl.length cxl_0), (12, pv b9 0), (34, .slice a11_0 (estS (easS xd xl xe).1 xe.2.2.2.2.2.1).length c11_0), (35, .int .i64 ((estS (easS xd xl xe).1 xe.2.2.2.2.2.1).length : Int)), (36, .int .i64 x36l19)] a ∧ StW w0 [.blk b9 (.cells #[pv b8 0] 49), .blk b8 (.cells #[.slice axl_0 xl.length cxl_0, sv xe.1, .int .i64 xe.2.1, .int .i64 xe.2.2.1, .int .i64 xe.2.2.2.1, sv xe.2.2.2.2.1, .bool xe.2.2.2.2.2.1, .bool xe.2.2.2.2.2.2, .slice ayown7_0l19 yown7_0l19.length cyown7_0l19, .map (some b6), .bool yb8_10l19, .bool yb8_11l19, .bool yb8_12l19] 52), .own (.slice ayown7_0l19 yown7_0l19.length cyown7_0l19) 38 3 yown7_0l19.length xsyown7_0l19, .blk b6 (.map esyb6_0l19 ckyb6_0l19)] gl19 W ∧ esel19 xd xl xe K k x36l19 yb8_10l19 yb8_11l19 yb8_12l19 yown7_0l19 yb6_0l19) k ?_ ?_
  ·
   exact fun a W hA hW => ⟨g11, (Gext.refl w0 g11), 0, false, false, false, none, 0, ([] : List (Int × Int × Int)), [], (#[] : Array MapEntry), 0, ([] : List ((Int) × (Int))), hL7, hM6, hA.sub (by kernel_rfl), hW.sub (.cons_cons _ (.cons_cons _ (.cons_cons _ (.cons_cons _ (.cons _ (.cons _ .slnil)))))), hF⟩
  ·
   clear hF
   rintro k19 a W ⟨gl19, hxl19, x36l19, yb8_10l19, yb8_11l19, yb8_12l19, ayown7_0l19, cyown7_0l19, yown7_0l19, xsyown7_0l19, esyb6_0l19, ckyb6_0l19, yb6_0l19, hLyown7_0l19, hMyb6_0l19, hA, hW, hF⟩
   cases k19 with
   | zero => exact (hF : False).elim
   | succ k19 =>
    refine (?_ : Ok _ _ _ _ _ _) a W hA hW
    clear hA hW
    replace hRxl_0 := hRxl_0.mono hxl19.1
    replace hR11_0 := hR11_0.mono hxl19.1
    refine Ok.seq (Ok.region (Ok.bat 1 [1, 12, 34, 35, 36] [(37, .bool (decide (x36l19 < ((estS (easS xd xl xe).1 xe.2.2.2.2.2.1).length : Int))))] ?_))
    refine Ok.nil (Ok.thenN (Ok.seq (Ok.cond (b := decide (x36l19 < ((estS (easS xd xl xe).1 xe.2.2.2.2.2.1).length : Int))) rfl (fun hc12 => ?_) (fun hc12 => ?_))))
    ·replace hF := hF.1 hc12
     refine Ok.skip (Ok.thenN (Ok.cut (fun a W => ∃ gj26 : Ghost, Gext w0 gl19 gj26 ∧ ∃ (yb8_10j26 : Bool) (yb8_11j26 : Bool) (yb8_12j26 : Bool) (ayown7_0j26 : Option Addr) (cyown7_0j26 : Nat) (yown7_0j26 : List (Int × Int × Int)) (xsyown7_0j26 : List Value) (esyb6_0j26 : Array MapEntry) (ckyb6_0j26 : Nat) (yb6_0j26 : List ((Int) × (Int))), RepL gj26 (.pair (.int .i64) (.pair (.int .i64) (.int .i64))) xsyown7_0j26 yown7_0j26 ∧ RepMap gj26 (.int .i64) false (Value.int .i64) esyb6_0j26.toList yb6_0j26 ∧ StA 69 [(1, .slice axl_0 xl.length cxl_0), (12, pv b9 0), (34, .slice a11_0 (estS (easS xd xl xe).1 xe.2.2.2.2.2.1).length c11_0), (35, .int .i64 ((estS (easS xd xl xe).1 xe.2.2.2.2.2.1).length : Int)), (36, .int .i64 x36l19)] a ∧ StW w0 [.blk b9 (.cells #[pv b8 0] 49), .blk b8 (.cells #[.slice axl_0 xl.length cxl_0, sv xe.1, .int .i64 xe.2.1, .int .i64 xe.2.2.1, .int .i64 xe.2.2.2.1, sv xe.2.2.2.2.1, .bool xe.2.2.2.2.2.1, .bool xe.2.2.2.2.2.2, .slice ayown7_0j26 yown7_0j26.length cyown7_0j26, .map (some b6), .bool yb8_10j26, .bool yb8_11j26, .bool yb8_12j26] 52), .own (.slice ayown7_0j26 yown7_0j26.length cyown7_0j26) 38 3 yown7_0j26.length xsyown7_0j26, .blk b6 (.map esyb6_0j26 ckyb6_0j26)] gj26 W ∧ esej26 x36l19 yb8_10j26 yb8_11j26 yb8_12j26 yown7_0j26 yb6_0j26 (esel19 xd xl xe K k19)) ?_ ?_))
     ·
      refine Ok.block (Ok.seq (Ok.region ?_))
      obtain ⟨h014, h114, hF⟩ := hF
      have he14 := get_of (l := (estS (easS xd xl xe).1 xe.2.2.2.2.2.1)) (default : Int × Int × Bool) h114
      generalize hg14 : ((estS (easS xd xl xe).1 xe.2.2.2.2.2.1).getD (Int.toNat x36l19) default) = e14 at he14 hF ⊢
      refine Ok.op rfl (OpOk.indexRo (e := .pair (.int .i64) (.pair (.int .i64) (.bool))) (i := x36l19) (el := e14) rfl rfl Tryd.underlying53 (by kernel_rfl) hR11_0 h014 he14 rfl fun q13 o13 cs13 _ hat13 hr13 => ?_)
      obtain ⟨_, _, rfl, rfl, ⟨_, _, rfl, rfl, rfl⟩⟩ := hr13
      replace hat13 : At gl19 q13 o13 [.int .i64 e14.1, .int .i64 e14.2.1, .bool e14.2.2] := hat13
      refine Ok.op rfl (OpOk.step (v := .agg #[.int .i64 e14.1, .int .i64 e14.2.1, .bool e14.2.2]) (Yields.loadAggRo 0 3 #[.int .i64 e14.1, .int .i64 e14.2.1, .bool e14.2.2] hat13 (by kernel_rfl) Tryd.underlying56 rfl (by kernel_rfl) (by kernel_rfl) (by kernel_rfl)) rfl rfl (Ok.op rfl (OpOk.alloc (z := .agg #[.int .i64 0, .int .i64 0, .bool false]) (cs := #[.int .i64 0, .int .i64 0, .bool false]) (by kernel_rfl) (by kernel_rfl) rfl fun b15 => ?_)))
      refine Ok.op rfl (OpOk.sto (k := 3) (v := .agg #[.int .i64 e14.1, .int .i64 e14.2.1, .bool e14.2.2]) 0 #[.int .i64 e14.1, .int .i64 e14.2.1, .bool e14.2.2] rfl rfl rfl ?_)
      refine Ok.nil (Ok.thenN (Ok.cut (fun a W => ∃ gj30 : Ghost, Gext w0 gl19 gj30 ∧ StA 69 [(1, .slice axl_0 xl.length cxl_0), (12, pv b9 0), (14, pv b15 0), (34, .slice a11_0 (estS (easS xd xl xe).1 xe.2.2.2.2.2.1).length c11_0), (35, .int .i64 ((estS (easS xd xl xe).1 xe.2.2.2.2.2.1).length : Int)), (36, .int .i64 x36l19), (51, .bool ((!yb8_10l19) && (!yb8_11l19)))] a ∧ StW w0 [.blk b15 (.cells #[.int .i64 e14.1, .int .i64 e14.2.1, .bool e14.2.2] 56), .blk b9 (.cells #[pv b8 0] 49), .blk b8 (.cells #[.slice axl_0 xl.length cxl_0, sv xe.1, .int .i64 xe.2.1, .int .i64 xe.2.2.1, .int .i64 xe.2.2.2.1, sv xe.2.2.2.2.1, .bool xe.2.2.2.2.2.1, .bool xe.2.2.2.2.2.2, .slice ayown7_0l19 yown7_0l19.length cyown7_0l19, .map (some b6), .bool yb8_10l19, .bool yb8_11l19, .bool yb8_12l19] 52), .own (.slice ayown7_0l19 yown7_0l19.length cyown7_0l19) 38 3 yown7_0l19.length xsyown7_0l19, .blk b6 (.map esyb6_0l19 ckyb6_0l19)] gj30 W ∧ esej30 xl xe e14 x36l19 yb8_10l19 yb8_11l19 yb8_12l19 yown7_0l19 yb6_0l19 (esel19 xd xl xe K k19)) ?_ ?_))
      ·
       refine Ok.region (Ok.op rfl (OpOk.step (v := pv b8 0) (Yields.load 1 rfl rfl Tryd.underlying49 rfl (by kernel_rfl)) rfl rfl (Ok.bat 2 [1, 12, 34, 35, 36] [(14, pv b15 0), (42, pv b8 10)] ?_)))
       refine Ok.op rfl (OpOk.step (v := .bool yb8_10l19) (Yields.load 2 rfl rfl Tryd.underlying4 rfl (by kernel_rfl)) rfl rfl (Ok.bat 2 [1, 12, 14, 34, 35, 36] [(45, .bool (!yb8_10l19))] ?_))
       refine Ok.boolAt 45 (!yb8_10l19) rfl (fun hc36 => ?_) (fun hc36 => ?_)
       ·replace hF := hF.1 hc36
        refine Ok.opYes (j := 5) (d := 45) (want := true) (b := true) rfl (by kernel_rfl) (by kernel_rfl) rfl (OpOk.step (v := pv b8 0) (Yields.load 1 rfl rfl Tryd.underlying49 rfl (by kernel_rfl)) rfl rfl (Ok.bat 2 [1, 12, 14, 34, 35, 36] [(45, .bool true), (48, pv b8 11)] ?_))
        refine Ok.opYes (j := 5) (d := 45) (want := true) (b := true) rfl (by kernel_rfl) (by kernel_rfl) rfl (OpOk.step (v := .bool yb8_11l19) (Yields.load 2 rfl rfl Tryd.underlying4 rfl (by kernel_rfl)) rfl rfl (Ok.bat 2 [1, 12, 14, 34, 35, 36] [(51, .bool (!yb8_11l19))] ?_))
        refine Ok.nil (Ok.thenN (Ok.reval 51 rfl (show (.bool (!yb8_11l19) : Value) = .bool ((!yb8_10l19) && (!yb8_11l19)) from congrArg (Value.bool) (mand_t hc36)) ?_))
        exact fun a W hA hW => ⟨gl19, (Gext.refl w0 gl19), hA.sub (by kernel_rfl), hW, hF⟩
       ·replace hF := hF.2 hc36
        refine Ok.bat 6 [1, 12, 14, 34, 35, 36] [(51, .bool false)] ?_
        refine Ok.nil (Ok.thenN (Ok.reval 51 rfl (show (.bool false : Value) = .bool ((!yb8_10l19) && (!yb8_11l19)) from congrArg (Value.bool) (mand_f hc36)) ?_))
        exact fun a W hA hW => ⟨gl19, (Gext.refl w0 gl19), hA.sub (by kernel_rfl), hW, hF⟩
      ·
       clear hF
       rintro a W ⟨gj30, hxj30, hA, hW, hF⟩
       refine (?_ : Ok _ _ _ _ _ _) a W hA hW
       clear hA hW
       replace hRxl_0 := hRxl_0.mono hxj30.1
       replace hR11_0 := hR11_0.mono hxj30.1
       replace hLyown7_0l19 := hLyown7_0l19.mono hxj30.1
       replace hMyb6_0l19 := hMyb6_0l19.mono hxj30.1
       refine Ok.cond (b := ((!yb8_10l19) && (!yb8_11l19))) rfl (fun hc16 => ?_) (fun hc16 => ?_)
       ·replace hF := hF.1 hc16
        refine Ok.region (Ok.op rfl (OpOk.step (v := pv b8 0) (Yields.load 1 rfl rfl Tryd.underlying49 rfl (by kernel_rfl)) rfl rfl (Ok.op rfl (OpOk.step (v := .agg #[.int .i64 e14.1, .int .i64 e14.2.1, .bool e14.2.2]) (Yields.loadAgg 0 3 #[.int .i64 e14.1, .int .i64 e14.2.1, .bool e14.2.2] rfl rfl Tryd.underlying56 rfl (by kernel_rfl) (by kernel_rfl) (by kernel_rfl)) rfl rfl (Ok.op rfl (OpOk.inline (args := #[pv b8 0, .agg #[.int .i64 e14.1, .int .i64 e14.2.1, .bool e14.2.2]]) 49 [(0, pv b8 0), (1, .agg #[.int .i64 e14.1, .int .i64 e14.2.1, .bool e14.2.2])] enr Tryd.func15 rfl rfl rfl rfl (Ok.seq (Ok.region (Ok.op rfl (OpOk.box (v := .agg #[.int .i64 e14.1, .int .i64 e14.2.1, .bool e14.2.2]) (cs := #[.int .i64 e14.1, .int .i64 e14.2.1, .bool e14.2.2]) rfl (by kernel_rfl) rfl fun b17 => ?_))))))))))
        refine Ok.nil (Ok.thenN (Ok.seq (Ok.region (Ok.batch 3 [(0, pv b8 0), (3, pv b17 0), (8, pv b8 0)] (by kernel_rfl) (Ok.op rfl (OpOk.step (v := .slice axl_0 xl.length cxl_0) (Yields.load 3 rfl rfl Tryd.underlying25 rfl (by kernel_rfl)) rfl rfl (Ok.bat 2 [0, 3] [(9, .slice axl_0 xl.length cxl_0), (10, .int .i64 (xl.length : Int)), (11, .int .i64 0)] ?_)))))))
        refine Ok.nil (Ok.thenN (Ok.block ?_))
        obtain ⟨k, hF⟩ := hF
        refine Ok.loop (fun k a W => ∃ gl6i54 : Ghost, Gext w0 gj30 gl6i54 ∧ ∃ (x11l6i54 : Int) (yb8_10l6i54 : Bool) (yb8_11l6i54 : Bool) (yb8_12l6i54 : Bool) (ayown7_0l6i54 : Option Addr) (cyown7_0l6i54 : Nat) (yown7_0l6i54 : List (Int × Int × Int)) (xsyown7_0l6i54 : List Value) (esyb6_0l6i54 : Array MapEntry) (ckyb6_0l6i54 : Nat) (yb6_0l6i54 : List ((Int) × (Int))), RepL gl6i54 (.pair (.int .i64) (.pair (.int .i64) (.int .i64))) xsyown7_0l6i54 yown7_0l6i54 ∧ RepMap gl6i54 (.int .i64) false (Value.int .i64) esyb6_0l6i54.toList yb6_0l6i54 ∧ StA 49 [(0, pv b8 0), (3, pv b17 0), (9, .slice axl_0 xl.length cxl_0), (10, .int .i64 (xl.length : Int)), (11, .int .i64 x11l6i54)] a ∧ StW w0 [.blk b17 (.cells #[.int .i64 e14.1, .int .i64 e14.2.1, .bool e14.2.2] 56), .blk b9 (.cells #[pv b8 0] 49), .blk b8 (.cells #[.slice axl_0 xl.length cxl_0, sv xe.1, .int .i64 xe.2.1, .int .i64 xe.2.2.1, .int .i64 xe.2.2.2.1, sv xe.2.2.2.2.1, .bool xe.2.2.2.2.2.1, .bool xe.2.2.2.2.2.2, .slice ayown7_0l6i54 yown7_0l6i54.length cyown7_0l6i54, .map (some b6), .bool yb8_10l6i54, .bool yb8_11l6i54, .bool yb8_12l6i54] 52), .own (.slice ayown7_0l6i54 yown7_0l6i54.length cyown7_0l6i54) 38 3 yown7_0l6i54.length xsyown7_0l6i54, .blk b6 (.map esyb6_0l6i54 ckyb6_0l6i54)] gl6i54 W ∧ esel6x2 xl xe e14 x36l19 (esel19 xd xl xe K k19) k x11l6i54 yb8_10l6i54 yb8_11l6i54 yb8_12l6i54 yown7_0l6i54 yb6_0l6i54) k ?_ ?_
        ·
         exact fun a W hA hW => ⟨gj30, (Gext.refl w0 gj30), 0, yb8_10l19, yb8_11l19, yb8_12l19, ayown7_0l19, cyown7_0l19, yown7_0l19, xsyown7_0l19, esyb6_0l19, ckyb6_0l19, yb6_0l19, hLyown7_0l19, hMyb6_0l19, hA.sub (by kernel_rfl), hW.sub (.cons_cons _ (.cons _ (.cons_cons _ (.cons_cons _ (.cons_cons _ (.cons_cons _ .slnil)))))), hF⟩
        ·
         clear hF
         rintro k6x2 a W ⟨gl6i54, hxl6i54, x11l6i54, yb8_10l6i54, yb8_11l6i54, yb8_12l6i54, ayown7_0l6i54, cyown7_0l6i54, yown7_0l6i54, xsyown7_0l6i54, esyb6_0l6i54, ckyb6_0l6i54, yb6_0l6i54, hLyown7_0l6i54, hMyb6_0l6i54, hA, hW, hF⟩
         cases k6x2 with
         | zero => exact (hF : False).elim
         | succ k6x2 =>
          refine (?_ : Ok _ _ _ _ _ _) a W hA hW
          clear hA hW
          replace hRxl_0 := hRxl_0.mono hxl6i54.1
          replace hR11_0 := hR11_0.mono hxl6i54.1
          refine Ok.seq (Ok.region (Ok.bat 1 [0, 3, 9, 10, 11] [(12, .bool (decide (x11l6i54 < (xl.length : Int))))] ?_))
          refine Ok.nil (Ok.thenN (Ok.seq (Ok.cond (b := decide (x11l6i54 < (xl.length : Int))) rfl (fun hc18 => ?_) (fun hc18 => ?_))))
          ·replace hF := hF.1 hc18
           refine Ok.skip (Ok.thenN (Ok.cut (fun a W => ∃ gj13i54 : Ghost, Gext w0 gl6i54 gj13i54 ∧ ∃ (ayown7_0j13i54 : Option Addr) (cyown7_0j13i54 : Nat) (xsyown7_0j13i54 : List Value) (esyb6_0j13i54 : Array MapEntry) (ckyb6_0j13i54 : Nat) (yb6_0j13i54 : List ((Int) × (Int))), RepL gj13i54 (.pair (.int .i64) (.pair (.int .i64) (.int .i64))) xsyown7_0j13i54 (eseV37 xl xe e14 x11l6i54 yb8_11l6i54 yown7_0l6i54) ∧ RepMap gj13i54 (.int .i64) false (Value.int .i64) esyb6_0j13i54.toList yb6_0j13i54 ∧ StA 49 [(0, pv b8 0), (3, pv b17 0), (9, .slice axl_0 xl.length cxl_0), (10, .int .i64 (xl.length : Int)), (11, .int .i64 x11l6i54)] a ∧ StW w0 [.blk b17 (.cells #[.int .i64 e14.1, .int .i64 e14.2.1, .bool e14.2.2] 56), .blk b9 (.cells #[pv b8 0] 49), .blk b8 (.cells #[.slice axl_0 xl.length cxl_0, sv xe.1, .int .i64 xe.2.1, .int .i64 xe.2.2.1, .int .i64 xe.2.2.2.1, sv xe.2.2.2.2.1, .bool xe.2.2.2.2.2.1, .bool xe.2.2.2.2.2.2, .slice ayown7_0j13i54 (eseV37 xl xe e14 x11l6i54 yb8_11l6i54 yown7_0l6i54).length cyown7_0j13i54, .map (some b6), .bool (eseV34 xl xe e14 x11l6i54 yb8_10l6i54 yb8_11l6i54), .bool (eseV35 xl xe e14 x11l6i54 yb8_11l6i54), .bool (eseV36 xl xe e14 x11l6i54 yb8_11l6i54 yb8_12l6i54)] 52), .own (.slice ayown7_0j13i54 (eseV37 xl xe e14 x11l6i54 yb8_11l6i54 yown7_0l6i54).length cyown7_0j13i54) 38 3 (eseV37 xl xe e14 x11l6i54 yb8_11l6i54 yown7_0l6i54).length xsyown7_0j13i54, .blk b6 (.map esyb6_0j13i54 ckyb6_0j13i54)] gj13i54 W ∧ esej13i54 xl xe e14 yb6_0j13i54 x11l6i54 yb8_10l6i54 yb8_11l6i54 yb8_12l6i54 yown7_0l6i54 (esel6x2 xl xe e14 x36l19 (esel19 xd xl xe K k19) k6x2)) ?_ ?_))
           ·
            refine Ok.block (Ok.seq (Ok.region ?_))
            obtain ⟨h020, h120, hF⟩ := hF
            have he20 := get_of (l := xl) (default : LI) h120
            generalize hg20 : (xl.getD (Int.toNat x11l6i54) default) = e20 at he20 hF ⊢
            refine Ok.op rfl (OpOk.indexRo (e := .pair (.int .i64) (.pair (.int .i64) (.pair (.str) (.pair (.bool) (.pair (.bool) (.pair (.bool) (.pair (.bool) (.bool)))))))) (i := x11l6i54) (el := e20) rfl rfl Tryd.underlying25 (by kernel_rfl) hRxl_0 h020 he20 rfl fun q19 o19 cs19 _ hat19 hr19 => ?_)
            obtain ⟨_, _, rfl, rfl, ⟨_, _, rfl, rfl, ⟨_, _, rfl, rfl, ⟨_, _, rfl, rfl, ⟨_, _, rfl, rfl, ⟨_, _, rfl, rfl, ⟨_, _, rfl, rfl, rfl⟩⟩⟩⟩⟩⟩⟩ := hr19
            replace hat19 : At gl6i54 q19 o19 [.int .i64 e20.1, .int .i64 e20.2.1, sv e20.2.2.1, .bool e20.2.2.2.1, .bool e20.2.2.2.2.1, .bool e20.2.2.2.2.2.1, .bool e20.2.2.2.2.2.2.1, .bool e20.2.2.2.2.2.2.2] := hat19
            refine Ok.op rfl (OpOk.step (v := .agg #[.int .i64 e20.1, .int .i64 e20.2.1, sv e20.2.2.1, .bool e20.2.2.2.1, .bool e20.2.2.2.2.1, .bool e20.2.2.2.2.2.1, .bool e20.2.2.2.2.2.2.1, .bool e20.2.2.2.2.2.2.2]) (Yields.loadAggRo 0 8 #[.int .i64 e20.1, .int .i64 e20.2.1, sv e20.2.2.1, .bool e20.2.2.2.1, .bool e20.2.2.2.2.1, .bool e20.2.2.2.2.2.1, .bool e20.2.2.2.2.2.2.1, .bool e20.2.2.2.2.2.2.2] hat19 (by kernel_rfl) Tryd.underlying41 rfl (by kernel_rfl) (by kernel_rfl) (by kernel_rfl)) rfl rfl (Ok.op rfl (OpOk.alloc (z := .agg #[.int .i64 0, .int .i64 0, sv ([] : Bs), .bool false, .bool false, .bool false, .bool false, .bool false]) (cs := #[.int .i64 0, .int .i64 0, sv ([] : Bs), .bool false, .bool false, .bool false, .bool false, .bool false]) (by kernel_rfl) (by kernel_rfl) rfl fun b21 => ?_)))
            refine Ok.op rfl (OpOk.sto (k := 8) (v := .agg #[.int .i64 e20.1, .int .i64 e20.2.1, sv e20.2.2.1, .bool e20.2.2.2.1, .bool e20.2.2.2.2.1, .bool e20.2.2.2.2.2.1, .bool e20.2.2.2.2.2.2.1, .bool e20.2.2.2.2.2.2.2]) 0 #[.int .i64 e20.1, .int .i64 e20.2.1, sv e20.2.2.1, .bool e20.2.2.2.1, .bool e20.2.2.2.2.1, .bool e20.2.2.2.2.2.1, .bool e20.2.2.2.2.2.2.1, .bool e20.2.2.2.2.2.2.2] rfl rfl rfl ?_)
            refine Ok.nil (Ok.thenN (Ok.cut (fun a W => ∃ gj17i54 : Ghost, Gext w0 gl6i54 gj17i54 ∧ StA 49 [(0, pv b8 0), (3, pv b17 0), (5, pv b21 0), (9, .slice axl_0 xl.length cxl_0), (10, .int .i64 (xl.length : Int)), (11, .int .i64 x11l6i54), (43, .bool (eseV28 xe e14 yb8_11l6i54 e20))] a ∧ StW w0 [.blk b21 (.cells #[.int .i64 e20.1, .int .i64 e20.2.1, sv e20.2.2.1, .bool e20.2.2.2.1, .bool e20.2.2.2.2.1, .bool e20.2.2.2.2.2.1, .bool e20.2.2.2.2.2.2.1, .bool e20.2.2.2.2.2.2.2] 41), .blk b17 (.cells #[.int .i64 e14.1, .int .i64 e14.2.1, .bool e14.2.2] 56), .blk b9 (.cells #[pv b8 0] 49), .blk b8 (.cells #[.slice axl_0 xl.length cxl_0, sv xe.1, .int .i64 xe.2.1, .int .i64 xe.2.2.1, .int .i64 xe.2.2.2.1, sv xe.2.2.2.2.1, .bool xe.2.2.2.2.2.1, .bool xe.2.2.2.2.2.2, .slice ayown7_0l6i54 yown7_0l6i54.length cyown7_0l6i54, .map (some b6), .bool yb8_10l6i54, .bool yb8_11l6i54, .bool yb8_12l6i54] 52), .own (.slice ayown7_0l6i54 yown7_0l6i54.length cyown7_0l6i54) 38 3 yown7_0l6i54.length xsyown7_0l6i54, .blk b6 (.map esyb6_0l6i54 ckyb6_0l6i54)] gj17i54 W ∧ esej17i54 xl xe e14 x11l6i54 yb8_10l6i54 yb8_11l6i54 yb8_12l6i54 yown7_0l6i54 yb6_0l6i54 e20 (esel6x2 xl xe e14 x36l19 (esel19 xd xl xe K k19) k6x2)) ?_ ?_))
            ·
             refine Ok.quiet' (by kernel_rfl) (by kernel_rfl) (OkQ.bat 3 [0, 3, 9, 10, 11] [(5, pv b21 0), (17, pv b8 11)] ?_)
             refine OkQ.op rfl (OpQ.step (v := .bool yb8_11l6i54) (Yields.load 3 rfl rfl Tryd.underlying4 rfl (by kernel_rfl)) rfl rfl (OkQ.bat 2 [0, 3, 5, 9, 10, 11] [(20, .bool (!yb8_11l6i54))] ?_))
             refine OkQ.boolAt 20 (!yb8_11l6i54) rfl (fun hc33 => ?_) (fun hc33 => ?_)
             ·replace hF := hF.1 hc33
              refine OkQ.bat 1 [0, 3, 5, 9, 10, 11] [(20, .bool true), (21, pv b21 1)] ?_
              refine OkQ.opYes (j := 5) (d := 20) (want := true) (b := true) rfl (by kernel_rfl) (by kernel_rfl) rfl (OpQ.step (v := .int .i64 e20.2.1) (Yields.load 0 rfl rfl Tryd.underlying3 rfl (by kernel_rfl)) rfl rfl (OkQ.bat 1 [0, 3, 5, 9, 10, 11, 20] [(22, .int .i64 e20.2.1), (23, pv b17 0)] ?_))
              refine OkQ.opYes (j := 5) (d := 20) (want := true) (b := true) rfl (by kernel_rfl) (by kernel_rfl) rfl (OpQ.step (v := .int .i64 e14.1) (Yields.load 1 rfl rfl Tryd.underlying3 rfl (by kernel_rfl)) rfl rfl (OkQ.bat 3 [0, 3, 5, 9, 10, 11] [(27, .bool (e20.2.1 == e14.1))] ?_))
              refine OkQ.boolAt 27 ((e20.2.1 == e14.1)) rfl (fun hc34 => ?_) (fun hc34 => ?_)
              ·replace hF := hF.1 hc34
               refine OkQ.bat 1 [0, 3, 5, 9, 10, 11] [(27, .bool true), (28, pv b21 2)] ?_
               refine OkQ.opYes (j := 12) (d := 27) (want := true) (b := true) rfl (by kernel_rfl) (by kernel_rfl) rfl (OpQ.step (v := sv e20.2.2.1) (Yields.load 0 rfl rfl Tryd.underlying9 rfl (by kernel_rfl)) rfl rfl (OkQ.bat 4 [0, 3, 5, 9, 10, 11, 27] [(29, sv e20.2.2.1), (33, pv b8 1)] ?_))
               refine OkQ.opYes (j := 12) (d := 27) (want := true) (b := true) rfl (by kernel_rfl) (by kernel_rfl) rfl (OpQ.step (v := sv xe.1) (Yields.load 3 rfl rfl Tryd.underlying9 rfl (by kernel_rfl)) rfl rfl (OkQ.opYes (j := 12) (d := 27) (want := true) (b := true) rfl (by kernel_rfl) (by kernel_rfl) rfl (OpQ.step (v := .bool (e20.2.2.1 == xe.1)) (Yields.strCmp (f := .eql) (a := e20.2.2.1) (b := xe.1) (by kernel_rfl) (by kernel_rfl) rfl) rfl rfl (OkQ.bat 2 [0, 3, 5, 9, 10, 11] [(37, .bool (e20.2.2.1 == xe.1))] ?_))))
               refine OkQ.boolAt 37 ((e20.2.2.1 == xe.1)) rfl (fun hc35 => ?_) (fun hc35 => ?_)
               ·replace hF := hF.1 hc35
                refine OkQ.bat 1 [0, 3, 5, 9, 10, 11] [(37, .bool true), (38, pv b21 3)] ?_
                refine OkQ.opYes (j := 22) (d := 37) (want := true) (b := true) rfl (by kernel_rfl) (by kernel_rfl) rfl (OpQ.step (v := .bool e20.2.2.2.1) (Yields.load 0 rfl rfl Tryd.underlying4 rfl (by kernel_rfl)) rfl rfl (OkQ.bat 1 [0, 3, 5, 9, 10, 11, 37] [(39, .bool e20.2.2.2.1), (40, pv b17 2)] ?_))
                refine OkQ.opYes (j := 22) (d := 37) (want := true) (b := true) rfl (by kernel_rfl) (by kernel_rfl) rfl (OpQ.step (v := .bool e14.2.2) (Yields.load 1 rfl rfl Tryd.underlying4 rfl (by kernel_rfl)) rfl rfl (OkQ.bat 2 [0, 3, 5, 9, 10, 11] [(43, .bool (e20.2.2.2.1 == e14.2.2))] ?_))
                refine OkQ.nil (Ok.thenN (Ok.reval 43 rfl (show (.bool (e20.2.2.2.1 == e14.2.2) : Value) = .bool (eseV28 xe e14 yb8_11l6i54 e20) from congrArg (Value.bool) ((Eq.trans ((Eq.trans (mand_t hc35) (mand_t hc34))) (mand_t hc33)))) ?_))
                exact fun a W hA hW => ⟨gl6i54, (Gext.refl w0 gl6i54), hA.sub (by kernel_rfl), hW, hF⟩
               ·replace hF := hF.2 hc35
                refine OkQ.bat 6 [0, 3, 5, 9, 10, 11] [(43, .bool false)] ?_
                refine OkQ.nil (Ok.thenN (Ok.reval 43 rfl (show (.bool false : Value) = .bool (eseV28 xe e14 yb8_11l6i54 e20) from congrArg (Value.bool) ((Eq.trans ((Eq.trans (mand_f hc35) (mand_t hc34))) (mand_t hc33)))) ?_))
                exact fun a W hA hW => ⟨gl6i54, (Gext.refl w0 gl6i54), hA.sub (by kernel_rfl), hW, hF⟩
              ·replace hF := hF.2 hc34
               refine OkQ.bat 16 [0, 3, 5, 9, 10, 11] [(43, .bool false)] ?_
               refine OkQ.nil (Ok.thenN (Ok.reval 43 rfl (show (.bool false : Value) = .bool (eseV28 xe e14 yb8_11l6i54 e20) from congrArg (Value.bool) ((Eq.trans (mand_f hc34) (mand_t hc33)))) ?_))
               exact fun a W hA hW => ⟨gl6i54, (Gext.refl w0 gl6i54), hA.sub (by kernel_rfl), hW, hF⟩
             ·replace hF := hF.2 hc33
              refine OkQ.bat 23 [0, 3, 5, 9, 10, 11] [(43, .bool false)] ?_
              refine OkQ.nil (Ok.thenN (Ok.reval 43 rfl (show (.bool false : Value) = .bool (eseV28 xe e14 yb8_11l6i54 e20) from congrArg (Value.bool) (mand_f hc33)) ?_))
              exact fun a W hA hW => ⟨gl6i54, (Gext.refl w0 gl6i54), hA.sub (by kernel_rfl), hW, hF⟩
            ·
             clear hF
             rintro a W ⟨gj17i54, hxj17i54, hA, hW, hF⟩
             refine (?_ : Ok _ _ _ _ _ _) a W hA hW
             clear hA hW
             replace hRxl_0 := hRxl_0.mono hxj17i54.1
             replace hLyown7_0l6i54 := hLyown7_0l6i54.mono hxj17i54.1
             replace hMyb6_0l6i54 := hMyb6_0l6i54.mono hxj17i54.1
             replace hR11_0 := hR11_0.mono hxj17i54.1
             refine Ok.cond (b := (eseV28 xe e14 yb8_11l6i54 e20)) rfl (fun hc22 => ?_) (fun hc22 => ?_)
             ·replace hF := hF.1 hc22
              refine Ok.region (Ok.bat 1 [0, 3, 5, 9, 10, 11] [(44, pv b8 0)] ?_)
              refine Ok.op rfl (OpOk.step (v := .agg #[.int .i64 e20.1, .int .i64 e20.2.1, sv e20.2.2.1, .bool e20.2.2.2.1, .bool e20.2.2.2.2.1, .bool e20.2.2.2.2.2.1, .bool e20.2.2.2.2.2.2.1, .bool e20.2.2.2.2.2.2.2]) (Yields.loadAgg 0 8 #[.int .i64 e20.1, .int .i64 e20.2.1, sv e20.2.2.1, .bool e20.2.2.2.1, .bool e20.2.2.2.2.1, .bool e20.2.2.2.2.2.1, .bool e20.2.2.2.2.2.2.1, .bool e20.2.2.2.2.2.2.2] rfl rfl Tryd.underlying41 rfl (by kernel_rfl) (by kernel_rfl) (by kernel_rfl)) rfl rfl (Ok.op rfl (OpOk.step (v := .agg #[.int .i64 e14.1, .int .i64 e14.2.1, .bool e14.2.2]) (Yields.loadAgg 1 3 #[.int .i64 e14.1, .int .i64 e14.2.1, .bool e14.2.2] rfl rfl Tryd.underlying56 rfl (by kernel_rfl) (by kernel_rfl) (by kernel_rfl)) rfl rfl (Ok.op rfl (OpOk.cut (fun a W => ∃ gji27 : Ghost, Gext w0 gj17i54 gji27 ∧ ∃ (ayown7_0ji27 : Option Addr) (cyown7_0ji27 : Nat) (xsyown7_0ji27 : List Value) (esyb6_0ji27 : Array MapEntry) (ckyb6_0ji27 : Nat) (yb6_0ji27 : List ((Int) × (Int))), RepL gji27 (.pair (.int .i64) (.pair (.int .i64) (.int .i64))) xsyown7_0ji27 (eseV29 e14 yown7_0l6i54 e20) ∧ RepMap gji27 (.int .i64) false (Value.int .i64) esyb6_0ji27.toList yb6_0ji27 ∧ StA 49 [(0, pv b8 0), (3, pv b17 0), (9, .slice axl_0 xl.length cxl_0), (10, .int .i64 (xl.length : Int)), (11, .int .i64 x11l6i54)] a ∧ StW w0 [.blk b17 (.cells #[.int .i64 e14.1, .int .i64 e14.2.1, .bool e14.2.2] 56), .blk b9 (.cells #[pv b8 0] 49), .blk b8 (.cells #[.slice axl_0 xl.length cxl_0, sv xe.1, .int .i64 xe.2.1, .int .i64 xe.2.2.1, .int .i64 xe.2.2.2.1, sv xe.2.2.2.2.1, .bool xe.2.2.2.2.2.1, .bool xe.2.2.2.2.2.2, .slice ayown7_0ji27 (eseV29 e14 yown7_0l6i54 e20).length cyown7_0ji27, .map (some b6), .bool (yb8_10l6i54 || e20.2.2.2.2.2.1), .bool (yb8_11l6i54 || e20.2.2.2.2.2.2.1), .bool (yb8_12l6i54 || (e20.2.2.2.2.2.2.2 && xe.2.2.2.2.2.2))] 52), .own (.slice ayown7_0ji27 (eseV29 e14 yown7_0l6i54 e20).length cyown7_0ji27) 38 3 (eseV29 e14 yown7_0l6i54 e20).length xsyown7_0ji27, .blk b6 (.map esyb6_0ji27 ckyb6_0ji27)] gji27 W ∧ eseji27 xl xe e14 x11l6i54 yb8_10l6i54 yb8_11l6i54 yb8_12l6i54 yown7_0l6i54 (esel6x2 xl xe e14 x36l19 (esel19 xd xl xe K k19) k6x2) yb6_0ji27) ?_ ?_)))))
              ·
               refine OpOk.inline (args := #[pv b8 0, .agg #[.int .i64 e20.1, .int .i64 e20.2.1, sv e20.2.2.1, .bool e20.2.2.2.1, .bool e20.2.2.2.2.1, .bool e20.2.2.2.2.2.1, .bool e20.2.2.2.2.2.2.1, .bool e20.2.2.2.2.2.2.2], .agg #[.int .i64 e14.1, .int .i64 e14.2.1, .bool e14.2.2]]) 70 [(0, pv b8 0), (1, .agg #[.int .i64 e20.1, .int .i64 e20.2.1, sv e20.2.2.1, .bool e20.2.2.2.1, .bool e20.2.2.2.2.1, .bool e20.2.2.2.2.2.1, .bool e20.2.2.2.2.2.2.1, .bool e20.2.2.2.2.2.2.2]), (2, .agg #[.int .i64 e14.1, .int .i64 e14.2.1, .bool e14.2.2])] enr Tryd.func27 rfl rfl rfl rfl (Ok.seq (Ok.region (Ok.op rfl (OpOk.box (v := .agg #[.int .i64 e20.1, .int .i64 e20.2.1, sv e20.2.2.1, .bool e20.2.2.2.1, .bool e20.2.2.2.2.1, .bool e20.2.2.2.2.2.1, .bool e20.2.2.2.2.2.2.1, .bool e20.2.2.2.2.2.2.2]) (cs := #[.int .i64 e20.1, .int .i64 e20.2.1, sv e20.2.2.1, .bool e20.2.2.2.1, .bool e20.2.2.2.2.1, .bool e20.2.2.2.2.2.1, .bool e20.2.2.2.2.2.2.1, .bool e20.2.2.2.2.2.2.2]) rfl (by kernel_rfl) rfl fun b23 => ?_))))
               refine Ok.op rfl (OpOk.box (v := .agg #[.int .i64 e14.1, .int .i64 e14.2.1, .bool e14.2.2]) (cs := #[.int .i64 e14.1, .int .i64 e14.2.1, .bool e14.2.2]) rfl (by kernel_rfl) rfl fun b24 => ?_)
               refine Ok.nil (Ok.thenN (Ok.seq (Ok.mix [2, 3, 4, 6, 8, 10, 11] [12] [.blk b24 (.cells #[.int .i64 e14.1, .int .i64 e14.2.1, .bool e14.2.2] 56), .blk b23 (.cells #[.int .i64 e20.1, .int .i64 e20.2.1, sv e20.2.2.1, .bool e20.2.2.2.1, .bool e20.2.2.2.2.1, .bool e20.2.2.2.2.2.1, .bool e20.2.2.2.2.2.2.1, .bool e20.2.2.2.2.2.2.2] 41), .blk b21 (.cells #[.int .i64 e20.1, .int .i64 e20.2.1, sv e20.2.2.1, .bool e20.2.2.2.1, .bool e20.2.2.2.2.1, .bool e20.2.2.2.2.2.1, .bool e20.2.2.2.2.2.2.1, .bool e20.2.2.2.2.2.2.2] 41), .blk b17 (.cells #[.int .i64 e14.1, .int .i64 e14.2.1, .bool e14.2.2] 56), .blk b9 (.cells #[pv b8 0] 49), .blk b6 (.map esyb6_0l6i54 ckyb6_0l6i54)] [(0, true), (1, true), (2, true), (3, true), (4, true), (5, true), (6, true), (7, true), (8, true), (9, true), (10, true), (11, true), (12, false), (13, false), (14, true), (15, true), (16, false)] (by kernel_rfl) (by kernel_rfl) (.cons_cons _ (.cons_cons _ (.cons_cons _ (.cons_cons _ (.cons_cons _ (.cons _ (.cons _ (.cons_cons _ .slnil)))))))) (OkM.batch 4 [(0, pv b8 0), (4, pv b23 0), (5, pv b24 0), (6, pv b8 0), (9, pv b8 8)] (by kernel_rfl) (OkM.head rfl rfl (show _ = [.blk b24 (.cells #[.int .i64 e14.1, .int .i64 e14.2.1, .bool e14.2.2] 56), .blk b23 (.cells #[.int .i64 e20.1, .int .i64 e20.2.1, sv e20.2.2.1, .bool e20.2.2.2.1, .bool e20.2.2.2.2.1, .bool e20.2.2.2.2.2.1, .bool e20.2.2.2.2.2.2.1, .bool e20.2.2.2.2.2.2.2] 41), .blk b21 (.cells #[.int .i64 e20.1, .int .i64 e20.2.1, sv e20.2.2.1, .bool e20.2.2.2.1, .bool e20.2.2.2.2.1, .bool e20.2.2.2.2.2.1, .bool e20.2.2.2.2.2.2.1, .bool e20.2.2.2.2.2.2.2] 41), .blk b17 (.cells #[.int .i64 e14.1, .int .i64 e14.2.1, .bool e14.2.2] 56), .blk b9 (.cells #[pv b8 0] 49), .blk b8 (.cells #[.slice axl_0 xl.length cxl_0, sv xe.1, .int .i64 xe.2.1, .int .i64 xe.2.2.1, .int .i64 xe.2.2.2.1, sv xe.2.2.2.2.1, .bool xe.2.2.2.2.2.1, .bool xe.2.2.2.2.2.2, .slice ayown7_0l6i54 yown7_0l6i54.length cyown7_0l6i54, .map (some b6), .bool yb8_10l6i54, .bool yb8_11l6i54, .bool yb8_12l6i54] 52), .own (.slice ayown7_0l6i54 yown7_0l6i54.length cyown7_0l6i54) 38 3 yown7_0l6i54.length xsyown7_0l6i54, .blk b6 (.map esyb6_0l6i54 ckyb6_0l6i54)] from rfl) (OpQ.step (v := .slice ayown7_0l6i54 yown7_0l6i54.length cyown7_0l6i54) (Yields.load 5 rfl rfl Tryd.underlying32 rfl (by kernel_rfl)) rfl rfl (OkM.bat 1 [0, 4, 5, 6] [(10, .slice ayown7_0l6i54 yown7_0l6i54.length cyown7_0l6i54), (11, pv b23 0)] ?_)))))))
               refine OkM.head rfl rfl (show _ = [.blk b24 (.cells #[.int .i64 e14.1, .int .i64 e14.2.1, .bool e14.2.2] 56), .blk b23 (.cells #[.int .i64 e20.1, .int .i64 e20.2.1, sv e20.2.2.1, .bool e20.2.2.2.1, .bool e20.2.2.2.2.1, .bool e20.2.2.2.2.2.1, .bool e20.2.2.2.2.2.2.1, .bool e20.2.2.2.2.2.2.2] 41), .blk b21 (.cells #[.int .i64 e20.1, .int .i64 e20.2.1, sv e20.2.2.1, .bool e20.2.2.2.1, .bool e20.2.2.2.2.1, .bool e20.2.2.2.2.2.1, .bool e20.2.2.2.2.2.2.1, .bool e20.2.2.2.2.2.2.2] 41), .blk b17 (.cells #[.int .i64 e14.1, .int .i64 e14.2.1, .bool e14.2.2] 56), .blk b9 (.cells #[pv b8 0] 49), .blk b8 (.cells #[.slice axl_0 xl.length cxl_0, sv xe.1, .int .i64 xe.2.1, .int .i64 xe.2.2.1, .int .i64 xe.2.2.2.1, sv xe.2.2.2.2.1, .bool xe.2.2.2.2.2.1, .bool xe.2.2.2.2.2.2, .slice ayown7_0l6i54 yown7_0l6i54.length cyown7_0l6i54, .map (some b6), .bool yb8_10l6i54, .bool yb8_11l6i54, .bool yb8_12l6i54] 52), .own (.slice ayown7_0l6i54 yown7_0l6i54.length cyown7_0l6i54) 38 3 yown7_0l6i54.length xsyown7_0l6i54, .blk b6 (.map esyb6_0l6i54 ckyb6_0l6i54)] from rfl) (OpQ.step (v := .int .i64 e20.1) (Yields.load 1 rfl rfl Tryd.underlying3 rfl (by kernel_rfl)) rfl rfl (OkM.bat 1 [0, 4, 5, 6, 10] [(12, .int .i64 e20.1), (13, pv b24 0)] ?_))
               refine OkM.head rfl rfl (show _ = [.blk b24 (.cells #[.int .i64 e14.1, .int .i64 e14.2.1, .bool e14.2.2] 56), .blk b23 (.cells #[.int .i64 e20.1, .int .i64 e20.2.1, sv e20.2.2.1, .bool e20.2.2.2.1, .bool e20.2.2.2.2.1, .bool e20.2.2.2.2.2.1, .bool e20.2.2.2.2.2.2.1, .bool e20.2.2.2.2.2.2.2] 41), .blk b21 (.cells #[.int .i64 e20.1, .int .i64 e20.2.1, sv e20.2.2.1, .bool e20.2.2.2.1, .bool e20.2.2.2.2.1, .bool e20.2.2.2.2.2.1, .bool e20.2.2.2.2.2.2.1, .bool e20.2.2.2.2.2.2.2] 41), .blk b17 (.cells #[.int .i64 e14.1, .int .i64 e14.2.1, .bool e14.2.2] 56), .blk b9 (.cells #[pv b8 0] 49), .blk b8 (.cells #[.slice axl_0 xl.length cxl_0, sv xe.1, .int .i64 xe.2.1, .int .i64 xe.2.2.1, .int .i64 xe.2.2.2.1, sv xe.2.2.2.2.1, .bool xe.2.2.2.2.2.1, .bool xe.2.2.2.2.2.2, .slice ayown7_0l6i54 yown7_0l6i54.length cyown7_0l6i54, .map (some b6), .bool yb8_10l6i54, .bool yb8_11l6i54, .bool yb8_12l6i54] 52), .own (.slice ayown7_0l6i54 yown7_0l6i54.length cyown7_0l6i54) 38 3 yown7_0l6i54.length xsyown7_0l6i54, .blk b6 (.map esyb6_0l6i54 ckyb6_0l6i54)] from rfl) (OpQ.step (v := .int .i64 e14.1) (Yields.load 0 rfl rfl Tryd.underlying3 rfl (by kernel_rfl)) rfl rfl (OkM.bat 1 [0, 4, 6, 10, 12] [(14, .int .i64 e14.1), (15, pv b24 1)] ?_))
               refine OkM.head rfl rfl (show _ = [.blk b24 (.cells #[.int .i64 e14.1, .int .i64 e14.2.1, .bool e14.2.2] 56), .blk b23 (.cells #[.int .i64 e20.1, .int .i64 e20.2.1, sv e20.2.2.1, .bool e20.2.2.2.1, .bool e20.2.2.2.2.1, .bool e20.2.2.2.2.2.1, .bool e20.2.2.2.2.2.2.1, .bool e20.2.2.2.2.2.2.2] 41), .blk b21 (.cells #[.int .i64 e20.1, .int .i64 e20.2.1, sv e20.2.2.1, .bool e20.2.2.2.1, .bool e20.2.2.2.2.1, .bool e20.2.2.2.2.2.1, .bool e20.2.2.2.2.2.2.1, .bool e20.2.2.2.2.2.2.2] 41), .blk b17 (.cells #[.int .i64 e14.1, .int .i64 e14.2.1, .bool e14.2.2] 56), .blk b9 (.cells #[pv b8 0] 49), .blk b8 (.cells #[.slice axl_0 xl.length cxl_0, sv xe.1, .int .i64 xe.2.1, .int .i64 xe.2.2.1, .int .i64 xe.2.2.2.1, sv xe.2.2.2.2.1, .bool xe.2.2.2.2.2.1, .bool xe.2.2.2.2.2.2, .slice ayown7_0l6i54 yown7_0l6i54.length cyown7_0l6i54, .map (some b6), .bool yb8_10l6i54, .bool yb8_11l6i54, .bool yb8_12l6i54] 52), .own (.slice ayown7_0l6i54 yown7_0l6i54.length cyown7_0l6i54) 38 3 yown7_0l6i54.length xsyown7_0l6i54, .blk b6 (.map esyb6_0l6i54 ckyb6_0l6i54)] from rfl) (OpQ.step (v := .int .i64 e14.2.1) (Yields.load 0 rfl rfl Tryd.underlying3 rfl (by kernel_rfl)) rfl rfl (OkM.bat 1 [0, 4, 6, 10] [(17, .agg #[.int .i64 e20.1, .int .i64 e14.1, .int .i64 e14.2.1])] ?_))
               have hL25 : RepL gj17i54 (.pair (.int .i64) (.pair (.int .i64) (.int .i64))) ([.int .i64 e20.1, .int .i64 e14.1, .int .i64 e14.2.1] : List Value) ([(e20.1, e14.1, e14.2.1)] : List (Int × Int × Int)) := (RepL.consN (c := [.int .i64 e20.1, .int .i64 e14.1, .int .i64 e14.2.1]) ⟨[.int .i64 e20.1], [.int .i64 e14.1, .int .i64 e14.2.1], rfl, rfl, ⟨[.int .i64 e14.1], [.int .i64 e14.2.1], rfl, rfl, rfl⟩⟩ rfl)
               refine OkM.tail rfl rfl (OpOk.lit (E := 38) (.pair (.int .i64) (.pair (.int .i64) (.int .i64))) ([(e20.1, e14.1, e14.2.1)] : List (Int × Int × Int)) ([.int .i64 e20.1, .int .i64 e14.1, .int .i64 e14.2.1] : List Value) (by kernel_rfl) (by kernel_rfl) rfl (by kernel_rfl) hL25 rfl fun b25 => ?_)
               refine OkM.leaf (i := 12) (show _ = [.blk b24 (.cells #[.int .i64 e14.1, .int .i64 e14.2.1, .bool e14.2.2] 56), .blk b23 (.cells #[.int .i64 e20.1, .int .i64 e20.2.1, sv e20.2.2.1, .bool e20.2.2.2.1, .bool e20.2.2.2.2.1, .bool e20.2.2.2.2.2.1, .bool e20.2.2.2.2.2.2.1, .bool e20.2.2.2.2.2.2.2] 41), .blk b21 (.cells #[.int .i64 e20.1, .int .i64 e20.2.1, sv e20.2.2.1, .bool e20.2.2.2.1, .bool e20.2.2.2.2.1, .bool e20.2.2.2.2.2.1, .bool e20.2.2.2.2.2.2.1, .bool e20.2.2.2.2.2.2.2] 41), .blk b17 (.cells #[.int .i64 e14.1, .int .i64 e14.2.1, .bool e14.2.2] 56), .blk b9 (.cells #[pv b8 0] 49), .blk b8 (.cells #[.slice axl_0 xl.length cxl_0, sv xe.1, .int .i64 xe.2.1, .int .i64 xe.2.2.1, .int .i64 xe.2.2.2.1, sv xe.2.2.2.2.1, .bool xe.2.2.2.2.2.1, .bool xe.2.2.2.2.2.2, .slice ayown7_0l6i54 yown7_0l6i54.length cyown7_0l6i54, .map (some b6), .bool yb8_10l6i54, .bool yb8_11l6i54, .bool yb8_12l6i54] 52), .own (.slice ayown7_0l6i54 yown7_0l6i54.length cyown7_0l6i54) 38 3 yown7_0l6i54.length xsyown7_0l6i54, .blk b6 (.map esyb6_0l6i54 ckyb6_0l6i54)] from rfl) (Gle.refl _) (.cons _ (.cons_cons _ (.cons_cons _ (.cons_cons _ (.cons_cons _ (.cons_cons _ (.cons_cons _ (.cons_cons _ (.cons_cons _ .slnil))))))))) ?_
               obtain ⟨hb26, hF⟩ := hF
               refine OkM.tail rfl rfl (OpOk.append' (e := .pair (.int .i64) (.pair (.int .i64) (.int .i64))) 24 5864062014805 7 0 rfl rfl rfl rfl hLyown7_0l6i54 hL25 Tryd.underlying32 (by kernel_rfl) (by kernel_rfl) (by kernel_rfl) hb26 rfl fun a26 c26 xs26 hL26 => ?_)
               refine OkM.leaf (i := 13) (show _ = [.blk b24 (.cells #[.int .i64 e14.1, .int .i64 e14.2.1, .bool e14.2.2] 56), .blk b23 (.cells #[.int .i64 e20.1, .int .i64 e20.2.1, sv e20.2.2.1, .bool e20.2.2.2.1, .bool e20.2.2.2.2.1, .bool e20.2.2.2.2.2.1, .bool e20.2.2.2.2.2.2.1, .bool e20.2.2.2.2.2.2.2] 41), .blk b21 (.cells #[.int .i64 e20.1, .int .i64 e20.2.1, sv e20.2.2.1, .bool e20.2.2.2.1, .bool e20.2.2.2.2.1, .bool e20.2.2.2.2.2.1, .bool e20.2.2.2.2.2.2.1, .bool e20.2.2.2.2.2.2.2] 41), .blk b17 (.cells #[.int .i64 e14.1, .int .i64 e14.2.1, .bool e14.2.2] 56), .blk b9 (.cells #[pv b8 0] 49), .blk b6 (.map esyb6_0l6i54 ckyb6_0l6i54)] from rfl) (Gle.refl _) (.cons _ (.cons_cons _ (.cons_cons _ (.cons_cons _ (.cons_cons _ (.cons_cons _ (.cons _ (.cons _ (.cons_cons _ .slnil))))))))) (OkM.bat 2 [0, 4] [(19, .slice a26 (yown7_0l6i54 ++ ([(e20.1, e14.1, e14.2.1)] : List (Int × Int × Int))).length c26), (21, pv b8 8)] ?_)
               refine OkM.tail rfl rfl (OpOk.sto (k := 1) (v := .slice a26 (yown7_0l6i54 ++ ([(e20.1, e14.1, e14.2.1)] : List (Int × Int × Int))).length c26) 6 #[.slice axl_0 xl.length cxl_0, sv xe.1, .int .i64 xe.2.1, .int .i64 xe.2.2.1, .int .i64 xe.2.2.2.1, sv xe.2.2.2.2.1, .bool xe.2.2.2.2.2.1, .bool xe.2.2.2.2.2.2, .slice a26 (yown7_0l6i54 ++ ([(e20.1, e14.1, e14.2.1)] : List (Int × Int × Int))).length c26, .map (some b6), .bool yb8_10l6i54, .bool yb8_11l6i54, .bool yb8_12l6i54] rfl rfl rfl ?_)
               refine OkM.leaf (i := 16) (show _ = [.blk b24 (.cells #[.int .i64 e14.1, .int .i64 e14.2.1, .bool e14.2.2] 56), .blk b23 (.cells #[.int .i64 e20.1, .int .i64 e20.2.1, sv e20.2.2.1, .bool e20.2.2.2.1, .bool e20.2.2.2.2.1, .bool e20.2.2.2.2.2.1, .bool e20.2.2.2.2.2.2.1, .bool e20.2.2.2.2.2.2.2] 41), .blk b21 (.cells #[.int .i64 e20.1, .int .i64 e20.2.1, sv e20.2.2.1, .bool e20.2.2.2.1, .bool e20.2.2.2.2.1, .bool e20.2.2.2.2.2.1, .bool e20.2.2.2.2.2.2.1, .bool e20.2.2.2.2.2.2.2] 41), .blk b17 (.cells #[.int .i64 e14.1, .int .i64 e14.2.1, .bool e14.2.2] 56), .blk b9 (.cells #[pv b8 0] 49), .blk b6 (.map esyb6_0l6i54 ckyb6_0l6i54)] from rfl) (Gle.refl _) (.cons _ (.cons_cons _ (.cons_cons _ (.cons_cons _ (.cons_cons _ (.cons_cons _ (.cons _ (.cons _ (.cons_cons _ .slnil))))))))) (OkM.nil (Ok.thenN (Ok.cut (fun a W => ∃ gj5i54i47 : Ghost, Gext w0 gj17i54 gj5i54i47 ∧ StA 70 [(0, pv b8 0), (4, pv b23 0)] a ∧ StW w0 [.blk b23 (.cells #[.int .i64 e20.1, .int .i64 e20.2.1, sv e20.2.2.1, .bool e20.2.2.2.1, .bool e20.2.2.2.2.1, .bool e20.2.2.2.2.2.1, .bool e20.2.2.2.2.2.2.1, .bool e20.2.2.2.2.2.2.2] 41), .blk b17 (.cells #[.int .i64 e14.1, .int .i64 e14.2.1, .bool e14.2.2] 56), .blk b9 (.cells #[pv b8 0] 49), .blk b8 (.cells #[.slice axl_0 xl.length cxl_0, sv xe.1, .int .i64 xe.2.1, .int .i64 xe.2.2.1, .int .i64 xe.2.2.2.1, sv xe.2.2.2.2.1, .bool xe.2.2.2.2.2.1, .bool xe.2.2.2.2.2.2, .slice a26 (yown7_0l6i54 ++ ([(e20.1, e14.1, e14.2.1)] : List (Int × Int × Int))).length c26, .map (some b6), .bool (yb8_10l6i54 || e20.2.2.2.2.2.1), .bool yb8_11l6i54, .bool yb8_12l6i54] 52), .own (.slice a26 (yown7_0l6i54 ++ ([(e20.1, e14.1, e14.2.1)] : List (Int × Int × Int))).length c26) 38 3 (yown7_0l6i54 ++ ([(e20.1, e14.1, e14.2.1)] : List (Int × Int × Int))).length xs26, .blk b6 (.map esyb6_0l6i54 ckyb6_0l6i54)] gj5i54i47 W ∧ esej5i54i47 xl xe e14 x11l6i54 yb8_10l6i54 yb8_11l6i54 yb8_12l6i54 yown7_0l6i54 yb6_0l6i54 e20 (esel6x2 xl xe e14 x36l19 (esel19 xd xl xe K k19) k6x2)) ?_ ?_)))
               ·
                refine Ok.region (Ok.bat 4 [0, 4] [(22, pv b8 0), (25, pv b8 10)] ?_)
                refine Ok.op rfl (OpOk.step (v := .bool yb8_10l6i54) (Yields.load 6 rfl rfl Tryd.underlying4 rfl (by kernel_rfl)) rfl rfl (Ok.bat 1 [0, 4, 22] [(27, .bool yb8_10l6i54)] ?_))
                refine Ok.boolAt 27 (yb8_10l6i54) rfl (fun hc32 => ?_) (fun hc32 => ?_)
                ·replace hF := hF.1 hc32
                 refine Ok.bat 5 [0, 4] [(30, .bool true), (32, pv b8 10)] ?_
                 refine Ok.op rfl (OpOk.sto (k := 1) (v := .bool true) 6 #[.slice axl_0 xl.length cxl_0, sv xe.1, .int .i64 xe.2.1, .int .i64 xe.2.2.1, .int .i64 xe.2.2.2.1, sv xe.2.2.2.2.1, .bool xe.2.2.2.2.2.1, .bool xe.2.2.2.2.2.2, .slice a26 (yown7_0l6i54 ++ ([(e20.1, e14.1, e14.2.1)] : List (Int × Int × Int))).length c26, .map (some b6), .bool true, .bool yb8_11l6i54, .bool yb8_12l6i54] rfl rfl rfl ?_)
                 refine Ok.nil (Ok.thenN (Ok.heapEq (H' := [.own (.slice (some ⟨b25, 0, none⟩) ([(e20.1, e14.1, e14.2.1)] : List (Int × Int × Int)).length 1) 38 3 ([(e20.1, e14.1, e14.2.1)] : List (Int × Int × Int)).length ([.int .i64 e20.1, .int .i64 e14.1, .int .i64 e14.2.1] : List Value), .blk b24 (.cells #[.int .i64 e14.1, .int .i64 e14.2.1, .bool e14.2.2] 56), .blk b23 (.cells #[.int .i64 e20.1, .int .i64 e20.2.1, sv e20.2.2.1, .bool e20.2.2.2.1, .bool e20.2.2.2.2.1, .bool e20.2.2.2.2.2.1, .bool e20.2.2.2.2.2.2.1, .bool e20.2.2.2.2.2.2.2] 41), .blk b21 (.cells #[.int .i64 e20.1, .int .i64 e20.2.1, sv e20.2.2.1, .bool e20.2.2.2.1, .bool e20.2.2.2.2.1, .bool e20.2.2.2.2.2.1, .bool e20.2.2.2.2.2.2.1, .bool e20.2.2.2.2.2.2.2] 41), .blk b17 (.cells #[.int .i64 e14.1, .int .i64 e14.2.1, .bool e14.2.2] 56), .blk b9 (.cells #[pv b8 0] 49), .blk b8 (.cells #[.slice axl_0 xl.length cxl_0, sv xe.1, .int .i64 xe.2.1, .int .i64 xe.2.2.1, .int .i64 xe.2.2.2.1, sv xe.2.2.2.2.1, .bool xe.2.2.2.2.2.1, .bool xe.2.2.2.2.2.2, .slice a26 (yown7_0l6i54 ++ ([(e20.1, e14.1, e14.2.1)] : List (Int × Int × Int))).length c26, .map (some b6), .bool (yb8_10l6i54 || e20.2.2.2.2.2.1), .bool yb8_11l6i54, .bool yb8_12l6i54] 52), .own (.slice a26 (yown7_0l6i54 ++ ([(e20.1, e14.1, e14.2.1)] : List (Int × Int × Int))).length c26) 38 3 (yown7_0l6i54 ++ ([(e20.1, e14.1, e14.2.1)] : List (Int × Int × Int))).length xs26, .blk b6 (.map esyb6_0l6i54 ckyb6_0l6i54)]) (econs (rfl) (econs (rfl) (econs (rfl) (econs (rfl) (econs (rfl) (econs (rfl) (econs (congrArg (fun l : List Value => Ent.blk b8 (.cells ⟨l⟩ 52)) (lcons (rfl) (lcons (rfl) (lcons (rfl) (lcons (rfl) (lcons (rfl) (lcons (rfl) (lcons (rfl) (lcons (rfl) (lcons (rfl) (lcons (rfl) (lcons (congrArg (Value.bool) (mor_t hc32)) (lcons (rfl) (lcons (rfl) rfl)))))))))))))) (econs (rfl) (econs (rfl) rfl))))))))) ?_))
                 exact fun a W hA hW => ⟨gj17i54, (Gext.refl w0 gj17i54), hA.sub (by kernel_rfl), hW.sub (.cons _ (.cons _ (.cons_cons _ (.cons _ (.cons_cons _ (.cons_cons _ (.cons_cons _ (.cons_cons _ (.cons_cons _ .slnil))))))))), hF⟩
                ·replace hF := hF.2 hc32
                 refine Ok.bat 1 [0, 4, 22] [(27, .bool false), (28, pv b23 5)] ?_
                 refine Ok.opYes (j := 5) (d := 27) (want := false) (b := false) rfl (by kernel_rfl) (by kernel_rfl) rfl (OpOk.step (v := .bool e20.2.2.2.2.2.1) (Yields.load 2 rfl rfl Tryd.underlying4 rfl (by kernel_rfl)) rfl rfl (Ok.bat 3 [0, 4] [(30, .bool e20.2.2.2.2.2.1), (32, pv b8 10)] ?_))
                 refine Ok.op rfl (OpOk.sto (k := 1) (v := .bool e20.2.2.2.2.2.1) 6 #[.slice axl_0 xl.length cxl_0, sv xe.1, .int .i64 xe.2.1, .int .i64 xe.2.2.1, .int .i64 xe.2.2.2.1, sv xe.2.2.2.2.1, .bool xe.2.2.2.2.2.1, .bool xe.2.2.2.2.2.2, .slice a26 (yown7_0l6i54 ++ ([(e20.1, e14.1, e14.2.1)] : List (Int × Int × Int))).length c26, .map (some b6), .bool e20.2.2.2.2.2.1, .bool yb8_11l6i54, .bool yb8_12l6i54] rfl rfl rfl ?_)
                 refine Ok.nil (Ok.thenN (Ok.heapEq (H' := [.own (.slice (some ⟨b25, 0, none⟩) ([(e20.1, e14.1, e14.2.1)] : List (Int × Int × Int)).length 1) 38 3 ([(e20.1, e14.1, e14.2.1)] : List (Int × Int × Int)).length ([.int .i64 e20.1, .int .i64 e14.1, .int .i64 e14.2.1] : List Value), .blk b24 (.cells #[.int .i64 e14.1, .int .i64 e14.2.1, .bool e14.2.2] 56), .blk b23 (.cells #[.int .i64 e20.1, .int .i64 e20.2.1, sv e20.2.2.1, .bool e20.2.2.2.1, .bool e20.2.2.2.2.1, .bool e20.2.2.2.2.2.1, .bool e20.2.2.2.2.2.2.1, .bool e20.2.2.2.2.2.2.2] 41), .blk b21 (.cells #[.int .i64 e20.1, .int .i64 e20.2.1, sv e20.2.2.1, .bool e20.2.2.2.1, .bool e20.2.2.2.2.1, .bool e20.2.2.2.2.2.1, .bool e20.2.2.2.2.2.2.1, .bool e20.2.2.2.2.2.2.2] 41), .blk b17 (.cells #[.int .i64 e14.1, .int .i64 e14.2.1, .bool e14.2.2] 56), .blk b9 (.cells #[pv b8 0] 49), .blk b8 (.cells #[.slice axl_0 xl.length cxl_0, sv xe.1, .int .i64 xe.2.1, .int .i64 xe.2.2.1, .int .i64 xe.2.2.2.1, sv xe.2.2.2.2.1, .bool xe.2.2.2.2.2.1, .bool xe.2.2.2.2.2.2, .slice a26 (yown7_0l6i54 ++ ([(e20.1, e14.1, e14.2.1)] : List (Int × Int × Int))).length c26, .map (some b6), .bool (yb8_10l6i54 || e20.2.2.2.2.2.1), .bool yb8_11l6i54, .bool yb8_12l6i54] 52), .own (.slice a26 (yown7_0l6i54 ++ ([(e20.1, e14.1, e14.2.1)] : List (Int × Int × Int))).length c26) 38 3 (yown7_0l6i54 ++ ([(e20.1, e14.1, e14.2.1)] : List (Int × Int × Int))).length xs26, .blk b6 (.map esyb6_0l6i54 ckyb6_0l6i54)]) (econs (rfl) (econs (rfl) (econs (rfl) (econs (rfl) (econs (rfl) (econs (rfl) (econs (congrArg (fun l : List Value => Ent.blk b8 (.cells ⟨l⟩ 52)) (lcons (rfl) (lcons (rfl) (lcons (rfl) (lcons (rfl) (lcons (rfl) (lcons (rfl) (lcons (rfl) (lcons (rfl) (lcons (rfl) (lcons (rfl) (lcons (congrArg (Value.bool) (mor_f hc32)) (lcons (rfl) (lcons (rfl) rfl)))))))))))))) (econs (rfl) (econs (rfl) rfl))))))))) ?_))
                 exact fun a W hA hW => ⟨gj17i54, (Gext.refl w0 gj17i54), hA.sub (by kernel_rfl), hW.sub (.cons _ (.cons _ (.cons_cons _ (.cons _ (.cons_cons _ (.cons_cons _ (.cons_cons _ (.cons_cons _ (.cons_cons _ .slnil))))))))), hF⟩
               ·
                clear hF
                rintro a W ⟨gj5i54i47, hxj5i54i47, hA, hW, hF⟩
                refine (?_ : Ok _ _ _ _ _ _) a W hA hW
                clear hA hW
                replace hRxl_0 := hRxl_0.mono hxj5i54i47.1
                replace hL26 := hL26.mono hxj5i54i47.1
                replace hMyb6_0l6i54 := hMyb6_0l6i54.mono hxj5i54i47.1
                replace hR11_0 := hR11_0.mono hxj5i54i47.1
                refine Ok.cut (fun a W => ∃ gj7i54i47 : Ghost, Gext w0 gj5i54i47 gj7i54i47 ∧ StA 70 [(0, pv b8 0), (4, pv b23 0)] a ∧ StW w0 [.blk b23 (.cells #[.int .i64 e20.1, .int .i64 e20.2.1, sv e20.2.2.1, .bool e20.2.2.2.1, .bool e20.2.2.2.2.1, .bool e20.2.2.2.2.2.1, .bool e20.2.2.2.2.2.2.1, .bool e20.2.2.2.2.2.2.2] 41), .blk b17 (.cells #[.int .i64 e14.1, .int .i64 e14.2.1, .bool e14.2.2] 56), .blk b9 (.cells #[pv b8 0] 49), .blk b8 (.cells #[.slice axl_0 xl.length cxl_0, sv xe.1, .int .i64 xe.2.1, .int .i64 xe.2.2.1, .int .i64 xe.2.2.2.1, sv xe.2.2.2.2.1, .bool xe.2.2.2.2.2.1, .bool xe.2.2.2.2.2.2, .slice a26 (yown7_0l6i54 ++ ([(e20.1, e14.1, e14.2.1)] : List (Int × Int × Int))).length c26, .map (some b6), .bool (yb8_10l6i54 || e20.2.2.2.2.2.1), .bool (yb8_11l6i54 || e20.2.2.2.2.2.2.1), .bool yb8_12l6i54] 52), .own (.slice a26 (yown7_0l6i54 ++ ([(e20.1, e14.1, e14.2.1)] : List (Int × Int × Int))).length c26) 38 3 (yown7_0l6i54 ++ ([(e20.1, e14.1, e14.2.1)] : List (Int × Int × Int))).length xs26, .blk b6 (.map esyb6_0l6i54 ckyb6_0l6i54)] gj7i54i47 W ∧ esej7i54i47 xl xe e14 x11l6i54 yb8_10l6i54 yb8_11l6i54 yb8_12l6i54 yown7_0l6i54 yb6_0l6i54 e20 (esel6x2 xl xe e14 x36l19 (esel19 xd xl xe K k19) k6x2)) ?_ ?_
                ·
                 refine Ok.region (Ok.bat 4 [0, 4] [(33, pv b8 0), (36, pv b8 11)] ?_)
                 refine Ok.op rfl (OpOk.step (v := .bool yb8_11l6i54) (Yields.load 3 rfl rfl Tryd.underlying4 rfl (by kernel_rfl)) rfl rfl (Ok.bat 1 [0, 4, 33] [(38, .bool yb8_11l6i54)] ?_))
                 refine Ok.boolAt 38 (yb8_11l6i54) rfl (fun hc31 => ?_) (fun hc31 => ?_)
                 ·replace hF := hF.1 hc31
                  refine Ok.bat 5 [0, 4] [(41, .bool true), (43, pv b8 11)] ?_
                  refine Ok.op rfl (OpOk.sto (k := 1) (v := .bool true) 3 #[.slice axl_0 xl.length cxl_0, sv xe.1, .int .i64 xe.2.1, .int .i64 xe.2.2.1, .int .i64 xe.2.2.2.1, sv xe.2.2.2.2.1, .bool xe.2.2.2.2.2.1, .bool xe.2.2.2.2.2.2, .slice a26 (yown7_0l6i54 ++ ([(e20.1, e14.1, e14.2.1)] : List (Int × Int × Int))).length c26, .map (some b6), .bool (yb8_10l6i54 || e20.2.2.2.2.2.1), .bool true, .bool yb8_12l6i54] rfl rfl rfl ?_)
                  refine Ok.nil (Ok.thenN (Ok.heapEq (H' := [.blk b23 (.cells #[.int .i64 e20.1, .int .i64 e20.2.1, sv e20.2.2.1, .bool e20.2.2.2.1, .bool e20.2.2.2.2.1, .bool e20.2.2.2.2.2.1, .bool e20.2.2.2.2.2.2.1, .bool e20.2.2.2.2.2.2.2] 41), .blk b17 (.cells #[.int .i64 e14.1, .int .i64 e14.2.1, .bool e14.2.2] 56), .blk b9 (.cells #[pv b8 0] 49), .blk b8 (.cells #[.slice axl_0 xl.length cxl_0, sv xe.1, .int .i64 xe.2.1, .int .i64 xe.2.2.1, .int .i64 xe.2.2.2.1, sv xe.2.2.2.2.1, .bool xe.2.2.2.2.2.1, .bool xe.2.2.2.2.2.2, .slice a26 (yown7_0l6i54 ++ ([(e20.1, e14.1, e14.2.1)] : List (Int × Int × Int))).length c26, .map (some b6), .bool (yb8_10l6i54 || e20.2.2.2.2.2.1), .bool (yb8_11l6i54 || e20.2.2.2.2.2.2.1), .bool yb8_12l6i54] 52), .own (.slice a26 (yown7_0l6i54 ++ ([(e20.1, e14.1, e14.2.1)] : List (Int × Int × Int))).length c26) 38 3 (yown7_0l6i54 ++ ([(e20.1, e14.1, e14.2.1)] : List (Int × Int × Int))).length xs26, .blk b6 (.map esyb6_0l6i54 ckyb6_0l6i54)]) (econs (rfl) (econs (rfl) (econs (rfl) (econs (congrArg (fun l : List Value => Ent.blk b8 (.cells ⟨l⟩ 52)) (lcons (rfl) (lcons (rfl) (lcons (rfl) (lcons (rfl) (lcons (rfl) (lcons (rfl) (lcons (rfl) (lcons (rfl) (lcons (rfl) (lcons (rfl) (lcons (rfl) (lcons (congrArg (Value.bool) (mor_t hc31)) (lcons (rfl) rfl)))))))))))))) (econs (rfl) (econs (rfl) rfl)))))) ?_))
                  exact fun a W hA hW => ⟨gj5i54i47, (Gext.refl w0 gj5i54i47), hA.sub (by kernel_rfl), hW, hF⟩
                 ·replace hF := hF.2 hc31
                  refine Ok.bat 1 [0, 4, 33] [(38, .bool false), (39, pv b23 6)] ?_
                  refine Ok.opYes (j := 5) (d := 38) (want := false) (b := false) rfl (by kernel_rfl) (by kernel_rfl) rfl (OpOk.step (v := .bool e20.2.2.2.2.2.2.1) (Yields.load 0 rfl rfl Tryd.underlying4 rfl (by kernel_rfl)) rfl rfl (Ok.bat 3 [0, 4] [(41, .bool e20.2.2.2.2.2.2.1), (43, pv b8 11)] ?_))
                  refine Ok.op rfl (OpOk.sto (k := 1) (v := .bool e20.2.2.2.2.2.2.1) 3 #[.slice axl_0 xl.length cxl_0, sv xe.1, .int .i64 xe.2.1, .int .i64 xe.2.2.1, .int .i64 xe.2.2.2.1, sv xe.2.2.2.2.1, .bool xe.2.2.2.2.2.1, .bool xe.2.2.2.2.2.2, .slice a26 (yown7_0l6i54 ++ ([(e20.1, e14.1, e14.2.1)] : List (Int × Int × Int))).length c26, .map (some b6), .bool (yb8_10l6i54 || e20.2.2.2.2.2.1), .bool e20.2.2.2.2.2.2.1, .bool yb8_12l6i54] rfl rfl rfl ?_)
                  refine Ok.nil (Ok.thenN (Ok.heapEq (H' := [.blk b23 (.cells #[.int .i64 e20.1, .int .i64 e20.2.1, sv e20.2.2.1, .bool e20.2.2.2.1, .bool e20.2.2.2.2.1, .bool e20.2.2.2.2.2.1, .bool e20.2.2.2.2.2.2.1, .bool e20.2.2.2.2.2.2.2] 41), .blk b17 (.cells #[.int .i64 e14.1, .int .i64 e14.2.1, .bool e14.2.2] 56), .blk b9 (.cells #[pv b8 0] 49), .blk b8 (.cells #[.slice axl_0 xl.length cxl_0, sv xe.1, .int .i64 xe.2.1, .int .i64 xe.2.2.1, .int .i64 xe.2.2.2.1, sv xe.2.2.2.2.1, .bool xe.2.2.2.2.2.1, .bool xe.2.2.2.2.2.2, .slice a26 (yown7_0l6i54 ++ ([(e20.1, e14.1, e14.2.1)] : List (Int × Int × Int))).length c26, .map (some b6), .bool (yb8_10l6i54 || e20.2.2.2.2.2.1), .bool (yb8_11l6i54 || e20.2.2.2.2.2.2.1), .bool yb8_12l6i54] 52), .own (.slice a26 (yown7_0l6i54 ++ ([(e20.1, e14.1, e14.2.1)] : List (Int × Int × Int))).length c26) 38 3 (yown7_0l6i54 ++ ([(e20.1, e14.1, e14.2.1)] : List (Int × Int × Int))).length xs26, .blk b6 (.map esyb6_0l6i54 ckyb6_0l6i54)]) (econs (rfl) (econs (rfl) (econs (rfl) (econs (congrArg (fun l : List Value => Ent.blk b8 (.cells ⟨l⟩ 52)) (lcons (rfl) (lcons (rfl) (lcons (rfl) (lcons (rfl) (lcons (rfl) (lcons (rfl) (lcons (rfl) (lcons (rfl) (lcons (rfl) (lcons (rfl) (lcons (rfl) (lcons (congrArg (Value.bool) (mor_f hc31)) (lcons (rfl) rfl)))))))))))))) (econs (rfl) (econs (rfl) rfl)))))) ?_))
                  exact fun a W hA hW => ⟨gj5i54i47, (Gext.refl w0 gj5i54i47), hA.sub (by kernel_rfl), hW, hF⟩
                ·
                 clear hF
                 rintro a W ⟨gj7i54i47, hxj7i54i47, hA, hW, hF⟩
                 refine (?_ : Ok _ _ _ _ _ _) a W hA hW
                 clear hA hW
                 replace hRxl_0 := hRxl_0.mono hxj7i54i47.1
                 replace hL26 := hL26.mono hxj7i54i47.1
                 replace hMyb6_0l6i54 := hMyb6_0l6i54.mono hxj7i54i47.1
                 replace hR11_0 := hR11_0.mono hxj7i54i47.1
                 refine Ok.cut (fun a W => ∃ gj9i54i47 : Ghost, Gext w0 gj7i54i47 gj9i54i47 ∧ StA 70 [(0, pv b8 0), (4, pv b23 0)] a ∧ StW w0 [.blk b23 (.cells #[.int .i64 e20.1, .int .i64 e20.2.1, sv e20.2.2.1, .bool e20.2.2.2.1, .bool e20.2.2.2.2.1, .bool e20.2.2.2.2.2.1, .bool e20.2.2.2.2.2.2.1, .bool e20.2.2.2.2.2.2.2] 41), .blk b17 (.cells #[.int .i64 e14.1, .int .i64 e14.2.1, .bool e14.2.2] 56), .blk b9 (.cells #[pv b8 0] 49), .blk b8 (.cells #[.slice axl_0 xl.length cxl_0, sv xe.1, .int .i64 xe.2.1, .int .i64 xe.2.2.1, .int .i64 xe.2.2.2.1, sv xe.2.2.2.2.1, .bool xe.2.2.2.2.2.1, .bool xe.2.2.2.2.2.2, .slice a26 (yown7_0l6i54 ++ ([(e20.1, e14.1, e14.2.1)] : List (Int × Int × Int))).length c26, .map (some b6), .bool (yb8_10l6i54 || e20.2.2.2.2.2.1), .bool (yb8_11l6i54 || e20.2.2.2.2.2.2.1), .bool (yb8_12l6i54 || (e20.2.2.2.2.2.2.2 && xe.2.2.2.2.2.2))] 52), .own (.slice a26 (yown7_0l6i54 ++ ([(e20.1, e14.1, e14.2.1)] : List (Int × Int × Int))).length c26) 38 3 (yown7_0l6i54 ++ ([(e20.1, e14.1, e14.2.1)] : List (Int × Int × Int))).length xs26, .blk b6 (.map esyb6_0l6i54 ckyb6_0l6i54)] gj9i54i47 W ∧ esej9i54i47 xl xe e14 x11l6i54 yb8_10l6i54 yb8_11l6i54 yb8_12l6i54 yown7_0l6i54 yb6_0l6i54 e20 (esel6x2 xl xe e14 x36l19 (esel19 xd xl xe K k19) k6x2)) ?_ ?_
                 ·
                  refine Ok.region (Ok.bat 4 [0, 4] [(44, pv b8 0), (47, pv b8 12)] ?_)
                  refine Ok.op rfl (OpOk.step (v := .bool yb8_12l6i54) (Yields.load 3 rfl rfl Tryd.underlying4 rfl (by kernel_rfl)) rfl rfl (Ok.bat 1 [0, 4, 44] [(49, .bool yb8_12l6i54)] ?_))
                  refine Ok.boolAt 49 (yb8_12l6i54) rfl (fun hc29 => ?_) (fun hc29 => ?_)
                  ·replace hF := hF.1 hc29
                   refine Ok.bat 12 [0, 4] [(59, .bool true), (61, pv b8 12)] ?_
                   refine Ok.op rfl (OpOk.sto (k := 1) (v := .bool true) 3 #[.slice axl_0 xl.length cxl_0, sv xe.1, .int .i64 xe.2.1, .int .i64 xe.2.2.1, .int .i64 xe.2.2.2.1, sv xe.2.2.2.2.1, .bool xe.2.2.2.2.2.1, .bool xe.2.2.2.2.2.2, .slice a26 (yown7_0l6i54 ++ ([(e20.1, e14.1, e14.2.1)] : List (Int × Int × Int))).length c26, .map (some b6), .bool (yb8_10l6i54 || e20.2.2.2.2.2.1), .bool (yb8_11l6i54 || e20.2.2.2.2.2.2.1), .bool true] rfl rfl rfl ?_)
                   refine Ok.nil (Ok.thenN (Ok.heapEq (H' := [.blk b23 (.cells #[.int .i64 e20.1, .int .i64 e20.2.1, sv e20.2.2.1, .bool e20.2.2.2.1, .bool e20.2.2.2.2.1, .bool e20.2.2.2.2.2.1, .bool e20.2.2.2.2.2.2.1, .bool e20.2.2.2.2.2.2.2] 41), .blk b17 (.cells #[.int .i64 e14.1, .int .i64 e14.2.1, .bool e14.2.2] 56), .blk b9 (.cells #[pv b8 0] 49), .blk b8 (.cells #[.slice axl_0 xl.length cxl_0, sv xe.1, .int .i64 xe.2.1, .int .i64 xe.2.2.1, .int .i64 xe.2.2.2.1, sv xe.2.2.2.2.1, .bool xe.2.2.2.2.2.1, .bool xe.2.2.2.2.2.2, .slice a26 (yown7_0l6i54 ++ ([(e20.1, e14.1, e14.2.1)] : List (Int × Int × Int))).length c26, .map (some b6), .bool (yb8_10l6i54 || e20.2.2.2.2.2.1), .bool (yb8_11l6i54 || e20.2.2.2.2.2.2.1), .bool (yb8_12l6i54 || (e20.2.2.2.2.2.2.2 && xe.2.2.2.2.2.2))] 52), .own (.slice a26 (yown7_0l6i54 ++ ([(e20.1, e14.1, e14.2.1)] : List (Int × Int × Int))).length c26) 38 3 (yown7_0l6i54 ++ ([(e20.1, e14.1, e14.2.1)] : List (Int × Int × Int))).length xs26, .blk b6 (.map esyb6_0l6i54 ckyb6_0l6i54)]) (econs (rfl) (econs (rfl) (econs (rfl) (econs (congrArg (fun l : List Value => Ent.blk b8 (.cells ⟨l⟩ 52)) (lcons (rfl) (lcons (rfl) (lcons (rfl) (lcons (rfl) (lcons (rfl) (lcons (rfl) (lcons (rfl) (lcons (rfl) (lcons (rfl) (lcons (rfl) (lcons (rfl) (lcons (rfl) (lcons (congrArg (Value.bool) (mor_t hc29)) rfl)))))))))))))) (econs (rfl) (econs (rfl) rfl)))))) ?_))
                   exact fun a W hA hW => ⟨gj7i54i47, (Gext.refl w0 gj7i54i47), hA.sub (by kernel_rfl), hW, hF⟩
                  ·replace hF := hF.2 hc29
                   refine Ok.bat 1 [0, 4, 44] [(49, .bool false), (50, pv b23 7)] ?_
                   refine Ok.opYes (j := 5) (d := 49) (want := false) (b := false) rfl (by kernel_rfl) (by kernel_rfl) rfl (OpOk.step (v := .bool e20.2.2.2.2.2.2.2) (Yields.load 0 rfl rfl Tryd.underlying4 rfl (by kernel_rfl)) rfl rfl (Ok.bat 1 [0, 4, 44, 49] [(52, .bool e20.2.2.2.2.2.2.2)] ?_))
                   refine Ok.boolAt 52 (e20.2.2.2.2.2.2.2) rfl (fun hc30 => ?_) (fun hc30 => ?_)
                   ·replace hF := hF.1 hc30
                    refine Ok.bat 4 [0, 4, 44, 49] [(52, .bool true), (56, pv b8 7)] ?_
                    refine Ok.opYes (j := 8) (d := 52) (want := true) (b := true) rfl (by kernel_rfl) (by kernel_rfl) rfl (OpOk.step (v := .bool xe.2.2.2.2.2.2) (Yields.load 3 rfl rfl Tryd.underlying4 rfl (by kernel_rfl)) rfl rfl (Ok.bat 4 [0, 4] [(59, .bool xe.2.2.2.2.2.2), (61, pv b8 12)] ?_))
                    refine Ok.op rfl (OpOk.sto (k := 1) (v := .bool xe.2.2.2.2.2.2) 3 #[.slice axl_0 xl.length cxl_0, sv xe.1, .int .i64 xe.2.1, .int .i64 xe.2.2.1, .int .i64 xe.2.2.2.1, sv xe.2.2.2.2.1, .bool xe.2.2.2.2.2.1, .bool xe.2.2.2.2.2.2, .slice a26 (yown7_0l6i54 ++ ([(e20.1, e14.1, e14.2.1)] : List (Int × Int × Int))).length c26, .map (some b6), .bool (yb8_10l6i54 || e20.2.2.2.2.2.1), .bool (yb8_11l6i54 || e20.2.2.2.2.2.2.1), .bool xe.2.2.2.2.2.2] rfl rfl rfl ?_)
                    refine Ok.nil (Ok.thenN (Ok.heapEq (H' := [.blk b23 (.cells #[.int .i64 e20.1, .int .i64 e20.2.1, sv e20.2.2.1, .bool e20.2.2.2.1, .bool e20.2.2.2.2.1, .bool e20.2.2.2.2.2.1, .bool e20.2.2.2.2.2.2.1, .bool e20.2.2.2.2.2.2.2] 41), .blk b17 (.cells #[.int .i64 e14.1, .int .i64 e14.2.1, .bool e14.2.2] 56), .blk b9 (.cells #[pv b8 0] 49), .blk b8 (.cells #[.slice axl_0 xl.length cxl_0, sv xe.1, .int .i64 xe.2.1, .int .i64 xe.2.2.1, .int .i64 xe.2.2.2.1, sv xe.2.2.2.2.1, .bool xe.2.2.2.2.2.1, .bool xe.2.2.2.2.2.2, .slice a26 (yown7_0l6i54 ++ ([(e20.1, e14.1, e14.2.1)] : List (Int × Int × Int))).length c26, .map (some b6), .bool (yb8_10l6i54 || e20.2.2.2.2.2.1), .bool (yb8_11l6i54 || e20.2.2.2.2.2.2.1), .bool (yb8_12l6i54 || (e20.2.2.2.2.2.2.2 && xe.2.2.2.2.2.2))] 52), .own (.slice a26 (yown7_0l6i54 ++ ([(e20.1, e14.1, e14.2.1)] : List (Int × Int × Int))).length c26) 38 3 (yown7_0l6i54 ++ ([(e20.1, e14.1, e14.2.1)] : List (Int × Int × Int))).length xs26, .blk b6 (.map esyb6_0l6i54 ckyb6_0l6i54)]) (econs (rfl) (econs (rfl) (econs (rfl) (econs (congrArg (fun l : List Value => Ent.blk b8 (.cells ⟨l⟩ 52)) (lcons (rfl) (lcons (rfl) (lcons (rfl) (lcons (rfl) (lcons (rfl) (lcons (rfl) (lcons (rfl) (lcons (rfl) (lcons (rfl) (lcons (rfl) (lcons (rfl) (lcons (rfl) (lcons (congrArg (Value.bool) ((Eq.trans (mand_t hc30) (mor_f hc29)))) rfl)))))))))))))) (econs (rfl) (econs (rfl) rfl)))))) ?_))
                    exact fun a W hA hW => ⟨gj7i54i47, (Gext.refl w0 gj7i54i47), hA.sub (by kernel_rfl), hW, hF⟩
                   ·replace hF := hF.2 hc30
                    refine Ok.bat 9 [0, 4] [(59, .bool false), (61, pv b8 12)] ?_
                    refine Ok.op rfl (OpOk.sto (k := 1) (v := .bool false) 3 #[.slice axl_0 xl.length cxl_0, sv xe.1, .int .i64 xe.2.1, .int .i64 xe.2.2.1, .int .i64 xe.2.2.2.1, sv xe.2.2.2.2.1, .bool xe.2.2.2.2.2.1, .bool xe.2.2.2.2.2.2, .slice a26 (yown7_0l6i54 ++ ([(e20.1, e14.1, e14.2.1)] : List (Int × Int × Int))).length c26, .map (some b6), .bool (yb8_10l6i54 || e20.2.2.2.2.2.1), .bool (yb8_11l6i54 || e20.2.2.2.2.2.2.1), .bool false] rfl rfl rfl ?_)
                    refine Ok.nil (Ok.thenN (Ok.heapEq (H' := [.blk b23 (.cells #[.int .i64 e20.1, .int .i64 e20.2.1, sv e20.2.2.1, .bool e20.2.2.2.1, .bool e20.2.2.2.2.1, .bool e20.2.2.2.2.2.1, .bool e20.2.2.2.2.2.2.1, .bool e20.2.2.2.2.2.2.2] 41), .blk b17 (.cells #[.int .i64 e14.1, .int .i64 e14.2.1, .bool e14.2.2] 56), .blk b9 (.cells #[pv b8 0] 49), .blk b8 (.cells #[.slice axl_0 xl.length cxl_0, sv xe.1, .int .i64 xe.2.1, .int .i64 xe.2.2.1, .int .i64 xe.2.2.2.1, sv xe.2.2.2.2.1, .bool xe.2.2.2.2.2.1, .bool xe.2.2.2.2.2.2, .slice a26 (yown7_0l6i54 ++ ([(e20.1, e14.1, e14.2.1)] : List (Int × Int × Int))).length c26, .map (some b6), .bool (yb8_10l6i54 || e20.2.2.2.2.2.1), .bool (yb8_11l6i54 || e20.2.2.2.2.2.2.1), .bool (yb8_12l6i54 || (e20.2.2.2.2.2.2.2 && xe.2.2.2.2.2.2))] 52), .own (.slice a26 (yown7_0l6i54 ++ ([(e20.1, e14.1, e14.2.1)] : List (Int × Int × Int))).length c26) 38 3 (yown7_0l6i54 ++ ([(e20.1, e14.1, e14.2.1)] : List (Int × Int × Int))).length xs26, .blk b6 (.map esyb6_0l6i54 ckyb6_0l6i54)]) (econs (rfl) (econs (rfl) (econs (rfl) (econs (congrArg (fun l : List Value => Ent.blk b8 (.cells ⟨l⟩ 52)) (lcons (rfl) (lcons (rfl) (lcons (rfl) (lcons (rfl) (lcons (rfl) (lcons (rfl) (lcons (rfl) (lcons (rfl) (lcons (rfl) (lcons (rfl) (lcons (rfl) (lcons (rfl) (lcons (congrArg (Value.bool) ((Eq.trans (mand_f hc30) (mor_f hc29)))) rfl)))))))))))))) (econs (rfl) (econs (rfl) rfl)))))) ?_))
                    exact fun a W hA hW => ⟨gj7i54i47, (Gext.refl w0 gj7i54i47), hA.sub (by kernel_rfl), hW, hF⟩
                 ·
                  clear hF
                  rintro a W ⟨gj9i54i47, hxj9i54i47, hA, hW, hF⟩
                  refine (?_ : Ok _ _ _ _ _ _) a W hA hW
                  clear hA hW
                  replace hRxl_0 := hRxl_0.mono hxj9i54i47.1
                  replace hL26 := hL26.mono hxj9i54i47.1
                  replace hMyb6_0l6i54 := hMyb6_0l6i54.mono hxj9i54i47.1
                  replace hR11_0 := hR11_0.mono hxj9i54i47.1
                  refine Ok.seq (Ok.region (Ok.bat 1 [0, 4] [(62, pv b23 4)] ?_))
                  refine Ok.op rfl (OpOk.step (v := .bool e20.2.2.2.2.1) (Yields.load 0 rfl rfl Tryd.underlying4 rfl (by kernel_rfl)) rfl rfl (Ok.nil (Ok.thenN (Ok.cond (b := e20.2.2.2.2.1) rfl (fun hc27 => ?_) (fun hc27 => ?_)))))
                  ·replace hF := hF.1 hc27
                   refine Ok.mix [] [] [.blk b23 (.cells #[.int .i64 e20.1, .int .i64 e20.2.1, sv e20.2.2.1, .bool e20.2.2.2.1, .bool e20.2.2.2.2.1, .bool e20.2.2.2.2.2.1, .bool e20.2.2.2.2.2.2.1, .bool e20.2.2.2.2.2.2.2] 41), .blk b17 (.cells #[.int .i64 e14.1, .int .i64 e14.2.1, .bool e14.2.2] 56), .blk b9 (.cells #[pv b8 0] 49), .blk b8 (.cells #[.slice axl_0 xl.length cxl_0, sv xe.1, .int .i64 xe.2.1, .int .i64 xe.2.2.1, .int .i64 xe.2.2.2.1, sv xe.2.2.2.2.1, .bool xe.2.2.2.2.2.1, .bool xe.2.2.2.2.2.2, .slice a26 (yown7_0l6i54 ++ ([(e20.1, e14.1, e14.2.1)] : List (Int × Int × Int))).length c26, .map (some b6), .bool (yb8_10l6i54 || e20.2.2.2.2.2.1), .bool (yb8_11l6i54 || e20.2.2.2.2.2.2.1), .bool (yb8_12l6i54 || (e20.2.2.2.2.2.2.2 && xe.2.2.2.2.2.2))] 52), .own (.slice a26 (yown7_0l6i54 ++ ([(e20.1, e14.1, e14.2.1)] : List (Int × Int × Int))).length c26) 38 3 (yown7_0l6i54 ++ ([(e20.1, e14.1, e14.2.1)] : List (Int × Int × Int))).length xs26] [(0, true), (1, true), (2, true), (3, true), (4, true), (5, true), (6, false)] (by kernel_rfl) (by kernel_rfl) (.cons_cons _ (.cons_cons _ (.cons_cons _ (.cons_cons _ (.cons_cons _ (.cons _ .slnil)))))) (OkM.bat 3 [4] [(66, pv b8 9)] ?_)
                   refine OkM.head rfl rfl (show _ = [.blk b23 (.cells #[.int .i64 e20.1, .int .i64 e20.2.1, sv e20.2.2.1, .bool e20.2.2.2.1, .bool e20.2.2.2.2.1, .bool e20.2.2.2.2.2.1, .bool e20.2.2.2.2.2.2.1, .bool e20.2.2.2.2.2.2.2] 41), .blk b17 (.cells #[.int .i64 e14.1, .int .i64 e14.2.1, .bool e14.2.2] 56), .blk b9 (.cells #[pv b8 0] 49), .blk b8 (.cells #[.slice axl_0 xl.length cxl_0, sv xe.1, .int .i64 xe.2.1, .int .i64 xe.2.2.1, .int .i64 xe.2.2.2.1, sv xe.2.2.2.2.1, .bool xe.2.2.2.2.2.1, .bool xe.2.2.2.2.2.2, .slice a26 (yown7_0l6i54 ++ ([(e20.1, e14.1, e14.2.1)] : List (Int × Int × Int))).length c26, .map (some b6), .bool (yb8_10l6i54 || e20.2.2.2.2.2.1), .bool (yb8_11l6i54 || e20.2.2.2.2.2.2.1), .bool (yb8_12l6i54 || (e20.2.2.2.2.2.2.2 && xe.2.2.2.2.2.2))] 52), .own (.slice a26 (yown7_0l6i54 ++ ([(e20.1, e14.1, e14.2.1)] : List (Int × Int × Int))).length c26) 38 3 (yown7_0l6i54 ++ ([(e20.1, e14.1, e14.2.1)] : List (Int × Int × Int))).length xs26] from rfl) (OpQ.step (v := .map (some b6)) (Yields.load 3 rfl rfl Tryd.underlying50 rfl (by kernel_rfl)) rfl rfl (OkM.batch 1 [(67, .map (some b6)), (68, pv b23 0)] (by kernel_rfl) (OkM.head rfl rfl (show _ = [.blk b23 (.cells #[.int .i64 e20.1, .int .i64 e20.2.1, sv e20.2.2.1, .bool e20.2.2.2.1, .bool e20.2.2.2.2.1, .bool e20.2.2.2.2.2.1, .bool e20.2.2.2.2.2.2.1, .bool e20.2.2.2.2.2.2.2] 41), .blk b17 (.cells #[.int .i64 e14.1, .int .i64 e14.2.1, .bool e14.2.2] 56), .blk b9 (.cells #[pv b8 0] 49), .blk b8 (.cells #[.slice axl_0 xl.length cxl_0, sv xe.1, .int .i64 xe.2.1, .int .i64 xe.2.2.1, .int .i64 xe.2.2.2.1, sv xe.2.2.2.2.1, .bool xe.2.2.2.2.2.1, .bool xe.2.2.2.2.2.2, .slice a26 (yown7_0l6i54 ++ ([(e20.1, e14.1, e14.2.1)] : List (Int × Int × Int))).length c26, .map (some b6), .bool (yb8_10l6i54 || e20.2.2.2.2.2.1), .bool (yb8_11l6i54 || e20.2.2.2.2.2.2.1), .bool (yb8_12l6i54 || (e20.2.2.2.2.2.2.2 && xe.2.2.2.2.2.2))] 52), .own (.slice a26 (yown7_0l6i54 ++ ([(e20.1, e14.1, e14.2.1)] : List (Int × Int × Int))).length c26) 38 3 (yown7_0l6i54 ++ ([(e20.1, e14.1, e14.2.1)] : List (Int × Int × Int))).length xs26] from rfl) (OpQ.step (v := .int .i64 e20.1) (Yields.load 0 rfl rfl Tryd.underlying3 rfl (by kernel_rfl)) rfl rfl (OkM.tail rfl rfl (OpOk.mapUpdate (vt := .int .i64) (row := false) (cells := [.int .i64 1]) (y := 1) keyInt 5 rfl hMyb6_0l6i54 rfl rfl rfl Tryd.underlying50 Tryd.underlying3 rfl rfl fun es28 ck28 hM28 => ?_))))))
                   refine OkM.leaf (i := 6) (show _ = [.blk b23 (.cells #[.int .i64 e20.1, .int .i64 e20.2.1, sv e20.2.2.1, .bool e20.2.2.2.1, .bool e20.2.2.2.2.1, .bool e20.2.2.2.2.2.1, .bool e20.2.2.2.2.2.2.1, .bool e20.2.2.2.2.2.2.2] 41), .blk b17 (.cells #[.int .i64 e14.1, .int .i64 e14.2.1, .bool e14.2.2] 56), .blk b9 (.cells #[pv b8 0] 49), .blk b8 (.cells #[.slice axl_0 xl.length cxl_0, sv xe.1, .int .i64 xe.2.1, .int .i64 xe.2.2.1, .int .i64 xe.2.2.2.1, sv xe.2.2.2.2.1, .bool xe.2.2.2.2.2.1, .bool xe.2.2.2.2.2.2, .slice a26 (yown7_0l6i54 ++ ([(e20.1, e14.1, e14.2.1)] : List (Int × Int × Int))).length c26, .map (some b6), .bool (yb8_10l6i54 || e20.2.2.2.2.2.1), .bool (yb8_11l6i54 || e20.2.2.2.2.2.2.1), .bool (yb8_12l6i54 || (e20.2.2.2.2.2.2.2 && xe.2.2.2.2.2.2))] 52), .own (.slice a26 (yown7_0l6i54 ++ ([(e20.1, e14.1, e14.2.1)] : List (Int × Int × Int))).length c26) 38 3 (yown7_0l6i54 ++ ([(e20.1, e14.1, e14.2.1)] : List (Int × Int × Int))).length xs26] from rfl) (Gle.refl _) (.cons_cons _ (.cons_cons _ (.cons_cons _ (.cons_cons _ (.cons_cons _ (.cons _ .slnil)))))) (OkM.nil (Ok.back (vs := []) (.inr rfl) rfl .nil rfl ?_))
                   exact fun a W hA hW => ⟨gj9i54i47, ((hxj5i54i47.trans hxj7i54i47).trans hxj9i54i47), a26, c26, xs26, es28, ck28, (putK e20.1 1 yb6_0l6i54), hL26, hM28, hA.sub (by kernel_rfl), hW.sub (.cons _ (.cons_cons _ (.cons_cons _ (.cons_cons _ (.cons_cons _ (.cons_cons _ .slnil)))))), hF⟩
                  ·replace hF := hF.2 hc27
                   refine Ok.skip (Ok.back (vs := []) (.inr rfl) rfl .nil rfl ?_)
                   exact fun a W hA hW => ⟨gj9i54i47, ((hxj5i54i47.trans hxj7i54i47).trans hxj9i54i47), a26, c26, xs26, esyb6_0l6i54, ckyb6_0l6i54, yb6_0l6i54, hL26, hMyb6_0l6i54, hA.sub (by kernel_rfl), hW.sub (.cons _ (.cons_cons _ (.cons_cons _ (.cons_cons _ (.cons_cons _ (.cons_cons _ .slnil)))))), hF⟩
              ·
               clear hF
               rintro a W ⟨gji27, hxji27, ayown7_0ji27, cyown7_0ji27, xsyown7_0ji27, esyb6_0ji27, ckyb6_0ji27, yb6_0ji27, hLyown7_0ji27, hMyb6_0ji27, hA, hW, hF⟩
               refine (?_ : Ok _ _ _ _ _ _) a W hA hW
               clear hA hW
               replace hRxl_0 := hRxl_0.mono hxji27.1
               replace hR11_0 := hR11_0.mono hxji27.1
               refine Ok.nil (Ok.blockN (Ok.thenN ?_))
               subst hg20
               refine Ok.heapEq (H' := [.blk b17 (.cells #[.int .i64 e14.1, .int .i64 e14.2.1, .bool e14.2.2] 56), .blk b9 (.cells #[pv b8 0] 49), .blk b8 (.cells #[.slice axl_0 xl.length cxl_0, sv xe.1, .int .i64 xe.2.1, .int .i64 xe.2.2.1, .int .i64 xe.2.2.2.1, sv xe.2.2.2.2.1, .bool xe.2.2.2.2.2.1, .bool xe.2.2.2.2.2.2, .slice ayown7_0ji27 (eseV37 xl xe e14 x11l6i54 yb8_11l6i54 yown7_0l6i54).length cyown7_0ji27, .map (some b6), .bool (eseV34 xl xe e14 x11l6i54 yb8_10l6i54 yb8_11l6i54), .bool (eseV35 xl xe e14 x11l6i54 yb8_11l6i54), .bool (eseV36 xl xe e14 x11l6i54 yb8_11l6i54 yb8_12l6i54)] 52), .own (.slice ayown7_0ji27 (eseV37 xl xe e14 x11l6i54 yb8_11l6i54 yown7_0l6i54).length cyown7_0ji27) 38 3 (eseV37 xl xe e14 x11l6i54 yb8_11l6i54 yown7_0l6i54).length xsyown7_0ji27, .blk b6 (.map esyb6_0ji27 ckyb6_0ji27)]) (econs (rfl) (econs (rfl) (econs (congrArg (fun l : List Value => Ent.blk b8 (.cells ⟨l⟩ 52)) (lcons (rfl) (lcons (rfl) (lcons (rfl) (lcons (rfl) (lcons (rfl) (lcons (rfl) (lcons (rfl) (lcons (rfl) (lcons (congrArg (fun l : List (Int × Int × Int) => Value.slice ayown7_0ji27 l.length cyown7_0ji27) ((if_t hc22).symm)) (lcons (rfl) (lcons (congrArg (Value.bool) ((if_t hc22).symm)) (lcons (congrArg (Value.bool) ((if_t hc22).symm)) (lcons (congrArg (Value.bool) ((if_t hc22).symm)) rfl)))))))))))))) (econs (congrArg (fun l : List (Int × Int × Int) => Ent.own (.slice ayown7_0ji27 l.length cyown7_0ji27) 38 3 l.length xsyown7_0ji27) ((if_t hc22).symm)) (econs (rfl) rfl))))) ?_
               exact fun a W hA hW => ⟨gji27, (hxj17i54.trans hxji27), ayown7_0ji27, cyown7_0ji27, xsyown7_0ji27, esyb6_0ji27, ckyb6_0ji27, yb6_0ji27, (Eq.mp (congrArg (fun l : List (Int × Int × Int) => RepL gji27 (.pair (.int .i64) (.pair (.int .i64) (.int .i64))) xsyown7_0ji27 l) ((if_t hc22).symm)) hLyown7_0ji27), hMyb6_0ji27, hA.sub (by kernel_rfl), hW, hF⟩
             ·replace hF := hF.2 hc22
              refine Ok.skip (Ok.blockN (Ok.thenN ?_))
              subst hg20
              refine Ok.heapEq (H' := [.blk b21 (.cells #[.int .i64 (xl.getD (Int.toNat x11l6i54) default).1, .int .i64 (xl.getD (Int.toNat x11l6i54) default).2.1, sv ((xl.getD (Int.toNat x11l6i54) default).2.2.1), .bool (xl.getD (Int.toNat x11l6i54) default).2.2.2.1, .bool (xl.getD (Int.toNat x11l6i54) default).2.2.2.2.1, .bool (xl.getD (Int.toNat x11l6i54) default).2.2.2.2.2.1, .bool (xl.getD (Int.toNat x11l6i54) default).2.2.2.2.2.2.1, .bool (xl.getD (Int.toNat x11l6i54) default).2.2.2.2.2.2.2] 41), .blk b17 (.cells #[.int .i64 e14.1, .int .i64 e14.2.1, .bool e14.2.2] 56), .blk b9 (.cells #[pv b8 0] 49), .blk b8 (.cells #[.slice axl_0 xl.length cxl_0, sv xe.1, .int .i64 xe.2.1, .int .i64 xe.2.2.1, .int .i64 xe.2.2.2.1, sv xe.2.2.2.2.1, .bool xe.2.2.2.2.2.1, .bool xe.2.2.2.2.2.2, .slice ayown7_0l6i54 (eseV37 xl xe e14 x11l6i54 yb8_11l6i54 yown7_0l6i54).length cyown7_0l6i54, .map (some b6), .bool (eseV34 xl xe e14 x11l6i54 yb8_10l6i54 yb8_11l6i54), .bool (eseV35 xl xe e14 x11l6i54 yb8_11l6i54), .bool (eseV36 xl xe e14 x11l6i54 yb8_11l6i54 yb8_12l6i54)] 52), .own (.slice ayown7_0l6i54 (eseV37 xl xe e14 x11l6i54 yb8_11l6i54 yown7_0l6i54).length cyown7_0l6i54) 38 3 (eseV37 xl xe e14 x11l6i54 yb8_11l6i54 yown7_0l6i54).length xsyown7_0l6i54, .blk b6 (.map esyb6_0l6i54 ckyb6_0l6i54)]) (econs (rfl) (econs (rfl) (econs (rfl) (econs (congrArg (fun l : List Value => Ent.blk b8 (.cells ⟨l⟩ 52)) (lcons (rfl) (lcons (rfl) (lcons (rfl) (lcons (rfl) (lcons (rfl) (lcons (rfl) (lcons (rfl) (lcons (rfl) (lcons (congrArg (fun l : List (Int × Int × Int) => Value.slice ayown7_0l6i54 l.length cyown7_0l6i54) ((if_f hc22).symm)) (lcons (rfl) (lcons (congrArg (Value.bool) ((if_f hc22).symm)) (lcons (congrArg (Value.bool) ((if_f hc22).symm)) (lcons (congrArg (Value.bool) ((if_f hc22).symm)) rfl)))))))))))))) (econs (congrArg (fun l : List (Int × Int × Int) => Ent.own (.slice ayown7_0l6i54 l.length cyown7_0l6i54) 38 3 l.length xsyown7_0l6i54) ((if_f hc22).symm)) (econs (rfl) rfl)))))) ?_
              exact fun a W hA hW => ⟨gj17i54, hxj17i54, ayown7_0l6i54, cyown7_0l6i54, xsyown7_0l6i54, esyb6_0l6i54, ckyb6_0l6i54, yb6_0l6i54, (Eq.mp (congrArg (fun l : List (Int × Int × Int) => RepL gj17i54 (.pair (.int .i64) (.pair (.int .i64) (.int .i64))) xsyown7_0l6i54 l) ((if_f hc22).symm)) hLyown7_0l6i54), hMyb6_0l6i54, hA.sub (by kernel_rfl), hW.sub (.cons _ (.cons_cons _ (.cons_cons _ (.cons_cons _ (.cons_cons _ (.cons_cons _ .slnil)))))), hF⟩
           ·
            clear hF
            rintro a W ⟨gj13i54, hxj13i54, ayown7_0j13i54, cyown7_0j13i54, xsyown7_0j13i54, esyb6_0j13i54, ckyb6_0j13i54, yb6_0j13i54, hLyown7_0j13i54, hMyb6_0j13i54, hA, hW, hF⟩
            refine (?_ : Ok _ _ _ _ _ _) a W hA hW
            clear hA hW
            replace hRxl_0 := hRxl_0.mono hxj13i54.1
            replace hR11_0 := hR11_0.mono hxj13i54.1
            refine Ok.region (Ok.bat 2 [0, 3, 9, 10] [(11, .int .i64 (w6 (x11l6i54 + 1)))] ?_)
            refine Ok.nil (Ok.thenN ?_)
            exact fun a W hA hW => ⟨k6x2, Nat.lt_succ_self _, gj13i54, (hxl6i54.trans hxj13i54), w6 (x11l6i54 + 1), (eseV34 xl xe e14 x11l6i54 yb8_10l6i54 yb8_11l6i54), (eseV35 xl xe e14 x11l6i54 yb8_11l6i54), (eseV36 xl xe e14 x11l6i54 yb8_11l6i54 yb8_12l6i54), ayown7_0j13i54, cyown7_0j13i54, (eseV37 xl xe e14 x11l6i54 yb8_11l6i54 yown7_0l6i54), xsyown7_0j13i54, esyb6_0j13i54, ckyb6_0j13i54, yb6_0j13i54, hLyown7_0j13i54, hMyb6_0j13i54, hA.sub (by kernel_rfl), hW, hF⟩
          ·replace hF := hF.2 hc18
           refine Ok.exit (Ok.thenE (Ok.thenE (Ok.blockHit (Ok.back (vs := []) (.inr rfl) rfl .nil rfl (Ok.nil (Ok.blockN (Ok.thenN ?_)))))))
           subst hg14
           exact fun a W hA hW => ⟨gl6i54, (hxj30.trans hxl6i54), yb8_10l6i54, yb8_11l6i54, yb8_12l6i54, ayown7_0l6i54, cyown7_0l6i54, yown7_0l6i54, xsyown7_0l6i54, esyb6_0l6i54, ckyb6_0l6i54, yb6_0l6i54, hLyown7_0l6i54, hMyb6_0l6i54, hA.sub (by kernel_rfl), hW.sub (.cons _ (.cons_cons _ (.cons_cons _ (.cons_cons _ (.cons_cons _ .slnil))))), hF⟩
       ·replace hF := hF.2 hc16
        refine Ok.skip (Ok.blockN (Ok.thenN ?_))
        subst hg14
        exact fun a W hA hW => ⟨gj30, hxj30, yb8_10l19, yb8_11l19, yb8_12l19, ayown7_0l19, cyown7_0l19, yown7_0l19, xsyown7_0l19, esyb6_0l19, ckyb6_0l19, yb6_0l19, hLyown7_0l19, hMyb6_0l19, hA.sub (by kernel_rfl), hW.sub (.cons _ (.cons_cons _ (.cons_cons _ (.cons_cons _ (.cons_cons _ .slnil))))), hF⟩
     ·
      clear hF
      rintro a W ⟨gj26, hxj26, yb8_10j26, yb8_11j26, yb8_12j26, ayown7_0j26, cyown7_0j26, yown7_0j26, xsyown7_0j26, esyb6_0j26, ckyb6_0j26, yb6_0j26, hLyown7_0j26, hMyb6_0j26, hA, hW, hF⟩
      refine (?_ : Ok _ _ _ _ _ _) a W hA hW
      clear hA hW
      replace hRxl_0 := hRxl_0.mono hxj26.1
      replace hR11_0 := hR11_0.mono hxj26.1
      refine Ok.region (Ok.bat 2 [1, 12, 34, 35] [(36, .int .i64 (w6 (x36l19 + 1)))] ?_)
      refine Ok.nil (Ok.thenN ?_)
      exact fun a W hA hW => ⟨k19, Nat.lt_succ_self _, gj26, (hxl19.trans hxj26), w6 (x36l19 + 1), yb8_10j26, yb8_11j26, yb8_12j26, ayown7_0j26, cyown7_0j26, yown7_0j26, xsyown7_0j26, esyb6_0j26, ckyb6_0j26, yb6_0j26, hLyown7_0j26, hMyb6_0j26, hA.sub (by kernel_rfl), hW, hF⟩
    ·replace hF := hF.2 hc12
     refine Ok.exit (Ok.thenE (Ok.thenE (Ok.blockHit (Ok.thenN (Ok.seq (Ok.region (Ok.bat 1 [12] [(56, .slice axl_0 xl.length cxl_0)] ?_)))))))
     obtain ⟨hp37, hF⟩ := hF
     refine Ok.op rfl (OpOk.callH [] _ enr rfl (ecl_c xl hRxl_0 hp37) rfl fun g38 _ _ hx38 hV38 => ?_)
     obtain ⟨a38_0, c38_0, xs38_0, rfl, hL38_0, rfl⟩ := hV38
     replace hRxl_0 := hRxl_0.mono hx38.1
     replace hLyown7_0l19 := hLyown7_0l19.mono hx38.1
     replace hMyb6_0l19 := hMyb6_0l19.mono hx38.1
     refine Ok.bat 1 [12] [(57, .slice a38_0 (eclS xl).length c38_0), (58, .func (.func 18) #[] #[pv b9 0])] ?_
     refine Ok.op rfl (OpOk.cut (fun a W => ∃ gji31 : Ghost, Gext w0 g38 gji31 ∧ ∃ (ayown38_0_0ji31 : Option Addr) (cyown38_0_0ji31 : Nat) (yown38_0_0ji31 : List (LI)) (xsyown38_0_0ji31 : List Value), RepL gji31 (.pair (.int .i64) (.pair (.int .i64) (.pair (.str) (.pair (.bool) (.pair (.bool) (.pair (.bool) (.pair (.bool) (.bool)))))))) xsyown38_0_0ji31 yown38_0_0ji31 ∧ StA 69 [(12, pv b9 0), (59, .slice ayown38_0_0ji31 yown38_0_0ji31.length cyown38_0_0ji31)] a ∧ StW w0 [.own (.slice ayown38_0_0ji31 yown38_0_0ji31.length cyown38_0_0ji31) 41 8 yown38_0_0ji31.length xsyown38_0_0ji31, .blk b9 (.cells #[pv b8 0] 49), .blk b8 (.cells #[.slice axl_0 xl.length cxl_0, sv xe.1, .int .i64 xe.2.1, .int .i64 xe.2.2.1, .int .i64 xe.2.2.2.1, sv xe.2.2.2.2.1, .bool xe.2.2.2.2.2.1, .bool xe.2.2.2.2.2.2, .slice ayown7_0l19 yown7_0l19.length cyown7_0l19, .map (some b6), .bool yb8_10l19, .bool yb8_11l19, .bool yb8_12l19] 52), .own (.slice ayown7_0l19 yown7_0l19.length cyown7_0l19) 38 3 yown7_0l19.length xsyown7_0l19, .blk b6 (.map esyb6_0l19 ckyb6_0l19)] gji31 W ∧ eseji31 K yb8_12l19 yown7_0l19 yown38_0_0ji31) ?_ ?_)
     ·
      refine OpOk.inline (args := #[.slice a38_0 (eclS xl).length c38_0, .func (.func 18) #[] #[pv b9 0]]) 42 [(0, .slice a38_0 (eclS xl).length c38_0), (1, .func (.func 18) #[] #[pv b9 0])] enr Tryd.func16 rfl rfl rfl rfl (Ok.seq (Ok.region (Ok.batch 1 [(0, .slice a38_0 (eclS xl).length c38_0), (1, .func (.func 18) #[] #[pv b9 0])] (by kernel_rfl) (Ok.nil (Ok.thenN (Ok.seq (Ok.region (Ok.bat 2 [0, 1] [(8, .slice a38_0 (eclS xl).length c38_0), (9, .func (.func 18) #[] #[pv b9 0])] ?_))))))))
      refine Ok.op rfl (OpOk.cut (fun a W => ∃ gji33 : Ghost, Gext w0 g38 gji33 ∧ ∃ (x10ji33 : Int), StA 42 [(0, .slice a38_0 (eclS xl).length c38_0), (1, .func (.func 18) #[] #[pv b9 0]), (10, .int .i64 x10ji33)] a ∧ StW w0 [.own (.slice a38_0 (eclS xl).length c38_0) 41 8 (eclS xl).length xs38_0, .blk b9 (.cells #[pv b8 0] 49), .blk b8 (.cells #[.slice axl_0 xl.length cxl_0, sv xe.1, .int .i64 xe.2.1, .int .i64 xe.2.2.1, .int .i64 xe.2.2.2.1, sv xe.2.2.2.2.1, .bool xe.2.2.2.2.2.1, .bool xe.2.2.2.2.2.2, .slice ayown7_0l19 yown7_0l19.length cyown7_0l19, .map (some b6), .bool yb8_10l19, .bool yb8_11l19, .bool yb8_12l19] 52), .own (.slice ayown7_0l19 yown7_0l19.length cyown7_0l19) 38 3 yown7_0l19.length xsyown7_0l19, .blk b6 (.map esyb6_0l19 ckyb6_0l19)] gji33 W ∧ eseji33 xl K yb8_12l19 yown7_0l19 yb6_0l19 x10ji33) ?_ ?_)
      ·
       refine OpOk.inline (args := #[.slice a38_0 (eclS xl).length c38_0, .func (.func 18) #[] #[pv b9 0]]) 19 [(0, .slice a38_0 (eclS xl).length c38_0), (1, .func (.func 18) #[] #[pv b9 0])] enr Tryd.func28 rfl rfl rfl rfl (Ok.seq (Ok.region (Ok.batch 1 [(0, .slice a38_0 (eclS xl).length c38_0), (1, .func (.func 18) #[] #[pv b9 0])] (by kernel_rfl) (Ok.nil (Ok.thenN (Ok.seq (Ok.seq (Ok.region (Ok.bat 3 [0, 1] [(7, .int .i64 ((eclS xl).length : Int)), (8, .int .i64 0)] ?_)))))))))
       refine Ok.nil (Ok.thenN (Ok.block ?_))
       obtain ⟨k, hF⟩ := hF
       refine Ok.loop (fun k a W => ∃ gl7i59i10 : Ghost, Gext w0 g38 gl7i59i10 ∧ ∃ (x8l7i59i10 : Int), StA 19 [(0, .slice a38_0 (eclS xl).length c38_0), (1, .func (.func 18) #[] #[pv b9 0]), (7, .int .i64 ((eclS xl).length : Int)), (8, .int .i64 x8l7i59i10)] a ∧ StW w0 [.own (.slice a38_0 (eclS xl).length c38_0) 41 8 (eclS xl).length xs38_0, .blk b9 (.cells #[pv b8 0] 49), .blk b8 (.cells #[.slice axl_0 xl.length cxl_0, sv xe.1, .int .i64 xe.2.1, .int .i64 xe.2.2.1, .int .i64 xe.2.2.2.1, sv xe.2.2.2.2.1, .bool xe.2.2.2.2.2.1, .bool xe.2.2.2.2.2.2, .slice ayown7_0l19 yown7_0l19.length cyown7_0l19, .map (some b6), .bool yb8_10l19, .bool yb8_11l19, .bool yb8_12l19] 52), .own (.slice ayown7_0l19 yown7_0l19.length cyown7_0l19) 38 3 yown7_0l19.length xsyown7_0l19, .blk b6 (.map esyb6_0l19 ckyb6_0l19)] gl7i59i10 W ∧ esel7x4 xl K yb8_12l19 yown7_0l19 yb6_0l19 k x8l7i59i10) k ?_ ?_
       ·
        exact fun a W hA hW => ⟨g38, (Gext.refl w0 g38), 0, hA.sub (by kernel_rfl), hW, hF⟩
       ·
        clear hF
        rintro k7x4 a W ⟨gl7i59i10, hxl7i59i10, x8l7i59i10, hA, hW, hF⟩
        cases k7x4 with
        | zero => exact (hF : False).elim
        | succ k7x4 =>
         refine (?_ : Ok _ _ _ _ _ _) a W hA hW
         clear hA hW
         replace hL38_0 := hL38_0.mono hxl7i59i10.1
         replace hRxl_0 := hRxl_0.mono hxl7i59i10.1
         replace hLyown7_0l19 := hLyown7_0l19.mono hxl7i59i10.1
         replace hMyb6_0l19 := hMyb6_0l19.mono hxl7i59i10.1
         refine Ok.seq (Ok.region (Ok.bat 1 [0, 1, 7, 8] [(9, .bool (decide (x8l7i59i10 < ((eclS xl).length : Int))))] ?_))
         refine Ok.nil (Ok.thenN (Ok.seq (Ok.cond (b := decide (x8l7i59i10 < ((eclS xl).length : Int))) rfl (fun hc55 => ?_) (fun hc55 => ?_))))
         ·replace hF := hF.1 hc55
          refine Ok.skip (Ok.thenN (Ok.seq (Ok.block (Ok.seq (Ok.region (Ok.bat 2 [0, 1, 7, 8] [(5, .int .i64 x8l7i59i10)] ?_))))))
          refine Ok.nil (Ok.thenN (Ok.seq (Ok.region (Ok.bat 3 [0, 1, 5, 7, 8] [(11, .func (.func 18) #[] #[pv b9 0]), (12, .slice a38_0 (eclS xl).length c38_0), (13, .int .i64 x8l7i59i10)] ?_))))
          obtain ⟨h057, h157, hF⟩ := hF
          have he57 := get_of (l := (eclS xl)) (default : LI) h157
          generalize hg57 : ((eclS xl).getD (Int.toNat x8l7i59i10) default) = e57 at he57 hF ⊢
          refine Ok.op rfl (OpOk.indexOwn (e := .pair (.int .i64) (.pair (.int .i64) (.pair (.str) (.pair (.bool) (.pair (.bool) (.pair (.bool) (.pair (.bool) (.bool)))))))) (q := x8l7i59i10) (el := e57) 0 rfl hL38_0 rfl rfl Tryd.underlying25 (by kernel_rfl) (by kernel_rfl) h057 he57 rfl fun cs56 _ hr56 hc56 => ?_)
          obtain ⟨_, _, rfl, rfl, ⟨_, _, rfl, rfl, ⟨_, _, rfl, rfl, ⟨_, _, rfl, rfl, ⟨_, _, rfl, rfl, ⟨_, _, rfl, rfl, ⟨_, _, rfl, rfl, rfl⟩⟩⟩⟩⟩⟩⟩ := hr56
          replace hc56 : ∀ j v, ([.int .i64 e57.1, .int .i64 e57.2.1, sv e57.2.2.1, .bool e57.2.2.2.1, .bool e57.2.2.2.2.1, .bool e57.2.2.2.2.2.1, .bool e57.2.2.2.2.2.2.1, .bool e57.2.2.2.2.2.2.2] : List Value)[j]? = some v → xs38_0[Int.toNat x8l7i59i10 * 8 + j]? = some v := hc56
          refine Ok.op rfl (OpOk.step (v := .agg #[.int .i64 e57.1, .int .i64 e57.2.1, sv e57.2.2.1, .bool e57.2.2.2.1, .bool e57.2.2.2.2.1, .bool e57.2.2.2.2.2.1, .bool e57.2.2.2.2.2.2.1, .bool e57.2.2.2.2.2.2.2]) (Yields.loadAggOwn 0 0 8 #[.int .i64 e57.1, .int .i64 e57.2.1, sv e57.2.2.1, .bool e57.2.2.2.1, .bool e57.2.2.2.2.1, .bool e57.2.2.2.2.2.1, .bool e57.2.2.2.2.2.2.1, .bool e57.2.2.2.2.2.2.2] rfl hc56 rfl Tryd.underlying41 rfl (by kernel_rfl) (by kernel_rfl) (by kernel_rfl)) rfl rfl (Ok.op rfl (OpOk.inline (args := #[.agg #[.int .i64 e57.1, .int .i64 e57.2.1, sv e57.2.2.1, .bool e57.2.2.2.1, .bool e57.2.2.2.2.1, .bool e57.2.2.2.2.2.1, .bool e57.2.2.2.2.2.2.1, .bool e57.2.2.2.2.2.2.2], pv b9 0]) 12 [(0, .agg #[.int .i64 e57.1, .int .i64 e57.2.1, sv e57.2.2.1, .bool e57.2.2.2.1, .bool e57.2.2.2.2.1, .bool e57.2.2.2.2.2.1, .bool e57.2.2.2.2.2.2.1, .bool e57.2.2.2.2.2.2.2]), (1, pv b9 0)] enr Tryd.func18 rfl rfl rfl rfl (Ok.seq (Ok.region (Ok.op rfl (OpOk.box (v := .agg #[.int .i64 e57.1, .int .i64 e57.2.1, sv e57.2.2.1, .bool e57.2.2.2.1, .bool e57.2.2.2.2.1, .bool e57.2.2.2.2.2.1, .bool e57.2.2.2.2.2.2.1, .bool e57.2.2.2.2.2.2.2]) (cs := #[.int .i64 e57.1, .int .i64 e57.2.1, sv e57.2.2.1, .bool e57.2.2.2.1, .bool e57.2.2.2.2.1, .bool e57.2.2.2.2.2.1, .bool e57.2.2.2.2.2.2.1, .bool e57.2.2.2.2.2.2.2]) rfl (by kernel_rfl) rfl fun b58 => ?_)))))))
          refine Ok.batch 1 [(1, pv b9 0), (2, pv b58 0)] (by kernel_rfl) (Ok.nil (Ok.thenN (Ok.cut (fun a W => ∃ gj3i59i10i16 : Ghost, Gext w0 gl7i59i10 gj3i59i10i16 ∧ ∃ (x3j3i59i10i16 : Bool), StA 12 [(3, .bool x3j3i59i10i16)] a ∧ StW w0 [.own (.slice a38_0 (eclS xl).length c38_0) 41 8 (eclS xl).length xs38_0, .blk b9 (.cells #[pv b8 0] 49), .blk b8 (.cells #[.slice axl_0 xl.length cxl_0, sv xe.1, .int .i64 xe.2.1, .int .i64 xe.2.2.1, .int .i64 xe.2.2.2.1, sv xe.2.2.2.2.1, .bool xe.2.2.2.2.2.1, .bool xe.2.2.2.2.2.2, .slice ayown7_0l19 yown7_0l19.length cyown7_0l19, .map (some b6), .bool yb8_10l19, .bool yb8_11l19, .bool yb8_12l19] 52), .own (.slice ayown7_0l19 yown7_0l19.length cyown7_0l19) 38 3 yown7_0l19.length xsyown7_0l19, .blk b6 (.map esyb6_0l19 ckyb6_0l19)] gj3i59i10i16 W ∧ esej3i59i10i16 xl K yb8_12l19 yown7_0l19 yb6_0l19 x3j3i59i10i16 x8l7i59i10 (esel7x4 xl K yb8_12l19 yown7_0l19 yb6_0l19 k7x4)) ?_ ?_)))
          ·
           refine Ok.quiet' (by kernel_rfl) (by kernel_rfl) (OkQ.op rfl (OpQ.step (v := pv b8 0) (Yields.load 2 rfl rfl Tryd.underlying49 rfl (by kernel_rfl)) rfl rfl (OkQ.bat 2 [2] [(6, pv b8 9)] ?_)))
           refine OkQ.op rfl (OpQ.step (v := .map (some b6)) (Yields.load 3 rfl rfl Tryd.underlying50 rfl (by kernel_rfl)) rfl rfl (OkQ.batch 1 [(7, .map (some b6)), (8, pv b58 0)] (by kernel_rfl) (OkQ.op rfl (OpQ.step (v := .int .i64 e57.1) (Yields.load 0 rfl rfl Tryd.underlying3 rfl (by kernel_rfl)) rfl rfl ?_))))
           cases hce60 : assocK e57.1 yb6_0l19 with
           | some e60 =>
            replace hF := hF.1 e60 hce60
            refine OkQ.op rfl (OpQ.lookupSome (vt := .int .i64) (row := false) keyInt 5 rfl hMyb6_0l19 rfl rfl Tryd.underlying50 Tryd.underlying3 hce60 rfl fun v60 cs60 hvi60 hr60 u60 hu60 => ?_)
            obtain rfl := hr60
            have hvi60 : ([.int .i64 e60] : List Value) = [v60] := hvi60
            injection hvi60 with hvi60
            subst hvi60
            have hu60 : u60 = .int .i64 e60 := hu60
            subst hu60
            refine OkQ.batch 2 [(3, .bool (e60 == 1))] (by kernel_rfl) (OkQ.nil (Ok.thenN ?_))
            exact fun a W hA hW => ⟨gl7i59i10, (Gext.refl w0 gl7i59i10), (e60 == 1), hA.sub (by kernel_rfl), hW.sub (.cons _ (.cons_cons _ (.cons_cons _ (.cons_cons _ (.cons_cons _ (.cons_cons _ .slnil)))))), hF⟩
           | none =>
            replace hF := hF.2 hce60
            refine OkQ.op rfl (OpQ.lookupNone (vt := .int .i64) (row := false) (z := .int .i64 0) (u := .int .i64 0) keyInt 5 rfl hMyb6_0l19 rfl rfl Tryd.underlying50 Tryd.underlying3 (by kernel_rfl) hce60 rfl rfl (OkQ.batch 2 [(3, .bool false)] (by kernel_rfl) (OkQ.nil (Ok.thenN ?_))))
            exact fun a W hA hW => ⟨gl7i59i10, (Gext.refl w0 gl7i59i10), false, hA.sub (by kernel_rfl), hW.sub (.cons _ (.cons_cons _ (.cons_cons _ (.cons_cons _ (.cons_cons _ (.cons_cons _ .slnil)))))), hF⟩
          ·
           clear hF
           rintro a W ⟨gj3i59i10i16, hxj3i59i10i16, x3j3i59i10i16, hA, hW, hF⟩
           refine (?_ : Ok _ _ _ _ _ _) a W hA hW
           clear hA hW
           replace hL38_0 := hL38_0.mono hxj3i59i10i16.1
           replace hRxl_0 := hRxl_0.mono hxj3i59i10i16.1
           replace hLyown7_0l19 := hLyown7_0l19.mono hxj3i59i10i16.1
           replace hMyb6_0l19 := hMyb6_0l19.mono hxj3i59i10i16.1
           refine Ok.ret (Ok.back (vs := [.bool x3j3i59i10i16]) (.inl rfl) rfl (.cons (.tmp rfl) .nil) rfl (Ok.nil (Ok.thenN (Ok.cond (b := x3j3i59i10i16) rfl (fun hc59 => ?_) (fun hc59 => ?_)))))
           ·replace hF := hF.1 hc59
            refine Ok.seq (Ok.region (Ok.batch 2 [(4, .int .i64 x8l7i59i10)] (by kernel_rfl) (Ok.nil (Ok.thenN (Ok.ret (Ok.blockR (Ok.thenR (Ok.thenR (Ok.blockR (Ok.thenR (Ok.back (vs := [.int .i64 x8l7i59i10]) (.inl rfl) rfl (.cons (.tmp rfl) .nil) rfl ?_)))))))))))
            subst hg57
            exact fun a W hA hW => ⟨gj3i59i10i16, (hxl7i59i10.trans hxj3i59i10i16), x8l7i59i10, hA.sub (by kernel_rfl), hW, hF⟩
           ·replace hF := hF.2 hc59
            refine Ok.skip (Ok.blockN (Ok.thenN (Ok.region (Ok.batch 2 [(0, .slice a38_0 (eclS xl).length c38_0), (1, .func (.func 18) #[] #[pv b9 0]), (7, .int .i64 ((eclS xl).length : Int)), (8, .int .i64 (w6 (x8l7i59i10 + 1)))] (by kernel_rfl) (Ok.nil (Ok.thenN ?_))))))
            subst hg57
            exact fun a W hA hW => ⟨k7x4, Nat.lt_succ_self _, gj3i59i10i16, (hxl7i59i10.trans hxj3i59i10i16), w6 (x8l7i59i10 + 1), hA.sub (by kernel_rfl), hW, hF⟩
         ·replace hF := hF.2 hc55
          refine Ok.exit (Ok.thenE (Ok.thenE (Ok.blockHit (Ok.thenN (Ok.seq (Ok.region (Ok.batch 1 [(4, .int .i64 (-1))] (by kernel_rfl) (Ok.nil (Ok.thenN (Ok.ret (Ok.back (vs := [.int .i64 (-1)]) (.inl rfl) rfl (.cons (.tmp rfl) .nil) rfl ?_)))))))))))
          exact fun a W hA hW => ⟨gl7i59i10, hxl7i59i10, -1, hA.sub (by kernel_rfl), hW, hF⟩
      ·
       clear hF
       rintro a W ⟨gji33, hxji33, x10ji33, hA, hW, hF⟩
       refine (?_ : Ok _ _ _ _ _ _) a W hA hW
       clear hA hW
       replace hL38_0 := hL38_0.mono hxji33.1
       replace hRxl_0 := hRxl_0.mono hxji33.1
       replace hLyown7_0l19 := hLyown7_0l19.mono hxji33.1
       replace hMyb6_0l19 := hMyb6_0l19.mono hxji33.1
       refine Ok.bat 1 [0, 1] [(5, .int .i64 x10ji33)] ?_
       refine Ok.nil (Ok.thenN (Ok.seq (Ok.seq (Ok.region (Ok.bat 2 [0, 1, 5] [(12, .bool (x10ji33 == (-1)))] ?_)))))
       refine Ok.nil (Ok.thenN (Ok.cond (b := (x10ji33 == (-1))) rfl (fun hc41 => ?_) (fun hc41 => ?_)))
       ·replace hF := hF.1 hc41
        refine Ok.seq (Ok.region (Ok.batch 2 [(4, .slice a38_0 (eclS xl).length c38_0)] (by kernel_rfl) (Ok.nil (Ok.thenN (Ok.ret (Ok.thenR (Ok.back (vs := [.slice a38_0 (eclS xl).length c38_0]) (.inl rfl) rfl (.cons (.tmp rfl) .nil) rfl ?_)))))))
        exact fun a W hA hW => ⟨gji33, hxji33, a38_0, c38_0, (eclS xl), xs38_0, hL38_0, hA.sub (by kernel_rfl), hW, hF⟩
       ·replace hF := hF.2 hc41
        refine Ok.skip (Ok.thenN (Ok.seq (Ok.seq (Ok.region (Ok.bat 3 [0, 1, 5] [(6, .int .i64 (w6 (x10ji33 + 1)))] ?_)))))
        refine Ok.nil (Ok.thenN (Ok.block ?_))
        obtain ⟨k, hF⟩ := hF
        refine Ok.loop (fun k a W => ∃ gl17i59 : Ghost, Gext w0 gji33 gl17i59 ∧ ∃ (x5l17i59 : Int) (x6l17i59 : Int) (ayown38_0_0l17i59 : Option Addr) (cyown38_0_0l17i59 : Nat) (yown38_0_0l17i59 : List (LI)) (xsyown38_0_0l17i59 : List Value), RepL gl17i59 (.pair (.int .i64) (.pair (.int .i64) (.pair (.str) (.pair (.bool) (.pair (.bool) (.pair (.bool) (.pair (.bool) (.bool)))))))) xsyown38_0_0l17i59 yown38_0_0l17i59 ∧ StA 42 [(0, .slice ayown38_0_0l17i59 yown38_0_0l17i59.length cyown38_0_0l17i59), (1, .func (.func 18) #[] #[pv b9 0]), (5, .int .i64 x5l17i59), (6, .int .i64 x6l17i59)] a ∧ StW w0 [.own (.slice ayown38_0_0l17i59 yown38_0_0l17i59.length cyown38_0_0l17i59) 41 8 yown38_0_0l17i59.length xsyown38_0_0l17i59, .blk b9 (.cells #[pv b8 0] 49), .blk b8 (.cells #[.slice axl_0 xl.length cxl_0, sv xe.1, .int .i64 xe.2.1, .int .i64 xe.2.2.1, .int .i64 xe.2.2.2.1, sv xe.2.2.2.2.1, .bool xe.2.2.2.2.2.1, .bool xe.2.2.2.2.2.2, .slice ayown7_0l19 yown7_0l19.length cyown7_0l19, .map (some b6), .bool yb8_10l19, .bool yb8_11l19, .bool yb8_12l19] 52), .own (.slice ayown7_0l19 yown7_0l19.length cyown7_0l19) 38 3 yown7_0l19.length xsyown7_0l19, .blk b6 (.map esyb6_0l19 ckyb6_0l19)] gl17i59 W ∧ esel17x3 K yb8_12l19 yown7_0l19 yb6_0l19 k x5l17i59 x6l17i59 yown38_0_0l17i59) k ?_ ?_
        ·
         exact fun a W hA hW => ⟨gji33, (Gext.refl w0 gji33), x10ji33, w6 (x10ji33 + 1), a38_0, c38_0, (eclS xl), xs38_0, hL38_0, hA.sub (by kernel_rfl), hW, hF⟩
        ·
         clear hF
         rintro k17x3 a W ⟨gl17i59, hxl17i59, x5l17i59, x6l17i59, ayown38_0_0l17i59, cyown38_0_0l17i59, yown38_0_0l17i59, xsyown38_0_0l17i59, hLyown38_0_0l17i59, hA, hW, hF⟩
         cases k17x3 with
         | zero => exact (hF : False).elim
         | succ k17x3 =>
          refine (?_ : Ok _ _ _ _ _ _) a W hA hW
          clear hA hW
          replace hRxl_0 := hRxl_0.mono hxl17i59.1
          replace hLyown7_0l19 := hLyown7_0l19.mono hxl17i59.1
          replace hMyb6_0l19 := hMyb6_0l19.mono hxl17i59.1
          refine Ok.seq (Ok.seq (Ok.region (Ok.bat 4 [0, 1, 5, 6] [(19, .bool (decide (x6l17i59 < (yown38_0_0l17i59.length : Int))))] ?_)))
          refine Ok.nil (Ok.thenN (Ok.cond (b := decide (x6l17i59 < (yown38_0_0l17i59.length : Int))) rfl (fun hc42 => ?_) (fun hc42 => ?_)))
          ·replace hF := hF.1 hc42
           refine Ok.skip (Ok.thenN (Ok.cut (fun a W => ∃ gj24i59 : Ghost, Gext w0 gl17i59 gj24i59 ∧ ∃ (x5j24i59 : Int) (ayown38_0_0j24i59 : Option Addr) (cyown38_0_0j24i59 : Nat) (yown38_0_0j24i59 : List (LI)) (xsyown38_0_0j24i59 : List Value), RepL gj24i59 (.pair (.int .i64) (.pair (.int .i64) (.pair (.str) (.pair (.bool) (.pair (.bool) (.pair (.bool) (.pair (.bool) (.bool)))))))) xsyown38_0_0j24i59 yown38_0_0j24i59 ∧ StA 42 [(0, .slice ayown38_0_0j24i59 yown38_0_0j24i59.length cyown38_0_0j24i59), (1, .func (.func 18) #[] #[pv b9 0]), (5, .int .i64 x5j24i59), (6, .int .i64 x6l17i59)] a ∧ StW w0 [.own (.slice ayown38_0_0j24i59 yown38_0_0j24i59.length cyown38_0_0j24i59) 41 8 yown38_0_0j24i59.length xsyown38_0_0j24i59, .blk b9 (.cells #[pv b8 0] 49), .blk b8 (.cells #[.slice axl_0 xl.length cxl_0, sv xe.1, .int .i64 xe.2.1, .int .i64 xe.2.2.1, .int .i64 xe.2.2.2.1, sv xe.2.2.2.2.1, .bool xe.2.2.2.2.2.1, .bool xe.2.2.2.2.2.2, .slice ayown7_0l19 yown7_0l19.length cyown7_0l19, .map (some b6), .bool yb8_10l19, .bool yb8_11l19, .bool yb8_12l19] 52), .own (.slice ayown7_0l19 yown7_0l19.length cyown7_0l19) 38 3 yown7_0l19.length xsyown7_0l19, .blk b6 (.map esyb6_0l19 ckyb6_0l19)] gj24i59 W ∧ esej24i59 x5j24i59 x6l17i59 yown38_0_0j24i59 (esel17x3 K yb8_12l19 yown7_0l19 yb6_0l19 k17x3)) ?_ ?_))
           ·
            refine Ok.block (Ok.seq (Ok.region (Ok.bat 2 [0, 1, 5, 6] [(22, .slice ayown38_0_0l17i59 yown38_0_0l17i59.length cyown38_0_0l17i59), (23, .int .i64 x6l17i59)] ?_)))
            obtain ⟨h044, h144, hF⟩ := hF
            have he44 := get_of (l := yown38_0_0l17i59) (default : LI) h144
            generalize hg44 : (yown38_0_0l17i59.getD (Int.toNat x6l17i59) default) = e44 at he44 hF ⊢
            refine Ok.op rfl (OpOk.indexOwn (e := .pair (.int .i64) (.pair (.int .i64) (.pair (.str) (.pair (.bool) (.pair (.bool) (.pair (.bool) (.pair (.bool) (.bool)))))))) (q := x6l17i59) (el := e44) 0 rfl hLyown38_0_0l17i59 rfl rfl Tryd.underlying25 (by kernel_rfl) (by kernel_rfl) h044 he44 rfl fun cs43 _ hr43 hc43 => ?_)
            obtain ⟨_, _, rfl, rfl, ⟨_, _, rfl, rfl, ⟨_, _, rfl, rfl, ⟨_, _, rfl, rfl, ⟨_, _, rfl, rfl, ⟨_, _, rfl, rfl, ⟨_, _, rfl, rfl, rfl⟩⟩⟩⟩⟩⟩⟩ := hr43
            replace hc43 : ∀ j v, ([.int .i64 e44.1, .int .i64 e44.2.1, sv e44.2.2.1, .bool e44.2.2.2.1, .bool e44.2.2.2.2.1, .bool e44.2.2.2.2.2.1, .bool e44.2.2.2.2.2.2.1, .bool e44.2.2.2.2.2.2.2] : List Value)[j]? = some v → xsyown38_0_0l17i59[Int.toNat x6l17i59 * 8 + j]? = some v := hc43
            refine Ok.op rfl (OpOk.step (v := .agg #[.int .i64 e44.1, .int .i64 e44.2.1, sv e44.2.2.1, .bool e44.2.2.2.1, .bool e44.2.2.2.2.1, .bool e44.2.2.2.2.2.1, .bool e44.2.2.2.2.2.2.1, .bool e44.2.2.2.2.2.2.2]) (Yields.loadAggOwn 0 0 8 #[.int .i64 e44.1, .int .i64 e44.2.1, sv e44.2.2.1, .bool e44.2.2.2.1, .bool e44.2.2.2.2.1, .bool e44.2.2.2.2.2.1, .bool e44.2.2.2.2.2.2.1, .bool e44.2.2.2.2.2.2.2] rfl hc43 rfl Tryd.underlying41 rfl (by kernel_rfl) (by kernel_rfl) (by kernel_rfl)) rfl rfl (Ok.op rfl (OpOk.alloc (z := .agg #[.int .i64 0, .int .i64 0, sv ([] : Bs), .bool false, .bool false, .bool false, .bool false, .bool false]) (cs := #[.int .i64 0, .int .i64 0, sv ([] : Bs), .bool false, .bool false, .bool false, .bool false, .bool false]) (by kernel_rfl) (by kernel_rfl) rfl fun b45 => ?_)))
            refine Ok.op rfl (OpOk.sto (k := 8) (v := .agg #[.int .i64 e44.1, .int .i64 e44.2.1, sv e44.2.2.1, .bool e44.2.2.2.1, .bool e44.2.2.2.2.1, .bool e44.2.2.2.2.2.1, .bool e44.2.2.2.2.2.2.1, .bool e44.2.2.2.2.2.2.2]) 0 #[.int .i64 e44.1, .int .i64 e44.2.1, sv e44.2.2.1, .bool e44.2.2.2.1, .bool e44.2.2.2.2.1, .bool e44.2.2.2.2.2.1, .bool e44.2.2.2.2.2.2.1, .bool e44.2.2.2.2.2.2.2] rfl rfl rfl ?_)
            refine Ok.nil (Ok.thenN (Ok.seq (Ok.region (Ok.bat 1 [0, 1, 5, 6] [(7, pv b45 0), (26, .func (.func 18) #[] #[pv b9 0])] ?_))))
            refine Ok.op rfl (OpOk.step (v := .agg #[.int .i64 e44.1, .int .i64 e44.2.1, sv e44.2.2.1, .bool e44.2.2.2.1, .bool e44.2.2.2.2.1, .bool e44.2.2.2.2.2.1, .bool e44.2.2.2.2.2.2.1, .bool e44.2.2.2.2.2.2.2]) (Yields.loadAgg 0 8 #[.int .i64 e44.1, .int .i64 e44.2.1, sv e44.2.2.1, .bool e44.2.2.2.1, .bool e44.2.2.2.2.1, .bool e44.2.2.2.2.2.1, .bool e44.2.2.2.2.2.2.1, .bool e44.2.2.2.2.2.2.2] rfl rfl Tryd.underlying41 rfl (by kernel_rfl) (by kernel_rfl) (by kernel_rfl)) rfl rfl (Ok.op rfl (OpOk.inline (args := #[.agg #[.int .i64 e44.1, .int .i64 e44.2.1, sv e44.2.2.1, .bool e44.2.2.2.1, .bool e44.2.2.2.2.1, .bool e44.2.2.2.2.2.1, .bool e44.2.2.2.2.2.2.1, .bool e44.2.2.2.2.2.2.2], pv b9 0]) 12 [(0, .agg #[.int .i64 e44.1, .int .i64 e44.2.1, sv e44.2.2.1, .bool e44.2.2.2.1, .bool e44.2.2.2.2.1, .bool e44.2.2.2.2.2.1, .bool e44.2.2.2.2.2.2.1, .bool e44.2.2.2.2.2.2.2]), (1, pv b9 0)] enr Tryd.func18 rfl rfl rfl rfl (Ok.seq (Ok.region (Ok.op rfl (OpOk.box (v := .agg #[.int .i64 e44.1, .int .i64 e44.2.1, sv e44.2.2.1, .bool e44.2.2.2.1, .bool e44.2.2.2.2.1, .bool e44.2.2.2.2.2.1, .bool e44.2.2.2.2.2.2.1, .bool e44.2.2.2.2.2.2.2]) (cs := #[.int .i64 e44.1, .int .i64 e44.2.1, sv e44.2.2.1, .bool e44.2.2.2.1, .bool e44.2.2.2.2.1, .bool e44.2.2.2.2.2.1, .bool e44.2.2.2.2.2.2.1, .bool e44.2.2.2.2.2.2.2]) rfl (by kernel_rfl) rfl fun b46 => ?_)))))))
            refine Ok.batch 1 [(1, pv b9 0), (2, pv b46 0)] (by kernel_rfl) (Ok.nil (Ok.thenN (Ok.cut (fun a W => ∃ gj3i59i28 : Ghost, Gext w0 gl17i59 gj3i59i28 ∧ ∃ (x3j3i59i28 : Bool), StA 12 [(3, .bool x3j3i59i28)] a ∧ StW w0 [.blk b45 (.cells #[.int .i64 e44.1, .int .i64 e44.2.1, sv e44.2.2.1, .bool e44.2.2.2.1, .bool e44.2.2.2.2.1, .bool e44.2.2.2.2.2.1, .bool e44.2.2.2.2.2.2.1, .bool e44.2.2.2.2.2.2.2] 41), .own (.slice ayown38_0_0l17i59 yown38_0_0l17i59.length cyown38_0_0l17i59) 41 8 yown38_0_0l17i59.length xsyown38_0_0l17i59, .blk b9 (.cells #[pv b8 0] 49), .blk b8 (.cells #[.slice axl_0 xl.length cxl_0, sv xe.1, .int .i64 xe.2.1, .int .i64 xe.2.2.1, .int .i64 xe.2.2.2.1, sv xe.2.2.2.2.1, .bool xe.2.2.2.2.2.1, .bool xe.2.2.2.2.2.2, .slice ayown7_0l19 yown7_0l19.length cyown7_0l19, .map (some b6), .bool yb8_10l19, .bool yb8_11l19, .bool yb8_12l19] 52), .own (.slice ayown7_0l19 yown7_0l19.length cyown7_0l19) 38 3 yown7_0l19.length xsyown7_0l19, .blk b6 (.map esyb6_0l19 ckyb6_0l19)] gj3i59i28 W ∧ esej3i59i28 x3j3i59i28 x5l17i59 x6l17i59 yown38_0_0l17i59 (esel17x3 K yb8_12l19 yown7_0l19 yb6_0l19 k17x3)) ?_ ?_)))
            ·
             refine Ok.quiet' (by kernel_rfl) (by kernel_rfl) (OkQ.op rfl (OpQ.step (v := pv b8 0) (Yields.load 3 rfl rfl Tryd.underlying49 rfl (by kernel_rfl)) rfl rfl (OkQ.bat 2 [2] [(6, pv b8 9)] ?_)))
             refine OkQ.op rfl (OpQ.step (v := .map (some b6)) (Yields.load 4 rfl rfl Tryd.underlying50 rfl (by kernel_rfl)) rfl rfl (OkQ.batch 1 [(7, .map (some b6)), (8, pv b46 0)] (by kernel_rfl) (OkQ.op rfl (OpQ.step (v := .int .i64 e44.1) (Yields.load 0 rfl rfl Tryd.underlying3 rfl (by kernel_rfl)) rfl rfl ?_))))
             cases hce51 : assocK e44.1 yb6_0l19 with
             | some e51 =>
              replace hF := hF.1 e51 hce51
              refine OkQ.op rfl (OpQ.lookupSome (vt := .int .i64) (row := false) keyInt 6 rfl hMyb6_0l19 rfl rfl Tryd.underlying50 Tryd.underlying3 hce51 rfl fun v51 cs51 hvi51 hr51 u51 hu51 => ?_)
              obtain rfl := hr51
              have hvi51 : ([.int .i64 e51] : List Value) = [v51] := hvi51
              injection hvi51 with hvi51
              subst hvi51
              have hu51 : u51 = .int .i64 e51 := hu51
              subst hu51
              refine OkQ.batch 2 [(3, .bool (e51 == 1))] (by kernel_rfl) (OkQ.nil (Ok.thenN ?_))
              exact fun a W hA hW => ⟨gl17i59, (Gext.refl w0 gl17i59), (e51 == 1), hA.sub (by kernel_rfl), hW.sub (.cons _ (.cons_cons _ (.cons_cons _ (.cons_cons _ (.cons_cons _ (.cons_cons _ (.cons_cons _ .slnil))))))), hF⟩
             | none =>
              replace hF := hF.2 hce51
              refine OkQ.op rfl (OpQ.lookupNone (vt := .int .i64) (row := false) (z := .int .i64 0) (u := .int .i64 0) keyInt 6 rfl hMyb6_0l19 rfl rfl Tryd.underlying50 Tryd.underlying3 (by kernel_rfl) hce51 rfl rfl (OkQ.batch 2 [(3, .bool false)] (by kernel_rfl) (OkQ.nil (Ok.thenN ?_))))
              exact fun a W hA hW => ⟨gl17i59, (Gext.refl w0 gl17i59), false, hA.sub (by kernel_rfl), hW.sub (.cons _ (.cons_cons _ (.cons_cons _ (.cons_cons _ (.cons_cons _ (.cons_cons _ (.cons_cons _ .slnil))))))), hF⟩
            ·
             clear hF
             rintro a W ⟨gj3i59i28, hxj3i59i28, x3j3i59i28, hA, hW, hF⟩
             refine (?_ : Ok _ _ _ _ _ _) a W hA hW
             clear hA hW
             replace hLyown38_0_0l17i59 := hLyown38_0_0l17i59.mono hxj3i59i28.1
             replace hRxl_0 := hRxl_0.mono hxj3i59i28.1
             replace hLyown7_0l19 := hLyown7_0l19.mono hxj3i59i28.1
             replace hMyb6_0l19 := hMyb6_0l19.mono hxj3i59i28.1
             refine Ok.ret (Ok.back (vs := [.bool x3j3i59i28]) (.inl rfl) rfl (.cons (.tmp rfl) .nil) rfl (Ok.batch 1 [(0, .slice ayown38_0_0l17i59 yown38_0_0l17i59.length cyown38_0_0l17i59), (1, .func (.func 18) #[] #[pv b9 0]), (5, .int .i64 x5l17i59), (6, .int .i64 x6l17i59), (7, pv b45 0), (29, .bool (!x3j3i59i28))] (by kernel_rfl) (Ok.nil (Ok.thenN (Ok.cond (b := !x3j3i59i28) rfl (fun hc47 => ?_) (fun hc47 => ?_))))))
             ·replace hF := hF.1 hc47
              refine Ok.seq (Ok.region (Ok.bat 2 [0, 1, 5, 6, 7] [(30, .slice ayown38_0_0l17i59 yown38_0_0l17i59.length cyown38_0_0l17i59), (31, .int .i64 x5l17i59)] ?_))
              refine Ok.op rfl (OpOk.step (v := .agg #[.int .i64 e44.1, .int .i64 e44.2.1, sv e44.2.2.1, .bool e44.2.2.2.1, .bool e44.2.2.2.2.1, .bool e44.2.2.2.2.2.1, .bool e44.2.2.2.2.2.2.1, .bool e44.2.2.2.2.2.2.2]) (Yields.loadAgg 0 8 #[.int .i64 e44.1, .int .i64 e44.2.1, sv e44.2.2.1, .bool e44.2.2.2.1, .bool e44.2.2.2.2.1, .bool e44.2.2.2.2.2.1, .bool e44.2.2.2.2.2.2.1, .bool e44.2.2.2.2.2.2.2] rfl rfl Tryd.underlying41 rfl (by kernel_rfl) (by kernel_rfl) (by kernel_rfl)) rfl rfl ?_)
              obtain ⟨h049, h149, hF⟩ := hF
              have he49 := get_of (l := yown38_0_0l17i59) (default : LI) h149
              generalize hg49 : (yown38_0_0l17i59.getD (Int.toNat x5l17i59) default) = e49 at he49 hF ⊢
              refine Ok.op rfl (OpOk.indexOwn (e := .pair (.int .i64) (.pair (.int .i64) (.pair (.str) (.pair (.bool) (.pair (.bool) (.pair (.bool) (.pair (.bool) (.bool)))))))) (q := x5l17i59) (el := e49) 1 rfl hLyown38_0_0l17i59 rfl rfl Tryd.underlying25 (by kernel_rfl) (by kernel_rfl) h049 he49 rfl fun cs48 _ hr48 hc48 => ?_)
              obtain ⟨_, _, rfl, rfl, ⟨_, _, rfl, rfl, ⟨_, _, rfl, rfl, ⟨_, _, rfl, rfl, ⟨_, _, rfl, rfl, ⟨_, _, rfl, rfl, ⟨_, _, rfl, rfl, rfl⟩⟩⟩⟩⟩⟩⟩ := hr48
              replace hc48 : ∀ j v, ([.int .i64 e49.1, .int .i64 e49.2.1, sv e49.2.2.1, .bool e49.2.2.2.1, .bool e49.2.2.2.2.1, .bool e49.2.2.2.2.2.1, .bool e49.2.2.2.2.2.2.1, .bool e49.2.2.2.2.2.2.2] : List Value)[j]? = some v → xsyown38_0_0l17i59[Int.toNat x5l17i59 * 8 + j]? = some v := hc48
              refine Ok.op rfl (OpOk.storeOwn (e := .pair (.int .i64) (.pair (.int .i64) (.pair (.str) (.pair (.bool) (.pair (.bool) (.pair (.bool) (.pair (.bool) (.bool)))))))) (q := Int.toNat x5l17i59) (cells := [.int .i64 e49.1, .int .i64 e49.2.1, sv e49.2.2.1, .bool e49.2.2.2.1, .bool e49.2.2.2.2.1, .bool e49.2.2.2.2.2.1, .bool e49.2.2.2.2.2.2.1, .bool e49.2.2.2.2.2.2.2]) (vs := [.int .i64 e44.1, .int .i64 e44.2.1, sv e44.2.2.1, .bool e44.2.2.2.1, .bool e44.2.2.2.2.1, .bool e44.2.2.2.2.2.1, .bool e44.2.2.2.2.2.2.1, .bool e44.2.2.2.2.2.2.2]) (el' := e44) 1 0 8 rfl hLyown38_0_0l17i59 hc48 (by kernel_rfl) rfl rfl rfl (by kernel_rfl) (by kernel_rfl) (by kernel_rfl) (by kernel_rfl) (by kernel_rfl) (show Rep _ _ [.int .i64 e44.1, .int .i64 e44.2.1, sv e44.2.2.1, .bool e44.2.2.2.1, .bool e44.2.2.2.2.1, .bool e44.2.2.2.2.2.1, .bool e44.2.2.2.2.2.2.1, .bool e44.2.2.2.2.2.2.2] _ from ⟨[.int .i64 e44.1], [.int .i64 e44.2.1, sv e44.2.2.1, .bool e44.2.2.2.1, .bool e44.2.2.2.2.1, .bool e44.2.2.2.2.2.1, .bool e44.2.2.2.2.2.2.1, .bool e44.2.2.2.2.2.2.2], rfl, rfl, ⟨[.int .i64 e44.2.1], [sv e44.2.2.1, .bool e44.2.2.2.1, .bool e44.2.2.2.2.1, .bool e44.2.2.2.2.2.1, .bool e44.2.2.2.2.2.2.1, .bool e44.2.2.2.2.2.2.2], rfl, rfl, ⟨[sv e44.2.2.1], [.bool e44.2.2.2.1, .bool e44.2.2.2.2.1, .bool e44.2.2.2.2.2.1, .bool e44.2.2.2.2.2.2.1, .bool e44.2.2.2.2.2.2.2], rfl, rfl, ⟨[.bool e44.2.2.2.1], [.bool e44.2.2.2.2.1, .bool e44.2.2.2.2.2.1, .bool e44.2.2.2.2.2.2.1, .bool e44.2.2.2.2.2.2.2], rfl, rfl, ⟨[.bool e44.2.2.2.2.1], [.bool e44.2.2.2.2.2.1, .bool e44.2.2.2.2.2.2.1, .bool e44.2.2.2.2.2.2.2], rfl, rfl, ⟨[.bool e44.2.2.2.2.2.1], [.bool e44.2.2.2.2.2.2.1, .bool e44.2.2.2.2.2.2.2], rfl, rfl, ⟨[.bool e44.2.2.2.2.2.2.1], [.bool e44.2.2.2.2.2.2.2], rfl, rfl, rfl⟩⟩⟩⟩⟩⟩⟩) fun xs50 hL50 => ?_)
              rw [show yown38_0_0l17i59.length = (yown38_0_0l17i59.set (Int.toNat x5l17i59) e44).length from (List.length_set ..).symm]
              refine Ok.nil (Ok.thenN (Ok.region (Ok.bat 3 [1, 6] [(0, .slice ayown38_0_0l17i59 (yown38_0_0l17i59.set (Int.toNat x5l17i59) e44).length cyown38_0_0l17i59), (5, .int .i64 (w6 (x5l17i59 + 1)))] ?_)))
              refine Ok.nil (Ok.blockN (Ok.thenN ?_))
              subst hg49
              subst hg44
              exact fun a W hA hW => ⟨gj3i59i28, hxj3i59i28, w6 (x5l17i59 + 1), ayown38_0_0l17i59, cyown38_0_0l17i59, (yown38_0_0l17i59.set (Int.toNat x5l17i59) (yown38_0_0l17i59.getD (Int.toNat x6l17i59) default)), xs50, hL50, hA.sub (by kernel_rfl), hW.sub (.cons _ (.cons_cons _ (.cons_cons _ (.cons_cons _ (.cons_cons _ (.cons_cons _ .slnil)))))), hF⟩
             ·replace hF := hF.2 hc47
              refine Ok.skip (Ok.blockN (Ok.thenN ?_))
              subst hg44
              exact fun a W hA hW => ⟨gj3i59i28, hxj3i59i28, x5l17i59, ayown38_0_0l17i59, cyown38_0_0l17i59, yown38_0_0l17i59, xsyown38_0_0l17i59, hLyown38_0_0l17i59, hA.sub (by kernel_rfl), hW.sub (.cons _ (.cons_cons _ (.cons_cons _ (.cons_cons _ (.cons_cons _ (.cons_cons _ .slnil)))))), hF⟩
           ·
            clear hF
            rintro a W ⟨gj24i59, hxj24i59, x5j24i59, ayown38_0_0j24i59, cyown38_0_0j24i59, yown38_0_0j24i59, xsyown38_0_0j24i59, hLyown38_0_0j24i59, hA, hW, hF⟩
            refine (?_ : Ok _ _ _ _ _ _) a W hA hW
            clear hA hW
            replace hRxl_0 := hRxl_0.mono hxj24i59.1
            replace hLyown7_0l19 := hLyown7_0l19.mono hxj24i59.1
            replace hMyb6_0l19 := hMyb6_0l19.mono hxj24i59.1
            refine Ok.region (Ok.bat 3 [0, 1, 5] [(6, .int .i64 (w6 (x6l17i59 + 1)))] ?_)
            refine Ok.nil (Ok.thenN ?_)
            exact fun a W hA hW => ⟨k17x3, Nat.lt_succ_self _, gj24i59, (hxl17i59.trans hxj24i59), x5j24i59, w6 (x6l17i59 + 1), ayown38_0_0j24i59, cyown38_0_0j24i59, yown38_0_0j24i59, xsyown38_0_0j24i59, hLyown38_0_0j24i59, hA.sub (by kernel_rfl), hW, hF⟩
          ·replace hF := hF.2 hc42
           refine Ok.exit (Ok.thenE (Ok.thenE (Ok.blockHit (Ok.thenN (Ok.seq (Ok.region (Ok.bat 2 [0, 5] [(36, .slice ayown38_0_0l17i59 yown38_0_0l17i59.length cyown38_0_0l17i59), (37, .int .i64 x5l17i59)] ?_)))))))
           refine Ok.capOwn 0 rfl fun hcc52 hcm52 => ?_
           obtain ⟨h052, h152, h252, hF⟩ := hF
           refine Ok.op rfl (OpOk.step (v := vw ayown38_0_0l17i59 8 cyown38_0_0l17i59 (Int.toNat x5l17i59) (Int.toNat (yown38_0_0l17i59.length : Int))) (slice_run (size := 8) (l := x5l17i59) (h := (yown38_0_0l17i59.length : Int)) rfl Tryd.underlying25 (by kernel_rfl) (.inl ⟨_, _, rfl, rfl⟩) (.inr ⟨rfl, rfl⟩) h052 h152 (Int.le_trans h252 (Int.ofNat_le.2 hcc52))) rfl rfl ?_)
           obtain ⟨h153, hF⟩ := hF
           refine Ok.op rfl (OpOk.clearOwn (e := .pair (.int .i64) (.pair (.int .i64) (.pair (.str) (.pair (.bool) (.pair (.bool) (.pair (.bool) (.pair (.bool) (.bool)))))))) (l := yown38_0_0l17i59) (lo := (Int.toNat x5l17i59)) (y := ((0, 0, ([] : Bs), false, false, false, false, false) : LI)) (z := .agg #[.int .i64 0, .int .i64 0, sv ([] : Bs), .bool false, .bool false, .bool false, .bool false, .bool false]) 0 rfl rfl hLyown38_0_0l17i59 Tryd.underlying25 (by kernel_rfl) (by decide) ⟨[.int .i64 0], [.int .i64 0, sv ([] : Bs), .bool false, .bool false, .bool false, .bool false, .bool false], rfl, rfl, ⟨[.int .i64 0], [sv ([] : Bs), .bool false, .bool false, .bool false, .bool false, .bool false], rfl, rfl, ⟨[sv ([] : Bs)], [.bool false, .bool false, .bool false, .bool false, .bool false], rfl, rfl, ⟨[.bool false], [.bool false, .bool false, .bool false, .bool false], rfl, rfl, ⟨[.bool false], [.bool false, .bool false, .bool false], rfl, rfl, ⟨[.bool false], [.bool false, .bool false], rfl, rfl, ⟨[.bool false], [.bool false], rfl, rfl, rfl⟩⟩⟩⟩⟩⟩⟩ h153 (Int.toNat_natCast _) fun xs53 hL53 => ?_)
           rw [clr_len yown38_0_0l17i59 (Int.toNat x5l17i59) ((0, 0, ([] : Bs), false, false, false, false, false) : LI) (by rw [Int.toNat_natCast] at h153; exact h153)]
           refine Ok.nil (Ok.thenN (Ok.seq (Ok.region (Ok.batch 2 [(39, .slice ayown38_0_0l17i59 (clr yown38_0_0l17i59 (Int.toNat x5l17i59) ((0, 0, ([] : Bs), false, false, false, false, false) : LI)).length cyown38_0_0l17i59), (40, .int .i64 x5l17i59)] (by kernel_rfl) ?_))))
           obtain ⟨h054, h254, hF⟩ := hF
           refine Ok.op rfl (OpOk.cutOwn (e := .pair (.int .i64) (.pair (.int .i64) (.pair (.str) (.pair (.bool) (.pair (.bool) (.pair (.bool) (.pair (.bool) (.bool)))))))) (h := x5l17i59) 0 rfl rfl rfl hL53 Tryd.underlying25 (by kernel_rfl) h054 h254 rfl fun xs54 hL54 => ?_)
           refine Ok.batch 1 [(4, .slice ayown38_0_0l17i59 ((clr yown38_0_0l17i59 (Int.toNat x5l17i59) ((0, 0, ([] : Bs), false, false, false, false, false) : LI)).take (Int.toNat x5l17i59)).length cyown38_0_0l17i59)] (by kernel_rfl) (Ok.nil (Ok.thenN (Ok.ret (Ok.back (vs := [.slice ayown38_0_0l17i59 ((clr yown38_0_0l17i59 (Int.toNat x5l17i59) ((0, 0, ([] : Bs), false, false, false, false, false) : LI)).take (Int.toNat x5l17i59)).length cyown38_0_0l17i59]) (.inl rfl) rfl (.cons (.tmp rfl) .nil) rfl ?_))))
           exact fun a W hA hW => ⟨gl17i59, (hxji33.trans hxl17i59), ayown38_0_0l17i59, cyown38_0_0l17i59, ((clr yown38_0_0l17i59 (Int.toNat x5l17i59) ((0, 0, ([] : Bs), false, false, false, false, false) : LI)).take (Int.toNat x5l17i59)), xs54, hL54, hA.sub (by kernel_rfl), hW, hF⟩
     ·
      clear hF
      rintro a W ⟨gji31, hxji31, ayown38_0_0ji31, cyown38_0_0ji31, yown38_0_0ji31, xsyown38_0_0ji31, hLyown38_0_0ji31, hA, hW, hF⟩
      refine (?_ : Ok _ _ _ _ _ _) a W hA hW
      clear hA hW
      replace hRxl_0 := hRxl_0.mono hxji31.1
      replace hLyown7_0l19 := hLyown7_0l19.mono hxji31.1
      replace hMyb6_0l19 := hMyb6_0l19.mono hxji31.1
      refine Ok.bat 1 [12] [(15, .slice ayown38_0_0ji31 yown38_0_0ji31.length cyown38_0_0ji31)] ?_
      refine Ok.nil (Ok.thenN (Ok.seq (Ok.quiet' (by kernel_rfl) (by kernel_rfl) (OkQ.op rfl (OpQ.step (v := pv b8 0) (Yields.load 1 rfl rfl Tryd.underlying49 rfl (by kernel_rfl)) rfl rfl (OkQ.bat 2 [12, 15] [(62, pv b8 8)] ?_))))))
      refine OkQ.op rfl (OpQ.step (v := .slice ayown7_0l19 yown7_0l19.length cyown7_0l19) (Yields.load 2 rfl rfl Tryd.underlying32 rfl (by kernel_rfl)) rfl rfl (OkQ.op rfl (OpQ.step (v := pv b8 0) (Yields.load 1 rfl rfl Tryd.underlying49 rfl (by kernel_rfl)) rfl rfl (OkQ.bat 2 [15] [(63, .slice ayown7_0l19 yown7_0l19.length cyown7_0l19), (66, pv b8 12)] ?_))))
      refine OkQ.op rfl (OpQ.step (v := .bool yb8_12l19) (Yields.load 2 rfl rfl Tryd.underlying4 rfl (by kernel_rfl)) rfl rfl (OkQ.batch 5 [(6, .slice ayown7_0l19 yown7_0l19.length cyown7_0l19), (7, .bool yb8_12l19), (8, .slice ayown38_0_0ji31 yown38_0_0ji31.length cyown38_0_0ji31), (9, .int .i64 0)] (by kernel_rfl) (OkQ.nil (Ok.thenN (Ok.ret (Ok.frz 3 rfl hLyown7_0l19 fun g39 hx39 hRf39 => ?_))))))
      replace hLyown38_0_0ji31 := hLyown38_0_0ji31.mono hx39.1
      replace hRxl_0 := hRxl_0.mono hx39.1
      replace hMyb6_0l19 := hMyb6_0l19.mono hx39.1
      refine Ok.frz 0 rfl hLyown38_0_0ji31 fun g40 hx40 hRf40 => ?_
      replace hRf39 := hRf39.mono hx40.1
      replace hRxl_0 := hRxl_0.mono hx40.1
      replace hMyb6_0l19 := hMyb6_0l19.mono hx40.1
      exact Ok.resP (vs := [.slice ayown7_0l19 yown7_0l19.length cyown7_0l19, .bool yb8_12l19, .slice ayown38_0_0ji31 yown38_0_0ji31.length cyown38_0_0ji31, .int .i64 0]) [] [] (by decide) rfl (.inl rfl) rfl (.cons (.tmp rfl) (.cons (.tmp rfl) (.cons (.tmp rfl) (.cons (.tmp rfl) .nil)))) ((((((hx4.trans hx11).trans hxl19).trans hx38).trans hxji31).trans hx39).trans hx40) ⟨yown7_0l19, yb8_12l19, yown38_0_0ji31, 0, ayown7_0l19, cyown7_0l19, ayown38_0_0ji31, cyown38_0_0ji31, rfl, hRf39, hRf40, rfl, hF⟩
theorem ese_in (l : List LI) (e : EV) (a : SP) (x36 : Int) (C : Int → Bool → Bool → Bool → List HD → List (Int × Int) → Prop) (hll : l.length ≤ 1000) : ∀ (q i : Nat) (s : PS) (m : List (Int × Int)), i + q = l.length → MR m s.2.2.2.2 → s.2.2.2.1.length + q ≤ 100000 →
  (∀ m', MR m' (doP e a (l.drop i) s).2.2.2.2 → esej26 x36 (doP e a (l.drop i) s).1 (doP e a (l.drop i) s).2.1 (doP e a (l.drop i) s).2.2.1 (doP e a (l.drop i) s).2.2.2.1 m' C) → esel6x2 l e a x36 C (q + 1) (i : Int) s.1 s.2.1 s.2.2.1 s.2.2.2.1 m := by
 intro q
 induction q with
 | zero =>
  intro i s m hi hm hl hC
  rw [List.drop_of_length_le (by omega)] at hC
  exact ⟨fun h => by have := of_decide_eq_true h; omega, fun _ => hC m hm⟩
 | succ q ih =>
  intro i s m hi hm hl hC
  have hil : i < l.length := by omega
  rw [drop_get default hil, doP] at hC
  have hv : eseV28 e a s.2.1 (l.getD (Int.toNat (i : Int)) default) = ((!s.2.1) && hitP e a (l.getD i default)) := rfl
  have e1 : eseV34 l e a (i : Int) s.1 s.2.1 = (nextP e a s (l.getD i default)).1 := by
   unfold eseV34 nextP; rw [hv, ite_fst]; rfl
  have e2 : eseV35 l e a (i : Int) s.2.1 = (nextP e a s (l.getD i default)).2.1 := by
   unfold eseV35 nextP; rw [hv, ite_snd, ite_fst]; rfl
  have e3 : eseV36 l e a (i : Int) s.2.1 s.2.2.1 = (nextP e a s (l.getD i default)).2.2.1 := by
   unfold eseV36 nextP; rw [hv, ite_snd, ite_snd, ite_fst]; rfl
  have e4 : eseV37 l e a (i : Int) s.2.1 s.2.2.2.1 = (nextP e a s (l.getD i default)).2.2.2.1 := by
   unfold eseV37 nextP; rw [hv, ite_snd, ite_snd, ite_snd, ite_fst]; rfl
  have go : ∀ m', MR m' (nextP e a s (l.getD i default)).2.2.2.2 → esej13i54 l e a m' (i : Int) s.1 s.2.1 s.2.2.1 s.2.2.2.1 (esel6x2 l e a x36 C (q + 1)) := fun m' hm' => by
   unfold esej13i54
   rw [w64 (by omega), e1, e2, e3, e4]
   exact ih (i + 1) _ m' (by omega) hm' (by have := next_len e a s (l.getD i default); omega) hC
  have hg : (nextP e a s (l.getD i default)).2.2.2.2 = if ((!s.2.1) && hitP e a (l.getD i default)) = true then (if (l.getD i default).2.2.2.2.1 = true then s.2.2.2.2 ++ [(l.getD i default).1] else s.2.2.2.2) else s.2.2.2.2 := by
   unfold nextP; rw [ite_snd, ite_snd, ite_snd, ite_snd]; rfl
  have j17 : esej17i54 l e a (i : Int) s.1 s.2.1 s.2.2.1 s.2.2.2.1 m (l.getD (Int.toNat (i : Int)) default) (esel6x2 l e a x36 C (q + 1)) := by
   refine ⟨fun h => ⟨by rw [List.length_append, List.length_singleton]; omega, two (two (tri ?_))⟩, fun h => go m ?_⟩
   ·rw [hv] at h
    rw [if_t h] at hg
    refine ⟨fun h2 => go _ ?_, fun h2 => go _ ?_⟩
    ·rw [Int.toNat_natCast] at h2
     rw [hg, if_t h2, Int.toNat_natCast]; exact hm.put _
    ·rw [Int.toNat_natCast] at h2
     rw [hg, if_f h2]; exact hm
   ·rw [hv] at h
    rw [hg, if_f h]; exact hm
  exact ⟨fun _ => ⟨by omega, by omega, ⟨fun _ => ⟨fun _ => two j17, fun _ => j17⟩, fun _ => j17⟩⟩, fun h => by have := of_decide_eq_false h; omega⟩
theorem ese_del (l : List LI) (gone : List Int) (m : List (Int × Int)) (hm : MR m gone) (no : Bool) (heard : List HD) (hl : l.length ≤ 1000) (R : List HD × Bool × List LI × Int) (hR : R = (heard, no, l.filter (fun x => !(ecoS gone x.1)), 0)) :
  ∃ k, esel7x4 l (fun a b c f => (a, b, c, f) = R) no heard m k 0 := by
 have flag : ∀ (x : LI) (P : Bool → Prop), P (ecoS gone x.1) → (∀ v : Int, assocK x.1 m = some v → P (v == 1)) ∧ (assocK x.1 m = none → P false) := fun x P hP => by
  rw [hm]
  refine ⟨fun v hv => ?_, fun hv => ?_⟩
  ·by_cases hc : ecoS gone x.1 = true
   ·rw [if_pos hc] at hv
    obtain rfl : v = 1 := (Option.some.inj hv).symm
    rw [hc] at hP; exact hP
   ·rw [if_neg hc] at hv; cases hv
  ·by_cases hc : ecoS gone x.1 = true
   ·rw [if_pos hc] at hv; cases hv
   ·rw [show ecoS gone x.1 = false by simpa using hc] at hP; exact hP
 have comp : ∀ (q w j : Nat) (o : List LI), j + q = l.length → w ≤ j → o.length = l.length → o.drop j = l.drop j → o.take w = (l.take j).filter (fun x => !(ecoS gone x.1)) → esel17x3 (fun a b c f => (a, b, c, f) = R) no heard m (q + 1) (w : Int) (j : Int) o := by
  intro q
  induction q with
  | zero =>
   intro w j o hj hw ho hd ht
   refine ⟨fun h => by have := of_decide_eq_true h; omega, fun _ => ⟨by omega, by omega, Int.le_refl _, by omega, by omega, ?_, ?_⟩⟩
   ·rw [Int.toNat_natCast, ← clr_len _ _ _ (by omega)]; omega
   ·show (heard, no, _, 0) = R
    unfold clr
    rw [Int.toNat_natCast, List.take_append_of_le_length (by rw [List.length_take]; omega), List.take_take, Nat.min_self, ht, List.take_of_length_le (by omega), hR]
  | succ q ih =>
   intro w j o hj hw ho hd ht
   have hx : o.getD j default = l.getD j default := by
    have := congrArg (fun z => z.head?) hd
    simp only [List.head?_drop] at this
    rw [List.getD_eq_getElem?_getD, List.getD_eq_getElem?_getD, this]
   refine ⟨fun _ => ⟨by omega, by omega, ?_⟩, fun h => by have := of_decide_eq_false h; omega⟩
   have hd' : o.drop (j + 1) = l.drop (j + 1) := by rw [← List.drop_drop, ← List.drop_drop, hd]
   have key : esej3i59i28 (ecoS gone (l.getD j default).1) (w : Int) (j : Int) o (esel17x3 (fun a b c f => (a, b, c, f) = R) no heard m (q + 1)) := by
    refine ⟨fun h => ⟨by omega, by omega, ?_⟩, fun h => ?_⟩
    ·unfold esej24i59
     rw [Int.toNat_natCast, Int.toNat_natCast, w64 (by omega), w64 (by omega), hx]
     refine ih (w + 1) (j + 1) _ (by omega) (by omega) (by rw [List.length_set]; exact ho) ?_ ?_
     ·rw [List.drop_set_of_lt (by omega)]; exact hd'
     ·rw [take_get default (by rw [List.length_set]; omega), List.take_set_of_le (Nat.le_refl _), ht, take_get default (by omega), List.filter_append]
      congr 1
      rw [List.getD_eq_getElem?_getD, List.getElem?_set_self (by omega), Option.getD_some, List.filter_cons, if_pos h, List.filter_nil]
    ·unfold esej24i59
     rw [w64 (by omega)]
     refine ih w (j + 1) _ (by omega) (by omega) ho hd' ?_
     rw [take_get default (by omega), List.filter_append, ← ht, List.filter_cons, if_neg (by simpa using h), List.filter_nil, List.append_nil]
   have := flag (l.getD j default) (fun b => esej3i59i28 b (w : Int) (j : Int) o (esel17x3 (fun a b c f => (a, b, c, f) = R) no heard m (q + 1))) key
   rw [Int.toNat_natCast, hx]
   exact this
 have find : ∀ (q i : Nat), i + q = l.length → (∀ j, j < i → ecoS gone (l.getD j default).1 = false) → esel7x4 l (fun a b c f => (a, b, c, f) = R) no heard m (q + 1) (i : Int) := by
  intro q
  induction q with
  | zero =>
   intro i hi hj
   refine ⟨fun h => by have := of_decide_eq_true h; unfold eclS at this; omega, fun _ => ⟨fun _ => ?_, fun h => by simp at h⟩⟩
   show (heard, no, l, 0) = R
   rw [hR, List.filter_eq_self.2 fun x hx => ?_]
   obtain ⟨j, hj2, rfl⟩ := List.getElem_of_mem hx
   have := hj j (by omega)
   rw [List.getD_eq_getElem?_getD, List.getElem?_eq_getElem hj2, Option.getD_some] at this
   rw [this]; rfl
  | succ q ih =>
   intro i hi hj
   refine ⟨fun _ => ⟨by omega, by unfold eclS; omega, ?_⟩, fun h => by have := of_decide_eq_false h; unfold eclS at this; omega⟩
   refine flag _ (fun b => esej3i59i10i16 l (fun a b c f => (a, b, c, f) = R) no heard m b (i : Int) (esel7x4 l (fun a b c f => (a, b, c, f) = R) no heard m (q + 1))) ?_
   unfold eclS
   rw [Int.toNat_natCast]
   refine ⟨fun h => ⟨fun h2 => by rw [beq_iff_eq] at h2; omega, fun _ => ⟨q + 1, ?_⟩⟩, fun h => ?_⟩
   ·unfold eclS
    rw [w64 (by omega)]
    refine comp q i (i + 1) l (by omega) (by omega) rfl rfl ?_
    rw [take_get default (by omega), List.filter_append, List.filter_cons, if_neg (by rw [h]; simp), List.filter_nil, List.append_nil]
    refine (List.filter_eq_self.2 fun x hx => ?_).symm
    obtain ⟨j, hj2, rfl⟩ := List.getElem_of_mem hx
    rw [List.length_take] at hj2
    have := hj j (by omega)
    rw [List.getD_eq_getElem?_getD, List.getElem?_eq_getElem (by omega), Option.getD_some] at this
    rw [List.getElem_take, this]; rfl
   ·rw [w64 (by omega)]
    refine ih (i + 1) (by omega) fun j hj2 => ?_
    by_cases hji : j < i
    ·exact hj j hji
    ·obtain rfl : j = i := by omega
     exact h
 exact ⟨_, find l.length 0 (by omega) (fun j hj => by omega)⟩
theorem ese_F (d : DC) (l : List LI) (e : EV) (hp : eseP d l e) : eseF d l e (fun a b c f => (a, b, c, f) = eseS d l e) := by
 refine ⟨hp, fun h => by unfold eseS; rw [if_t h], fun h => ?_⟩
 have hl := eas_few d l e h
 have hw := eas_len d l e
 have hs := est_len (easS d l e).1 e.2.2.2.2.2.1
 refine ⟨by unfold estP; omega, ?_⟩
 have hR : eseS d l e = finP l (runP e l (estS (easS d l e).1 e.2.2.2.2.2.1) zeroP) := by unfold eseS; rw [if_f h]
 generalize eseS d l e = R at hR ⊢
 have loop : ∀ (q i : Nat) (s : PS) (m : List (Int × Int)), i + q = (estS (easS d l e).1 e.2.2.2.2.2.1).length → MR m s.2.2.2.2 → s.2.2.2.1.length + 60 * q ≤ 6000 → R = finP l (runP e l ((estS (easS d l e).1 e.2.2.2.2.2.1).drop i) s) →
   esel19 d l e (fun a b c f => (a, b, c, f) = R) (q + 1) (i : Int) s.1 s.2.1 s.2.2.1 s.2.2.2.1 m := by
  intro q
  induction q with
  | zero =>
   intro i s m hi hm hb hR
   rw [List.drop_of_length_le (by omega)] at hR
   exact ⟨fun h => by have := of_decide_eq_true h; omega, fun _ => ⟨by unfold eclP; omega, ese_del l s.2.2.2.2 m hm s.2.2.1 s.2.2.2.1 (by omega) R hR⟩⟩
  | succ q ih =>
   intro i s m hi hm hb hR
   have hil : i < (estS (easS d l e).1 e.2.2.2.2.2.1).length := by omega
   rw [drop_get default hil] at hR
   have hR : R = finP l (runP e l ((estS (easS d l e).1 e.2.2.2.2.2.1).drop (i + 1)) (stepP e l s ((estS (easS d l e).1 e.2.2.2.2.2.1).getD i default))) := hR
   have hln := step_len e l s ((estS (easS d l e).1 e.2.2.2.2.2.1).getD i default)
   have go : ∀ m', MR m' (stepP e l s ((estS (easS d l e).1 e.2.2.2.2.2.1).getD i default)).2.2.2.2 → ∀ s', s' = stepP e l s ((estS (easS d l e).1 e.2.2.2.2.2.1).getD i default) → esej26 (i : Int) s'.1 s'.2.1 s'.2.2.1 s'.2.2.2.1 m' (esel19 d l e (fun a b c f => (a, b, c, f) = R) (q + 1)) := fun m' hm' s' hs' => by
    subst hs'
    unfold esej26
    rw [w64 (by omega)]
    exact ih (i + 1) _ m' (by omega) hm' (by omega) hR
   have j30 : esej30 l e ((estS (easS d l e).1 e.2.2.2.2.2.1).getD (Int.toNat (i : Int)) default) (i : Int) s.1 s.2.1 s.2.2.1 s.2.2.2.1 m (esel19 d l e (fun a b c f => (a, b, c, f) = R) (q + 1)) := by
    rw [Int.toNat_natCast]
    refine ⟨fun h => ⟨l.length + 1, ?_⟩, fun h => ?_⟩
    ·have hst : stepP e l s ((estS (easS d l e).1 e.2.2.2.2.2.1).getD i default) = doP e ((estS (easS d l e).1 e.2.2.2.2.2.1).getD i default) l s := by unfold stepP; rw [if_t h]
     refine ese_in l e _ (i : Int) _ (by omega) l.length 0 s m (by omega) hm (by omega) fun m' hm' => ?_
     rw [List.drop_zero] at hm' ⊢
     exact go m' (by rw [hst]; exact hm') _ hst.symm
    ·have hst : stepP e l s ((estS (easS d l e).1 e.2.2.2.2.2.1).getD i default) = s := by unfold stepP; rw [if_f h]
     exact go m (by rw [hst]; exact hm) s hst.symm
   exact ⟨fun _ => ⟨by omega, by omega, two j30⟩, fun h => by have := of_decide_eq_false h; omega⟩
 exact ⟨_, loop (estS (easS d l e).1 e.2.2.2.2.2.1).length 0 zeroP [] (by omega) (fun id => rfl) (by show 0 + 60 * _ ≤ 6000; omega) (by rw [List.drop_zero]; exact hR)⟩
theorem ese_c {g : Ghost} {axd_0 : Option Addr} {cxd_0 : Nat} (xd : (List (Int × Bs × (List (Bs × Bs)) × Bs × Int × List (Int))) × Bool) {axl_0 : Option Addr} {cxl_0 : Nat} (xl : List (Int × Int × Bs × Bool × Bool × Bool × Bool × Bool)) (xe : Bs × Int × Int × Int × Bs × Bool × Bool) (hRxd_0 : Rep g (.slice (.pair (.int .i64) (.pair (.str) (.pair (.slice (.pair (.str) (.str))) (.pair (.str) (.pair (.int .i64) (.slice (.int .i64)))))))) [.slice axd_0 xd.1.length cxd_0] xd.1) (hRxl_0 : Rep g (.slice (.pair (.int .i64) (.pair (.int .i64) (.pair (.str) (.pair (.bool) (.pair (.bool) (.pair (.bool) (.pair (.bool) (.bool))))))))) [.slice axl_0 xl.length cxl_0] xl)  (hp : eseP xd xl xe) : CallsH Tryd.prog 5 #[.agg #[.slice axd_0 xd.1.length cxd_0, .bool xd.2], .slice axl_0 xl.length cxl_0, .agg #[sv xe.1, .int .i64 xe.2.1, .int .i64 xe.2.2.1, .int .i64 xe.2.2.2.1, sv xe.2.2.2.2.1, .bool xe.2.2.2.2.2.1, .bool xe.2.2.2.2.2.2]] g [] (fun g' H' v => ∃ (ar0_0 : Option Addr) (cr0_0 : Nat), ∃ (ar2_0 : Option Addr) (cr2_0 : Nat), v = .tuple #[.slice ar0_0 ((eseS xd xl xe).1).length cr0_0, .bool (eseS xd xl xe).2.1, .slice ar2_0 ((eseS xd xl xe).2.2.1).length cr2_0, .int .i64 (eseS xd xl xe).2.2.2] ∧ Rep g' (.slice (.pair (.int .i64) (.pair (.int .i64) (.int .i64)))) [.slice ar0_0 ((eseS xd xl xe).1).length cr0_0] (eseS xd xl xe).1 ∧ Rep g' (.slice (.pair (.int .i64) (.pair (.int .i64) (.pair (.str) (.pair (.bool) (.pair (.bool) (.pair (.bool) (.pair (.bool) (.bool))))))))) [.slice ar2_0 ((eseS xd xl xe).2.2.1).length cr2_0] (eseS xd xl xe).2.2.1 ∧ H' = []) :=
 (ese_ok xd xl xe hRxd_0 hRxl_0 _ (ese_F xd xl xe hp)).mono (by rintro g' H' v _ ⟨r0, r1, r2, r3, ar0_0, cr0_0, ar2_0, cr2_0, rfl, hRr0_0, hRr2_0, rfl, hK⟩; obtain ⟨rfl, rfl, rfl, rfl⟩ : r0 = (eseS xd xl xe).1 ∧ r1 = (eseS xd xl xe).2.1 ∧ r2 = (eseS xd xl xe).2.2.1 ∧ r3 = (eseS xd xl xe).2.2.2 := ⟨congrArg (fun z => z.1) hK, congrArg (fun z => z.2.1) hK, congrArg (fun z => z.2.2.1) hK, congrArg (fun z => z.2.2.2) hK⟩; exact ⟨ar0_0, cr0_0, ar2_0, cr2_0, rfl, hRr0_0, hRr2_0, rfl⟩)
end
end Go.Proofs.YtbifbljdmndjbaaDoor.Ev
