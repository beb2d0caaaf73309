/- Code: the document's check of a function. -/
import Derived.Test.YtanhbfhpnjjgcaaDoorCci
namespace Go.Eng
theorem OpOk.insertA {P : Program} {n : Fsz} {w0 : Base} {m : Env} {H : List Ent} {g : Ghost} {Q : Exit → Act → World → Prop} {K : Act → World → Prop} {T E KT ty : TypeId} {x ix vx : Operand} {pos : String} {after : Array Edge} {gd : Option (Nat × Bool)} {vt : Ty} {row : Bool} {b clock : Nat} {es : Array MapEntry} {κ : Type} [BEq κ] {kt : κ → Value} {l : List (κ × vt.den)} {k : κ} {kd : TypeDesc} {v : Value} {cells : List Value} {y : vt.den}
  (hL : KeyLaw kd kt) (i : Nat) (hi : H[i]? = some (.blk b (.map es clock))) (hM : RepMapA g vt row kt es clock l) (hx : val m x = some (.map (some b))) (hk : val m ix = some (kt k)) (hv : val m vx = some v) (hu : P.underlying T = some (.map KT E)) (hku : P.underlying KT = some kd)
  (hvi : ValIs row v cells) (hR : Rep g vt cells y)
  (h : ∀ es' clock', RepMapA g vt row kt es' clock' (putK k y l) → Ok n w0 m (H.set i (.blk b (.map es' clock'))) g K) :
  OpOk P K Q ⟨none, .insert T x ix vx, ty, pos, after, gd⟩ n w0 m H g := fun ac W hA hW => by
 have := OpOk.mapUpdateA (P := P) (Q := Q) (ty := ty) (pos := pos) (after := after) (gd := gd) hL i hi hM hx hk hv hu hku hvi hR h ac W hA hW
 exact this
end Go.Eng
namespace Go.Proofs.YtanhbfhpnjjgcaaDoor.Cc
open Go Go.Eng Go.RowKit Fl
set_option maxHeartbeats 4000000
set_option maxRecDepth 100000
set_option linter.unusedSimpArgs false
set_option linter.unusedVariables false
noncomputable section
def fnrV0 (e3 : Int × Int × List (Int) × List (Int × Int)) : Bool :=
 ((decide (e3.1 < 0)) || ((decide (e3.2.1 < 0)) || ((decide (e3.1 > (w6 (e3.2.1 - (e3.2.2.1.length : Int))))) || ((e3.2.2.2.length : Int) == 0))))
def fnrV1 (e24 : Int × Int) (x10j32 : Int) (x11j32 : Bool) : Bool :=
 ((!(rbtM e24.1 1 25)) || (!(rbtM e24.2 0 (w6 ((if (!x11j32) = true then 1 else x10j32) - 1)))))
def fnrV8 (xown : Int) (e45 : Int × Int) (e48 : Bool × Int × List (Int × Int)) : Bool :=
 ((decide ((e48.2.2.length : Int) > 0)) || (!((e45.1 == 25) == (xown == 0))))
def fnrV11 (yown38_0l215 : List (Bool × Int × List (Int × Int))) (y56 : (Int) × (Bool × Int × List (Int × Int))) : Bool :=
 ((yown38_0l215.getD (Int.toNat y56.1) default).1 && (((yown38_0l215.getD (Int.toNat y56.1) default).2.1 != y56.2.2.1) || (!(peqS (yown38_0l215.getD (Int.toNat y56.1) default).2.2 y56.2.2.2))))
def fnrV12 (x15l215 : Bool) (yown38_0l215 : List (Bool × Int × List (Int × Int))) (y56 : (Int) × (Bool × Int × List (Int × Int))) : Bool :=
 (x15l215 || (!(yown38_0l215.getD (Int.toNat y56.1) default).1))
def fnrj28 (x82l21 : Int) (C21 : Int → Prop) : Prop :=
 C21 (w6 (x82l21 + 1))
def fnrl55b (K : Bool → Prop) (e3 : Int × Int × List (Int) × List (Int × Int)) (e24 : Int × Int) (x82l21 : Int) (C21 : Int → Prop) (e29 : Int × Int × List (Int) × List (Int × Int)) (x118l55 : Int) (C55 : Int → Prop) : Prop :=
 ((decide (x118l55 < (e29.2.2.1.length : Int))) = true → (0 : Int) ≤ x118l55 ∧ Int.toNat x118l55 < e29.2.2.1.length ∧ ((!(rbtM (e29.2.2.1.getD (Int.toNat x118l55) default) 0 (w6 (e3.2.1 - 1)))) = true → K false) ∧ ((!(rbtM (e29.2.2.1.getD (Int.toNat x118l55) default) 0 (w6 (e3.2.1 - 1)))) = false → C55 (w6 (x118l55 + 1)))) ∧ ((decide (x118l55 < (e29.2.2.1.length : Int))) = false → (((e24.2 == 0)) = true → K false) ∧ (((e24.2 == 0)) = false → fnrj28 x82l21 C21))
def fnrl55 (K : Bool → Prop) (e3 : Int × Int × List (Int) × List (Int × Int)) (e24 : Int × Int) (x82l21 : Int) (C21 : Int → Prop) (e29 : Int × Int × List (Int) × List (Int × Int)) : Nat → Int → Prop
 | 0, _ => False
 | k + 1, x118l55 => fnrl55b K e3 e24 x82l21 C21 e29 x118l55 (fnrl55 K e3 e24 x82l21 C21 e29 k)
def fnrj41 (xp : (List (Int × Int × List (Int) × List (Int × Int))) × (List (Int × Int × Bs)) × List (List Bs)) (K : Bool → Prop) (e3 : Int × Int × List (Int) × List (Int × Int)) (e24 : Int × Int) (x10j32 : Int) (x11j32 : Bool) (x82l21 : Int) (C21 : Int → Prop) : Prop :=
 (((fnrV1 e24 x10j32 x11j32)) = true → K false) ∧ (((fnrV1 e24 x10j32 x11j32)) = false → (((e24.1 == 16)) = true → (0 : Int) ≤ e24.2 ∧ Int.toNat e24.2 < xp.1.length ∧ ∃ k, fnrl55 K e3 e24 x82l21 C21 (xp.1.getD (Int.toNat e24.2) default) k 0) ∧ (((e24.1 == 16)) = false → fnrj28 x82l21 C21))
def fnrj34 (xp : (List (Int × Int × List (Int) × List (Int × Int))) × (List (Int × Int × Bs)) × List (List Bs)) (K : Bool → Prop) (e3 : Int × Int × List (Int) × List (Int × Int)) (e24 : Int × Int) (x10j32 : Int) (x11j32 : Bool) (x82l21 : Int) (C21 : Int → Prop) : Prop :=
 ((!(rbtM e24.1 1 25)) = true → fnrj41 xp K e3 e24 x10j32 x11j32 x82l21 C21) ∧ ((!(rbtM e24.1 1 25)) = false → fnrj41 xp K e3 e24 x10j32 x11j32 x82l21 C21)
def fnrj32 (xp : (List (Int × Int × List (Int) × List (Int × Int))) × (List (Int × Int × Bs)) × List (List Bs)) (K : Bool → Prop) (e3 : Int × Int × List (Int) × List (Int × Int)) (e24 : Int × Int) (x10j32 : Int) (x11j32 : Bool) (x82l21 : Int) (C21 : Int → Prop) : Prop :=
 ((!x11j32) = true → fnrj34 xp K e3 e24 x10j32 x11j32 x82l21 C21) ∧ ((!x11j32) = false → fnrj34 xp K e3 e24 x10j32 x11j32 x82l21 C21)
def fnrj241 (x15l215 : Bool) (yown38_0l215 : List (Bool × Int × List (Int × Int))) (y56 : (Int) × (Bool × Int × List (Int × Int))) (r56 : List ((Int) × (Bool × Int × List (Int × Int)))) (C215 : Bool → (List ((Int) × (Bool × Int × List (Int × Int)))) → (List (Bool × Int × List (Int × Int))) → Prop) : Prop :=
 (0 : Int) ≤ y56.1 ∧ Int.toNat y56.1 < yown38_0l215.length ∧ C215 (fnrV12 x15l215 yown38_0l215 y56) r56 (yown38_0l215.set (Int.toNat y56.1) y56.2)
def fnrj234 (K : Bool → Prop) (x15l215 : Bool) (yown38_0l215 : List (Bool × Int × List (Int × Int))) (y56 : (Int) × (Bool × Int × List (Int × Int))) (r56 : List ((Int) × (Bool × Int × List (Int × Int)))) (C215 : Bool → (List ((Int) × (Bool × Int × List (Int × Int)))) → (List (Bool × Int × List (Int × Int))) → Prop) : Prop :=
 (((fnrV11 yown38_0l215 y56)) = true → K false) ∧ (((fnrV11 yown38_0l215 y56)) = false → ((x15l215) = true → fnrj241 x15l215 yown38_0l215 y56 r56 C215) ∧ ((x15l215) = false → (0 : Int) ≤ y56.1 ∧ Int.toNat y56.1 < yown38_0l215.length ∧ fnrj241 x15l215 yown38_0l215 y56 r56 C215))
def fnrl215b (K : Bool → Prop) (e3 : Int × Int × List (Int) × List (Int × Int)) (x143l104 : Int) (C104 : Bool → Int → (List (Bool × Int × List (Int × Int))) → Prop) (x15l215 : Bool) (yb55_0l215 : List ((Int) × (Bool × Int × List (Int × Int)))) (yown38_0l215 : List (Bool × Int × List (Int × Int))) (C215 : Bool → (List ((Int) × (Bool × Int × List (Int × Int)))) → (List (Bool × Int × List (Int × Int))) → Prop) : Prop :=
 (yb55_0l215 = [] → C104 x15l215 (w6 (x143l104 + 1)) yown38_0l215) ∧ (∀ y56 : (Int) × (Bool × Int × List (Int × Int)), ∀ r56 : List ((Int) × (Bool × Int × List (Int × Int))), Sel y56 yb55_0l215 r56 → ((decide (y56.1 ≥ (e3.2.2.2.length : Int))) = true → K false) ∧ ((decide (y56.1 ≥ (e3.2.2.2.length : Int))) = false → (0 : Int) ≤ y56.1 ∧ Int.toNat y56.1 < yown38_0l215.length ∧ ((yown38_0l215.getD (Int.toNat y56.1) default).1 = true → ((((yown38_0l215.getD (Int.toNat y56.1) default).2.1 != y56.2.2.1)) = true → fnrj234 K x15l215 yown38_0l215 y56 r56 C215) ∧ ((((yown38_0l215.getD (Int.toNat y56.1) default).2.1 != y56.2.2.1)) = false → peqP (yown38_0l215.getD (Int.toNat y56.1) default).2.2 y56.2.2.2 ∧ fnrj234 K x15l215 yown38_0l215 y56 r56 C215)) ∧ ((yown38_0l215.getD (Int.toNat y56.1) default).1 = false → fnrj234 K x15l215 yown38_0l215 y56 r56 C215)))
def fnrl215 (K : Bool → Prop) (e3 : Int × Int × List (Int) × List (Int × Int)) (x143l104 : Int) (C104 : Bool → Int → (List (Bool × Int × List (Int × Int))) → Prop) : Nat → Bool → (List ((Int) × (Bool × Int × List (Int × Int)))) → (List (Bool × Int × List (Int × Int))) → Prop
 | 0, _, _, _ => False
 | k + 1, x15l215, yb55_0l215, yown38_0l215 => fnrl215b K e3 x143l104 C104 x15l215 yb55_0l215 yown38_0l215 (fnrl215 K e3 x143l104 C104 k)
def fnrj137 (K : Bool → Prop) (e3 : Int × Int × List (Int) × List (Int × Int)) (x15l104 : Bool) (x143l104 : Int) (yown38_0l104 : List (Bool × Int × List (Int × Int))) (yb54_0j137 : List ((Int) × (Bool × Int × List (Int × Int)))) (C104 : Bool → Int → (List (Bool × Int × List (Int × Int))) → Prop) : Prop :=
 ∃ k, fnrl215 K e3 x143l104 C104 k x15l104 yb54_0j137 yown38_0l104
def fnrj170 (xown : Int) (K : Bool → Prop) (e3 : Int × Int × List (Int) × List (Int × Int)) (x15l104 : Bool) (x143l104 : Int) (yown38_0l104 : List (Bool × Int × List (Int × Int))) (e45 : Int × Int) (e48 : Bool × Int × List (Int × Int)) (C104 : Bool → Int → (List (Bool × Int × List (Int × Int))) → Prop) : Prop :=
 (((fnrV8 xown e45 e48)) = true → K false) ∧ (((fnrV8 xown e45 e48)) = false → fnrj137 K e3 x15l104 x143l104 yown38_0l104 ([] : List ((Int) × (Bool × Int × List (Int × Int)))) C104)
def fnrj163 (xp : (List (Int × Int × List (Int) × List (Int × Int))) × (List (Int × Int × Bs)) × List (List Bs)) (xown : Int) (K : Bool → Prop) (e3 : Int × Int × List (Int) × List (Int × Int)) (x15l104 : Bool) (x143l104 : Int) (yown38_0l104 : List (Bool × Int × List (Int × Int))) (e45 : Int × Int) (e48 : Bool × Int × List (Int × Int)) (C104 : Bool → Int → (List (Bool × Int × List (Int × Int))) → Prop) : Prop :=
 ((((e45.1 == 18) || (e45.1 == 25))) = true → ((decide ((e48.2.2.length : Int) > 0)) = true → fnrj170 xown K e3 x15l104 x143l104 yown38_0l104 e45 e48 C104) ∧ ((decide ((e48.2.2.length : Int) > 0)) = false → fnrj170 xown K e3 x15l104 x143l104 yown38_0l104 e45 e48 C104)) ∧ ((((e45.1 == 18) || (e45.1 == 25))) = false → (((e45.1 == 19)) = true → fnrj137 K e3 x15l104 x143l104 yown38_0l104 ([] : List ((Int) × (Bool × Int × List (Int × Int)))) C104) ∧ (((e45.1 == 19)) = false → (((e45.1 == 20)) = true → (((e45.2 == (w6 (x143l104 + 1)))) = true → K false) ∧ (((e45.2 == (w6 (x143l104 + 1)))) = false → (([(e45.2, e48.2.1)] : List (Int × Int)) ++ e48.2.2).length ≤ 8796093022208 ∧ fnrj137 K e3 x15l104 x143l104 yown38_0l104 (putK (w6 (x143l104 + 1)) (true, w6 ((w6 (e48.2.1 - (movS e45 xp).1)) + (movS e45 xp).2), (([(e45.2, e48.2.1)] : List (Int × Int)) ++ e48.2.2)) (putK e45.2 (true, w6 (e48.2.1 + 1), e48.2.2) ([] : List ((Int) × (Bool × Int × List (Int × Int)))))) C104)) ∧ (((e45.1 == 20)) = false → (((e45.1 == 21)) = true → ((((e48.2.2.length : Int) == 0)) = true → K false) ∧ ((((e48.2.2.length : Int) == 0)) = false → (0 : Int) ≤ 1 ∧ (1 : Int) ≤ (e48.2.2.length : Int) ∧ (e48.2.2.length : Int) ≤ (e48.2.2.length : Int) ∧ fnrj137 K e3 x15l104 x143l104 yown38_0l104 (putK (w6 (x143l104 + 1)) (true, w6 ((w6 (e48.2.1 - (movS e45 xp).1)) + (movS e45 xp).2), (e48.2.2.drop (Int.toNat 1))) ([] : List ((Int) × (Bool × Int × List (Int × Int))))) C104)) ∧ (((e45.1 == 21)) = false → fnrj137 K e3 x15l104 x143l104 yown38_0l104 (putK (w6 (x143l104 + 1)) (true, w6 ((w6 (e48.2.1 - (movS e45 xp).1)) + (movS e45 xp).2), e48.2.2) ([] : List ((Int) × (Bool × Int × List (Int × Int))))) C104))))
def fnrl104b (xp : (List (Int × Int × List (Int) × List (Int × Int))) × (List (Int × Int × Bs)) × List (List Bs)) (xown : Int) (K : Bool → Prop) (e3 : Int × Int × List (Int) × List (Int × Int)) (C91 : Bool → (List (Bool × Int × List (Int × Int))) → Prop) (x15l104 : Bool) (x143l104 : Int) (yown38_0l104 : List (Bool × Int × List (Int × Int))) (C104 : Bool → Int → (List (Bool × Int × List (Int × Int))) → Prop) : Prop :=
 ((decide (x143l104 < (e3.2.2.2.length : Int))) = true → (0 : Int) ≤ x143l104 ∧ Int.toNat x143l104 < e3.2.2.2.length ∧ (0 : Int) ≤ x143l104 ∧ Int.toNat x143l104 < yown38_0l104.length ∧ ((!(yown38_0l104.getD (Int.toNat x143l104) default).1) = true → C104 x15l104 (w6 (x143l104 + 1)) yown38_0l104) ∧ ((!(yown38_0l104.getD (Int.toNat x143l104) default).1) = false → movP (e3.2.2.2.getD (Int.toNat x143l104) default) xp ∧ ((decide ((yown38_0l104.getD (Int.toNat x143l104) default).2.1 < (movS (e3.2.2.2.getD (Int.toNat x143l104) default) xp).1)) = true → K false) ∧ ((decide ((yown38_0l104.getD (Int.toNat x143l104) default).2.1 < (movS (e3.2.2.2.getD (Int.toNat x143l104) default) xp).1)) = false → ((((e3.2.2.2.getD (Int.toNat x143l104) default).1 == 9)) = true → fnrj137 K e3 x15l104 x143l104 yown38_0l104 (putK (e3.2.2.2.getD (Int.toNat x143l104) default).2 (true, w6 ((w6 ((yown38_0l104.getD (Int.toNat x143l104) default).2.1 - (movS (e3.2.2.2.getD (Int.toNat x143l104) default) xp).1)) + (movS (e3.2.2.2.getD (Int.toNat x143l104) default) xp).2), (yown38_0l104.getD (Int.toNat x143l104) default).2.2) ([] : List ((Int) × (Bool × Int × List (Int × Int))))) C104) ∧ ((((e3.2.2.2.getD (Int.toNat x143l104) default).1 == 9)) = false → ((((e3.2.2.2.getD (Int.toNat x143l104) default).1 == 10)) = true → fnrj137 K e3 x15l104 x143l104 yown38_0l104 (putK (w6 (x143l104 + 1)) (true, w6 ((w6 ((yown38_0l104.getD (Int.toNat x143l104) default).2.1 - (movS (e3.2.2.2.getD (Int.toNat x143l104) default) xp).1)) + (movS (e3.2.2.2.getD (Int.toNat x143l104) default) xp).2), (yown38_0l104.getD (Int.toNat x143l104) default).2.2) (putK (e3.2.2.2.getD (Int.toNat x143l104) default).2 (true, w6 ((w6 ((yown38_0l104.getD (Int.toNat x143l104) default).2.1 - (movS (e3.2.2.2.getD (Int.toNat x143l104) default) xp).1)) + (movS (e3.2.2.2.getD (Int.toNat x143l104) default) xp).2), (yown38_0l104.getD (Int.toNat x143l104) default).2.2) ([] : List ((Int) × (Bool × Int × List (Int × Int)))))) C104) ∧ ((((e3.2.2.2.getD (Int.toNat x143l104) default).1 == 10)) = false → ((((e3.2.2.2.getD (Int.toNat x143l104) default).1 == 24)) = true → ((((e3.2.2.2.getD (Int.toNat x143l104) default).2 == (w6 (x143l104 + 1)))) = true → K false) ∧ ((((e3.2.2.2.getD (Int.toNat x143l104) default).2 == (w6 (x143l104 + 1)))) = false → fnrj137 K e3 x15l104 x143l104 yown38_0l104 (putK (w6 (x143l104 + 1)) (true, w6 ((w6 ((yown38_0l104.getD (Int.toNat x143l104) default).2.1 - (movS (e3.2.2.2.getD (Int.toNat x143l104) default) xp).1)) + (movS (e3.2.2.2.getD (Int.toNat x143l104) default) xp).2), (yown38_0l104.getD (Int.toNat x143l104) default).2.2) (putK (e3.2.2.2.getD (Int.toNat x143l104) default).2 (yown38_0l104.getD (Int.toNat x143l104) default) ([] : List ((Int) × (Bool × Int × List (Int × Int)))))) C104)) ∧ ((((e3.2.2.2.getD (Int.toNat x143l104) default).1 == 24)) = false → ((((e3.2.2.2.getD (Int.toNat x143l104) default).1 == 18)) = true → fnrj163 xp xown K e3 x15l104 x143l104 yown38_0l104 (e3.2.2.2.getD (Int.toNat x143l104) default) (yown38_0l104.getD (Int.toNat x143l104) default) C104) ∧ ((((e3.2.2.2.getD (Int.toNat x143l104) default).1 == 18)) = false → fnrj163 xp xown K e3 x15l104 x143l104 yown38_0l104 (e3.2.2.2.getD (Int.toNat x143l104) default) (yown38_0l104.getD (Int.toNat x143l104) default) C104))))))) ∧ ((decide (x143l104 < (e3.2.2.2.length : Int))) = false → C91 x15l104 yown38_0l104)
def fnrl104 (xp : (List (Int × Int × List (Int) × List (Int × Int))) × (List (Int × Int × Bs)) × List (List Bs)) (xown : Int) (K : Bool → Prop) (e3 : Int × Int × List (Int) × List (Int × Int)) (C91 : Bool → (List (Bool × Int × List (Int × Int))) → Prop) : Nat → Bool → Int → (List (Bool × Int × List (Int × Int))) → Prop
 | 0, _, _, _ => False
 | k + 1, x15l104, x143l104, yown38_0l104 => fnrl104b xp xown K e3 C91 x15l104 x143l104 yown38_0l104 (fnrl104 xp xown K e3 C91 k)
def fnrl91b (xp : (List (Int × Int × List (Int) × List (Int × Int))) × (List (Int × Int × Bs)) × List (List Bs)) (xown : Int) (K : Bool → Prop) (e3 : Int × Int × List (Int) × List (Int × Int)) (x15l91 : Bool) (yown38_0l91 : List (Bool × Int × List (Int × Int))) (C91 : Bool → (List (Bool × Int × List (Int × Int))) → Prop) : Prop :=
 ((x15l91) = true → ∃ k, fnrl104 xp xown K e3 C91 k false 0 yown38_0l91) ∧ ((x15l91) = false → K true)
def fnrl91 (xp : (List (Int × Int × List (Int) × List (Int × Int))) × (List (Int × Int × Bs)) × List (List Bs)) (xown : Int) (K : Bool → Prop) (e3 : Int × Int × List (Int) × List (Int × Int)) : Nat → Bool → (List (Bool × Int × List (Int × Int))) → Prop
 | 0, _, _ => False
 | k + 1, x15l91, yown38_0l91 => fnrl91b xp xown K e3 x15l91 yown38_0l91 (fnrl91 xp xown K e3 k)
def fnrl21b (xp : (List (Int × Int × List (Int) × List (Int × Int))) × (List (Int × Int × Bs)) × List (List Bs)) (xown : Int) (K : Bool → Prop) (e3 : Int × Int × List (Int) × List (Int × Int)) (x82l21 : Int) (C21 : Int → Prop) : Prop :=
 ((decide (x82l21 < (e3.2.2.2.length : Int))) = true → (0 : Int) ≤ x82l21 ∧ Int.toNat x82l21 < e3.2.2.2.length ∧ (∀ e37 : Int, assocK (e3.2.2.2.getD (Int.toNat x82l21) default).1 (putK 24 (e3.2.2.2.length : Int) (putK 20 (e3.2.2.2.length : Int) (putK 17 401 (putK 16 (xp.1.length : Int) (putK 13 (xp.2.2.length : Int) (putK 12 401 (putK 10 (e3.2.2.2.length : Int) (putK 9 (e3.2.2.2.length : Int) (putK 8 11 (putK 7 2 (putK 5 e3.2.1 (putK 4 e3.2.1 (putK 3 e3.2.1 (putK 2 e3.2.1 (putK 1 (xp.2.1.length : Int) ([] : List ((Int) × (Int)))))))))))))))))) = some e37 → fnrj32 xp K e3 (e3.2.2.2.getD (Int.toNat x82l21) default) e37 true x82l21 C21) ∧ (assocK (e3.2.2.2.getD (Int.toNat x82l21) default).1 (putK 24 (e3.2.2.2.length : Int) (putK 20 (e3.2.2.2.length : Int) (putK 17 401 (putK 16 (xp.1.length : Int) (putK 13 (xp.2.2.length : Int) (putK 12 401 (putK 10 (e3.2.2.2.length : Int) (putK 9 (e3.2.2.2.length : Int) (putK 8 11 (putK 7 2 (putK 5 e3.2.1 (putK 4 e3.2.1 (putK 3 e3.2.1 (putK 2 e3.2.1 (putK 1 (xp.2.1.length : Int) ([] : List ((Int) × (Int)))))))))))))))))) = none → fnrj32 xp K e3 (e3.2.2.2.getD (Int.toNat x82l21) default) 0 false x82l21 C21)) ∧ ((decide (x82l21 < (e3.2.2.2.length : Int))) = false → (0 : Int) ≤ (w6 ((e3.2.2.2.length : Int) + 1)) ∧ (w6 ((e3.2.2.2.length : Int) + 1)) ≤ 3518437208883 ∧ (0 : Int) ≤ 0 ∧ Int.toNat 0 < (List.replicate (Int.toNat (w6 ((e3.2.2.2.length : Int) + 1))) ((false, 0, []) : Bool × Int × List (Int × Int))).length ∧ ∃ k, fnrl91 xp xown K e3 k true ((List.replicate (Int.toNat (w6 ((e3.2.2.2.length : Int) + 1))) ((false, 0, []) : Bool × Int × List (Int × Int))).set (Int.toNat 0) (true, ((List.replicate (Int.toNat (w6 ((e3.2.2.2.length : Int) + 1))) ((false, 0, []) : Bool × Int × List (Int × Int))).getD (Int.toNat 0) default).2.1, ((List.replicate (Int.toNat (w6 ((e3.2.2.2.length : Int) + 1))) ((false, 0, []) : Bool × Int × List (Int × Int))).getD (Int.toNat 0) default).2.2)))
def fnrl21 (xp : (List (Int × Int × List (Int) × List (Int × Int))) × (List (Int × Int × Bs)) × List (List Bs)) (xown : Int) (K : Bool → Prop) (e3 : Int × Int × List (Int) × List (Int × Int)) : Nat → Int → Prop
 | 0, _ => False
 | k + 1, x82l21 => fnrl21b xp xown K e3 x82l21 (fnrl21 xp xown K e3 k)
def fnrj8 (xp : (List (Int × Int × List (Int) × List (Int × Int))) × (List (Int × Int × Bs)) × List (List Bs)) (xown : Int) (K : Bool → Prop) (e3 : Int × Int × List (Int) × List (Int × Int)) : Prop :=
 (((fnrV0 e3)) = true → K false) ∧ (((fnrV0 e3)) = false → ∃ k, fnrl21 xp xown K e3 k 0)
def fnrF (xp : (List (Int × Int × List (Int) × List (Int × Int))) × (List (Int × Int × Bs)) × List (List Bs)) (xown : Int) (K : Bool → Prop) : Prop :=
 (0 : Int) ≤ xown ∧ Int.toNat xown < xp.1.length ∧ ((decide ((xp.1.getD (Int.toNat xown) default).1 < 0)) = true → fnrj8 xp xown K (xp.1.getD (Int.toNat xown) default)) ∧ ((decide ((xp.1.getD (Int.toNat xown) default).1 < 0)) = false → ((decide ((xp.1.getD (Int.toNat xown) default).2.1 < 0)) = true → fnrj8 xp xown K (xp.1.getD (Int.toNat xown) default)) ∧ ((decide ((xp.1.getD (Int.toNat xown) default).2.1 < 0)) = false → fnrj8 xp xown K (xp.1.getD (Int.toNat xown) default)))
theorem fnr_ok {g : Ghost} {axp_0 : Option Addr} {cxp_0 : Nat} {axp_1 : Option Addr} {cxp_1 : Nat} {axp_2 : Option Addr} {cxp_2 : Nat} (xp : (List (Int × Int × List (Int) × List (Int × Int))) × (List (Int × Int × Bs)) × List (List Bs)) (xown : Int) (hRxp_0 : Rep g (.slice (.pair (.int .i64) (.pair (.int .i64) (.pair (.slice (.int .i64)) (.slice (.pair (.int .i64) (.int .i64))))))) [.slice axp_0 xp.1.length cxp_0] xp.1) (hRxp_1 : Rep g (.slice (.pair (.int .i64) (.pair (.int .i64) (.str)))) [.slice axp_1 xp.2.1.length cxp_1] xp.2.1) (hRxp_2 : Rep g (.slice (.slice (.str))) [.slice axp_2 xp.2.2.length cxp_2] xp.2.2) (K : Bool → Prop)
  (hF : fnrF xp xown K) : CallsH Tryd.prog 7 #[.agg #[.slice axp_0 xp.1.length cxp_0, .slice axp_1 xp.2.1.length cxp_1, .slice axp_2 xp.2.2.length cxp_2], .int .i64 xown] g [] (fun g' H' v => ∃ (r0 : Bool), v = .bool r0 ∧ H' = [] ∧ K r0) := by
 refine CallsH.enter 323 [(0, .agg #[.slice axp_0 xp.1.length cxp_0, .slice axp_1 xp.2.1.length cxp_1, .slice axp_2 xp.2.2.length cxp_2]), (1, .int .i64 xown)] Tryd.func7 rfl (by kernel_rfl) (by kernel_rfl) (by kernel_rfl) fun w0 => ?_
 refine Ok.seq (Ok.region (Ok.op rfl (OpOk.box (v := .agg #[.slice axp_0 xp.1.length cxp_0, .slice axp_1 xp.2.1.length cxp_1, .slice axp_2 xp.2.2.length cxp_2]) (cs := #[.slice axp_0 xp.1.length cxp_0, .slice axp_1 xp.2.1.length cxp_1, .slice axp_2 xp.2.2.length cxp_2]) rfl (by kernel_rfl) rfl fun bs2 => ?_)))
 refine Ok.batch 1 [(1, .int .i64 xown), (2, pv bs2 0)] (by kernel_rfl) (Ok.nil (Ok.thenN (Ok.seq (Ok.region (Ok.bat 1 [1, 2] [(25, pv bs2 0)] ?_)))))
 refine Ok.op rfl (OpOk.step (v := .slice axp_0 xp.1.length cxp_0) (Yields.load 0 rfl rfl Tryd.underlying22 rfl (by kernel_rfl)) rfl rfl (Ok.bat 1 [1, 2] [(26, .slice axp_0 xp.1.length cxp_0), (27, .int .i64 xown)] ?_))
 obtain ⟨h03, h13, hF⟩ := hF
 have he3 := get_of (l := xp.1) (default : Int × Int × List (Int) × List (Int × Int)) h13
 generalize hg3 : (xp.1.getD (Int.toNat xown) default) = e3 at he3 hF ⊢
 refine Ok.op rfl (OpOk.indexRo (e := .pair (.int .i64) (.pair (.int .i64) (.pair (.slice (.int .i64)) (.slice (.pair (.int .i64) (.int .i64)))))) (i := xown) (el := e3) rfl rfl Tryd.underlying22 (by kernel_rfl) hRxp_0 h03 he3 rfl fun q2 o2 cs2 _ hat2 hr2 => ?_)
 obtain ⟨_, _, rfl, rfl, ⟨_, _, rfl, rfl, ⟨_, _, rfl, ⟨a2_2, c2_2, rfl, hm2_2, hr2_2⟩, ⟨a2_3, c2_3, rfl, hm2_3, hr2_3⟩⟩⟩⟩ := hr2
 have hR2_2 : Rep g (.slice (.int .i64)) [.slice a2_2 e3.2.2.1.length c2_2] e3.2.2.1 := ⟨a2_2, c2_2, rfl, hm2_2, hr2_2⟩
 have hR2_3 : Rep g (.slice (.pair (.int .i64) (.int .i64))) [.slice a2_3 e3.2.2.2.length c2_3] e3.2.2.2 := ⟨a2_3, c2_3, rfl, hm2_3, hr2_3⟩
 replace hat2 : At g q2 o2 [.int .i64 e3.1, .int .i64 e3.2.1, .slice a2_2 e3.2.2.1.length c2_2, .slice a2_3 e3.2.2.2.length c2_3] := hat2
 refine Ok.op rfl (OpOk.step (v := .agg #[.int .i64 e3.1, .int .i64 e3.2.1, .slice a2_2 e3.2.2.1.length c2_2, .slice a2_3 e3.2.2.2.length c2_3]) (Yields.loadAggRo 0 4 #[.int .i64 e3.1, .int .i64 e3.2.1, .slice a2_2 e3.2.2.1.length c2_2, .slice a2_3 e3.2.2.2.length c2_3] hat2 (by kernel_rfl) Tryd.underlying33 rfl (by kernel_rfl) (by kernel_rfl) (by kernel_rfl)) rfl rfl (Ok.op rfl (OpOk.alloc (z := .agg #[.int .i64 0, .int .i64 0, .slice none 0 0, .slice none 0 0]) (cs := #[.int .i64 0, .int .i64 0, .slice none 0 0, .slice none 0 0]) (by kernel_rfl) (by kernel_rfl) rfl fun bs5 => ?_)))
 refine Ok.op rfl (OpOk.sto (k := 4) (v := .agg #[.int .i64 e3.1, .int .i64 e3.2.1, .slice a2_2 e3.2.2.1.length c2_2, .slice a2_3 e3.2.2.2.length c2_3]) 0 #[.int .i64 e3.1, .int .i64 e3.2.1, .slice a2_2 e3.2.2.1.length c2_2, .slice a2_3 e3.2.2.2.length c2_3] rfl rfl rfl ?_)
 refine Ok.nil (Ok.thenN (Ok.seq (Ok.region (Ok.bat 1 [1, 2] [(5, pv bs5 0), (30, pv bs5 3)] ?_))))
 refine Ok.op rfl (OpOk.step (v := .slice a2_3 e3.2.2.2.length c2_3) (Yields.load 0 rfl rfl Tryd.underlying31 rfl (by kernel_rfl)) rfl rfl (Ok.bat 2 [1, 2, 5] [(6, .int .i64 (e3.2.2.2.length : Int))] ?_))
 refine Ok.nil (Ok.thenN (Ok.seq (Ok.cut (fun a W => ∃ gj8 : Ghost, Gext w0 g gj8 ∧ StA 323 [(1, .int .i64 xown), (2, pv bs2 0), (5, pv bs5 0), (6, .int .i64 (e3.2.2.2.length : Int)), (55, .bool (fnrV0 e3))] a ∧ StW w0 [.blk bs5 (.cells #[.int .i64 e3.1, .int .i64 e3.2.1, .slice a2_2 e3.2.2.1.length c2_2, .slice a2_3 e3.2.2.2.length c2_3] 33), .blk bs2 (.cells #[.slice axp_0 xp.1.length cxp_0, .slice axp_1 xp.2.1.length cxp_1, .slice axp_2 xp.2.2.length cxp_2] 26)] gj8 W ∧ fnrj8 xp xown K e3) ?_ ?_)))
 ·
  refine Ok.region (Ok.bat 1 [1, 2, 5, 6] [(33, pv bs5 0)] ?_)
  refine Ok.op rfl (OpOk.step (v := .int .i64 e3.1) (Yields.load 0 rfl rfl Tryd.underlying3 rfl (by kernel_rfl)) rfl rfl (Ok.bat 2 [1, 2, 5, 6] [(36, .bool (decide (e3.1 < 0)))] ?_))
  refine Ok.boolAt 36 (decide (e3.1 < 0)) rfl (fun hc100 => ?_) (fun hc100 => ?_)
  ·replace hF := hF.1 hc100
   refine Ok.bat 19 [1, 2, 5, 6] [(55, .bool true)] ?_
   refine Ok.nil (Ok.thenN (Ok.reval 55 rfl (show (.bool true : Value) = .bool (fnrV0 e3) from congrArg (Value.bool) (mor_t hc100)) ?_))
   exact fun a W hA hW => ⟨g, (Gext.refl w0 g), hA.sub (by kernel_rfl), hW, hF⟩
  ·replace hF := hF.2 hc100
   refine Ok.bat 1 [1, 2, 5, 6] [(36, .bool false), (37, pv bs5 1)] ?_
   refine Ok.opYes (j := 3) (d := 36) (want := false) (b := false) rfl (by kernel_rfl) (by kernel_rfl) rfl (OpOk.step (v := .int .i64 e3.2.1) (Yields.load 0 rfl rfl Tryd.underlying3 rfl (by kernel_rfl)) rfl rfl (Ok.bat 3 [1, 2, 5, 6] [(41, .bool (decide (e3.2.1 < 0)))] ?_))
   refine Ok.boolAt 41 (decide (e3.2.1 < 0)) rfl (fun hc101 => ?_) (fun hc101 => ?_)
   ·replace hF := hF.1 hc101
    refine Ok.bat 14 [1, 2, 5, 6] [(55, .bool true)] ?_
    refine Ok.nil (Ok.thenN (Ok.reval 55 rfl (show (.bool true : Value) = .bool (fnrV0 e3) from congrArg (Value.bool) ((Eq.trans (mor_t hc101) (mor_f hc100)))) ?_))
    exact fun a W hA hW => ⟨g, (Gext.refl w0 g), hA.sub (by kernel_rfl), hW, hF⟩
   ·replace hF := hF.2 hc101
    refine Ok.bat 1 [1, 2, 5, 6] [(41, .bool false), (42, pv bs5 0)] ?_
    refine Ok.opYes (j := 8) (d := 41) (want := false) (b := false) rfl (by kernel_rfl) (by kernel_rfl) rfl (OpOk.step (v := .int .i64 e3.1) (Yields.load 0 rfl rfl Tryd.underlying3 rfl (by kernel_rfl)) rfl rfl (Ok.bat 1 [1, 2, 5, 6, 41] [(43, .int .i64 e3.1), (44, pv bs5 1)] ?_))
    refine Ok.opYes (j := 8) (d := 41) (want := false) (b := false) rfl (by kernel_rfl) (by kernel_rfl) rfl (OpOk.step (v := .int .i64 e3.2.1) (Yields.load 0 rfl rfl Tryd.underlying3 rfl (by kernel_rfl)) rfl rfl (Ok.bat 1 [1, 2, 5, 6, 41, 43] [(45, .int .i64 e3.2.1), (46, pv bs5 2)] ?_))
    refine Ok.opYes (j := 8) (d := 41) (want := false) (b := false) rfl (by kernel_rfl) (by kernel_rfl) rfl (OpOk.step (v := .slice a2_2 e3.2.2.1.length c2_2) (Yields.load 0 rfl rfl Tryd.underlying30 rfl (by kernel_rfl)) rfl rfl (Ok.bat 5 [1, 2, 5, 6] [(52, .bool (decide (e3.1 > (w6 (e3.2.1 - (e3.2.2.1.length : Int))))))] ?_))
    refine Ok.midway 3 [(1, .int .i64 xown), (2, pv bs2 0), (5, pv bs5 0), (6, .int .i64 (e3.2.2.2.length : Int)), (55, .bool ((decide (e3.1 > (w6 (e3.2.1 - (e3.2.2.1.length : Int))))) || ((e3.2.2.2.length : Int) == 0)))] (fun hR102 => ?_) ?_
    ·refine Ok.boolAt 52 (decide (e3.1 > (w6 (e3.2.1 - (e3.2.2.1.length : Int))))) rfl (fun hc103 => ?_) (fun hc103 => ?_)
     ·skip
      refine Ok.bat 3 [1, 2, 5, 6] [(55, .bool true)] ?_
      refine Ok.reval 55 rfl (show (.bool true : Value) = .bool ((decide (e3.1 > (w6 (e3.2.1 - (e3.2.2.1.length : Int))))) || ((e3.2.2.2.length : Int) == 0)) from congrArg Value.bool (mor_t hc103)) (Ok.bat 0 [1, 2, 5, 6] [(55, .bool ((decide (e3.1 > (w6 (e3.2.1 - (e3.2.2.1.length : Int))))) || ((e3.2.2.2.length : Int) == 0)))] ?_)
      exact hR102
     ·skip
      refine Ok.bat 3 [1, 2, 5, 6] [(55, .bool ((e3.2.2.2.length : Int) == 0))] ?_
      refine Ok.reval 55 rfl (show (.bool ((e3.2.2.2.length : Int) == 0) : Value) = .bool ((decide (e3.1 > (w6 (e3.2.1 - (e3.2.2.1.length : Int))))) || ((e3.2.2.2.length : Int) == 0)) from congrArg Value.bool (mor_f hc103)) (Ok.bat 0 [1, 2, 5, 6] [(55, .bool ((decide (e3.1 > (w6 (e3.2.1 - (e3.2.2.1.length : Int))))) || ((e3.2.2.2.length : Int) == 0)))] ?_)
      exact hR102
    refine Ok.nil (Ok.thenN (Ok.reval 55 rfl (show (.bool ((decide (e3.1 > (w6 (e3.2.1 - (e3.2.2.1.length : Int))))) || ((e3.2.2.2.length : Int) == 0)) : Value) = .bool (fnrV0 e3) from congrArg (Value.bool) ((Eq.trans (mor_f hc101) (mor_f hc100)))) ?_))
    exact fun a W hA hW => ⟨g, (Gext.refl w0 g), hA.sub (by kernel_rfl), hW, hF⟩
 ·
  clear hF
  rintro a W ⟨gj8, hxj8, hA, hW, hF⟩
  refine (?_ : Ok _ _ _ _ _ _) a W hA hW
  clear hA hW
  replace hR2_2 := hR2_2.mono hxj8.1
  replace hR2_3 := hR2_3.mono hxj8.1
  replace hRxp_0 := hRxp_0.mono hxj8.1
  replace hRxp_1 := hRxp_1.mono hxj8.1
  replace hRxp_2 := hRxp_2.mono hxj8.1
  refine Ok.cond (b := (fnrV0 e3)) rfl (fun hc5 => ?_) (fun hc5 => ?_)
  ·replace hF := hF.1 hc5
   refine Ok.seq (Ok.region (Ok.batch 1 [(4, .bool false)] (by kernel_rfl) (Ok.nil (Ok.thenN (Ok.ret (Ok.thenR ?_))))))
   exact Ok.resP (vs := [.bool false]) [] [] (by decide) rfl (.inl rfl) rfl (.cons (.tmp rfl) .nil) hxj8 ⟨false, rfl, rfl, hF⟩
  ·replace hF := hF.2 hc5
   refine Ok.skip (Ok.thenN (Ok.seq (Ok.region (Ok.op rfl (OpOk.makeMapA (.int .i64) false (kt := (Value.int .i64)) rfl fun b6 hM6 => ?_)))))
   refine Ok.bat 1 [1, 2, 5, 6] [(56, .map (some b6)), (57, pv bs2 1)] ?_
   refine Ok.op rfl (OpOk.step (v := .slice axp_1 xp.2.1.length cxp_1) (Yields.load 2 rfl rfl Tryd.underlying23 rfl (by kernel_rfl)) rfl rfl (Ok.bat 1 [1, 2, 5, 6, 56] [(59, .int .i64 (xp.2.1.length : Int))] ?_))
   refine Ok.op rfl (OpOk.insertA (vt := .int .i64) (row := false) (cells := [.int .i64 (xp.2.1.length : Int)]) (y := (xp.2.1.length : Int)) keyInt 0 rfl hM6 rfl rfl rfl Tryd.underlying44 Tryd.underlying3 rfl rfl fun es7 ck7 hM7 => ?_)
   refine Ok.bat 1 [1, 2, 5, 6, 56] [(60, pv bs5 1)] ?_
   refine Ok.op rfl (OpOk.step (v := .int .i64 e3.2.1) (Yields.load 1 rfl rfl Tryd.underlying3 rfl (by kernel_rfl)) rfl rfl (Ok.op rfl (OpOk.insertA (vt := .int .i64) (row := false) (cells := [.int .i64 e3.2.1]) (y := e3.2.1) keyInt 0 rfl hM7 rfl rfl rfl Tryd.underlying44 Tryd.underlying3 rfl rfl fun es8 ck8 hM8 => ?_)))
   refine Ok.bat 1 [1, 2, 5, 6, 56] [(62, pv bs5 1)] ?_
   refine Ok.op rfl (OpOk.step (v := .int .i64 e3.2.1) (Yields.load 1 rfl rfl Tryd.underlying3 rfl (by kernel_rfl)) rfl rfl (Ok.op rfl (OpOk.insertA (vt := .int .i64) (row := false) (cells := [.int .i64 e3.2.1]) (y := e3.2.1) keyInt 0 rfl hM8 rfl rfl rfl Tryd.underlying44 Tryd.underlying3 rfl rfl fun es9 ck9 hM9 => ?_)))
   refine Ok.bat 1 [1, 2, 5, 6, 56] [(64, pv bs5 1)] ?_
   refine Ok.op rfl (OpOk.step (v := .int .i64 e3.2.1) (Yields.load 1 rfl rfl Tryd.underlying3 rfl (by kernel_rfl)) rfl rfl (Ok.op rfl (OpOk.insertA (vt := .int .i64) (row := false) (cells := [.int .i64 e3.2.1]) (y := e3.2.1) keyInt 0 rfl hM9 rfl rfl rfl Tryd.underlying44 Tryd.underlying3 rfl rfl fun es10 ck10 hM10 => ?_)))
   refine Ok.bat 1 [1, 2, 5, 6, 56] [(66, pv bs5 1)] ?_
   refine Ok.op rfl (OpOk.step (v := .int .i64 e3.2.1) (Yields.load 1 rfl rfl Tryd.underlying3 rfl (by kernel_rfl)) rfl rfl (Ok.op rfl (OpOk.insertA (vt := .int .i64) (row := false) (cells := [.int .i64 e3.2.1]) (y := e3.2.1) keyInt 0 rfl hM10 rfl rfl rfl Tryd.underlying44 Tryd.underlying3 rfl rfl fun es11 ck11 hM11 => ?_)))
   refine Ok.op rfl (OpOk.insertA (vt := .int .i64) (row := false) (cells := [.int .i64 2]) (y := 2) keyInt 0 rfl hM11 rfl rfl rfl Tryd.underlying44 Tryd.underlying3 rfl rfl fun es12 ck12 hM12 => ?_)
   refine Ok.op rfl (OpOk.insertA (vt := .int .i64) (row := false) (cells := [.int .i64 11]) (y := 11) keyInt 0 rfl hM12 rfl rfl rfl Tryd.underlying44 Tryd.underlying3 rfl rfl fun es13 ck13 hM13 => ?_)
   refine Ok.bat 1 [1, 2, 5, 6, 56] [(68, .int .i64 (e3.2.2.2.length : Int))] ?_
   refine Ok.op rfl (OpOk.insertA (vt := .int .i64) (row := false) (cells := [.int .i64 (e3.2.2.2.length : Int)]) (y := (e3.2.2.2.length : Int)) keyInt 0 rfl hM13 rfl rfl rfl Tryd.underlying44 Tryd.underlying3 rfl rfl fun es14 ck14 hM14 => ?_)
   refine Ok.bat 1 [1, 2, 5, 6, 56] [(69, .int .i64 (e3.2.2.2.length : Int))] ?_
   refine Ok.op rfl (OpOk.insertA (vt := .int .i64) (row := false) (cells := [.int .i64 (e3.2.2.2.length : Int)]) (y := (e3.2.2.2.length : Int)) keyInt 0 rfl hM14 rfl rfl rfl Tryd.underlying44 Tryd.underlying3 rfl rfl fun es15 ck15 hM15 => ?_)
   refine Ok.op rfl (OpOk.insertA (vt := .int .i64) (row := false) (cells := [.int .i64 401]) (y := 401) keyInt 0 rfl hM15 rfl rfl rfl Tryd.underlying44 Tryd.underlying3 rfl rfl fun es16 ck16 hM16 => ?_)
   refine Ok.bat 1 [1, 2, 5, 6, 56] [(70, pv bs2 2)] ?_
   refine Ok.op rfl (OpOk.step (v := .slice axp_2 xp.2.2.length cxp_2) (Yields.load 2 rfl rfl Tryd.underlying24 rfl (by kernel_rfl)) rfl rfl (Ok.bat 1 [1, 2, 5, 6, 56] [(72, .int .i64 (xp.2.2.length : Int))] ?_))
   refine Ok.op rfl (OpOk.insertA (vt := .int .i64) (row := false) (cells := [.int .i64 (xp.2.2.length : Int)]) (y := (xp.2.2.length : Int)) keyInt 0 rfl hM16 rfl rfl rfl Tryd.underlying44 Tryd.underlying3 rfl rfl fun es17 ck17 hM17 => ?_)
   refine Ok.bat 1 [1, 2, 5, 6, 56] [(73, pv bs2 0)] ?_
   refine Ok.op rfl (OpOk.step (v := .slice axp_0 xp.1.length cxp_0) (Yields.load 2 rfl rfl Tryd.underlying22 rfl (by kernel_rfl)) rfl rfl (Ok.bat 1 [1, 2, 5, 6, 56] [(75, .int .i64 (xp.1.length : Int))] ?_))
   refine Ok.op rfl (OpOk.insertA (vt := .int .i64) (row := false) (cells := [.int .i64 (xp.1.length : Int)]) (y := (xp.1.length : Int)) keyInt 0 rfl hM17 rfl rfl rfl Tryd.underlying44 Tryd.underlying3 rfl rfl fun es18 ck18 hM18 => ?_)
   refine Ok.op rfl (OpOk.insertA (vt := .int .i64) (row := false) (cells := [.int .i64 401]) (y := 401) keyInt 0 rfl hM18 rfl rfl rfl Tryd.underlying44 Tryd.underlying3 rfl rfl fun es19 ck19 hM19 => ?_)
   refine Ok.bat 1 [1, 2, 5, 6, 56] [(76, .int .i64 (e3.2.2.2.length : Int))] ?_
   refine Ok.op rfl (OpOk.insertA (vt := .int .i64) (row := false) (cells := [.int .i64 (e3.2.2.2.length : Int)]) (y := (e3.2.2.2.length : Int)) keyInt 0 rfl hM19 rfl rfl rfl Tryd.underlying44 Tryd.underlying3 rfl rfl fun es20 ck20 hM20 => ?_)
   refine Ok.bat 1 [1, 2, 5, 6, 56] [(77, .int .i64 (e3.2.2.2.length : Int))] ?_
   refine Ok.op rfl (OpOk.insertA (vt := .int .i64) (row := false) (cells := [.int .i64 (e3.2.2.2.length : Int)]) (y := (e3.2.2.2.length : Int)) keyInt 0 rfl hM20 rfl rfl rfl Tryd.underlying44 Tryd.underlying3 rfl rfl fun es21 ck21 hM21 => ?_)
   refine Ok.bat 2 [1, 2, 5, 6] [(7, .map (some b6))] ?_
   refine Ok.nil (Ok.thenN (Ok.seq (Ok.seq (Ok.region (Ok.bat 1 [1, 2, 5, 6, 7] [(79, pv bs5 3)] ?_)))))
   refine Ok.op rfl (OpOk.step (v := .slice a2_3 e3.2.2.2.length c2_3) (Yields.load 1 rfl rfl Tryd.underlying31 rfl (by kernel_rfl)) rfl rfl (Ok.bat 2 [1, 2, 5, 6, 7] [(80, .slice a2_3 e3.2.2.2.length c2_3), (81, .int .i64 (e3.2.2.2.length : Int)), (82, .int .i64 0)] ?_))
   refine Ok.nil (Ok.thenN (Ok.block ?_))
   obtain ⟨k, hF⟩ := hF
   refine Ok.loop (fun k a W => ∃ gl21 : Ghost, Gext w0 gj8 gl21 ∧ ∃ (x82l21 : Int), StA 323 [(1, .int .i64 xown), (2, pv bs2 0), (5, pv bs5 0), (6, .int .i64 (e3.2.2.2.length : Int)), (7, .map (some b6)), (80, .slice a2_3 e3.2.2.2.length c2_3), (81, .int .i64 (e3.2.2.2.length : Int)), (82, .int .i64 x82l21)] a ∧ StW w0 [.blk b6 (.map es21 ck21), .blk bs5 (.cells #[.int .i64 e3.1, .int .i64 e3.2.1, .slice a2_2 e3.2.2.1.length c2_2, .slice a2_3 e3.2.2.2.length c2_3] 33), .blk bs2 (.cells #[.slice axp_0 xp.1.length cxp_0, .slice axp_1 xp.2.1.length cxp_1, .slice axp_2 xp.2.2.length cxp_2] 26)] gl21 W ∧ fnrl21 xp xown K e3 k x82l21) k ?_ ?_
   ·
    exact fun a W hA hW => ⟨gj8, (Gext.refl w0 gj8), 0, hA.sub (by kernel_rfl), hW, hF⟩
   ·
    clear hF
    rintro k21 a W ⟨gl21, hxl21, x82l21, hA, hW, hF⟩
    cases k21 with
    | zero => exact (hF : False).elim
    | succ k21 =>
     refine (?_ : Ok _ _ _ _ _ _) a W hA hW
     clear hA hW
     replace hR2_3 := hR2_3.mono hxl21.1
     replace hM21 := hM21.mono hxl21.1
     replace hR2_2 := hR2_2.mono hxl21.1
     replace hRxp_0 := hRxp_0.mono hxl21.1
     replace hRxp_1 := hRxp_1.mono hxl21.1
     replace hRxp_2 := hRxp_2.mono hxl21.1
     refine Ok.seq (Ok.region (Ok.bat 1 [1, 2, 5, 6, 7, 80, 81, 82] [(83, .bool (decide (x82l21 < (e3.2.2.2.length : Int))))] ?_))
     refine Ok.nil (Ok.thenN (Ok.seq (Ok.cond (b := decide (x82l21 < (e3.2.2.2.length : Int))) rfl (fun hc22 => ?_) (fun hc22 => ?_))))
     ·replace hF := hF.1 hc22
      refine Ok.skip (Ok.thenN (Ok.cut (fun a W => ∃ gj28 : Ghost, Gext w0 gl21 gj28 ∧ StA 323 [(1, .int .i64 xown), (2, pv bs2 0), (5, pv bs5 0), (6, .int .i64 (e3.2.2.2.length : Int)), (7, .map (some b6)), (80, .slice a2_3 e3.2.2.2.length c2_3), (81, .int .i64 (e3.2.2.2.length : Int)), (82, .int .i64 x82l21)] a ∧ StW w0 [.blk b6 (.map es21 ck21), .blk bs5 (.cells #[.int .i64 e3.1, .int .i64 e3.2.1, .slice a2_2 e3.2.2.1.length c2_2, .slice a2_3 e3.2.2.2.length c2_3] 33), .blk bs2 (.cells #[.slice axp_0 xp.1.length cxp_0, .slice axp_1 xp.2.1.length cxp_1, .slice axp_2 xp.2.2.length cxp_2] 26)] gj28 W ∧ fnrj28 x82l21 (fnrl21 xp xown K e3 k21)) ?_ ?_))
      ·
       refine Ok.block (Ok.seq (Ok.region ?_))
       obtain ⟨h024, h124, hF⟩ := hF
       have he24 := get_of (l := e3.2.2.2) (default : Int × Int) h124
       generalize hg24 : (e3.2.2.2.getD (Int.toNat x82l21) default) = e24 at he24 hF ⊢
       refine Ok.op rfl (OpOk.indexRo (e := .pair (.int .i64) (.int .i64)) (i := x82l21) (el := e24) rfl rfl Tryd.underlying31 (by kernel_rfl) hR2_3 h024 he24 rfl fun q23 o23 cs23 _ hat23 hr23 => ?_)
       obtain ⟨_, _, rfl, rfl, rfl⟩ := hr23
       replace hat23 : At gl21 q23 o23 [.int .i64 e24.1, .int .i64 e24.2] := hat23
       refine Ok.op rfl (OpOk.step (v := .agg #[.int .i64 e24.1, .int .i64 e24.2]) (Yields.loadAggRo 0 2 #[.int .i64 e24.1, .int .i64 e24.2] hat23 (by kernel_rfl) Tryd.underlying46 rfl (by kernel_rfl) (by kernel_rfl) (by kernel_rfl)) rfl rfl (Ok.op rfl (OpOk.alloc (z := .agg #[.int .i64 0, .int .i64 0]) (cs := #[.int .i64 0, .int .i64 0]) (by kernel_rfl) (by kernel_rfl) rfl fun bs9 => ?_)))
       refine Ok.op rfl (OpOk.sto (k := 2) (v := .agg #[.int .i64 e24.1, .int .i64 e24.2]) 0 #[.int .i64 e24.1, .int .i64 e24.2] rfl rfl rfl ?_)
       refine Ok.nil (Ok.thenN (Ok.cut (fun a W => ∃ gj32 : Ghost, Gext w0 gl21 gj32 ∧ ∃ (x10j32 : Int) (x11j32 : Bool), StA 323 [(1, .int .i64 xown), (2, pv bs2 0), (5, pv bs5 0), (6, .int .i64 (e3.2.2.2.length : Int)), (7, .map (some b6)), (9, pv bs9 0), (10, .int .i64 x10j32), (11, .bool x11j32), (80, .slice a2_3 e3.2.2.2.length c2_3), (81, .int .i64 (e3.2.2.2.length : Int)), (82, .int .i64 x82l21)] a ∧ StW w0 [.blk bs9 (.cells #[.int .i64 e24.1, .int .i64 e24.2] 46), .blk b6 (.map es21 ck21), .blk bs5 (.cells #[.int .i64 e3.1, .int .i64 e3.2.1, .slice a2_2 e3.2.2.1.length c2_2, .slice a2_3 e3.2.2.2.length c2_3] 33), .blk bs2 (.cells #[.slice axp_0 xp.1.length cxp_0, .slice axp_1 xp.2.1.length cxp_1, .slice axp_2 xp.2.2.length cxp_2] 26)] gj32 W ∧ fnrj32 xp K e3 e24 x10j32 x11j32 x82l21 (fnrl21 xp xown K e3 k21)) ?_ ?_))
       ·
        refine Ok.region (Ok.bat 2 [1, 2, 5, 6, 7, 80, 81, 82] [(9, pv bs9 0), (87, .map (some b6)), (88, pv bs9 0)] ?_)
        refine Ok.op rfl (OpOk.step (v := .int .i64 e24.1) (Yields.load 0 rfl rfl Tryd.underlying3 rfl (by kernel_rfl)) rfl rfl ?_)
        cases hce37 : assocK e24.1 (putK 24 (e3.2.2.2.length : Int) (putK 20 (e3.2.2.2.length : Int) (putK 17 401 (putK 16 (xp.1.length : Int) (putK 13 (xp.2.2.length : Int) (putK 12 401 (putK 10 (e3.2.2.2.length : Int) (putK 9 (e3.2.2.2.length : Int) (putK 8 11 (putK 7 2 (putK 5 e3.2.1 (putK 4 e3.2.1 (putK 3 e3.2.1 (putK 2 e3.2.1 (putK 1 (xp.2.1.length : Int) ([] : List ((Int) × (Int)))))))))))))))))) with
        | some e37 =>
         replace hF := hF.1 e37 hce37
         refine Ok.op rfl (OpOk.lookupSome (vt := .int .i64) (row := false) keyInt 1 rfl hM21.1 rfl rfl Tryd.underlying44 Tryd.underlying3 hce37 rfl fun v37 cs37 hvi37 hr37 u37 hu37 => ?_)
         obtain rfl := hr37
         have hvi37 : ([.int .i64 e37] : List Value) = [v37] := hvi37
         injection hvi37 with hvi37
         subst hvi37
         have hu37 : u37 = .tuple #[.int .i64 e37, .bool true] := hu37
         subst hu37
         refine Ok.bat 5 [1, 2, 5, 6, 7, 9, 80, 81, 82] [(10, .int .i64 e37), (11, .bool true)] ?_
         refine Ok.nil (Ok.thenN ?_)
         exact fun a W hA hW => ⟨gl21, (Gext.refl w0 gl21), e37, true, hA.sub (by kernel_rfl), hW, hF⟩
        | none =>
         replace hF := hF.2 hce37
         refine Ok.op rfl (OpOk.lookupNone (vt := .int .i64) (row := false) (z := .int .i64 0) (u := .tuple #[.int .i64 0, .bool false]) keyInt 1 rfl hM21.1 rfl rfl Tryd.underlying44 Tryd.underlying3 (by kernel_rfl) hce37 rfl rfl (Ok.bat 5 [1, 2, 5, 6, 7, 9, 80, 81, 82] [(10, .int .i64 0), (11, .bool false)] ?_))
         refine Ok.nil (Ok.thenN ?_)
         exact fun a W hA hW => ⟨gl21, (Gext.refl w0 gl21), 0, false, hA.sub (by kernel_rfl), hW, hF⟩
       ·
        clear hF
        rintro a W ⟨gj32, hxj32, x10j32, x11j32, hA, hW, hF⟩
        refine (?_ : Ok _ _ _ _ _ _) a W hA hW
        clear hA hW
        replace hR2_3 := hR2_3.mono hxj32.1
        replace hM21 := hM21.mono hxj32.1
        replace hR2_2 := hR2_2.mono hxj32.1
        replace hRxp_0 := hRxp_0.mono hxj32.1
        replace hRxp_1 := hRxp_1.mono hxj32.1
        replace hRxp_2 := hRxp_2.mono hxj32.1
        refine Ok.cut (fun a W => ∃ gj34 : Ghost, Gext w0 gj32 gj34 ∧ StA 323 [(1, .int .i64 xown), (2, pv bs2 0), (5, pv bs5 0), (6, .int .i64 (e3.2.2.2.length : Int)), (7, .map (some b6)), (9, pv bs9 0), (10, .int .i64 (if (!x11j32) = true then 1 else x10j32)), (80, .slice a2_3 e3.2.2.2.length c2_3), (81, .int .i64 (e3.2.2.2.length : Int)), (82, .int .i64 x82l21)] a ∧ StW w0 [.blk bs9 (.cells #[.int .i64 e24.1, .int .i64 e24.2] 46), .blk b6 (.map es21 ck21), .blk bs5 (.cells #[.int .i64 e3.1, .int .i64 e3.2.1, .slice a2_2 e3.2.2.1.length c2_2, .slice a2_3 e3.2.2.2.length c2_3] 33), .blk bs2 (.cells #[.slice axp_0 xp.1.length cxp_0, .slice axp_1 xp.2.1.length cxp_1, .slice axp_2 xp.2.2.length cxp_2] 26)] gj34 W ∧ fnrj34 xp K e3 e24 x10j32 x11j32 x82l21 (fnrl21 xp xown K e3 k21)) ?_ ?_
        ·
         refine Ok.seq (Ok.region (Ok.bat 2 [1, 2, 5, 6, 7, 9, 10, 80, 81, 82] [(94, .bool (!x11j32))] ?_))
         refine Ok.nil (Ok.thenN (Ok.cond (b := !x11j32) rfl (fun hc36 => ?_) (fun hc36 => ?_)))
         ·replace hF := hF.1 hc36
          refine Ok.region (Ok.bat 1 [1, 2, 5, 6, 7, 9, 80, 81, 82] [(10, .int .i64 1)] ?_)
          refine Ok.nil (Ok.thenN (Ok.reval 10 rfl (show (.int .i64 1 : Value) = .int .i64 (if (!x11j32) = true then 1 else x10j32) from congrArg (Value.int .i64) ((if_t hc36).symm)) ?_))
          exact fun a W hA hW => ⟨gj32, (Gext.refl w0 gj32), hA.sub (by kernel_rfl), hW, hF⟩
         ·replace hF := hF.2 hc36
          refine Ok.skip (Ok.thenN (Ok.reval 10 rfl (show (.int .i64 x10j32 : Value) = .int .i64 (if (!x11j32) = true then 1 else x10j32) from congrArg (Value.int .i64) ((if_f hc36).symm)) ?_))
          exact fun a W hA hW => ⟨gj32, (Gext.refl w0 gj32), hA.sub (by kernel_rfl), hW, hF⟩
        ·
         clear hF
         rintro a W ⟨gj34, hxj34, hA, hW, hF⟩
         refine (?_ : Ok _ _ _ _ _ _) a W hA hW
         clear hA hW
         replace hR2_3 := hR2_3.mono hxj34.1
         replace hM21 := hM21.mono hxj34.1
         replace hR2_2 := hR2_2.mono hxj34.1
         replace hRxp_0 := hRxp_0.mono hxj34.1
         replace hRxp_1 := hRxp_1.mono hxj34.1
         replace hRxp_2 := hRxp_2.mono hxj34.1
         refine Ok.seq (Ok.cut (fun a W => ∃ gj41 : Ghost, Gext w0 gj34 gj41 ∧ StA 323 [(1, .int .i64 xown), (2, pv bs2 0), (5, pv bs5 0), (6, .int .i64 (e3.2.2.2.length : Int)), (7, .map (some b6)), (9, pv bs9 0), (80, .slice a2_3 e3.2.2.2.length c2_3), (81, .int .i64 (e3.2.2.2.length : Int)), (82, .int .i64 x82l21), (106, .bool (fnrV1 e24 x10j32 x11j32))] a ∧ StW w0 [.blk bs9 (.cells #[.int .i64 e24.1, .int .i64 e24.2] 46), .blk b6 (.map es21 ck21), .blk bs5 (.cells #[.int .i64 e3.1, .int .i64 e3.2.1, .slice a2_2 e3.2.2.1.length c2_2, .slice a2_3 e3.2.2.2.length c2_3] 33), .blk bs2 (.cells #[.slice axp_0 xp.1.length cxp_0, .slice axp_1 xp.2.1.length cxp_1, .slice axp_2 xp.2.2.length cxp_2] 26)] gj41 W ∧ fnrj41 xp K e3 e24 x10j32 x11j32 x82l21 (fnrl21 xp xown K e3 k21)) ?_ ?_)
         ·
          refine Ok.region (Ok.bat 1 [1, 2, 5, 6, 7, 9, 10, 80, 81, 82] [(95, pv bs9 0)] ?_)
          refine Ok.op rfl (OpOk.step (v := .int .i64 e24.1) (Yields.load 0 rfl rfl Tryd.underlying3 rfl (by kernel_rfl)) rfl rfl (Ok.op rfl (OpOk.callG (v := .bool (rbtM e24.1 1 25)) enr (fun W hW => rbt_c e24.1 1 25) rfl ?_)))
          refine Ok.bat 2 [1, 2, 5, 6, 7, 9, 10, 80, 81, 82] [(99, .bool (!(rbtM e24.1 1 25)))] ?_
          refine Ok.boolAt 99 (!(rbtM e24.1 1 25)) rfl (fun hc35 => ?_) (fun hc35 => ?_)
          ·replace hF := hF.1 hc35
           refine Ok.bat 7 [1, 2, 5, 6, 7, 9, 80, 81, 82] [(106, .bool true)] ?_
           refine Ok.nil (Ok.thenN (Ok.reval 106 rfl (show (.bool true : Value) = .bool (fnrV1 e24 x10j32 x11j32) from congrArg (Value.bool) (mor_t hc35)) ?_))
           exact fun a W hA hW => ⟨gj34, (Gext.refl w0 gj34), hA.sub (by kernel_rfl), hW, hF⟩
          ·replace hF := hF.2 hc35
           refine Ok.bat 1 [1, 2, 5, 6, 7, 9, 10, 80, 81, 82] [(99, .bool false), (100, pv bs9 1)] ?_
           refine Ok.opYes (j := 4) (d := 99) (want := false) (b := false) rfl (by kernel_rfl) (by kernel_rfl) rfl (OpOk.step (v := .int .i64 e24.2) (Yields.load 0 rfl rfl Tryd.underlying3 rfl (by kernel_rfl)) rfl rfl (Ok.bat 2 [1, 2, 5, 6, 7, 9, 80, 81, 82, 99] [(101, .int .i64 e24.2), (103, .int .i64 (w6 ((if (!x11j32) = true then 1 else x10j32) - 1)))] ?_))
           refine Ok.opYes (j := 4) (d := 99) (want := false) (b := false) rfl (by kernel_rfl) (by kernel_rfl) rfl (OpOk.callG (v := .bool (rbtM e24.2 0 (w6 ((if (!x11j32) = true then 1 else x10j32) - 1)))) enr (fun W hW => rbt_c e24.2 0 (w6 ((if (!x11j32) = true then 1 else x10j32) - 1))) rfl ?_)
           refine Ok.bat 2 [1, 2, 5, 6, 7, 9, 80, 81, 82] [(106, .bool (!(rbtM e24.2 0 (w6 ((if (!x11j32) = true then 1 else x10j32) - 1)))))] ?_
           refine Ok.nil (Ok.thenN (Ok.reval 106 rfl (show (.bool (!(rbtM e24.2 0 (w6 ((if (!x11j32) = true then 1 else x10j32) - 1)))) : Value) = .bool (fnrV1 e24 x10j32 x11j32) from congrArg (Value.bool) (mor_f hc35)) ?_))
           exact fun a W hA hW => ⟨gj34, (Gext.refl w0 gj34), hA.sub (by kernel_rfl), hW, hF⟩
         ·
          clear hF
          rintro a W ⟨gj41, hxj41, hA, hW, hF⟩
          refine (?_ : Ok _ _ _ _ _ _) a W hA hW
          clear hA hW
          replace hR2_3 := hR2_3.mono hxj41.1
          replace hM21 := hM21.mono hxj41.1
          replace hR2_2 := hR2_2.mono hxj41.1
          replace hRxp_0 := hRxp_0.mono hxj41.1
          replace hRxp_1 := hRxp_1.mono hxj41.1
          replace hRxp_2 := hRxp_2.mono hxj41.1
          refine Ok.cond (b := (fnrV1 e24 x10j32 x11j32)) rfl (fun hc26 => ?_) (fun hc26 => ?_)
          ·replace hF := hF.1 hc26
           refine Ok.seq (Ok.region (Ok.batch 1 [(4, .bool false)] (by kernel_rfl) (Ok.nil (Ok.thenN (Ok.ret (Ok.thenR (Ok.blockR (Ok.thenR (Ok.thenR (Ok.blockR (Ok.thenR ?_)))))))))))
           exact Ok.resP (vs := [.bool false]) [] [] (by decide) rfl (.inl rfl) rfl (.cons (.tmp rfl) .nil) ((((hxj8.trans hxl21).trans hxj32).trans hxj34).trans hxj41) ⟨false, rfl, rfl, hF⟩
          ·replace hF := hF.2 hc26
           refine Ok.skip (Ok.thenN (Ok.seq (Ok.region (Ok.bat 1 [1, 2, 5, 6, 7, 9, 80, 81, 82] [(107, pv bs9 0)] ?_))))
           refine Ok.op rfl (OpOk.step (v := .int .i64 e24.1) (Yields.load 0 rfl rfl Tryd.underlying3 rfl (by kernel_rfl)) rfl rfl (Ok.bat 1 [1, 2, 5, 6, 7, 9, 80, 81, 82] [(109, .bool (e24.1 == 16))] ?_))
           refine Ok.nil (Ok.thenN (Ok.cond (b := (e24.1 == 16)) rfl (fun hc27 => ?_) (fun hc27 => ?_)))
           ·replace hF := hF.1 hc27
            refine Ok.seq (Ok.seq (Ok.region (Ok.bat 1 [1, 2, 5, 6, 7, 9, 80, 81, 82] [(110, pv bs2 0)] ?_)))
            refine Ok.op rfl (OpOk.step (v := .slice axp_0 xp.1.length cxp_0) (Yields.load 3 rfl rfl Tryd.underlying22 rfl (by kernel_rfl)) rfl rfl (Ok.bat 1 [1, 2, 5, 6, 7, 9, 80, 81, 82] [(111, .slice axp_0 xp.1.length cxp_0), (112, pv bs9 1)] ?_))
            refine Ok.op rfl (OpOk.step (v := .int .i64 e24.2) (Yields.load 0 rfl rfl Tryd.underlying3 rfl (by kernel_rfl)) rfl rfl ?_)
            obtain ⟨h029, h129, hF⟩ := hF
            have he29 := get_of (l := xp.1) (default : Int × Int × List (Int) × List (Int × Int)) h129
            generalize hg29 : (xp.1.getD (Int.toNat e24.2) default) = e29 at he29 hF ⊢
            refine Ok.op rfl (OpOk.indexRo (e := .pair (.int .i64) (.pair (.int .i64) (.pair (.slice (.int .i64)) (.slice (.pair (.int .i64) (.int .i64)))))) (i := e24.2) (el := e29) rfl rfl Tryd.underlying22 (by kernel_rfl) hRxp_0 h029 he29 rfl fun q28 o28 cs28 _ hat28 hr28 => ?_)
            obtain ⟨_, _, rfl, rfl, ⟨_, _, rfl, rfl, ⟨_, _, rfl, ⟨a28_2, c28_2, rfl, hm28_2, hr28_2⟩, ⟨a28_3, c28_3, rfl, hm28_3, hr28_3⟩⟩⟩⟩ := hr28
            have hR28_2 : Rep gj41 (.slice (.int .i64)) [.slice a28_2 e29.2.2.1.length c28_2] e29.2.2.1 := ⟨a28_2, c28_2, rfl, hm28_2, hr28_2⟩
            have hR28_3 : Rep gj41 (.slice (.pair (.int .i64) (.int .i64))) [.slice a28_3 e29.2.2.2.length c28_3] e29.2.2.2 := ⟨a28_3, c28_3, rfl, hm28_3, hr28_3⟩
            replace hat28 : At gj41 q28 o28 [.int .i64 e29.1, .int .i64 e29.2.1, .slice a28_2 e29.2.2.1.length c28_2, .slice a28_3 e29.2.2.2.length c28_3] := hat28
            refine Ok.bat 1 [1, 2, 5, 6, 7, 9, 80, 81, 82] [(115, .pointer (some ⟨q28, o28 + 2, none⟩))] ?_
            refine Ok.op rfl (OpOk.step (v := .slice a28_2 e29.2.2.1.length c28_2) (Yields.loadRo 2 hat28 (by kernel_rfl) Tryd.underlying30 rfl (by kernel_rfl)) rfl rfl (Ok.bat 2 [1, 2, 5, 6, 7, 9, 80, 81, 82] [(116, .slice a28_2 e29.2.2.1.length c28_2), (117, .int .i64 (e29.2.2.1.length : Int)), (118, .int .i64 0)] ?_))
            refine Ok.nil (Ok.thenN (Ok.block ?_))
            obtain ⟨k, hF⟩ := hF
            refine Ok.loop (fun k a W => ∃ gl55 : Ghost, Gext w0 gj41 gl55 ∧ ∃ (x118l55 : Int), StA 323 [(1, .int .i64 xown), (2, pv bs2 0), (5, pv bs5 0), (6, .int .i64 (e3.2.2.2.length : Int)), (7, .map (some b6)), (9, pv bs9 0), (80, .slice a2_3 e3.2.2.2.length c2_3), (81, .int .i64 (e3.2.2.2.length : Int)), (82, .int .i64 x82l21), (116, .slice a28_2 e29.2.2.1.length c28_2), (117, .int .i64 (e29.2.2.1.length : Int)), (118, .int .i64 x118l55)] a ∧ StW w0 [.blk bs9 (.cells #[.int .i64 e24.1, .int .i64 e24.2] 46), .blk b6 (.map es21 ck21), .blk bs5 (.cells #[.int .i64 e3.1, .int .i64 e3.2.1, .slice a2_2 e3.2.2.1.length c2_2, .slice a2_3 e3.2.2.2.length c2_3] 33), .blk bs2 (.cells #[.slice axp_0 xp.1.length cxp_0, .slice axp_1 xp.2.1.length cxp_1, .slice axp_2 xp.2.2.length cxp_2] 26)] gl55 W ∧ fnrl55 K e3 e24 x82l21 (fnrl21 xp xown K e3 k21) e29 k x118l55) k ?_ ?_
            ·
             exact fun a W hA hW => ⟨gj41, (Gext.refl w0 gj41), 0, hA.sub (by kernel_rfl), hW, hF⟩
            ·
             clear hF
             rintro k55 a W ⟨gl55, hxl55, x118l55, hA, hW, hF⟩
             cases k55 with
             | zero => exact (hF : False).elim
             | succ k55 =>
              refine (?_ : Ok _ _ _ _ _ _) a W hA hW
              clear hA hW
              replace hR2_3 := hR2_3.mono hxl55.1
              replace hR28_2 := hR28_2.mono hxl55.1
              replace hM21 := hM21.mono hxl55.1
              replace hR2_2 := hR2_2.mono hxl55.1
              replace hRxp_0 := hRxp_0.mono hxl55.1
              replace hRxp_1 := hRxp_1.mono hxl55.1
              replace hRxp_2 := hRxp_2.mono hxl55.1
              refine Ok.seq (Ok.region (Ok.bat 1 [1, 2, 5, 6, 7, 9, 80, 81, 82, 116, 117, 118] [(119, .bool (decide (x118l55 < (e29.2.2.1.length : Int))))] ?_))
              refine Ok.nil (Ok.thenN (Ok.seq (Ok.cond (b := decide (x118l55 < (e29.2.2.1.length : Int))) rfl (fun hc30 => ?_) (fun hc30 => ?_))))
              ·replace hF := hF.1 hc30
               refine Ok.skip (Ok.thenN (Ok.seq (Ok.block (Ok.seq (Ok.region ?_)))))
               obtain ⟨h032, h132, hF⟩ := hF
               have he32 := get_of (l := e29.2.2.1) (default : Int) h132
               generalize hg32 : (e29.2.2.1.getD (Int.toNat x118l55) default) = e32 at he32 hF ⊢
               refine Ok.op rfl (OpOk.indexRo (e := .int .i64) (i := x118l55) (el := e32) rfl rfl Tryd.underlying30 (by kernel_rfl) hR28_2 h032 he32 rfl fun q31 o31 cs31 _ hat31 hr31 => ?_)
               obtain rfl := hr31
               replace hat31 : At gl55 q31 o31 [.int .i64 e32] := hat31
               refine Ok.op rfl (OpOk.step (v := .int .i64 e32) (Yields.loadRo 0 hat31 (by kernel_rfl) Tryd.underlying3 rfl (by kernel_rfl)) rfl rfl (Ok.bat 1 [1, 2, 5, 6, 7, 9, 80, 81, 82, 116, 117, 118] [(13, .int .i64 e32)] ?_))
               refine Ok.nil (Ok.thenN (Ok.seq (Ok.region (Ok.bat 2 [1, 2, 5, 6, 7, 9, 80, 81, 82, 116, 117, 118] [(122, .int .i64 e32), (123, pv bs5 1)] ?_))))
               refine Ok.op rfl (OpOk.step (v := .int .i64 e3.2.1) (Yields.load 2 rfl rfl Tryd.underlying3 rfl (by kernel_rfl)) rfl rfl (Ok.bat 1 [1, 2, 5, 6, 7, 9, 80, 81, 82, 116, 117, 118, 122] [(125, .int .i64 (w6 (e3.2.1 - 1)))] ?_))
               refine Ok.op rfl (OpOk.callG (v := .bool (rbtM e32 0 (w6 (e3.2.1 - 1)))) enr (fun W hW => rbt_c e32 0 (w6 (e3.2.1 - 1))) rfl ?_)
               refine Ok.bat 1 [1, 2, 5, 6, 7, 9, 80, 81, 82, 116, 117, 118] [(127, .bool (!(rbtM e32 0 (w6 (e3.2.1 - 1)))))] ?_
               refine Ok.nil (Ok.thenN (Ok.cond (b := !(rbtM e32 0 (w6 (e3.2.1 - 1)))) rfl (fun hc33 => ?_) (fun hc33 => ?_)))
               ·replace hF := hF.1 hc33
                refine Ok.seq (Ok.region (Ok.batch 1 [(4, .bool false)] (by kernel_rfl) (Ok.nil (Ok.thenN (Ok.ret (Ok.blockR (Ok.thenR (Ok.thenR (Ok.blockR (Ok.thenR (Ok.blockR (Ok.thenR (Ok.thenR (Ok.blockR (Ok.thenR ?_)))))))))))))))
                exact Ok.resP (vs := [.bool false]) [] [] (by decide) rfl (.inl rfl) rfl (.cons (.tmp rfl) .nil) (((((hxj8.trans hxl21).trans hxj32).trans hxj34).trans hxj41).trans hxl55) ⟨false, rfl, rfl, hF⟩
               ·replace hF := hF.2 hc33
                refine Ok.skip (Ok.blockN (Ok.thenN (Ok.region (Ok.bat 2 [1, 2, 5, 6, 7, 9, 80, 81, 82, 116, 117] [(118, .int .i64 (w6 (x118l55 + 1)))] ?_))))
                refine Ok.nil (Ok.thenN ?_)
                subst hg32
                exact fun a W hA hW => ⟨k55, Nat.lt_succ_self _, gl55, hxl55, w6 (x118l55 + 1), hA.sub (by kernel_rfl), hW, hF⟩
              ·replace hF := hF.2 hc30
               refine Ok.exit (Ok.thenE (Ok.thenE (Ok.blockHit (Ok.thenN (Ok.seq (Ok.region (Ok.bat 1 [1, 2, 5, 6, 7, 80, 81, 82] [(129, pv bs9 1)] ?_)))))))
               refine Ok.op rfl (OpOk.step (v := .int .i64 e24.2) (Yields.load 0 rfl rfl Tryd.underlying3 rfl (by kernel_rfl)) rfl rfl (Ok.bat 1 [1, 2, 5, 6, 7, 80, 81, 82] [(131, .bool (e24.2 == 0))] ?_))
               refine Ok.nil (Ok.thenN (Ok.cond (b := (e24.2 == 0)) rfl (fun hc34 => ?_) (fun hc34 => ?_)))
               ·replace hF := hF.1 hc34
                refine Ok.seq (Ok.region (Ok.batch 1 [(4, .bool false)] (by kernel_rfl) (Ok.nil (Ok.thenN (Ok.ret (Ok.blockR (Ok.thenR (Ok.thenR (Ok.blockR (Ok.thenR ?_))))))))))
                exact Ok.resP (vs := [.bool false]) [] [] (by decide) rfl (.inl rfl) rfl (.cons (.tmp rfl) .nil) (((((hxj8.trans hxl21).trans hxj32).trans hxj34).trans hxj41).trans hxl55) ⟨false, rfl, rfl, hF⟩
               ·replace hF := hF.2 hc34
                refine Ok.skip (Ok.blockN (Ok.thenN ?_))
                subst hg29
                subst hg24
                exact fun a W hA hW => ⟨gl55, (((hxj32.trans hxj34).trans hxj41).trans hxl55), hA.sub (by kernel_rfl), hW.sub (.cons _ (.cons_cons _ (.cons_cons _ (.cons_cons _ .slnil)))), hF⟩
           ·replace hF := hF.2 hc27
            refine Ok.skip (Ok.blockN (Ok.thenN ?_))
            subst hg24
            exact fun a W hA hW => ⟨gj41, ((hxj32.trans hxj34).trans hxj41), hA.sub (by kernel_rfl), hW.sub (.cons _ (.cons_cons _ (.cons_cons _ (.cons_cons _ .slnil)))), hF⟩
      ·
       clear hF
       rintro a W ⟨gj28, hxj28, hA, hW, hF⟩
       refine (?_ : Ok _ _ _ _ _ _) a W hA hW
       clear hA hW
       replace hR2_3 := hR2_3.mono hxj28.1
       replace hM21 := hM21.mono hxj28.1
       replace hR2_2 := hR2_2.mono hxj28.1
       replace hRxp_0 := hRxp_0.mono hxj28.1
       replace hRxp_1 := hRxp_1.mono hxj28.1
       replace hRxp_2 := hRxp_2.mono hxj28.1
       refine Ok.region (Ok.bat 2 [1, 2, 5, 6, 7, 80, 81] [(82, .int .i64 (w6 (x82l21 + 1)))] ?_)
       refine Ok.nil (Ok.thenN ?_)
       exact fun a W hA hW => ⟨k21, Nat.lt_succ_self _, gj28, (hxl21.trans hxj28), w6 (x82l21 + 1), hA.sub (by kernel_rfl), hW, hF⟩
     ·replace hF := hF.2 hc22
      refine Ok.exit (Ok.thenE (Ok.thenE (Ok.blockHit (Ok.thenN (Ok.seq (Ok.region (Ok.bat 2 [1, 2, 5, 6] [(134, .int .i64 (w6 ((e3.2.2.2.length : Int) + 1)))] ?_)))))))
      obtain ⟨h038, h138, hF⟩ := hF
      refine Ok.op rfl (OpOk.makeZero (e := .pair (.bool) (.pair (.int .i64) (.slice (.pair (.int .i64) (.int .i64))))) (E := 52) (nn := w6 ((e3.2.2.2.length : Int) + 1)) (y := (false, 0, [])) (z := .agg #[.bool false, .int .i64 0, .slice none 0 0]) 40 3518437208883 rfl rfl Tryd.underlying49 (by kernel_rfl) (by kernel_rfl) (by kernel_rfl) ⟨[.bool false], [.int .i64 0, .slice none 0 0], rfl, rfl, ⟨[.int .i64 0], [.slice none 0 0], rfl, rfl, Rep.nil⟩⟩ h038 h138 rfl fun a38 c38 xs38 hL38 => ?_)
      refine Ok.bat 1 [1, 2, 5, 6] [(14, .slice a38 (List.replicate (Int.toNat (w6 ((e3.2.2.2.length : Int) + 1))) ((false, 0, []) : Bool × Int × List (Int × Int))).length c38)] ?_
      refine Ok.nil (Ok.thenN (Ok.seq (Ok.region (Ok.bat 1 [1, 2, 5, 6, 14] [(136, .slice a38 (List.replicate (Int.toNat (w6 ((e3.2.2.2.length : Int) + 1))) ((false, 0, []) : Bool × Int × List (Int × Int))).length c38)] ?_))))
      obtain ⟨h040, h140, hF⟩ := hF
      have he40 := get_of (l := (List.replicate (Int.toNat (w6 ((e3.2.2.2.length : Int) + 1))) ((false, 0, []) : Bool × Int × List (Int × Int)))) (default : Bool × Int × List (Int × Int)) h140
      generalize hg40 : ((List.replicate (Int.toNat (w6 ((e3.2.2.2.length : Int) + 1))) ((false, 0, []) : Bool × Int × List (Int × Int))).getD (Int.toNat 0) default) = e40 at he40 hF ⊢
      refine Ok.op rfl (OpOk.indexOwn (e := .pair (.bool) (.pair (.int .i64) (.slice (.pair (.int .i64) (.int .i64))))) (q := 0) (el := e40) 0 rfl hL38 rfl rfl Tryd.underlying49 (by kernel_rfl) (by kernel_rfl) h040 he40 rfl fun cs39 _ hr39 hc39 => ?_)
      obtain ⟨_, _, rfl, rfl, ⟨_, _, rfl, rfl, ⟨a39_2, c39_2, rfl, hm39_2, hr39_2⟩⟩⟩ := hr39
      have hR39_2 : Rep gl21 (.slice (.pair (.int .i64) (.int .i64))) [.slice a39_2 e40.2.2.length c39_2] e40.2.2 := ⟨a39_2, c39_2, rfl, hm39_2, hr39_2⟩
      replace hc39 : ∀ j v, ([.bool e40.1, .int .i64 e40.2.1, .slice a39_2 e40.2.2.length c39_2] : List Value)[j]? = some v → xs38[Int.toNat 0 * 3 + j]? = some v := hc39
      refine Ok.bat 1 [1, 2, 5, 6, 14] [(138, .pointer (some ⟨ablk a38, Int.toNat 0 * 3, none⟩))] ?_
      refine Ok.op rfl (OpOk.storeOwn (e := .pair (.bool) (.pair (.int .i64) (.slice (.pair (.int .i64) (.int .i64))))) (q := Int.toNat 0) (cells := [.bool e40.1, .int .i64 e40.2.1, .slice a39_2 e40.2.2.length c39_2]) (vs := [.bool true]) (el' := (true, e40.2.1, e40.2.2)) 0 0 1 rfl hL38 hc39 (by kernel_rfl) rfl rfl rfl (by kernel_rfl) (by kernel_rfl) (by kernel_rfl) (by kernel_rfl) (by kernel_rfl) (show Rep _ _ [.bool true, .int .i64 e40.2.1, .slice a39_2 e40.2.2.length c39_2] _ from ⟨[.bool true], [.int .i64 e40.2.1, .slice a39_2 e40.2.2.length c39_2], rfl, rfl, ⟨[.int .i64 e40.2.1], [.slice a39_2 e40.2.2.length c39_2], rfl, rfl, hR39_2⟩⟩) fun xs41 hL41 => ?_)
      rw [show (List.replicate (Int.toNat (w6 ((e3.2.2.2.length : Int) + 1))) ((false, 0, []) : Bool × Int × List (Int × Int))).length = ((List.replicate (Int.toNat (w6 ((e3.2.2.2.length : Int) + 1))) ((false, 0, []) : Bool × Int × List (Int × Int))).set (Int.toNat 0) (true, e40.2.1, e40.2.2)).length from (List.length_set ..).symm]
      refine Ok.nil (Ok.thenN (Ok.seq (Ok.seq (Ok.region (Ok.bat 1 [1, 2, 5, 6] [(14, .slice a38 ((List.replicate (Int.toNat (w6 ((e3.2.2.2.length : Int) + 1))) ((false, 0, []) : Bool × Int × List (Int × Int))).set (Int.toNat 0) (true, e40.2.1, e40.2.2)).length c38), (15, .bool true)] ?_)))))
      refine Ok.nil (Ok.thenN (Ok.block ?_))
      obtain ⟨k, hF⟩ := hF
      refine Ok.loop (fun k a W => ∃ gl91 : Ghost, Gext w0 gl21 gl91 ∧ ∃ (x15l91 : Bool) (ayown38_0l91 : Option Addr) (cyown38_0l91 : Nat) (yown38_0l91 : List (Bool × Int × List (Int × Int))) (xsyown38_0l91 : List Value), RepL gl91 (.pair (.bool) (.pair (.int .i64) (.slice (.pair (.int .i64) (.int .i64))))) xsyown38_0l91 yown38_0l91 ∧ StA 323 [(1, .int .i64 xown), (2, pv bs2 0), (5, pv bs5 0), (6, .int .i64 (e3.2.2.2.length : Int)), (14, .slice ayown38_0l91 yown38_0l91.length cyown38_0l91), (15, .bool x15l91)] a ∧ StW w0 [.own (.slice ayown38_0l91 yown38_0l91.length cyown38_0l91) 52 3 yown38_0l91.length xsyown38_0l91, .blk bs5 (.cells #[.int .i64 e3.1, .int .i64 e3.2.1, .slice a2_2 e3.2.2.1.length c2_2, .slice a2_3 e3.2.2.2.length c2_3] 33), .blk bs2 (.cells #[.slice axp_0 xp.1.length cxp_0, .slice axp_1 xp.2.1.length cxp_1, .slice axp_2 xp.2.2.length cxp_2] 26)] gl91 W ∧ fnrl91 xp xown K e3 k x15l91 yown38_0l91) k ?_ ?_
      ·
       exact fun a W hA hW => ⟨gl21, (Gext.refl w0 gl21), true, a38, c38, ((List.replicate (Int.toNat (w6 ((e3.2.2.2.length : Int) + 1))) ((false, 0, []) : Bool × Int × List (Int × Int))).set (Int.toNat 0) (true, e40.2.1, e40.2.2)), xs41, hL41, hA.sub (by kernel_rfl), hW.sub (.cons_cons _ (.cons _ (.cons_cons _ (.cons_cons _ .slnil)))), hF⟩
      ·
       clear hF
       rintro k91 a W ⟨gl91, hxl91, x15l91, ayown38_0l91, cyown38_0l91, yown38_0l91, xsyown38_0l91, hLyown38_0l91, hA, hW, hF⟩
       cases k91 with
       | zero => exact (hF : False).elim
       | succ k91 =>
        refine (?_ : Ok _ _ _ _ _ _) a W hA hW
        clear hA hW
        replace hR2_2 := hR2_2.mono hxl91.1
        replace hR2_3 := hR2_3.mono hxl91.1
        replace hRxp_0 := hRxp_0.mono hxl91.1
        replace hRxp_1 := hRxp_1.mono hxl91.1
        replace hRxp_2 := hRxp_2.mono hxl91.1
        refine Ok.seq (Ok.seq (Ok.region (Ok.bat 1 [1, 2, 5, 6, 14] [(139, .bool x15l91)] ?_)))
        refine Ok.nil (Ok.thenN (Ok.cond (b := x15l91) rfl (fun hc42 => ?_) (fun hc42 => ?_)))
        ·replace hF := hF.1 hc42
         refine Ok.skip (Ok.thenN (Ok.block (Ok.seq (Ok.region (Ok.bat 1 [1, 2, 5, 6, 14] [(15, .bool false)] ?_)))))
         refine Ok.nil (Ok.thenN (Ok.seq (Ok.region (Ok.bat 1 [1, 2, 5, 6, 14, 15] [(140, pv bs5 3)] ?_))))
         refine Ok.op rfl (OpOk.step (v := .slice a2_3 e3.2.2.2.length c2_3) (Yields.load 1 rfl rfl Tryd.underlying31 rfl (by kernel_rfl)) rfl rfl (Ok.bat 2 [1, 2, 5, 6, 14, 15] [(141, .slice a2_3 e3.2.2.2.length c2_3), (142, .int .i64 (e3.2.2.2.length : Int)), (143, .int .i64 0)] ?_))
         refine Ok.nil (Ok.thenN (Ok.block ?_))
         obtain ⟨k, hF⟩ := hF
         refine Ok.loop (fun k a W => ∃ gl104 : Ghost, Gext w0 gl91 gl104 ∧ ∃ (x15l104 : Bool) (x143l104 : Int) (ayown38_0l104 : Option Addr) (cyown38_0l104 : Nat) (yown38_0l104 : List (Bool × Int × List (Int × Int))) (xsyown38_0l104 : List Value), RepL gl104 (.pair (.bool) (.pair (.int .i64) (.slice (.pair (.int .i64) (.int .i64))))) xsyown38_0l104 yown38_0l104 ∧ StA 323 [(1, .int .i64 xown), (2, pv bs2 0), (5, pv bs5 0), (6, .int .i64 (e3.2.2.2.length : Int)), (14, .slice ayown38_0l104 yown38_0l104.length cyown38_0l104), (15, .bool x15l104), (141, .slice a2_3 e3.2.2.2.length c2_3), (142, .int .i64 (e3.2.2.2.length : Int)), (143, .int .i64 x143l104)] a ∧ StW w0 [.own (.slice ayown38_0l104 yown38_0l104.length cyown38_0l104) 52 3 yown38_0l104.length xsyown38_0l104, .blk bs5 (.cells #[.int .i64 e3.1, .int .i64 e3.2.1, .slice a2_2 e3.2.2.1.length c2_2, .slice a2_3 e3.2.2.2.length c2_3] 33), .blk bs2 (.cells #[.slice axp_0 xp.1.length cxp_0, .slice axp_1 xp.2.1.length cxp_1, .slice axp_2 xp.2.2.length cxp_2] 26)] gl104 W ∧ fnrl104 xp xown K e3 (fnrl91 xp xown K e3 k91) k x15l104 x143l104 yown38_0l104) k ?_ ?_
         ·
          exact fun a W hA hW => ⟨gl91, (Gext.refl w0 gl91), false, 0, ayown38_0l91, cyown38_0l91, yown38_0l91, xsyown38_0l91, hLyown38_0l91, hA.sub (by kernel_rfl), hW, hF⟩
         ·
          clear hF
          rintro k104 a W ⟨gl104, hxl104, x15l104, x143l104, ayown38_0l104, cyown38_0l104, yown38_0l104, xsyown38_0l104, hLyown38_0l104, hA, hW, hF⟩
          cases k104 with
          | zero => exact (hF : False).elim
          | succ k104 =>
           refine (?_ : Ok _ _ _ _ _ _) a W hA hW
           clear hA hW
           replace hR2_3 := hR2_3.mono hxl104.1
           replace hR2_2 := hR2_2.mono hxl104.1
           replace hRxp_0 := hRxp_0.mono hxl104.1
           replace hRxp_1 := hRxp_1.mono hxl104.1
           replace hRxp_2 := hRxp_2.mono hxl104.1
           refine Ok.seq (Ok.region (Ok.bat 1 [1, 2, 5, 6, 14, 15, 141, 142, 143] [(144, .bool (decide (x143l104 < (e3.2.2.2.length : Int))))] ?_))
           refine Ok.nil (Ok.thenN (Ok.seq (Ok.cond (b := decide (x143l104 < (e3.2.2.2.length : Int))) rfl (fun hc43 => ?_) (fun hc43 => ?_))))
           ·replace hF := hF.1 hc43
            refine Ok.skip (Ok.thenN (Ok.seq (Ok.block (Ok.seq (Ok.region (Ok.bat 1 [1, 2, 5, 6, 14, 15, 141, 142, 143] [(145, .int .i64 x143l104)] ?_))))))
            obtain ⟨h045, h145, hF⟩ := hF
            have he45 := get_of (l := e3.2.2.2) (default : Int × Int) h145
            generalize hg45 : (e3.2.2.2.getD (Int.toNat x143l104) default) = e45 at he45 hF ⊢
            refine Ok.op rfl (OpOk.indexRo (e := .pair (.int .i64) (.int .i64)) (i := x143l104) (el := e45) rfl rfl Tryd.underlying31 (by kernel_rfl) hR2_3 h045 he45 rfl fun q44 o44 cs44 _ hat44 hr44 => ?_)
            obtain ⟨_, _, rfl, rfl, rfl⟩ := hr44
            replace hat44 : At gl104 q44 o44 [.int .i64 e45.1, .int .i64 e45.2] := hat44
            refine Ok.op rfl (OpOk.step (v := .agg #[.int .i64 e45.1, .int .i64 e45.2]) (Yields.loadAggRo 0 2 #[.int .i64 e45.1, .int .i64 e45.2] hat44 (by kernel_rfl) Tryd.underlying46 rfl (by kernel_rfl) (by kernel_rfl) (by kernel_rfl)) rfl rfl (Ok.op rfl (OpOk.alloc (z := .agg #[.int .i64 0, .int .i64 0]) (cs := #[.int .i64 0, .int .i64 0]) (by kernel_rfl) (by kernel_rfl) rfl fun bs17 => ?_)))
            refine Ok.bat 1 [1, 2, 5, 6, 14, 15, 141, 142, 143] [(16, .int .i64 x143l104), (17, pv bs17 0), (147, .agg #[.int .i64 e45.1, .int .i64 e45.2])] ?_
            refine Ok.op rfl (OpOk.sto (k := 2) (v := .agg #[.int .i64 e45.1, .int .i64 e45.2]) 0 #[.int .i64 e45.1, .int .i64 e45.2] rfl rfl rfl ?_)
            refine Ok.nil (Ok.thenN (Ok.seq (Ok.region (Ok.bat 2 [1, 2, 5, 6, 14, 15, 16, 17, 141, 142, 143] [(148, .slice ayown38_0l104 yown38_0l104.length cyown38_0l104), (149, .int .i64 x143l104)] ?_))))
            obtain ⟨h048, h148, hF⟩ := hF
            have he48 := get_of (l := yown38_0l104) (default : Bool × Int × List (Int × Int)) h148
            generalize hg48 : (yown38_0l104.getD (Int.toNat x143l104) default) = e48 at he48 hF ⊢
            refine Ok.op rfl (OpOk.indexOwn (e := .pair (.bool) (.pair (.int .i64) (.slice (.pair (.int .i64) (.int .i64))))) (q := x143l104) (el := e48) 1 rfl hLyown38_0l104 rfl rfl Tryd.underlying49 (by kernel_rfl) (by kernel_rfl) h048 he48 rfl fun cs47 _ hr47 hc47 => ?_)
            obtain ⟨_, _, rfl, rfl, ⟨_, _, rfl, rfl, ⟨a47_2, c47_2, rfl, hm47_2, hr47_2⟩⟩⟩ := hr47
            have hR47_2 : Rep gl104 (.slice (.pair (.int .i64) (.int .i64))) [.slice a47_2 e48.2.2.length c47_2] e48.2.2 := ⟨a47_2, c47_2, rfl, hm47_2, hr47_2⟩
            replace hc47 : ∀ j v, ([.bool e48.1, .int .i64 e48.2.1, .slice a47_2 e48.2.2.length c47_2] : List Value)[j]? = some v → xsyown38_0l104[Int.toNat x143l104 * 3 + j]? = some v := hc47
            refine Ok.op rfl (OpOk.step (v := .agg #[.bool e48.1, .int .i64 e48.2.1, .slice a47_2 e48.2.2.length c47_2]) (Yields.loadAggOwn 1 0 3 #[.bool e48.1, .int .i64 e48.2.1, .slice a47_2 e48.2.2.length c47_2] rfl hc47 rfl Tryd.underlying52 rfl (by kernel_rfl) (by kernel_rfl) (by kernel_rfl)) rfl rfl (Ok.op rfl (OpOk.alloc (z := .agg #[.bool false, .int .i64 0, .slice none 0 0]) (cs := #[.bool false, .int .i64 0, .slice none 0 0]) (by kernel_rfl) (by kernel_rfl) rfl fun bs18 => ?_)))
            refine Ok.op rfl (OpOk.sto (k := 3) (v := .agg #[.bool e48.1, .int .i64 e48.2.1, .slice a47_2 e48.2.2.length c47_2]) 0 #[.bool e48.1, .int .i64 e48.2.1, .slice a47_2 e48.2.2.length c47_2] rfl rfl rfl ?_)
            refine Ok.nil (Ok.thenN (Ok.seq (Ok.seq (Ok.region (Ok.bat 1 [1, 2, 5, 6, 14, 15, 16, 17, 141, 142, 143] [(18, pv bs18 0), (152, pv bs18 0)] ?_)))))
            refine Ok.op rfl (OpOk.step (v := .bool e48.1) (Yields.load 0 rfl rfl Tryd.underlying4 rfl (by kernel_rfl)) rfl rfl (Ok.bat 1 [1, 2, 5, 6, 14, 15, 16, 17, 18, 141, 142, 143] [(154, .bool (!e48.1))] ?_))
            refine Ok.nil (Ok.thenN (Ok.cond (b := !e48.1) rfl (fun hc50 => ?_) (fun hc50 => ?_)))
            ·replace hF := hF.1 hc50
             refine Ok.exit (Ok.thenE (Ok.blockHit (Ok.thenN (Ok.region (Ok.bat 2 [1, 2, 5, 6, 14, 15, 141, 142] [(143, .int .i64 (w6 (x143l104 + 1)))] ?_)))))
             refine Ok.nil (Ok.thenN ?_)
             subst hg48
             subst hg45
             exact fun a W hA hW => ⟨k104, Nat.lt_succ_self _, gl104, hxl104, x15l104, w6 (x143l104 + 1), ayown38_0l104, cyown38_0l104, yown38_0l104, xsyown38_0l104, hLyown38_0l104, hA.sub (by kernel_rfl), hW.sub (.cons _ (.cons _ (.cons_cons _ (.cons_cons _ (.cons_cons _ .slnil))))), hF⟩
            ·replace hF := hF.2 hc50
             refine Ok.skip (Ok.thenN (Ok.seq (Ok.region (Ok.op rfl (OpOk.step (v := .agg #[.int .i64 e45.1, .int .i64 e45.2]) (Yields.loadAgg 1 2 #[.int .i64 e45.1, .int .i64 e45.2] rfl rfl Tryd.underlying46 rfl (by kernel_rfl) (by kernel_rfl) (by kernel_rfl)) rfl rfl (Ok.op rfl (OpOk.step (v := .agg #[.slice axp_0 xp.1.length cxp_0, .slice axp_1 xp.2.1.length cxp_1, .slice axp_2 xp.2.2.length cxp_2]) (Yields.loadAgg 4 3 #[.slice axp_0 xp.1.length cxp_0, .slice axp_1 xp.2.1.length cxp_1, .slice axp_2 xp.2.2.length cxp_2] rfl rfl Tryd.underlying26 rfl (by kernel_rfl) (by kernel_rfl) (by kernel_rfl)) rfl rfl ?_)))))))
             obtain ⟨hp51, hF⟩ := hF
             refine Ok.op rfl (OpOk.callG (v := .tuple #[.int .i64 (movS e45 xp).1, .int .i64 (movS e45 xp).2]) enr (fun W hW => mov_c e45 xp (hRxp_0.mono hW.sees) (hRxp_1.mono hW.sees) (hRxp_2.mono hW.sees) hp51) rfl ?_)
             refine Ok.bat 5 [1, 2, 5, 6, 14, 15, 16, 17, 18, 141, 142, 143] [(19, .int .i64 (movS e45 xp).1), (20, .int .i64 (movS e45 xp).2)] ?_
             refine Ok.nil (Ok.thenN (Ok.seq (Ok.seq (Ok.region (Ok.bat 1 [1, 2, 5, 6, 14, 15, 16, 17, 18, 19, 20, 141, 142, 143] [(161, pv bs18 1)] ?_)))))
             refine Ok.op rfl (OpOk.step (v := .int .i64 e48.2.1) (Yields.load 0 rfl rfl Tryd.underlying3 rfl (by kernel_rfl)) rfl rfl (Ok.bat 2 [1, 2, 5, 6, 14, 15, 16, 17, 18, 19, 20, 141, 142, 143] [(164, .bool (decide (e48.2.1 < (movS e45 xp).1)))] ?_))
             refine Ok.nil (Ok.thenN (Ok.cond (b := decide (e48.2.1 < (movS e45 xp).1)) rfl (fun hc52 => ?_) (fun hc52 => ?_)))
             ·replace hF := hF.1 hc52
              refine Ok.seq (Ok.region (Ok.batch 1 [(4, .bool false)] (by kernel_rfl) (Ok.nil (Ok.thenN (Ok.ret (Ok.thenR (Ok.blockR (Ok.thenR (Ok.thenR (Ok.blockR (Ok.blockR (Ok.thenR (Ok.blockR (Ok.thenR ?_))))))))))))))
              exact Ok.resP (vs := [.bool false]) [] [] (by decide) rfl (.inl rfl) rfl (.cons (.tmp rfl) .nil) (((hxj8.trans hxl21).trans hxl91).trans hxl104) ⟨false, rfl, rfl, hF⟩
             ·replace hF := hF.2 hc52
              refine Ok.skip (Ok.thenN (Ok.seq (Ok.region (Ok.bat 1 [1, 2, 5, 6, 14, 15, 16, 17, 18, 19, 20, 141, 142, 143] [(165, pv bs18 1)] ?_))))
              refine Ok.op rfl (OpOk.step (v := .int .i64 e48.2.1) (Yields.load 0 rfl rfl Tryd.underlying3 rfl (by kernel_rfl)) rfl rfl (Ok.bat 5 [1, 2, 5, 6, 14, 15, 16, 17, 18, 141, 142, 143] [(170, .int .i64 (w6 ((w6 (e48.2.1 - (movS e45 xp).1)) + (movS e45 xp).2))), (171, pv bs18 2)] ?_))
              refine Ok.op rfl (OpOk.step (v := .slice a47_2 e48.2.2.length c47_2) (Yields.load 0 rfl rfl Tryd.underlying50 rfl (by kernel_rfl)) rfl rfl (Ok.bat 1 [1, 2, 5, 6, 14, 15, 16, 17, 18, 141, 142, 143] [(173, .agg #[.bool true, .int .i64 (w6 ((w6 (e48.2.1 - (movS e45 xp).1)) + (movS e45 xp).2)), .slice a47_2 e48.2.2.length c47_2])] ?_))
              refine Ok.op rfl (OpOk.alloc (z := .agg #[.bool false, .int .i64 0, .slice none 0 0]) (cs := #[.bool false, .int .i64 0, .slice none 0 0]) (by kernel_rfl) (by kernel_rfl) rfl fun bs21 => ?_)
              refine Ok.op rfl (OpOk.sto (k := 3) (v := .agg #[.bool true, .int .i64 (w6 ((w6 (e48.2.1 - (movS e45 xp).1)) + (movS e45 xp).2)), .slice a47_2 e48.2.2.length c47_2]) 0 #[.bool true, .int .i64 (w6 ((w6 (e48.2.1 - (movS e45 xp).1)) + (movS e45 xp).2)), .slice a47_2 e48.2.2.length c47_2] rfl rfl rfl ?_)
              refine Ok.nil (Ok.thenN (Ok.seq (Ok.region (Ok.op rfl (OpOk.makeMapA (.pair (.bool) (.pair (.int .i64) (.slice (.pair (.int .i64) (.int .i64))))) true (kt := (Value.int .i64)) rfl fun b54 hM54 => ?_)))))
              refine Ok.bat 1 [1, 2, 5, 6, 14, 15, 16, 17, 18, 141, 142, 143] [(21, pv bs21 0), (22, .map (some b54))] ?_
              refine Ok.nil (Ok.thenN (Ok.cut (fun a W => ∃ gj137 : Ghost, Gext w0 gl104 gj137 ∧ ∃ (esyb54_0j137 : Array MapEntry) (ckyb54_0j137 : Nat) (yb54_0j137 : List ((Int) × (Bool × Int × List (Int × Int)))), RepMapA gj137 (.pair (.bool) (.pair (.int .i64) (.slice (.pair (.int .i64) (.int .i64))))) true (Value.int .i64) esyb54_0j137 ckyb54_0j137 yb54_0j137 ∧ StA 323 [(1, .int .i64 xown), (2, pv bs2 0), (5, pv bs5 0), (6, .int .i64 (e3.2.2.2.length : Int)), (14, .slice ayown38_0l104 yown38_0l104.length cyown38_0l104), (15, .bool x15l104), (22, .map (some b54)), (141, .slice a2_3 e3.2.2.2.length c2_3), (142, .int .i64 (e3.2.2.2.length : Int)), (143, .int .i64 x143l104)] a ∧ StW w0 [.blk b54 (.map esyb54_0j137 ckyb54_0j137), .own (.slice ayown38_0l104 yown38_0l104.length cyown38_0l104) 52 3 yown38_0l104.length xsyown38_0l104, .blk bs5 (.cells #[.int .i64 e3.1, .int .i64 e3.2.1, .slice a2_2 e3.2.2.1.length c2_2, .slice a2_3 e3.2.2.2.length c2_3] 33), .blk bs2 (.cells #[.slice axp_0 xp.1.length cxp_0, .slice axp_1 xp.2.1.length cxp_1, .slice axp_2 xp.2.2.length cxp_2] 26)] gj137 W ∧ fnrj137 K e3 x15l104 x143l104 yown38_0l104 yb54_0j137 (fnrl104 xp xown K e3 (fnrl91 xp xown K e3 k91) k104)) ?_ ?_))
              ·
               refine Ok.seq (Ok.region (Ok.bat 1 [1, 2, 5, 6, 14, 15, 16, 17, 18, 21, 22, 141, 142, 143] [(175, pv bs17 0)] ?_))
               refine Ok.op rfl (OpOk.step (v := .int .i64 e45.1) (Yields.load 3 rfl rfl Tryd.underlying3 rfl (by kernel_rfl)) rfl rfl (Ok.nil (Ok.thenN (Ok.block (Ok.seq (Ok.region (Ok.bat 2 [1, 2, 5, 6, 14, 15, 16, 17, 18, 21, 22, 141, 142, 143] [(176, .int .i64 e45.1), (181, .bool (e45.1 == 9))] ?_)))))))
               refine Ok.nil (Ok.thenN (Ok.cond (b := (e45.1 == 9)) rfl (fun hc74 => ?_) (fun hc74 => ?_)))
               ·replace hF := hF.1 hc74
                refine Ok.region (Ok.bat 2 [1, 2, 5, 6, 14, 15, 21, 22, 141, 142, 143] [(183, .map (some b54)), (184, pv bs17 1)] ?_)
                refine Ok.op rfl (OpOk.step (v := .int .i64 e45.2) (Yields.load 3 rfl rfl Tryd.underlying3 rfl (by kernel_rfl)) rfl rfl (Ok.op rfl (OpOk.step (v := .agg #[.bool true, .int .i64 (w6 ((w6 (e48.2.1 - (movS e45 xp).1)) + (movS e45 xp).2)), .slice a47_2 e48.2.2.length c47_2]) (Yields.loadAgg 1 3 #[.bool true, .int .i64 (w6 ((w6 (e48.2.1 - (movS e45 xp).1)) + (movS e45 xp).2)), .slice a47_2 e48.2.2.length c47_2] rfl rfl Tryd.underlying52 rfl (by kernel_rfl) (by kernel_rfl) (by kernel_rfl)) rfl rfl (Ok.op rfl (OpOk.mapUpdateA (vt := .pair (.bool) (.pair (.int .i64) (.slice (.pair (.int .i64) (.int .i64))))) (row := true) (cells := [.bool true, .int .i64 (w6 ((w6 (e48.2.1 - (movS e45 xp).1)) + (movS e45 xp).2)), .slice a47_2 e48.2.2.length c47_2]) (y := (true, w6 ((w6 (e48.2.1 - (movS e45 xp).1)) + (movS e45 xp).2), e48.2.2)) keyInt 0 rfl hM54 rfl rfl rfl Tryd.underlying55 Tryd.underlying3 rfl ⟨[.bool true], [.int .i64 (w6 ((w6 (e48.2.1 - (movS e45 xp).1)) + (movS e45 xp).2)), .slice a47_2 e48.2.2.length c47_2], rfl, rfl, ⟨[.int .i64 (w6 ((w6 (e48.2.1 - (movS e45 xp).1)) + (movS e45 xp).2))], [.slice a47_2 e48.2.2.length c47_2], rfl, rfl, hR47_2⟩⟩ fun es75 ck75 hM75 => ?_)))))
                refine Ok.nil (Ok.blockN (Ok.thenN ?_))
                exact fun a W hA hW => ⟨gl104, (Gext.refl w0 gl104), es75, ck75, (putK e45.2 (true, w6 ((w6 (e48.2.1 - (movS e45 xp).1)) + (movS e45 xp).2), e48.2.2) ([] : List ((Int) × (Bool × Int × List (Int × Int))))), hM75, hA.sub (by kernel_rfl), hW.sub (.cons_cons _ (.cons _ (.cons _ (.cons _ (.cons_cons _ (.cons_cons _ (.cons_cons _ .slnil))))))), hF⟩
               ·replace hF := hF.2 hc74
                refine Ok.seq (Ok.region (Ok.bat 2 [1, 2, 5, 6, 14, 15, 16, 17, 18, 21, 22, 141, 142, 143, 176] [(187, .bool (e45.1 == 10))] ?_))
                refine Ok.nil (Ok.thenN (Ok.cond (b := (e45.1 == 10)) rfl (fun hc76 => ?_) (fun hc76 => ?_)))
                ·replace hF := hF.1 hc76
                 refine Ok.mix [] [] [.blk bs21 (.cells #[.bool true, .int .i64 (w6 ((w6 (e48.2.1 - (movS e45 xp).1)) + (movS e45 xp).2)), .slice a47_2 e48.2.2.length c47_2] 52), .blk bs18 (.cells #[.bool e48.1, .int .i64 e48.2.1, .slice a47_2 e48.2.2.length c47_2] 52), .blk bs17 (.cells #[.int .i64 e45.1, .int .i64 e45.2] 46), .own (.slice ayown38_0l104 yown38_0l104.length cyown38_0l104) 52 3 yown38_0l104.length xsyown38_0l104, .blk bs5 (.cells #[.int .i64 e3.1, .int .i64 e3.2.1, .slice a2_2 e3.2.2.1.length c2_2, .slice a2_3 e3.2.2.2.length c2_3] 33), .blk bs2 (.cells #[.slice axp_0 xp.1.length cxp_0, .slice axp_1 xp.2.1.length cxp_1, .slice axp_2 xp.2.2.length cxp_2] 26)] [(0, true), (1, true), (2, true), (3, true), (4, true), (5, true), (6, true), (7, true), (8, false), (9, false)] (by kernel_rfl) (by kernel_rfl) (.cons _ (.cons_cons _ (.cons_cons _ (.cons_cons _ (.cons_cons _ (.cons_cons _ (.cons_cons _ .slnil))))))) (OkM.bat 2 [1, 2, 5, 6, 14, 15, 16, 21, 22, 141, 142, 143] [(189, .map (some b54)), (190, pv bs17 1)] ?_)
                 refine OkM.head rfl rfl (show _ = [.blk bs21 (.cells #[.bool true, .int .i64 (w6 ((w6 (e48.2.1 - (movS e45 xp).1)) + (movS e45 xp).2)), .slice a47_2 e48.2.2.length c47_2] 52), .blk bs18 (.cells #[.bool e48.1, .int .i64 e48.2.1, .slice a47_2 e48.2.2.length c47_2] 52), .blk bs17 (.cells #[.int .i64 e45.1, .int .i64 e45.2] 46), .own (.slice ayown38_0l104 yown38_0l104.length cyown38_0l104) 52 3 yown38_0l104.length xsyown38_0l104, .blk bs5 (.cells #[.int .i64 e3.1, .int .i64 e3.2.1, .slice a2_2 e3.2.2.1.length c2_2, .slice a2_3 e3.2.2.2.length c2_3] 33), .blk bs2 (.cells #[.slice axp_0 xp.1.length cxp_0, .slice axp_1 xp.2.1.length cxp_1, .slice axp_2 xp.2.2.length cxp_2] 26)] from rfl) (OpQ.step (v := .int .i64 e45.2) (Yields.load 2 rfl rfl Tryd.underlying3 rfl (by kernel_rfl)) rfl rfl (OkM.bat 3 [1, 2, 5, 6, 14, 15, 21, 22, 141, 142, 143, 189] [(191, .int .i64 e45.2), (192, .map (some b54)), (194, .int .i64 (w6 (x143l104 + 1)))] ?_))
                 refine OkM.head rfl rfl (show _ = [.blk bs21 (.cells #[.bool true, .int .i64 (w6 ((w6 (e48.2.1 - (movS e45 xp).1)) + (movS e45 xp).2)), .slice a47_2 e48.2.2.length c47_2] 52), .blk bs18 (.cells #[.bool e48.1, .int .i64 e48.2.1, .slice a47_2 e48.2.2.length c47_2] 52), .blk bs17 (.cells #[.int .i64 e45.1, .int .i64 e45.2] 46), .own (.slice ayown38_0l104 yown38_0l104.length cyown38_0l104) 52 3 yown38_0l104.length xsyown38_0l104, .blk bs5 (.cells #[.int .i64 e3.1, .int .i64 e3.2.1, .slice a2_2 e3.2.2.1.length c2_2, .slice a2_3 e3.2.2.2.length c2_3] 33), .blk bs2 (.cells #[.slice axp_0 xp.1.length cxp_0, .slice axp_1 xp.2.1.length cxp_1, .slice axp_2 xp.2.2.length cxp_2] 26)] from rfl) (OpQ.step (v := .agg #[.bool true, .int .i64 (w6 ((w6 (e48.2.1 - (movS e45 xp).1)) + (movS e45 xp).2)), .slice a47_2 e48.2.2.length c47_2]) (Yields.loadAgg 0 3 #[.bool true, .int .i64 (w6 ((w6 (e48.2.1 - (movS e45 xp).1)) + (movS e45 xp).2)), .slice a47_2 e48.2.2.length c47_2] rfl rfl Tryd.underlying52 rfl (by kernel_rfl) (by kernel_rfl) (by kernel_rfl)) rfl rfl (OkM.head rfl rfl (show _ = [.blk bs21 (.cells #[.bool true, .int .i64 (w6 ((w6 (e48.2.1 - (movS e45 xp).1)) + (movS e45 xp).2)), .slice a47_2 e48.2.2.length c47_2] 52), .blk bs18 (.cells #[.bool e48.1, .int .i64 e48.2.1, .slice a47_2 e48.2.2.length c47_2] 52), .blk bs17 (.cells #[.int .i64 e45.1, .int .i64 e45.2] 46), .own (.slice ayown38_0l104 yown38_0l104.length cyown38_0l104) 52 3 yown38_0l104.length xsyown38_0l104, .blk bs5 (.cells #[.int .i64 e3.1, .int .i64 e3.2.1, .slice a2_2 e3.2.2.1.length c2_2, .slice a2_3 e3.2.2.2.length c2_3] 33), .blk bs2 (.cells #[.slice axp_0 xp.1.length cxp_0, .slice axp_1 xp.2.1.length cxp_1, .slice axp_2 xp.2.2.length cxp_2] 26)] from rfl) (OpQ.step (v := .agg #[.bool true, .int .i64 (w6 ((w6 (e48.2.1 - (movS e45 xp).1)) + (movS e45 xp).2)), .slice a47_2 e48.2.2.length c47_2]) (Yields.loadAgg 0 3 #[.bool true, .int .i64 (w6 ((w6 (e48.2.1 - (movS e45 xp).1)) + (movS e45 xp).2)), .slice a47_2 e48.2.2.length c47_2] rfl rfl Tryd.underlying52 rfl (by kernel_rfl) (by kernel_rfl) (by kernel_rfl)) rfl rfl (OkM.tail rfl rfl (OpOk.mapUpdateA (vt := .pair (.bool) (.pair (.int .i64) (.slice (.pair (.int .i64) (.int .i64))))) (row := true) (cells := [.bool true, .int .i64 (w6 ((w6 (e48.2.1 - (movS e45 xp).1)) + (movS e45 xp).2)), .slice a47_2 e48.2.2.length c47_2]) (y := (true, w6 ((w6 (e48.2.1 - (movS e45 xp).1)) + (movS e45 xp).2), e48.2.2)) keyInt 0 rfl hM54 rfl rfl rfl Tryd.underlying55 Tryd.underlying3 rfl ⟨[.bool true], [.int .i64 (w6 ((w6 (e48.2.1 - (movS e45 xp).1)) + (movS e45 xp).2)), .slice a47_2 e48.2.2.length c47_2], rfl, rfl, ⟨[.int .i64 (w6 ((w6 (e48.2.1 - (movS e45 xp).1)) + (movS e45 xp).2))], [.slice a47_2 e48.2.2.length c47_2], rfl, rfl, hR47_2⟩⟩ fun es77 ck77 hM77 => ?_)))))
                 refine OkM.leaf (i := 8) (show _ = [.blk bs21 (.cells #[.bool true, .int .i64 (w6 ((w6 (e48.2.1 - (movS e45 xp).1)) + (movS e45 xp).2)), .slice a47_2 e48.2.2.length c47_2] 52), .blk bs18 (.cells #[.bool e48.1, .int .i64 e48.2.1, .slice a47_2 e48.2.2.length c47_2] 52), .blk bs17 (.cells #[.int .i64 e45.1, .int .i64 e45.2] 46), .own (.slice ayown38_0l104 yown38_0l104.length cyown38_0l104) 52 3 yown38_0l104.length xsyown38_0l104, .blk bs5 (.cells #[.int .i64 e3.1, .int .i64 e3.2.1, .slice a2_2 e3.2.2.1.length c2_2, .slice a2_3 e3.2.2.2.length c2_3] 33), .blk bs2 (.cells #[.slice axp_0 xp.1.length cxp_0, .slice axp_1 xp.2.1.length cxp_1, .slice axp_2 xp.2.2.length cxp_2] 26)] from rfl) (Gle.refl _) (.cons _ (.cons_cons _ (.cons_cons _ (.cons_cons _ (.cons_cons _ (.cons_cons _ (.cons_cons _ .slnil))))))) (OkM.tail rfl rfl (OpOk.mapUpdateA (vt := .pair (.bool) (.pair (.int .i64) (.slice (.pair (.int .i64) (.int .i64))))) (row := true) (cells := [.bool true, .int .i64 (w6 ((w6 (e48.2.1 - (movS e45 xp).1)) + (movS e45 xp).2)), .slice a47_2 e48.2.2.length c47_2]) (y := (true, w6 ((w6 (e48.2.1 - (movS e45 xp).1)) + (movS e45 xp).2), e48.2.2)) keyInt 0 rfl hM77 rfl rfl rfl Tryd.underlying55 Tryd.underlying3 rfl ⟨[.bool true], [.int .i64 (w6 ((w6 (e48.2.1 - (movS e45 xp).1)) + (movS e45 xp).2)), .slice a47_2 e48.2.2.length c47_2], rfl, rfl, ⟨[.int .i64 (w6 ((w6 (e48.2.1 - (movS e45 xp).1)) + (movS e45 xp).2))], [.slice a47_2 e48.2.2.length c47_2], rfl, rfl, hR47_2⟩⟩ fun es78 ck78 hM78 => ?_))
                 refine OkM.leaf (i := 9) (show _ = [.blk bs21 (.cells #[.bool true, .int .i64 (w6 ((w6 (e48.2.1 - (movS e45 xp).1)) + (movS e45 xp).2)), .slice a47_2 e48.2.2.length c47_2] 52), .blk bs18 (.cells #[.bool e48.1, .int .i64 e48.2.1, .slice a47_2 e48.2.2.length c47_2] 52), .blk bs17 (.cells #[.int .i64 e45.1, .int .i64 e45.2] 46), .own (.slice ayown38_0l104 yown38_0l104.length cyown38_0l104) 52 3 yown38_0l104.length xsyown38_0l104, .blk bs5 (.cells #[.int .i64 e3.1, .int .i64 e3.2.1, .slice a2_2 e3.2.2.1.length c2_2, .slice a2_3 e3.2.2.2.length c2_3] 33), .blk bs2 (.cells #[.slice axp_0 xp.1.length cxp_0, .slice axp_1 xp.2.1.length cxp_1, .slice axp_2 xp.2.2.length cxp_2] 26)] from rfl) (Gle.refl _) (.cons _ (.cons_cons _ (.cons_cons _ (.cons_cons _ (.cons_cons _ (.cons_cons _ (.cons_cons _ .slnil))))))) (OkM.nil (Ok.blockN (Ok.thenN ?_)))
                 exact fun a W hA hW => ⟨gl104, (Gext.refl w0 gl104), es78, ck78, (putK (w6 (x143l104 + 1)) (true, w6 ((w6 (e48.2.1 - (movS e45 xp).1)) + (movS e45 xp).2), e48.2.2) (putK e45.2 (true, w6 ((w6 (e48.2.1 - (movS e45 xp).1)) + (movS e45 xp).2), e48.2.2) ([] : List ((Int) × (Bool × Int × List (Int × Int)))))), hM78, hA.sub (by kernel_rfl), hW.sub (.cons_cons _ (.cons _ (.cons _ (.cons _ (.cons_cons _ (.cons_cons _ (.cons_cons _ .slnil))))))), hF⟩
                ·replace hF := hF.2 hc76
                 refine Ok.seq (Ok.region (Ok.bat 2 [1, 2, 5, 6, 14, 15, 16, 17, 18, 21, 22, 141, 142, 143, 176] [(197, .bool (e45.1 == 24))] ?_))
                 refine Ok.nil (Ok.thenN (Ok.cond (b := (e45.1 == 24)) rfl (fun hc79 => ?_) (fun hc79 => ?_)))
                 ·replace hF := hF.1 hc79
                  refine Ok.seq (Ok.region (Ok.bat 2 [1, 2, 5, 6, 14, 15, 16, 17, 18, 21, 22, 141, 142, 143] [(199, .map (some b54)), (200, pv bs17 1)] ?_))
                  refine Ok.op rfl (OpOk.step (v := .int .i64 e45.2) (Yields.load 3 rfl rfl Tryd.underlying3 rfl (by kernel_rfl)) rfl rfl (Ok.op rfl (OpOk.step (v := .agg #[.bool e48.1, .int .i64 e48.2.1, .slice a47_2 e48.2.2.length c47_2]) (Yields.loadAgg 2 3 #[.bool e48.1, .int .i64 e48.2.1, .slice a47_2 e48.2.2.length c47_2] rfl rfl Tryd.underlying52 rfl (by kernel_rfl) (by kernel_rfl) (by kernel_rfl)) rfl rfl (Ok.op rfl (OpOk.mapUpdateA (vt := .pair (.bool) (.pair (.int .i64) (.slice (.pair (.int .i64) (.int .i64))))) (row := true) (cells := [.bool e48.1, .int .i64 e48.2.1, .slice a47_2 e48.2.2.length c47_2]) (y := e48) keyInt 0 rfl hM54 rfl rfl rfl Tryd.underlying55 Tryd.underlying3 rfl ⟨[.bool e48.1], [.int .i64 e48.2.1, .slice a47_2 e48.2.2.length c47_2], rfl, rfl, ⟨[.int .i64 e48.2.1], [.slice a47_2 e48.2.2.length c47_2], rfl, rfl, hR47_2⟩⟩ fun es80 ck80 hM80 => ?_)))))
                  refine Ok.nil (Ok.thenN (Ok.seq (Ok.seq (Ok.region (Ok.bat 1 [1, 2, 5, 6, 14, 15, 16, 21, 22, 141, 142, 143] [(203, pv bs17 1)] ?_)))))
                  refine Ok.op rfl (OpOk.step (v := .int .i64 e45.2) (Yields.load 3 rfl rfl Tryd.underlying3 rfl (by kernel_rfl)) rfl rfl (Ok.bat 3 [1, 2, 5, 6, 14, 15, 16, 21, 22, 141, 142, 143] [(207, .bool (e45.2 == (w6 (x143l104 + 1))))] ?_))
                  refine Ok.nil (Ok.thenN (Ok.cond (b := (e45.2 == (w6 (x143l104 + 1)))) rfl (fun hc81 => ?_) (fun hc81 => ?_)))
                  ·replace hF := hF.1 hc81
                   refine Ok.seq (Ok.region (Ok.batch 1 [(4, .bool false)] (by kernel_rfl) (Ok.nil (Ok.thenN (Ok.ret (Ok.thenR (Ok.blockR (Ok.thenR (Ok.blockR (Ok.thenR (Ok.thenR (Ok.blockR (Ok.blockR (Ok.thenR (Ok.blockR (Ok.thenR ?_))))))))))))))))
                   exact Ok.resP (vs := [.bool false]) [] [] (by decide) rfl (.inl rfl) rfl (.cons (.tmp rfl) .nil) (((hxj8.trans hxl21).trans hxl91).trans hxl104) ⟨false, rfl, rfl, hF⟩
                  ·replace hF := hF.2 hc81
                   refine Ok.skip (Ok.thenN (Ok.region (Ok.bat 3 [1, 2, 5, 6, 14, 15, 21, 22, 141, 142, 143] [(208, .map (some b54)), (210, .int .i64 (w6 (x143l104 + 1)))] ?_)))
                   refine Ok.op rfl (OpOk.step (v := .agg #[.bool true, .int .i64 (w6 ((w6 (e48.2.1 - (movS e45 xp).1)) + (movS e45 xp).2)), .slice a47_2 e48.2.2.length c47_2]) (Yields.loadAgg 1 3 #[.bool true, .int .i64 (w6 ((w6 (e48.2.1 - (movS e45 xp).1)) + (movS e45 xp).2)), .slice a47_2 e48.2.2.length c47_2] rfl rfl Tryd.underlying52 rfl (by kernel_rfl) (by kernel_rfl) (by kernel_rfl)) rfl rfl (Ok.op rfl (OpOk.mapUpdateA (vt := .pair (.bool) (.pair (.int .i64) (.slice (.pair (.int .i64) (.int .i64))))) (row := true) (cells := [.bool true, .int .i64 (w6 ((w6 (e48.2.1 - (movS e45 xp).1)) + (movS e45 xp).2)), .slice a47_2 e48.2.2.length c47_2]) (y := (true, w6 ((w6 (e48.2.1 - (movS e45 xp).1)) + (movS e45 xp).2), e48.2.2)) keyInt 0 rfl hM80 rfl rfl rfl Tryd.underlying55 Tryd.underlying3 rfl ⟨[.bool true], [.int .i64 (w6 ((w6 (e48.2.1 - (movS e45 xp).1)) + (movS e45 xp).2)), .slice a47_2 e48.2.2.length c47_2], rfl, rfl, ⟨[.int .i64 (w6 ((w6 (e48.2.1 - (movS e45 xp).1)) + (movS e45 xp).2))], [.slice a47_2 e48.2.2.length c47_2], rfl, rfl, hR47_2⟩⟩ fun es82 ck82 hM82 => ?_)))
                   refine Ok.nil (Ok.blockN (Ok.thenN ?_))
                   exact fun a W hA hW => ⟨gl104, (Gext.refl w0 gl104), es82, ck82, (putK (w6 (x143l104 + 1)) (true, w6 ((w6 (e48.2.1 - (movS e45 xp).1)) + (movS e45 xp).2), e48.2.2) (putK e45.2 e48 ([] : List ((Int) × (Bool × Int × List (Int × Int)))))), hM82, hA.sub (by kernel_rfl), hW.sub (.cons_cons _ (.cons _ (.cons _ (.cons _ (.cons_cons _ (.cons_cons _ (.cons_cons _ .slnil))))))), hF⟩
                 ·replace hF := hF.2 hc79
                  refine Ok.cut (fun a W => ∃ gj163 : Ghost, Gext w0 gl104 gj163 ∧ StA 323 [(1, .int .i64 xown), (2, pv bs2 0), (5, pv bs5 0), (6, .int .i64 (e3.2.2.2.length : Int)), (14, .slice ayown38_0l104 yown38_0l104.length cyown38_0l104), (15, .bool x15l104), (16, .int .i64 x143l104), (17, pv bs17 0), (18, pv bs18 0), (21, pv bs21 0), (22, .map (some b54)), (141, .slice a2_3 e3.2.2.2.length c2_3), (142, .int .i64 (e3.2.2.2.length : Int)), (143, .int .i64 x143l104), (176, .int .i64 e45.1), (212, .bool ((e45.1 == 18) || (e45.1 == 25)))] a ∧ StW w0 [.blk b54 (.map (#[] : Array MapEntry) 0), .blk bs21 (.cells #[.bool true, .int .i64 (w6 ((w6 (e48.2.1 - (movS e45 xp).1)) + (movS e45 xp).2)), .slice a47_2 e48.2.2.length c47_2] 52), .blk bs18 (.cells #[.bool e48.1, .int .i64 e48.2.1, .slice a47_2 e48.2.2.length c47_2] 52), .blk bs17 (.cells #[.int .i64 e45.1, .int .i64 e45.2] 46), .own (.slice ayown38_0l104 yown38_0l104.length cyown38_0l104) 52 3 yown38_0l104.length xsyown38_0l104, .blk bs5 (.cells #[.int .i64 e3.1, .int .i64 e3.2.1, .slice a2_2 e3.2.2.1.length c2_2, .slice a2_3 e3.2.2.2.length c2_3] 33), .blk bs2 (.cells #[.slice axp_0 xp.1.length cxp_0, .slice axp_1 xp.2.1.length cxp_1, .slice axp_2 xp.2.2.length cxp_2] 26)] gj163 W ∧ fnrj163 xp xown K e3 x15l104 x143l104 yown38_0l104 e45 e48 (fnrl104 xp xown K e3 (fnrl91 xp xown K e3 k91) k104)) ?_ ?_
                  ·
                   refine Ok.seq (Ok.region (Ok.bat 2 [1, 2, 5, 6, 14, 15, 16, 17, 18, 21, 22, 141, 142, 143, 176] [(212, .bool (e45.1 == 18))] ?_))
                   refine Ok.nil (Ok.thenN (Ok.cond (b := (e45.1 == 18)) rfl (fun hc99 => ?_) (fun hc99 => ?_)))
                   ·replace hF := hF.1 hc99
                    refine Ok.skip (Ok.thenN (Ok.reval 212 rfl (show (.bool (e45.1 == 18) : Value) = .bool ((e45.1 == 18) || (e45.1 == 25)) from congrArg (Value.bool) ((Eq.trans (hc99) (mor_t hc99)))) ?_))
                    exact fun a W hA hW => ⟨gl104, (Gext.refl w0 gl104), hA.sub (by kernel_rfl), hW, hF⟩
                   ·replace hF := hF.2 hc99
                    refine Ok.region (Ok.bat 2 [1, 2, 5, 6, 14, 15, 16, 17, 18, 21, 22, 141, 142, 143, 176] [(212, .bool (e45.1 == 25))] ?_)
                    refine Ok.nil (Ok.thenN (Ok.reval 212 rfl (show (.bool (e45.1 == 25) : Value) = .bool ((e45.1 == 18) || (e45.1 == 25)) from congrArg (Value.bool) (mor_f hc99)) ?_))
                    exact fun a W hA hW => ⟨gl104, (Gext.refl w0 gl104), hA.sub (by kernel_rfl), hW, hF⟩
                  ·
                   clear hF
                   rintro a W ⟨gj163, hxj163, hA, hW, hF⟩
                   refine (?_ : Ok _ _ _ _ _ _) a W hA hW
                   clear hA hW
                   replace hLyown38_0l104 := hLyown38_0l104.mono hxj163.1
                   replace hR2_3 := hR2_3.mono hxj163.1
                   replace hM54 := hM54.mono hxj163.1
                   replace hR47_2 := hR47_2.mono hxj163.1
                   replace hR2_2 := hR2_2.mono hxj163.1
                   replace hRxp_0 := hRxp_0.mono hxj163.1
                   replace hRxp_1 := hRxp_1.mono hxj163.1
                   replace hRxp_2 := hRxp_2.mono hxj163.1
                   refine Ok.cond (b := ((e45.1 == 18) || (e45.1 == 25))) rfl (fun hc83 => ?_) (fun hc83 => ?_)
                   ·replace hF := hF.1 hc83
                    refine Ok.cut (fun a W => ∃ gj170 : Ghost, Gext w0 gj163 gj170 ∧ StA 323 [(1, .int .i64 xown), (2, pv bs2 0), (5, pv bs5 0), (6, .int .i64 (e3.2.2.2.length : Int)), (14, .slice ayown38_0l104 yown38_0l104.length cyown38_0l104), (15, .bool x15l104), (22, .map (some b54)), (141, .slice a2_3 e3.2.2.2.length c2_3), (142, .int .i64 (e3.2.2.2.length : Int)), (143, .int .i64 x143l104), (226, .bool (fnrV8 xown e45 e48))] a ∧ StW w0 [.blk b54 (.map (#[] : Array MapEntry) 0), .own (.slice ayown38_0l104 yown38_0l104.length cyown38_0l104) 52 3 yown38_0l104.length xsyown38_0l104, .blk bs5 (.cells #[.int .i64 e3.1, .int .i64 e3.2.1, .slice a2_2 e3.2.2.1.length c2_2, .slice a2_3 e3.2.2.2.length c2_3] 33), .blk bs2 (.cells #[.slice axp_0 xp.1.length cxp_0, .slice axp_1 xp.2.1.length cxp_1, .slice axp_2 xp.2.2.length cxp_2] 26)] gj170 W ∧ fnrj170 xown K e3 x15l104 x143l104 yown38_0l104 e45 e48 (fnrl104 xp xown K e3 (fnrl91 xp xown K e3 k91) k104)) ?_ ?_
                    ·
                     refine Ok.region (Ok.bat 1 [1, 2, 5, 6, 14, 15, 17, 22, 141, 142, 143] [(215, pv bs18 2)] ?_)
                     refine Ok.op rfl (OpOk.step (v := .slice a47_2 e48.2.2.length c47_2) (Yields.load 2 rfl rfl Tryd.underlying50 rfl (by kernel_rfl)) rfl rfl (Ok.bat 3 [1, 2, 5, 6, 14, 15, 17, 22, 141, 142, 143] [(219, .bool (decide ((e48.2.2.length : Int) > 0)))] ?_))
                     refine Ok.boolAt 219 (decide ((e48.2.2.length : Int) > 0)) rfl (fun hc85 => ?_) (fun hc85 => ?_)
                     ·replace hF := hF.1 hc85
                      refine Ok.bat 7 [1, 2, 5, 6, 14, 15, 22, 141, 142, 143] [(226, .bool true)] ?_
                      refine Ok.nil (Ok.thenN (Ok.reval 226 rfl (show (.bool true : Value) = .bool (fnrV8 xown e45 e48) from congrArg (Value.bool) (mor_t hc85)) ?_))
                      exact fun a W hA hW => ⟨gj163, (Gext.refl w0 gj163), hA.sub (by kernel_rfl), hW.sub (.cons_cons _ (.cons _ (.cons _ (.cons _ (.cons_cons _ (.cons_cons _ (.cons_cons _ .slnil))))))), hF⟩
                     ·replace hF := hF.2 hc85
                      refine Ok.bat 1 [1, 2, 5, 6, 14, 15, 22, 141, 142, 143] [(219, .bool false), (220, pv bs17 0)] ?_
                      refine Ok.opYes (j := 4) (d := 219) (want := false) (b := false) rfl (by kernel_rfl) (by kernel_rfl) rfl (OpOk.step (v := .int .i64 e45.1) (Yields.load 3 rfl rfl Tryd.underlying3 rfl (by kernel_rfl)) rfl rfl (Ok.bat 5 [1, 2, 5, 6, 14, 15, 22, 141, 142, 143] [(226, .bool (!((e45.1 == 25) == (xown == 0))))] ?_))
                      refine Ok.nil (Ok.thenN (Ok.reval 226 rfl (show (.bool (!((e45.1 == 25) == (xown == 0))) : Value) = .bool (fnrV8 xown e45 e48) from congrArg (Value.bool) (mor_f hc85)) ?_))
                      exact fun a W hA hW => ⟨gj163, (Gext.refl w0 gj163), hA.sub (by kernel_rfl), hW.sub (.cons_cons _ (.cons _ (.cons _ (.cons _ (.cons_cons _ (.cons_cons _ (.cons_cons _ .slnil))))))), hF⟩
                    ·
                     clear hF
                     rintro a W ⟨gj170, hxj170, hA, hW, hF⟩
                     refine (?_ : Ok _ _ _ _ _ _) a W hA hW
                     clear hA hW
                     replace hLyown38_0l104 := hLyown38_0l104.mono hxj170.1
                     replace hR2_3 := hR2_3.mono hxj170.1
                     replace hM54 := hM54.mono hxj170.1
                     replace hR2_2 := hR2_2.mono hxj170.1
                     replace hRxp_0 := hRxp_0.mono hxj170.1
                     replace hRxp_1 := hRxp_1.mono hxj170.1
                     replace hRxp_2 := hRxp_2.mono hxj170.1
                     refine Ok.cond (b := (fnrV8 xown e45 e48)) rfl (fun hc84 => ?_) (fun hc84 => ?_)
                     ·replace hF := hF.1 hc84
                      refine Ok.seq (Ok.region (Ok.batch 1 [(4, .bool false)] (by kernel_rfl) (Ok.nil (Ok.thenN (Ok.ret (Ok.blockR (Ok.thenR (Ok.blockR (Ok.thenR (Ok.thenR (Ok.blockR (Ok.blockR (Ok.thenR (Ok.blockR (Ok.thenR ?_)))))))))))))))
                      exact Ok.resP (vs := [.bool false]) [] [] (by decide) rfl (.inl rfl) rfl (.cons (.tmp rfl) .nil) (((((hxj8.trans hxl21).trans hxl91).trans hxl104).trans hxj163).trans hxj170) ⟨false, rfl, rfl, hF⟩
                     ·replace hF := hF.2 hc84
                      refine Ok.skip (Ok.blockN (Ok.thenN ?_))
                      exact fun a W hA hW => ⟨gj170, (hxj163.trans hxj170), (#[] : Array MapEntry), 0, ([] : List ((Int) × (Bool × Int × List (Int × Int)))), hM54, hA.sub (by kernel_rfl), hW, hF⟩
                   ·replace hF := hF.2 hc83
                    refine Ok.seq (Ok.region (Ok.bat 2 [1, 2, 5, 6, 14, 15, 16, 17, 18, 21, 22, 141, 142, 143, 176] [(227, .bool (e45.1 == 19))] ?_))
                    refine Ok.nil (Ok.thenN (Ok.cond (b := (e45.1 == 19)) rfl (fun hc86 => ?_) (fun hc86 => ?_)))
                    ·replace hF := hF.1 hc86
                     refine Ok.skip (Ok.blockN (Ok.thenN ?_))
                     exact fun a W hA hW => ⟨gj163, hxj163, (#[] : Array MapEntry), 0, ([] : List ((Int) × (Bool × Int × List (Int × Int)))), hM54, hA.sub (by kernel_rfl), hW.sub (.cons_cons _ (.cons _ (.cons _ (.cons _ (.cons_cons _ (.cons_cons _ (.cons_cons _ .slnil))))))), hF⟩
                    ·replace hF := hF.2 hc86
                     refine Ok.seq (Ok.region (Ok.bat 2 [1, 2, 5, 6, 14, 15, 16, 17, 18, 21, 22, 141, 142, 143, 176] [(229, .bool (e45.1 == 20))] ?_))
                     refine Ok.nil (Ok.thenN (Ok.cond (b := (e45.1 == 20)) rfl (fun hc87 => ?_) (fun hc87 => ?_)))
                     ·replace hF := hF.1 hc87
                      refine Ok.seq (Ok.region (Ok.bat 2 [1, 2, 5, 6, 14, 15, 16, 17, 18, 21, 22, 141, 142, 143] [(231, .map (some b54)), (232, pv bs17 1)] ?_))
                      refine Ok.op rfl (OpOk.step (v := .int .i64 e45.2) (Yields.load 3 rfl rfl Tryd.underlying3 rfl (by kernel_rfl)) rfl rfl (Ok.bat 1 [1, 2, 5, 6, 14, 15, 16, 17, 18, 21, 22, 141, 142, 143, 231] [(233, .int .i64 e45.2), (234, pv bs18 1)] ?_))
                      refine Ok.op rfl (OpOk.step (v := .int .i64 e48.2.1) (Yields.load 2 rfl rfl Tryd.underlying3 rfl (by kernel_rfl)) rfl rfl (Ok.bat 2 [1, 2, 5, 6, 14, 15, 16, 17, 18, 21, 22, 141, 142, 143, 231, 233] [(236, .int .i64 (w6 (e48.2.1 + 1))), (237, pv bs18 2)] ?_))
                      refine Ok.op rfl (OpOk.step (v := .slice a47_2 e48.2.2.length c47_2) (Yields.load 2 rfl rfl Tryd.underlying50 rfl (by kernel_rfl)) rfl rfl (Ok.bat 1 [1, 2, 5, 6, 14, 15, 16, 17, 18, 21, 22, 141, 142, 143, 231, 233] [(239, .agg #[.bool true, .int .i64 (w6 (e48.2.1 + 1)), .slice a47_2 e48.2.2.length c47_2])] ?_))
                      refine Ok.op rfl (OpOk.mapUpdateA (vt := .pair (.bool) (.pair (.int .i64) (.slice (.pair (.int .i64) (.int .i64))))) (row := true) (cells := [.bool true, .int .i64 (w6 (e48.2.1 + 1)), .slice a47_2 e48.2.2.length c47_2]) (y := (true, w6 (e48.2.1 + 1), e48.2.2)) keyInt 0 rfl hM54 rfl rfl rfl Tryd.underlying55 Tryd.underlying3 rfl ⟨[.bool true], [.int .i64 (w6 (e48.2.1 + 1)), .slice a47_2 e48.2.2.length c47_2], rfl, rfl, ⟨[.int .i64 (w6 (e48.2.1 + 1))], [.slice a47_2 e48.2.2.length c47_2], rfl, rfl, hR47_2⟩⟩ fun es88 ck88 hM88 => ?_)
                      refine Ok.nil (Ok.thenN (Ok.seq (Ok.seq (Ok.region (Ok.bat 1 [1, 2, 5, 6, 14, 15, 16, 17, 18, 21, 22, 141, 142, 143] [(240, pv bs17 1)] ?_)))))
                      refine Ok.op rfl (OpOk.step (v := .int .i64 e45.2) (Yields.load 3 rfl rfl Tryd.underlying3 rfl (by kernel_rfl)) rfl rfl (Ok.bat 3 [1, 2, 5, 6, 14, 15, 16, 17, 18, 21, 22, 141, 142, 143] [(244, .bool (e45.2 == (w6 (x143l104 + 1))))] ?_))
                      refine Ok.nil (Ok.thenN (Ok.cond (b := (e45.2 == (w6 (x143l104 + 1)))) rfl (fun hc89 => ?_) (fun hc89 => ?_)))
                      ·replace hF := hF.1 hc89
                       refine Ok.seq (Ok.region (Ok.batch 1 [(4, .bool false)] (by kernel_rfl) (Ok.nil (Ok.thenN (Ok.ret (Ok.thenR (Ok.blockR (Ok.thenR (Ok.blockR (Ok.thenR (Ok.thenR (Ok.blockR (Ok.blockR (Ok.thenR (Ok.blockR (Ok.thenR ?_))))))))))))))))
                       exact Ok.resP (vs := [.bool false]) [] [] (by decide) rfl (.inl rfl) rfl (.cons (.tmp rfl) .nil) ((((hxj8.trans hxl21).trans hxl91).trans hxl104).trans hxj163) ⟨false, rfl, rfl, hF⟩
                      ·replace hF := hF.2 hc89
                       refine Ok.skip (Ok.thenN (Ok.seq (Ok.region (Ok.bat 1 [1, 2, 5, 6, 14, 15, 16, 18, 21, 22, 141, 142, 143] [(245, pv bs17 1)] ?_))))
                       refine Ok.op rfl (OpOk.step (v := .int .i64 e45.2) (Yields.load 3 rfl rfl Tryd.underlying3 rfl (by kernel_rfl)) rfl rfl (Ok.bat 1 [1, 2, 5, 6, 14, 15, 16, 18, 21, 22, 141, 142, 143] [(246, .int .i64 e45.2), (247, pv bs18 1)] ?_))
                       refine Ok.op rfl (OpOk.step (v := .int .i64 e48.2.1) (Yields.load 2 rfl rfl Tryd.underlying3 rfl (by kernel_rfl)) rfl rfl (Ok.bat 1 [1, 2, 5, 6, 14, 15, 16, 18, 21, 22, 141, 142, 143] [(249, .agg #[.int .i64 e45.2, .int .i64 e48.2.1])] ?_))
                       have hL90 : RepL gj163 (.pair (.int .i64) (.int .i64)) ([.int .i64 e45.2, .int .i64 e48.2.1] : List Value) ([(e45.2, e48.2.1)] : List (Int × Int)) := (RepL.consN (c := [.int .i64 e45.2, .int .i64 e48.2.1]) ⟨[.int .i64 e45.2], [.int .i64 e48.2.1], rfl, rfl, rfl⟩ rfl)
                       refine Ok.op rfl (OpOk.lit (E := 56) (.pair (.int .i64) (.int .i64)) ([(e45.2, e48.2.1)] : List (Int × Int)) ([.int .i64 e45.2, .int .i64 e48.2.1] : List Value) (by kernel_rfl) (by kernel_rfl) rfl (by kernel_rfl) hL90 rfl fun b90 => ?_)
                       refine Ok.bat 1 [1, 2, 5, 6, 14, 15, 16, 21, 22, 141, 142, 143] [(250, .slice (some ⟨b90, 0, none⟩) ([(e45.2, e48.2.1)] : List (Int × Int)).length 1), (251, pv bs18 2)] ?_
                       refine Ok.op rfl (OpOk.step (v := .slice a47_2 e48.2.2.length c47_2) (Yields.load 3 rfl rfl Tryd.underlying50 rfl (by kernel_rfl)) rfl rfl ?_)
                       obtain ⟨hb91, hF⟩ := hF
                       refine Ok.op rfl (OpOk.appendRo (e := .pair (.int .i64) (.int .i64)) 16 8796093022208 0 rfl rfl rfl hL90 hR47_2 Tryd.underlying50 (by kernel_rfl) (by kernel_rfl) (by kernel_rfl) hb91 rfl fun a91 c91 xs91 hL91 => ?_)
                       refine Ok.bat 1 [1, 2, 5, 6, 14, 15, 16, 21, 22, 141, 142, 143] [(253, .slice a91 (([(e45.2, e48.2.1)] : List (Int × Int)) ++ e48.2.2).length c91), (254, pv bs21 2)] ?_
                       refine Ok.op rfl (OpOk.sto (k := 1) (v := .slice a91 (([(e45.2, e48.2.1)] : List (Int × Int)) ++ e48.2.2).length c91) 2 #[.bool true, .int .i64 (w6 ((w6 (e48.2.1 - (movS e45 xp).1)) + (movS e45 xp).2)), .slice a91 (([(e45.2, e48.2.1)] : List (Int × Int)) ++ e48.2.2).length c91] rfl rfl rfl ?_)
                       refine Ok.nil (Ok.thenN (Ok.region (Ok.bat 3 [1, 2, 5, 6, 14, 15, 21, 22, 141, 142, 143] [(255, .map (some b54)), (257, .int .i64 (w6 (x143l104 + 1)))] ?_)))
                       refine Ok.op rfl (OpOk.step (v := .agg #[.bool true, .int .i64 (w6 ((w6 (e48.2.1 - (movS e45 xp).1)) + (movS e45 xp).2)), .slice a91 (([(e45.2, e48.2.1)] : List (Int × Int)) ++ e48.2.2).length c91]) (Yields.loadAgg 2 3 #[.bool true, .int .i64 (w6 ((w6 (e48.2.1 - (movS e45 xp).1)) + (movS e45 xp).2)), .slice a91 (([(e45.2, e48.2.1)] : List (Int × Int)) ++ e48.2.2).length c91] rfl rfl Tryd.underlying52 rfl (by kernel_rfl) (by kernel_rfl) (by kernel_rfl)) rfl rfl (Ok.frz 0 rfl hL91 fun g92 hx92 hRf92 => ?_))
                       replace hLyown38_0l104 := hLyown38_0l104.mono hx92.1
                       replace hR2_3 := hR2_3.mono hx92.1
                       replace hM88 := hM88.mono hx92.1
                       replace hR47_2 := hR47_2.mono hx92.1
                       replace hR2_2 := hR2_2.mono hx92.1
                       replace hRxp_0 := hRxp_0.mono hx92.1
                       replace hRxp_1 := hRxp_1.mono hx92.1
                       replace hRxp_2 := hRxp_2.mono hx92.1
                       refine Ok.op rfl (OpOk.mapUpdateA (vt := .pair (.bool) (.pair (.int .i64) (.slice (.pair (.int .i64) (.int .i64))))) (row := true) (cells := [.bool true, .int .i64 (w6 ((w6 (e48.2.1 - (movS e45 xp).1)) + (movS e45 xp).2)), .slice a91 (([(e45.2, e48.2.1)] : List (Int × Int)) ++ e48.2.2).length c91]) (y := (true, w6 ((w6 (e48.2.1 - (movS e45 xp).1)) + (movS e45 xp).2), (([(e45.2, e48.2.1)] : List (Int × Int)) ++ e48.2.2))) keyInt 0 rfl hM88 rfl rfl rfl Tryd.underlying55 Tryd.underlying3 rfl ⟨[.bool true], [.int .i64 (w6 ((w6 (e48.2.1 - (movS e45 xp).1)) + (movS e45 xp).2)), .slice a91 (([(e45.2, e48.2.1)] : List (Int × Int)) ++ e48.2.2).length c91], rfl, rfl, ⟨[.int .i64 (w6 ((w6 (e48.2.1 - (movS e45 xp).1)) + (movS e45 xp).2))], [.slice a91 (([(e45.2, e48.2.1)] : List (Int × Int)) ++ e48.2.2).length c91], rfl, rfl, hRf92⟩⟩ fun es93 ck93 hM93 => ?_)
                       refine Ok.nil (Ok.blockN (Ok.thenN ?_))
                       exact fun a W hA hW => ⟨g92, (hxj163.trans hx92), es93, ck93, (putK (w6 (x143l104 + 1)) (true, w6 ((w6 (e48.2.1 - (movS e45 xp).1)) + (movS e45 xp).2), (([(e45.2, e48.2.1)] : List (Int × Int)) ++ e48.2.2)) (putK e45.2 (true, w6 (e48.2.1 + 1), e48.2.2) ([] : List ((Int) × (Bool × Int × List (Int × Int)))))), hM93, hA.sub (by kernel_rfl), hW.sub (.cons_cons _ (.cons _ (.cons _ (.cons _ (.cons_cons _ (.cons_cons _ (.cons_cons _ .slnil))))))), hF⟩
                     ·replace hF := hF.2 hc87
                      refine Ok.seq (Ok.region (Ok.bat 2 [1, 2, 5, 6, 14, 15, 16, 18, 21, 22, 141, 142, 143] [(259, .bool (e45.1 == 21))] ?_))
                      refine Ok.nil (Ok.thenN (Ok.cond (b := (e45.1 == 21)) rfl (fun hc94 => ?_) (fun hc94 => ?_)))
                      ·replace hF := hF.1 hc94
                       refine Ok.seq (Ok.seq (Ok.region (Ok.bat 1 [1, 2, 5, 6, 14, 15, 16, 18, 21, 22, 141, 142, 143] [(261, pv bs18 2)] ?_)))
                       refine Ok.op rfl (OpOk.step (v := .slice a47_2 e48.2.2.length c47_2) (Yields.load 2 rfl rfl Tryd.underlying50 rfl (by kernel_rfl)) rfl rfl (Ok.bat 2 [1, 2, 5, 6, 14, 15, 16, 18, 21, 22, 141, 142, 143] [(264, .bool ((e48.2.2.length : Int) == 0))] ?_))
                       refine Ok.nil (Ok.thenN (Ok.cond (b := ((e48.2.2.length : Int) == 0)) rfl (fun hc95 => ?_) (fun hc95 => ?_)))
                       ·replace hF := hF.1 hc95
                        refine Ok.seq (Ok.region (Ok.batch 1 [(4, .bool false)] (by kernel_rfl) (Ok.nil (Ok.thenN (Ok.ret (Ok.thenR (Ok.blockR (Ok.thenR (Ok.blockR (Ok.thenR (Ok.thenR (Ok.blockR (Ok.blockR (Ok.thenR (Ok.blockR (Ok.thenR ?_))))))))))))))))
                        exact Ok.resP (vs := [.bool false]) [] [] (by decide) rfl (.inl rfl) rfl (.cons (.tmp rfl) .nil) ((((hxj8.trans hxl21).trans hxl91).trans hxl104).trans hxj163) ⟨false, rfl, rfl, hF⟩
                       ·replace hF := hF.2 hc95
                        refine Ok.skip (Ok.thenN (Ok.seq (Ok.region (Ok.bat 1 [1, 2, 5, 6, 14, 15, 16, 21, 22, 141, 142, 143] [(265, pv bs18 2)] ?_))))
                        refine Ok.op rfl (OpOk.step (v := .slice a47_2 e48.2.2.length c47_2) (Yields.load 2 rfl rfl Tryd.underlying50 rfl (by kernel_rfl)) rfl rfl ?_)
                        obtain ⟨h096, h196, h296, hF⟩ := hF
                        refine Ok.op rfl (OpOk.sliceRo (e := .pair (.int .i64) (.int .i64)) (l := 1) (h := (e48.2.2.length : Int)) rfl Tryd.underlying50 (by kernel_rfl) (.inl ⟨_, _, rfl, rfl⟩) (.inr ⟨rfl, rfl⟩) hR47_2 h096 h196 h296 rfl (e48.2.2.drop (Int.toNat 1)) (by rw [show ((e48.2.2.length : Int)).toNat = e48.2.2.length from Int.toNat_natCast _, List.take_length]) fun a96 c96 hR96 => ?_)
                        refine Ok.bat 1 [1, 2, 5, 6, 14, 15, 16, 21, 22, 141, 142, 143] [(267, .slice a96 (e48.2.2.drop (Int.toNat 1)).length c96), (268, pv bs21 2)] ?_
                        refine Ok.op rfl (OpOk.sto (k := 1) (v := .slice a96 (e48.2.2.drop (Int.toNat 1)).length c96) 1 #[.bool true, .int .i64 (w6 ((w6 (e48.2.1 - (movS e45 xp).1)) + (movS e45 xp).2)), .slice a96 (e48.2.2.drop (Int.toNat 1)).length c96] rfl rfl rfl ?_)
                        refine Ok.nil (Ok.thenN (Ok.region (Ok.bat 3 [1, 2, 5, 6, 14, 15, 21, 22, 141, 142, 143] [(269, .map (some b54)), (271, .int .i64 (w6 (x143l104 + 1)))] ?_)))
                        refine Ok.op rfl (OpOk.step (v := .agg #[.bool true, .int .i64 (w6 ((w6 (e48.2.1 - (movS e45 xp).1)) + (movS e45 xp).2)), .slice a96 (e48.2.2.drop (Int.toNat 1)).length c96]) (Yields.loadAgg 1 3 #[.bool true, .int .i64 (w6 ((w6 (e48.2.1 - (movS e45 xp).1)) + (movS e45 xp).2)), .slice a96 (e48.2.2.drop (Int.toNat 1)).length c96] rfl rfl Tryd.underlying52 rfl (by kernel_rfl) (by kernel_rfl) (by kernel_rfl)) rfl rfl (Ok.op rfl (OpOk.mapUpdateA (vt := .pair (.bool) (.pair (.int .i64) (.slice (.pair (.int .i64) (.int .i64))))) (row := true) (cells := [.bool true, .int .i64 (w6 ((w6 (e48.2.1 - (movS e45 xp).1)) + (movS e45 xp).2)), .slice a96 (e48.2.2.drop (Int.toNat 1)).length c96]) (y := (true, w6 ((w6 (e48.2.1 - (movS e45 xp).1)) + (movS e45 xp).2), (e48.2.2.drop (Int.toNat 1)))) keyInt 0 rfl hM54 rfl rfl rfl Tryd.underlying55 Tryd.underlying3 rfl ⟨[.bool true], [.int .i64 (w6 ((w6 (e48.2.1 - (movS e45 xp).1)) + (movS e45 xp).2)), .slice a96 (e48.2.2.drop (Int.toNat 1)).length c96], rfl, rfl, ⟨[.int .i64 (w6 ((w6 (e48.2.1 - (movS e45 xp).1)) + (movS e45 xp).2))], [.slice a96 (e48.2.2.drop (Int.toNat 1)).length c96], rfl, rfl, hR96⟩⟩ fun es97 ck97 hM97 => ?_)))
                        refine Ok.nil (Ok.blockN (Ok.thenN ?_))
                        exact fun a W hA hW => ⟨gj163, hxj163, es97, ck97, (putK (w6 (x143l104 + 1)) (true, w6 ((w6 (e48.2.1 - (movS e45 xp).1)) + (movS e45 xp).2), (e48.2.2.drop (Int.toNat 1))) ([] : List ((Int) × (Bool × Int × List (Int × Int))))), hM97, hA.sub (by kernel_rfl), hW.sub (.cons_cons _ (.cons _ (.cons _ (.cons _ (.cons_cons _ (.cons_cons _ (.cons_cons _ .slnil))))))), hF⟩
                      ·replace hF := hF.2 hc94
                       refine Ok.region (Ok.bat 3 [1, 2, 5, 6, 14, 15, 21, 22, 141, 142, 143] [(177, .map (some b54)), (179, .int .i64 (w6 (x143l104 + 1)))] ?_)
                       refine Ok.op rfl (OpOk.step (v := .agg #[.bool true, .int .i64 (w6 ((w6 (e48.2.1 - (movS e45 xp).1)) + (movS e45 xp).2)), .slice a47_2 e48.2.2.length c47_2]) (Yields.loadAgg 1 3 #[.bool true, .int .i64 (w6 ((w6 (e48.2.1 - (movS e45 xp).1)) + (movS e45 xp).2)), .slice a47_2 e48.2.2.length c47_2] rfl rfl Tryd.underlying52 rfl (by kernel_rfl) (by kernel_rfl) (by kernel_rfl)) rfl rfl (Ok.op rfl (OpOk.mapUpdateA (vt := .pair (.bool) (.pair (.int .i64) (.slice (.pair (.int .i64) (.int .i64))))) (row := true) (cells := [.bool true, .int .i64 (w6 ((w6 (e48.2.1 - (movS e45 xp).1)) + (movS e45 xp).2)), .slice a47_2 e48.2.2.length c47_2]) (y := (true, w6 ((w6 (e48.2.1 - (movS e45 xp).1)) + (movS e45 xp).2), e48.2.2)) keyInt 0 rfl hM54 rfl rfl rfl Tryd.underlying55 Tryd.underlying3 rfl ⟨[.bool true], [.int .i64 (w6 ((w6 (e48.2.1 - (movS e45 xp).1)) + (movS e45 xp).2)), .slice a47_2 e48.2.2.length c47_2], rfl, rfl, ⟨[.int .i64 (w6 ((w6 (e48.2.1 - (movS e45 xp).1)) + (movS e45 xp).2))], [.slice a47_2 e48.2.2.length c47_2], rfl, rfl, hR47_2⟩⟩ fun es98 ck98 hM98 => ?_)))
                       refine Ok.nil (Ok.blockN (Ok.thenN ?_))
                       exact fun a W hA hW => ⟨gj163, hxj163, es98, ck98, (putK (w6 (x143l104 + 1)) (true, w6 ((w6 (e48.2.1 - (movS e45 xp).1)) + (movS e45 xp).2), e48.2.2) ([] : List ((Int) × (Bool × Int × List (Int × Int))))), hM98, hA.sub (by kernel_rfl), hW.sub (.cons_cons _ (.cons _ (.cons _ (.cons _ (.cons_cons _ (.cons_cons _ (.cons_cons _ .slnil))))))), hF⟩
              ·
               clear hF
               rintro a W ⟨gj137, hxj137, esyb54_0j137, ckyb54_0j137, yb54_0j137, hMyb54_0j137, hA, hW, hF⟩
               refine (?_ : Ok _ _ _ _ _ _) a W hA hW
               clear hA hW
               replace hLyown38_0l104 := hLyown38_0l104.mono hxj137.1
               replace hR2_3 := hR2_3.mono hxj137.1
               replace hR2_2 := hR2_2.mono hxj137.1
               replace hRxp_0 := hRxp_0.mono hxj137.1
               replace hRxp_1 := hRxp_1.mono hxj137.1
               replace hRxp_2 := hRxp_2.mono hxj137.1
               refine Ok.seq (Ok.region (Ok.bat 1 [1, 2, 5, 6, 14, 15, 141, 142, 143] [(273, .map (some b54))] ?_))
               refine Ok.op rfl (OpOk.range (vt := .pair (.bool) (.pair (.int .i64) (.slice (.pair (.int .i64) (.int .i64))))) (row := true) (kt := (Value.int .i64)) 0 rfl hMyb54_0j137 rfl Tryd.underlying55 rfl fun b55 o55 hI55 => ?_)
               refine Ok.nil (Ok.thenN (Ok.block ?_))
               obtain ⟨k, hF⟩ := hF
               refine Ok.loop (fun k a W => ∃ gl215 : Ghost, Gext w0 gj137 gl215 ∧ ∃ (x15l215 : Bool) (oyb55_0l215 : Obj) (yb55_0l215 : List ((Int) × (Bool × Int × List (Int × Int)))) (ayown38_0l215 : Option Addr) (cyown38_0l215 : Nat) (yown38_0l215 : List (Bool × Int × List (Int × Int))) (xsyown38_0l215 : List Value), IterIs gl215 (.pair (.bool) (.pair (.int .i64) (.slice (.pair (.int .i64) (.int .i64))))) true (Value.int .i64) b54 esyb54_0j137 ckyb54_0j137 oyb55_0l215 yb55_0l215 ∧ RepL gl215 (.pair (.bool) (.pair (.int .i64) (.slice (.pair (.int .i64) (.int .i64))))) xsyown38_0l215 yown38_0l215 ∧ StA 323 [(1, .int .i64 xown), (2, pv bs2 0), (5, pv bs5 0), (6, .int .i64 (e3.2.2.2.length : Int)), (14, .slice ayown38_0l215 yown38_0l215.length cyown38_0l215), (15, .bool x15l215), (141, .slice a2_3 e3.2.2.2.length c2_3), (142, .int .i64 (e3.2.2.2.length : Int)), (143, .int .i64 x143l104), (274, pv b55 0)] a ∧ StW w0 [.blk b55 oyb55_0l215, .blk b54 (.map esyb54_0j137 ckyb54_0j137), .own (.slice ayown38_0l215 yown38_0l215.length cyown38_0l215) 52 3 yown38_0l215.length xsyown38_0l215, .blk bs5 (.cells #[.int .i64 e3.1, .int .i64 e3.2.1, .slice a2_2 e3.2.2.1.length c2_2, .slice a2_3 e3.2.2.2.length c2_3] 33), .blk bs2 (.cells #[.slice axp_0 xp.1.length cxp_0, .slice axp_1 xp.2.1.length cxp_1, .slice axp_2 xp.2.2.length cxp_2] 26)] gl215 W ∧ fnrl215 K e3 x143l104 (fnrl104 xp xown K e3 (fnrl91 xp xown K e3 k91) k104) k x15l215 yb55_0l215 yown38_0l215) k ?_ ?_
               ·
                exact fun a W hA hW => ⟨gj137, (Gext.refl w0 gj137), x15l104, o55, yb54_0j137, ayown38_0l104, cyown38_0l104, yown38_0l104, xsyown38_0l104, hI55, hLyown38_0l104, hA.sub (by kernel_rfl), hW, hF⟩
               ·
                clear hF
                rintro k215 a W ⟨gl215, hxl215, x15l215, oyb55_0l215, yb55_0l215, ayown38_0l215, cyown38_0l215, yown38_0l215, xsyown38_0l215, hIyb55_0l215, hLyown38_0l215, hA, hW, hF⟩
                cases k215 with
                | zero => exact (hF : False).elim
                | succ k215 =>
                 refine (?_ : Ok _ _ _ _ _ _) a W hA hW
                 clear hA hW
                 replace hR2_3 := hR2_3.mono hxl215.1
                 replace hMyb54_0j137 := hMyb54_0j137.mono hxl215.1
                 replace hR2_2 := hR2_2.mono hxl215.1
                 replace hRxp_0 := hRxp_0.mono hxl215.1
                 replace hRxp_1 := hRxp_1.mono hxl215.1
                 replace hRxp_2 := hRxp_2.mono hxl215.1
                 refine Ok.seq (Ok.region (Ok.op rfl (OpOk.next (vt := .pair (.bool) (.pair (.int .i64) (.slice (.pair (.int .i64) (.int .i64))))) (row := true) (kt := (Value.int .i64)) 1 0 rfl rfl hMyb54_0j137 hIyb55_0l215 rfl rfl (fun hz56 => ?_) fun y56 r56 hs56 kv56 v56 o56 hk56 hC56 hI56 => ?_)))
                 ·replace hF := hF.1 hz56
                  refine Ok.bat 1 [1, 2, 5, 6, 14, 15, 141, 142, 143, 274] [(276, .bool false)] ?_
                  refine Ok.nil (Ok.thenN (Ok.seq (Ok.cond (b := false) rfl (fun h => by cases h) (fun _ => ?_))))
                  refine Ok.exit (Ok.thenE (Ok.thenE (Ok.blockHit (Ok.blockN (Ok.thenN (Ok.region (Ok.bat 2 [1, 2, 5, 6, 14, 15, 141, 142] [(143, .int .i64 (w6 (x143l104 + 1)))] ?_)))))))
                  refine Ok.nil (Ok.thenN ?_)
                  subst hg48
                  subst hg45
                  exact fun a W hA hW => ⟨k104, Nat.lt_succ_self _, gl215, ((hxl104.trans hxj137).trans hxl215), x15l215, w6 (x143l104 + 1), ayown38_0l215, cyown38_0l215, yown38_0l215, xsyown38_0l215, hLyown38_0l215, hA.sub (by kernel_rfl), hW.sub (.cons _ (.cons _ (.cons_cons _ (.cons_cons _ (.cons_cons _ .slnil))))), hF⟩
                 ·subst hk56
                  replace hF := hF.2 y56 r56 hs56
                  refine Ok.bat 1 [1, 2, 5, 6, 14, 15, 141, 142, 143, 274] [(276, .bool true)] ?_
                  refine Ok.nil (Ok.thenN (Ok.seq (Ok.cond (b := true) rfl (fun _ => ?_) (fun h => by cases h))))
                  refine Ok.skip (Ok.thenN (Ok.block (Ok.seq (Ok.region (Ok.op rfl (OpOk.entry (vt := .pair (.bool) (.pair (.int .i64) (.slice (.pair (.int .i64) (.int .i64))))) (row := true) (kt := (Value.int .i64)) 1 0 rfl rfl hMyb54_0j137 hC56 rfl rfl fun v57 cs57 hvi57 hr57 => ?_))))))
                  obtain ⟨_, _, rfl, rfl, ⟨_, _, rfl, rfl, ⟨a57_2, c57_2, rfl, hm57_2, hr57_2⟩⟩⟩ := hr57
                  have hvi57 : v57 = .agg #[.bool y56.2.1, .int .i64 y56.2.2.1, .slice a57_2 y56.2.2.2.length c57_2] := hvi57
                  subst hvi57
                  have hR57_2 : Rep gl215 (.slice (.pair (.int .i64) (.int .i64))) [.slice a57_2 y56.2.2.2.length c57_2] y56.2.2.2 := ⟨a57_2, c57_2, rfl, hm57_2, hr57_2⟩
                  refine Ok.bat 2 [1, 2, 5, 6, 14, 15, 141, 142, 143, 274] [(278, .int .i64 y56.1), (279, .agg #[.bool y56.2.1, .int .i64 y56.2.2.1, .slice a57_2 y56.2.2.2.length c57_2])] ?_
                  refine Ok.op rfl (OpOk.alloc (z := .agg #[.bool false, .int .i64 0, .slice none 0 0]) (cs := #[.bool false, .int .i64 0, .slice none 0 0]) (by kernel_rfl) (by kernel_rfl) rfl fun bs24 => ?_)
                  refine Ok.bat 1 [1, 2, 5, 6, 14, 15, 141, 142, 143, 274, 279] [(23, .int .i64 y56.1), (24, pv bs24 0)] ?_
                  refine Ok.op rfl (OpOk.sto (k := 3) (v := .agg #[.bool y56.2.1, .int .i64 y56.2.2.1, .slice a57_2 y56.2.2.2.length c57_2]) 0 #[.bool y56.2.1, .int .i64 y56.2.2.1, .slice a57_2 y56.2.2.2.length c57_2] rfl rfl rfl ?_)
                  refine Ok.nil (Ok.thenN (Ok.seq (Ok.seq (Ok.region (Ok.bat 3 [1, 2, 5, 6, 14, 15, 23, 24, 141, 142, 143, 274] [(282, .bool (decide (y56.1 ≥ (e3.2.2.2.length : Int))))] ?_)))))
                  refine Ok.nil (Ok.thenN (Ok.cond (b := decide (y56.1 ≥ (e3.2.2.2.length : Int))) rfl (fun hc59 => ?_) (fun hc59 => ?_)))
                  ·replace hF := hF.1 hc59
                   refine Ok.seq (Ok.region (Ok.batch 1 [(4, .bool false)] (by kernel_rfl) (Ok.nil (Ok.thenN (Ok.ret (Ok.thenR (Ok.blockR (Ok.thenR (Ok.blockR (Ok.blockR (Ok.thenR (Ok.thenR (Ok.blockR (Ok.blockR (Ok.thenR (Ok.blockR (Ok.thenR ?_)))))))))))))))))
                   exact Ok.resP (vs := [.bool false]) [] [] (by decide) rfl (.inl rfl) rfl (.cons (.tmp rfl) .nil) (((((hxj8.trans hxl21).trans hxl91).trans hxl104).trans hxj137).trans hxl215) ⟨false, rfl, rfl, hF⟩
                  ·replace hF := hF.2 hc59
                   refine Ok.skip (Ok.thenN (Ok.seq (Ok.cut (fun a W => ∃ gj234 : Ghost, Gext w0 gl215 gj234 ∧ StA 323 [(1, .int .i64 xown), (2, pv bs2 0), (5, pv bs5 0), (6, .int .i64 (e3.2.2.2.length : Int)), (14, .slice ayown38_0l215 yown38_0l215.length cyown38_0l215), (15, .bool x15l215), (23, .int .i64 y56.1), (24, pv bs24 0), (141, .slice a2_3 e3.2.2.2.length c2_3), (142, .int .i64 (e3.2.2.2.length : Int)), (143, .int .i64 x143l104), (274, pv b55 0), (308, .bool (fnrV11 yown38_0l215 y56))] a ∧ StW w0 [.blk bs24 (.cells #[.bool y56.2.1, .int .i64 y56.2.2.1, .slice a57_2 y56.2.2.2.length c57_2] 52), .blk b55 o56, .blk b54 (.map esyb54_0j137 ckyb54_0j137), .own (.slice ayown38_0l215 yown38_0l215.length cyown38_0l215) 52 3 yown38_0l215.length xsyown38_0l215, .blk bs5 (.cells #[.int .i64 e3.1, .int .i64 e3.2.1, .slice a2_2 e3.2.2.1.length c2_2, .slice a2_3 e3.2.2.2.length c2_3] 33), .blk bs2 (.cells #[.slice axp_0 xp.1.length cxp_0, .slice axp_1 xp.2.1.length cxp_1, .slice axp_2 xp.2.2.length cxp_2] 26)] gj234 W ∧ fnrj234 K x15l215 yown38_0l215 y56 r56 (fnrl215 K e3 x143l104 (fnrl104 xp xown K e3 (fnrl91 xp xown K e3 k91) k104) k215)) ?_ ?_)))
                   ·
                    refine Ok.quiet' (by kernel_rfl) (by kernel_rfl) (OkQ.bat 2 [1, 2, 5, 6, 14, 15, 23, 24, 141, 142, 143, 274] [(283, .slice ayown38_0l215 yown38_0l215.length cyown38_0l215), (284, .int .i64 y56.1)] ?_)
                    obtain ⟨h068, h168, hF⟩ := hF
                    have he68 := get_of (l := yown38_0l215) (default : Bool × Int × List (Int × Int)) h168
                    generalize hg68 : (yown38_0l215.getD (Int.toNat y56.1) default) = e68 at he68 hF ⊢
                    refine OkQ.op rfl (OpQ.indexOwn (e := .pair (.bool) (.pair (.int .i64) (.slice (.pair (.int .i64) (.int .i64))))) (q := y56.1) (el := e68) 3 rfl hLyown38_0l215 rfl rfl Tryd.underlying49 (by kernel_rfl) (by kernel_rfl) h068 he68 rfl fun cs67 _ hr67 hc67 => ?_)
                    obtain ⟨_, _, rfl, rfl, ⟨_, _, rfl, rfl, ⟨a67_2, c67_2, rfl, hm67_2, hr67_2⟩⟩⟩ := hr67
                    have hR67_2 : Rep gl215 (.slice (.pair (.int .i64) (.int .i64))) [.slice a67_2 e68.2.2.length c67_2] e68.2.2 := ⟨a67_2, c67_2, rfl, hm67_2, hr67_2⟩
                    replace hc67 : ∀ j v, ([.bool e68.1, .int .i64 e68.2.1, .slice a67_2 e68.2.2.length c67_2] : List Value)[j]? = some v → xsyown38_0l215[Int.toNat y56.1 * 3 + j]? = some v := hc67
                    refine OkQ.bat 1 [1, 2, 5, 6, 14, 15, 23, 24, 141, 142, 143, 274] [(286, .pointer (some ⟨ablk ayown38_0l215, Int.toNat y56.1 * 3, none⟩))] ?_
                    refine OkQ.op rfl (OpQ.step (v := .bool e68.1) (Yields.loadOwn 3 0 rfl hc67 rfl Tryd.underlying4 rfl (by kernel_rfl)) rfl rfl (OkQ.bat 1 [1, 2, 5, 6, 14, 15, 23, 24, 141, 142, 143, 274] [(288, .bool e68.1)] ?_))
                    refine OkQ.boolAt 288 (e68.1) rfl (fun hc69 => ?_) (fun hc69 => ?_)
                    ·replace hF := hF.1 hc69
                     refine OkQ.bat 2 [1, 2, 5, 6, 14, 15, 23, 24, 141, 142, 143, 274] [(288, .bool true), (289, .slice ayown38_0l215 yown38_0l215.length cyown38_0l215), (290, .int .i64 y56.1)] ?_
                     refine OkQ.opYes (j := 5) (d := 288) (want := true) (b := true) rfl (by kernel_rfl) (by kernel_rfl) rfl (OpQ.indexOwn (e := .pair (.bool) (.pair (.int .i64) (.slice (.pair (.int .i64) (.int .i64))))) (q := y56.1) (el := e68) 3 rfl hLyown38_0l215 rfl rfl Tryd.underlying49 (by kernel_rfl) (by kernel_rfl) h068 he68 rfl fun cs70 _ hr70 hc70 => ?_)
                     obtain ⟨_, _, rfl, rfl, ⟨_, _, rfl, rfl, ⟨a70_2, c70_2, rfl, hm70_2, hr70_2⟩⟩⟩ := hr70
                     have hR70_2 : Rep gl215 (.slice (.pair (.int .i64) (.int .i64))) [.slice a70_2 e68.2.2.length c70_2] e68.2.2 := ⟨a70_2, c70_2, rfl, hm70_2, hr70_2⟩
                     replace hc70 : ∀ j v, ([.bool e68.1, .int .i64 e68.2.1, .slice a70_2 e68.2.2.length c70_2] : List Value)[j]? = some v → xsyown38_0l215[Int.toNat y56.1 * 3 + j]? = some v := hc70
                     refine OkQ.bat 1 [1, 2, 5, 6, 14, 15, 23, 24, 141, 142, 143, 274, 288] [(292, .pointer (some ⟨ablk ayown38_0l215, Int.toNat y56.1 * 3 + 1, none⟩))] ?_
                     refine OkQ.opYes (j := 5) (d := 288) (want := true) (b := true) rfl (by kernel_rfl) (by kernel_rfl) rfl (OpQ.step (v := .int .i64 e68.2.1) (Yields.loadOwn 3 1 rfl hc70 rfl Tryd.underlying3 rfl (by kernel_rfl)) rfl rfl (OkQ.bat 1 [1, 2, 5, 6, 14, 15, 23, 24, 141, 142, 143, 274, 288] [(293, .int .i64 e68.2.1), (294, pv bs24 1)] ?_))
                     refine OkQ.opYes (j := 5) (d := 288) (want := true) (b := true) rfl (by kernel_rfl) (by kernel_rfl) rfl (OpQ.step (v := .int .i64 y56.2.2.1) (Yields.load 0 rfl rfl Tryd.underlying3 rfl (by kernel_rfl)) rfl rfl (OkQ.bat 2 [1, 2, 5, 6, 14, 15, 23, 24, 141, 142, 143, 274, 288] [(297, .bool (e68.2.1 != y56.2.2.1))] ?_))
                     refine OkQ.boolAt 297 ((e68.2.1 != y56.2.2.1)) rfl (fun hc71 => ?_) (fun hc71 => ?_)
                     ·replace hF := hF.1 hc71
                      refine OkQ.bat 11 [1, 2, 5, 6, 14, 15, 23, 24, 141, 142, 143, 274] [(308, .bool true)] ?_
                      refine OkQ.nil (Ok.thenN ?_)
                      subst hg68
                      refine Ok.reval 308 rfl (show (.bool true : Value) = .bool (fnrV11 yown38_0l215 y56) from congrArg (Value.bool) ((Eq.trans (mor_t hc71) (mand_t hc69)))) ?_
                      exact fun a W hA hW => ⟨gl215, (Gext.refl w0 gl215), hA.sub (by kernel_rfl), hW, hF⟩
                     ·replace hF := hF.2 hc71
                      refine OkQ.bat 2 [1, 2, 5, 6, 14, 15, 23, 24, 141, 142, 143, 274, 288] [(297, .bool false), (298, .slice ayown38_0l215 yown38_0l215.length cyown38_0l215), (299, .int .i64 y56.1)] ?_
                      refine OkQ.opYes (j := 14) (d := 297) (want := false) (b := false) rfl (by kernel_rfl) (by kernel_rfl) rfl (OpQ.indexOwn (e := .pair (.bool) (.pair (.int .i64) (.slice (.pair (.int .i64) (.int .i64))))) (q := y56.1) (el := e68) 3 rfl hLyown38_0l215 rfl rfl Tryd.underlying49 (by kernel_rfl) (by kernel_rfl) h068 he68 rfl fun cs72 _ hr72 hc72 => ?_)
                      obtain ⟨_, _, rfl, rfl, ⟨_, _, rfl, rfl, ⟨a72_2, c72_2, rfl, hm72_2, hr72_2⟩⟩⟩ := hr72
                      have hR72_2 : Rep gl215 (.slice (.pair (.int .i64) (.int .i64))) [.slice a72_2 e68.2.2.length c72_2] e68.2.2 := ⟨a72_2, c72_2, rfl, hm72_2, hr72_2⟩
                      replace hc72 : ∀ j v, ([.bool e68.1, .int .i64 e68.2.1, .slice a72_2 e68.2.2.length c72_2] : List Value)[j]? = some v → xsyown38_0l215[Int.toNat y56.1 * 3 + j]? = some v := hc72
                      refine OkQ.bat 1 [1, 2, 5, 6, 14, 15, 23, 24, 141, 142, 143, 274, 288, 297] [(301, .pointer (some ⟨ablk ayown38_0l215, Int.toNat y56.1 * 3 + 2, none⟩))] ?_
                      refine OkQ.opYes (j := 14) (d := 297) (want := false) (b := false) rfl (by kernel_rfl) (by kernel_rfl) rfl (OpQ.step (v := .slice a72_2 e68.2.2.length c72_2) (Yields.loadOwn 3 2 rfl hc72 rfl Tryd.underlying50 rfl (by kernel_rfl)) rfl rfl (OkQ.bat 1 [1, 2, 5, 6, 14, 15, 23, 24, 141, 142, 143, 274, 288, 297] [(302, .slice a72_2 e68.2.2.length c72_2), (303, pv bs24 2)] ?_))
                      refine OkQ.opYes (j := 14) (d := 297) (want := false) (b := false) rfl (by kernel_rfl) (by kernel_rfl) rfl (OpQ.step (v := .slice a57_2 y56.2.2.2.length c57_2) (Yields.load 0 rfl rfl Tryd.underlying50 rfl (by kernel_rfl)) rfl rfl ?_)
                      obtain ⟨hp73, hF⟩ := hF
                      refine OkQ.opYes (j := 14) (d := 297) (want := false) (b := false) rfl (by kernel_rfl) (by kernel_rfl) rfl (OpQ.callG (v := .bool (peqS e68.2.2 y56.2.2.2)) enr (fun W hW => peq_c e68.2.2 y56.2.2.2 (hR72_2.mono hW.sees) (hR57_2.mono hW.sees) hp73) rfl ?_)
                      refine OkQ.bat 3 [1, 2, 5, 6, 14, 15, 23, 24, 141, 142, 143, 274] [(308, .bool (!(peqS e68.2.2 y56.2.2.2)))] ?_
                      refine OkQ.nil (Ok.thenN ?_)
                      subst hg68
                      refine Ok.reval 308 rfl (show (.bool (!(peqS (yown38_0l215.getD (Int.toNat y56.1) default).2.2 y56.2.2.2)) : Value) = .bool (fnrV11 yown38_0l215 y56) from congrArg (Value.bool) ((Eq.trans (mor_f hc71) (mand_t hc69)))) ?_
                      exact fun a W hA hW => ⟨gl215, (Gext.refl w0 gl215), hA.sub (by kernel_rfl), hW, hF⟩
                    ·replace hF := hF.2 hc69
                     refine OkQ.bat 20 [1, 2, 5, 6, 14, 15, 23, 24, 141, 142, 143, 274] [(308, .bool false)] ?_
                     refine OkQ.nil (Ok.thenN ?_)
                     subst hg68
                     refine Ok.reval 308 rfl (show (.bool false : Value) = .bool (fnrV11 yown38_0l215 y56) from congrArg (Value.bool) (mand_f hc69)) ?_
                     exact fun a W hA hW => ⟨gl215, (Gext.refl w0 gl215), hA.sub (by kernel_rfl), hW, hF⟩
                   ·
                    clear hF
                    rintro a W ⟨gj234, hxj234, hA, hW, hF⟩
                    refine (?_ : Ok _ _ _ _ _ _) a W hA hW
                    clear hA hW
                    replace hLyown38_0l215 := hLyown38_0l215.mono hxj234.1
                    replace hR2_3 := hR2_3.mono hxj234.1
                    replace hR57_2 := hR57_2.mono hxj234.1
                    replace hI56 := hI56.mono hxj234.1
                    replace hC56 := hC56.mono hxj234.1
                    replace hMyb54_0j137 := hMyb54_0j137.mono hxj234.1
                    replace hR2_2 := hR2_2.mono hxj234.1
                    replace hRxp_0 := hRxp_0.mono hxj234.1
                    replace hRxp_1 := hRxp_1.mono hxj234.1
                    replace hRxp_2 := hRxp_2.mono hxj234.1
                    refine Ok.cond (b := (fnrV11 yown38_0l215 y56)) rfl (fun hc60 => ?_) (fun hc60 => ?_)
                    ·replace hF := hF.1 hc60
                     refine Ok.seq (Ok.region (Ok.batch 1 [(4, .bool false)] (by kernel_rfl) (Ok.nil (Ok.thenN (Ok.ret (Ok.thenR (Ok.blockR (Ok.thenR (Ok.blockR (Ok.blockR (Ok.thenR (Ok.thenR (Ok.blockR (Ok.blockR (Ok.thenR (Ok.blockR (Ok.thenR ?_)))))))))))))))))
                     exact Ok.resP (vs := [.bool false]) [] [] (by decide) rfl (.inl rfl) rfl (.cons (.tmp rfl) .nil) ((((((hxj8.trans hxl21).trans hxl91).trans hxl104).trans hxj137).trans hxl215).trans hxj234) ⟨false, rfl, rfl, hF⟩
                    ·replace hF := hF.2 hc60
                     refine Ok.skip (Ok.thenN (Ok.cut (fun a W => ∃ gj241 : Ghost, Gext w0 gj234 gj241 ∧ StA 323 [(1, .int .i64 xown), (2, pv bs2 0), (5, pv bs5 0), (6, .int .i64 (e3.2.2.2.length : Int)), (14, .slice ayown38_0l215 yown38_0l215.length cyown38_0l215), (15, .bool (fnrV12 x15l215 yown38_0l215 y56)), (23, .int .i64 y56.1), (24, pv bs24 0), (141, .slice a2_3 e3.2.2.2.length c2_3), (142, .int .i64 (e3.2.2.2.length : Int)), (143, .int .i64 x143l104), (274, pv b55 0)] a ∧ StW w0 [.blk bs24 (.cells #[.bool y56.2.1, .int .i64 y56.2.2.1, .slice a57_2 y56.2.2.2.length c57_2] 52), .blk b55 o56, .blk b54 (.map esyb54_0j137 ckyb54_0j137), .own (.slice ayown38_0l215 yown38_0l215.length cyown38_0l215) 52 3 yown38_0l215.length xsyown38_0l215, .blk bs5 (.cells #[.int .i64 e3.1, .int .i64 e3.2.1, .slice a2_2 e3.2.2.1.length c2_2, .slice a2_3 e3.2.2.2.length c2_3] 33), .blk bs2 (.cells #[.slice axp_0 xp.1.length cxp_0, .slice axp_1 xp.2.1.length cxp_1, .slice axp_2 xp.2.2.length cxp_2] 26)] gj241 W ∧ fnrj241 x15l215 yown38_0l215 y56 r56 (fnrl215 K e3 x143l104 (fnrl104 xp xown K e3 (fnrl91 xp xown K e3 k91) k104) k215)) ?_ ?_))
                     ·
                      refine Ok.region (Ok.bat 2 [1, 2, 5, 6, 14, 23, 24, 141, 142, 143, 274] [(310, .bool x15l215)] ?_)
                      refine Ok.boolAt 310 (x15l215) rfl (fun hc64 => ?_) (fun hc64 => ?_)
                      ·replace hF := hF.1 hc64
                       refine Ok.bat 8 [1, 2, 5, 6, 14, 23, 24, 141, 142, 143, 274] [(15, .bool true)] ?_
                       refine Ok.nil (Ok.thenN (Ok.reval 15 rfl (show (.bool true : Value) = .bool (fnrV12 x15l215 yown38_0l215 y56) from congrArg (Value.bool) (mor_t hc64)) ?_))
                       exact fun a W hA hW => ⟨gj234, (Gext.refl w0 gj234), hA.sub (by kernel_rfl), hW, hF⟩
                      ·replace hF := hF.2 hc64
                       refine Ok.bat 2 [1, 2, 5, 6, 14, 23, 24, 141, 142, 143, 274] [(310, .bool false), (311, .slice ayown38_0l215 yown38_0l215.length cyown38_0l215), (312, .int .i64 y56.1)] ?_
                       obtain ⟨h066, h166, hF⟩ := hF
                       have he66 := get_of (l := yown38_0l215) (default : Bool × Int × List (Int × Int)) h166
                       generalize hg66 : (yown38_0l215.getD (Int.toNat y56.1) default) = e66 at he66 hF ⊢
                       refine Ok.opYes (j := 1) (d := 310) (want := false) (b := false) rfl (by kernel_rfl) (by kernel_rfl) rfl (OpOk.indexOwn (e := .pair (.bool) (.pair (.int .i64) (.slice (.pair (.int .i64) (.int .i64))))) (q := y56.1) (el := e66) 3 rfl hLyown38_0l215 rfl rfl Tryd.underlying49 (by kernel_rfl) (by kernel_rfl) h066 he66 rfl fun cs65 _ hr65 hc65 => ?_)
                       obtain ⟨_, _, rfl, rfl, ⟨_, _, rfl, rfl, ⟨a65_2, c65_2, rfl, hm65_2, hr65_2⟩⟩⟩ := hr65
                       have hR65_2 : Rep gj234 (.slice (.pair (.int .i64) (.int .i64))) [.slice a65_2 e66.2.2.length c65_2] e66.2.2 := ⟨a65_2, c65_2, rfl, hm65_2, hr65_2⟩
                       replace hc65 : ∀ j v, ([.bool e66.1, .int .i64 e66.2.1, .slice a65_2 e66.2.2.length c65_2] : List Value)[j]? = some v → xsyown38_0l215[Int.toNat y56.1 * 3 + j]? = some v := hc65
                       refine Ok.bat 1 [1, 2, 5, 6, 14, 23, 24, 141, 142, 143, 274, 310] [(314, .pointer (some ⟨ablk ayown38_0l215, Int.toNat y56.1 * 3, none⟩))] ?_
                       refine Ok.opYes (j := 1) (d := 310) (want := false) (b := false) rfl (by kernel_rfl) (by kernel_rfl) rfl (OpOk.step (v := .bool e66.1) (Yields.loadOwn 3 0 rfl hc65 rfl Tryd.underlying4 rfl (by kernel_rfl)) rfl rfl (Ok.bat 3 [1, 2, 5, 6, 14, 23, 24, 141, 142, 143, 274] [(15, .bool (!e66.1))] ?_))
                       refine Ok.nil (Ok.thenN ?_)
                       subst hg66
                       refine Ok.reval 15 rfl (show (.bool (!(yown38_0l215.getD (Int.toNat y56.1) default).1) : Value) = .bool (fnrV12 x15l215 yown38_0l215 y56) from congrArg (Value.bool) (mor_f hc64)) ?_
                       exact fun a W hA hW => ⟨gj234, (Gext.refl w0 gj234), hA.sub (by kernel_rfl), hW, hF⟩
                     ·
                      clear hF
                      rintro a W ⟨gj241, hxj241, hA, hW, hF⟩
                      refine (?_ : Ok _ _ _ _ _ _) a W hA hW
                      clear hA hW
                      replace hLyown38_0l215 := hLyown38_0l215.mono hxj241.1
                      replace hR2_3 := hR2_3.mono hxj241.1
                      replace hR57_2 := hR57_2.mono hxj241.1
                      replace hI56 := hI56.mono hxj241.1
                      replace hC56 := hC56.mono hxj241.1
                      replace hMyb54_0j137 := hMyb54_0j137.mono hxj241.1
                      replace hR2_2 := hR2_2.mono hxj241.1
                      replace hRxp_0 := hRxp_0.mono hxj241.1
                      replace hRxp_1 := hRxp_1.mono hxj241.1
                      replace hRxp_2 := hRxp_2.mono hxj241.1
                      refine Ok.region (Ok.bat 2 [1, 2, 5, 6, 14, 15, 24, 141, 142, 143, 274] [(318, .slice ayown38_0l215 yown38_0l215.length cyown38_0l215), (319, .int .i64 y56.1)] ?_)
                      refine Ok.op rfl (OpOk.step (v := .agg #[.bool y56.2.1, .int .i64 y56.2.2.1, .slice a57_2 y56.2.2.2.length c57_2]) (Yields.loadAgg 0 3 #[.bool y56.2.1, .int .i64 y56.2.2.1, .slice a57_2 y56.2.2.2.length c57_2] rfl rfl Tryd.underlying52 rfl (by kernel_rfl) (by kernel_rfl) (by kernel_rfl)) rfl rfl ?_)
                      obtain ⟨h062, h162, hF⟩ := hF
                      have he62 := get_of (l := yown38_0l215) (default : Bool × Int × List (Int × Int)) h162
                      generalize hg62 : (yown38_0l215.getD (Int.toNat y56.1) default) = e62 at he62 hF ⊢
                      refine Ok.op rfl (OpOk.indexOwn (e := .pair (.bool) (.pair (.int .i64) (.slice (.pair (.int .i64) (.int .i64))))) (q := y56.1) (el := e62) 3 rfl hLyown38_0l215 rfl rfl Tryd.underlying49 (by kernel_rfl) (by kernel_rfl) h062 he62 rfl fun cs61 _ hr61 hc61 => ?_)
                      obtain ⟨_, _, rfl, rfl, ⟨_, _, rfl, rfl, ⟨a61_2, c61_2, rfl, hm61_2, hr61_2⟩⟩⟩ := hr61
                      have hR61_2 : Rep gj241 (.slice (.pair (.int .i64) (.int .i64))) [.slice a61_2 e62.2.2.length c61_2] e62.2.2 := ⟨a61_2, c61_2, rfl, hm61_2, hr61_2⟩
                      replace hc61 : ∀ j v, ([.bool e62.1, .int .i64 e62.2.1, .slice a61_2 e62.2.2.length c61_2] : List Value)[j]? = some v → xsyown38_0l215[Int.toNat y56.1 * 3 + j]? = some v := hc61
                      refine Ok.op rfl (OpOk.storeOwn (e := .pair (.bool) (.pair (.int .i64) (.slice (.pair (.int .i64) (.int .i64))))) (q := Int.toNat y56.1) (cells := [.bool e62.1, .int .i64 e62.2.1, .slice a61_2 e62.2.2.length c61_2]) (vs := [.bool y56.2.1, .int .i64 y56.2.2.1, .slice a57_2 y56.2.2.2.length c57_2]) (el' := y56.2) 3 0 3 rfl hLyown38_0l215 hc61 (by kernel_rfl) rfl rfl rfl (by kernel_rfl) (by kernel_rfl) (by kernel_rfl) (by kernel_rfl) (by kernel_rfl) (show Rep _ _ [.bool y56.2.1, .int .i64 y56.2.2.1, .slice a57_2 y56.2.2.2.length c57_2] _ from ⟨[.bool y56.2.1], [.int .i64 y56.2.2.1, .slice a57_2 y56.2.2.2.length c57_2], rfl, rfl, ⟨[.int .i64 y56.2.2.1], [.slice a57_2 y56.2.2.2.length c57_2], rfl, rfl, hR57_2⟩⟩) fun xs63 hL63 => ?_)
                      rw [show yown38_0l215.length = (yown38_0l215.set (Int.toNat y56.1) y56.2).length from (List.length_set ..).symm]
                      refine Ok.nil (Ok.blockN (Ok.thenN ?_))
                      subst hg62
                      exact fun a W hA hW => ⟨k215, Nat.lt_succ_self _, gj241, ((hxl215.trans hxj234).trans hxj241), (fnrV12 x15l215 yown38_0l215 y56), o56, r56, ayown38_0l215, cyown38_0l215, (yown38_0l215.set (Int.toNat y56.1) y56.2), xs63, hI56, hL63, hA.sub (by kernel_rfl), hW.sub (.cons _ (.cons_cons _ (.cons_cons _ (.cons_cons _ (.cons_cons _ (.cons_cons _ .slnil)))))), hF⟩
           ·replace hF := hF.2 hc43
            refine Ok.exit (Ok.thenE (Ok.thenE (Ok.blockHit (Ok.blockN (Ok.thenN ?_)))))
            exact fun a W hA hW => ⟨k91, Nat.lt_succ_self _, gl104, (hxl91.trans hxl104), x15l104, ayown38_0l104, cyown38_0l104, yown38_0l104, xsyown38_0l104, hLyown38_0l104, hA.sub (by kernel_rfl), hW, hF⟩
        ·replace hF := hF.2 hc42
         refine Ok.exit (Ok.thenE (Ok.thenE (Ok.blockHit (Ok.thenN (Ok.seq (Ok.region (Ok.batch 1 [(4, .bool true)] (by kernel_rfl) (Ok.nil (Ok.thenN (Ok.ret ?_))))))))))
         exact Ok.resP (vs := [.bool true]) [] [] (by decide) rfl (.inl rfl) rfl (.cons (.tmp rfl) .nil) ((hxj8.trans hxl21).trans hxl91) ⟨true, rfl, rfl, hF⟩
end
end Go.Proofs.YtanhbfhpnjjgcaaDoor.Cc
