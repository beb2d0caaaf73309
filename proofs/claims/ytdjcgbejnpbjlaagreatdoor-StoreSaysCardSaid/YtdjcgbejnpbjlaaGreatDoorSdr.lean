/- Store: the walks of Run and of the document answer so. -/
import Derived.Test.YtdjcgbejnpbjlaaGreatDoorSdq
namespace Go.Proofs.YtdjcgbejnpbjlaaGreatDoor.Sd
open Go Go.Eng Go.RowKit Bld Sp Ti Uc Ua Ui Ub
set_option linter.unusedVariables false
noncomputable section
def runS : List OP → List (Bt × DR) → List AN → List AN
 | [], _, out => out
 | o :: l, D, out => runS l (pS D o).2 (out ++ [(pS D o).1])
theorem all_run : ∀ (l : List OP) {n : Nat} {all : List KP} {D : List (Bt × DR)} (out : List AN), Rel n all D → allS l all out = runS l D out
 | [], _, _, _, _, _ => rfl
 | o :: l, n, all, D, out, h => by
  obtain ⟨h1, h2⟩ := step_ok h o
  show allS l (opS all o).2 (out ++ [(opS all o).1]) = runS l (pS D o).2 (out ++ [(pS D o).1])
  rw [h1]
  exact all_run l _ h2
theorem Rel.start : Rel 0 [] [] := ⟨Nat.le_refl _, fun g => DRel.nil⟩
def srnS (l : List OP) : List AN × Int := if (decide ((l.length : Int) > 100)) = true then ([], 2) else (runS l [] [], 0)
def srnP (l : List OP) : Prop := ∀ o ∈ l, txP o.2.2.1 ∧ txP o.2.2.2
theorem getD_in {α : Type} [Inhabited α] {l : List α} {k : Nat} (h : k < l.length) : l.getD k default ∈ l := by
 rw [List.getD_eq_getElem?_getD, List.getElem?_eq_getElem h]
 exact List.getElem_mem _
theorem srn_F (l : List OP) (hp : srnP l) : srnF l (fun a b => (a, b) = srnS l) := by
 refine ⟨fun h => by unfold srnS; rw [if_pos h], fun h => ?_⟩
 have hl : l.length ≤ 100 := by have := of_decide_eq_false h; omega
 have e : srnS l = (runS l [] [], 0) := by unfold srnS; rw [if_neg (by rw [h]; decide)]
 have loop : ∀ (k q : Nat) (out : List AN) (all : List KP) (D : List (Bt × DR)), q + k = l.length → out.length = q → Rel q all D → runS l [] [] = runS (l.drop q) D out → srnl19 l (fun a b => (a, b) = srnS l) (k + 1) (q : Int) out D := by
  intro k
  induction k with
  | zero =>
   intro q out all D hq ho hR he
   rw [List.drop_of_length_le (by omega)] at he
   exact ⟨fun h => (by have := of_decide_eq_true h; omega), fun _ => by rw [e, he]; rfl⟩
  | succ k ih =>
   intro q out all D hq ho hR he
   have hql : q < l.length := by omega
   rw [drop_get (l := l) default hql] at he
   obtain ⟨o, hoe⟩ : ∃ o, o = l.getD q default := ⟨_, rfl⟩
   have hx := hp o (by rw [hoe]; exact getD_in hql)
   rw [← hoe] at he
   have hlen : ∀ x : AN, (out ++ [x]).length ≤ 2513169434916 := fun x => by rw [List.length_append]; simp only [List.length_cons, List.length_nil]; omega
   have hR2 := (step_ok hR o).2
   have hnext : ∀ a D', (a, D') = pS D o → srnj26 (out ++ [a]) D' (q : Int) (srnl19 l (fun a b => (a, b) = srnS l) (k + 1)) := fun a D' ha => by
    unfold srnj26
    rw [w64 (by omega)]
    rw [← ha] at hR2
    refine ih (q + 1) _ _ D' (by omega) (by rw [List.length_append]; simp only [List.length_cons, List.length_nil]; omega) hR2 ?_
    rw [he]
    show runS (l.drop (q + 1)) (pS D o).2 (out ++ [(pS D o).1]) = _
    rw [← ha]
   refine ⟨fun _ => ⟨by omega, by omega, ?_⟩, fun h => by have := of_decide_eq_false h; omega⟩
   rw [Int.toNat_natCast, ← hoe]
   have hdr : drP (dOf D (OriS o.2.1).1) := (hR.at_ _).drP (by have := hR.len; have := List.length_filter_le (own (OriS o.2.1).1) all; unfold subOf; omega)
   refine ⟨fun h1 => ⟨hlen _, hnext _ _ ?_⟩, fun h1 => ⟨fun d hd => ?_, fun hd => ?_⟩⟩
   ·unfold pS; exact (if_pos h1).symm
   ·have ed : dOf D (OriS o.2.1).1 = d := by unfold dOf; rw [hd]; rfl
    rw [ed] at hdr
    refine ⟨⟨hdr, hx.1, hx.2⟩, hlen _, hnext _ _ ?_⟩
    unfold pS; rw [if_neg (by rw [h1]; decide), ed]
   ·have ed : dOf D (OriS o.2.1).1 = ([], [], 0) := by unfold dOf; rw [hd]; rfl
    rw [ed] at hdr
    refine ⟨⟨hdr, hx.1, hx.2⟩, hlen _, hnext _ _ ?_⟩
    unfold pS; rw [if_neg (by rw [h1]; decide), ed]
 exact ⟨_, loop l.length 0 [] [] [] (by omega) rfl Rel.start rfl⟩
section
variable {o : OP} {q : Nat} {out : List AN} {all : List KP} {C : Int → List AN → List KP → Prop}
/-- behind an op -/
def Hand (o : OP) (q : Nat) (out : List AN) (all : List KP) (C : Int → List AN → List KP → Prop) : Prop := C (w6 ((q : Int) + 1)) (out ++ [(opS all o).1]) (opS all o).2
theorem j32_ok (ho : out.length ≤ 1000) (ks : List Bt) (e : Int) (t : Bt) (b : Bool) (all' : List KP) (h : opS all o = ((e, t, b, ks), all')) (hH : Hand o q out all C) : rsaj32 ks e t b all' (q : Int) out C := by
 unfold Hand at hH
 rw [h] at hH
 exact ⟨by rw [List.length_append]; simp only [List.length_cons, List.length_nil]; omega, hH⟩
theorem keys_ok (hall : all.length ≤ 1000) (ho : out.length ≤ 1000) (h : opS all o = ((0, [], false, (all.filter (own (gOf o))).map (·.2.1)), all)) (hH : Hand o q out all C) : ∀ (k i : Nat) (ks : List Bt), i + k = all.length → ks = ((all.take i).filter (own (gOf o))).map (·.2.1) → rsal48 o (q : Int) out all C (k + 1) (i : Int) ks := by
 intro k
 induction k with
 | zero =>
  intro i ks hi hk
  rw [List.take_of_length_le (by omega)] at hk
  exact ⟨fun h => (by have := of_decide_eq_true h; omega), fun _ => j32_ok ho ks 0 [] false all (by rw [h, hk]) hH⟩
 | succ k ih =>
  intro i ks hi hk
  have hil : i < all.length := by omega
  have hkl : ks.length ≤ i := by
   rw [hk, List.length_map]
   have := List.length_filter_le (own (gOf o)) (all.take i)
   rw [List.length_take] at this; omega
  have e : ((all.take (i + 1)).filter (own (gOf o))).map (fun x => x.2.1) = if ((all.getD i default).1 == gOf o) = true then ks ++ [(all.getD i default).2.1] else ks := by
   rw [take_get (l := all) default hil, List.filter_append, List.map_append, ← hk]
   by_cases hb : own (gOf o) (all.getD i default) = true
   ·rw [List.filter_cons, if_pos hb, if_pos (show ((all.getD i default).1 == gOf o) = true from hb)]; rfl
   ·rw [List.filter_cons, if_neg hb, if_neg (show ¬((all.getD i default).1 == gOf o) = true from hb)]; simp
  refine ⟨fun _ => ⟨by omega, by omega, ?_⟩, fun h => by have := of_decide_eq_false h; omega⟩
  have hj : rsaj55 o (i : Int) ks all (rsal48 o (q : Int) out all C (k + 1)) := by
   unfold rsaj55
   rw [w64 (by omega)]
   refine ih (i + 1) _ (by omega) ?_
   rw [e]
   unfold rsaV43
   rw [Int.toNat_natCast]; rfl
  exact ⟨fun _ => ⟨by rw [List.length_append]; simp only [List.length_cons, List.length_nil]; omega, hj⟩, fun _ => hj⟩
theorem del_ok (hall : all.length ≤ 1000) (ho : out.length ≤ 1000) (h : opS all o = ((0, [], decide (((all.filter fun x => !(own (gOf o) x)).length : Int) < (all.length : Int)), []), all.filter fun x => !(own (gOf o) x))) (hH : Hand o q out all C) : ∃ k, rsal7x4 o (q : Int) out all C k 0 := by
 have hend : rsaji34 (q : Int) out all C (all.filter fun x => !(own (gOf o) x)) := by
  unfold rsaji34
  exact j32_ok ho _ _ _ _ _ h hH
 have comp : ∀ (k w0 j : Nat) (l : List KP), j + k = all.length → w0 ≤ j → l.length = all.length → l.drop j = all.drop j → l.take w0 = (all.take j).filter (fun x => !(own (gOf o) x)) → rsal17x3 o (q : Int) out all C (k + 1) (w0 : Int) (j : Int) l := by
  intro k
  induction k with
  | zero =>
   intro w0 j l hj hw hl hd ht
   refine ⟨fun h => by have := of_decide_eq_true h; omega, fun _ => ⟨by omega, by omega, Int.le_refl _, by omega, by omega, ?_, ?_⟩⟩
   ·rw [Int.toNat_natCast, ← clr_len _ _ _ (by omega)]; omega
   ·have e : ((clr l (Int.toNat (w0 : Int)) ((([] : Bt), ([] : Bt), ([] : Bt)) : KP)).take (Int.toNat (w0 : Int))) = all.filter fun x => !(own (gOf o) x) := by
     unfold clr
     rw [Int.toNat_natCast, List.take_append_of_le_length (by rw [List.length_take]; omega), List.take_take, Nat.min_self, ht, List.take_of_length_le (by omega)]
    show rsaji34 (q : Int) out all C ((clr l (Int.toNat (w0 : Int)) ((([] : Bt), ([] : Bt), ([] : Bt)) : KP)).take (Int.toNat (w0 : Int)))
    rw [e]; exact hend
  | succ k ih =>
   intro w0 j l hj hw hl hd ht
   have hx : l.getD j default = all.getD j default := by
    have := congrArg (fun z => z.head?) hd
    simp only [List.head?_drop] at this
    rw [List.getD_eq_getElem?_getD, List.getD_eq_getElem?_getD, this]
   have hd' : l.drop (j + 1) = all.drop (j + 1) := by rw [← List.drop_drop, ← List.drop_drop, hd]
   refine ⟨fun _ => ⟨by omega, by omega, ?_⟩, fun h => by have := of_decide_eq_false h; omega⟩
   rw [Int.toNat_natCast]
   refine ⟨fun h => ⟨by omega, by omega, ?_⟩, fun h => ?_⟩
   ·unfold rsaj24i159 rsaV54 rsaV55
    rw [Int.toNat_natCast, Int.toNat_natCast, if_pos h, if_pos h, w64 (by omega), w64 (by omega), hx]
    rw [hx] at h
    refine ih (w0 + 1) (j + 1) _ (by omega) (by omega) (by rw [List.length_set]; exact hl) ?_ ?_
    ·rw [List.drop_set_of_lt (by omega)]; exact hd'
    ·rw [take_get default (by rw [List.length_set]; omega), List.take_set_of_le (Nat.le_refl _), ht, take_get default (by omega), List.filter_append]
     congr 1
     rw [List.getD_eq_getElem?_getD, List.getElem?_set_self (by omega), Option.getD_some, List.filter_cons, if_pos (show (!(own (gOf o) (all.getD j default))) = true from h), List.filter_nil]
   ·unfold rsaj24i159 rsaV54 rsaV55
    rw [Int.toNat_natCast, Int.toNat_natCast, if_neg (by rw [h]; decide), if_neg (by rw [h]; decide), w64 (by omega)]
    rw [hx] at h
    refine ih w0 (j + 1) _ (by omega) (by omega) hl hd' ?_
    rw [take_get default (by omega), List.filter_append, ← ht, List.filter_cons, if_neg (show ¬(!(own (gOf o) (all.getD j default))) = true by rw [show (!(own (gOf o) (all.getD j default))) = false from h]; decide), List.filter_nil, List.append_nil]
 have find : ∀ (k i : Nat), i + k = all.length → (∀ j, j < i → own (gOf o) (all.getD j default) = false) → rsal7x4 o (q : Int) out all C (k + 1) (i : Int) := by
  intro k
  induction k with
  | zero =>
   intro i hi hj
   refine ⟨fun h => by have := of_decide_eq_true h; unfold kclS at this; omega, fun _ => ⟨fun _ => ?_, fun h => by simp at h⟩⟩
   have e : all.filter (fun x => !(own (gOf o) x)) = all := List.filter_eq_self.2 fun x hx => by
    obtain ⟨j, hj2, rfl⟩ := List.getElem_of_mem hx
    have := hj j (by omega)
    rw [List.getD_eq_getElem?_getD, List.getElem?_eq_getElem hj2, Option.getD_some] at this
    rw [this]; rfl
   rw [e] at hend
   exact hend
  | succ k ih =>
   intro i hi hj
   refine ⟨fun _ => ⟨by omega, by unfold kclS; omega, ?_⟩, fun h => by have := of_decide_eq_false h; unfold kclS at this; omega⟩
   unfold kclS
   rw [Int.toNat_natCast]
   refine ⟨fun h => ⟨fun h2 => by rw [beq_iff_eq] at h2; omega, fun _ => ⟨k + 1, ?_⟩⟩, fun h => ?_⟩
   ·unfold kclS
    rw [w64 (by omega)]
    refine comp k i (i + 1) all (by omega) (by omega) rfl rfl ?_
    rw [take_get default (by omega), List.filter_append, List.filter_cons, if_neg (show ¬(!(own (gOf o) (all.getD i default))) = true by rw [show own (gOf o) (all.getD i default) = true from h]; decide), List.filter_nil, List.append_nil]
    refine (List.filter_eq_self.2 fun x hx => ?_).symm
    obtain ⟨j, hj2, rfl⟩ := List.getElem_of_mem hx
    rw [List.length_take] at hj2
    have := hj j (by omega)
    rw [List.getD_eq_getElem?_getD, List.getElem?_eq_getElem (by omega), Option.getD_some] at this
    rw [List.getElem_take, this]; rfl
   ·rw [w64 (by omega)]
    refine ih (i + 1) (by omega) fun j hj2 => ?_
    by_cases hji : j = i
    ·subst hji; exact h
    ·exact hj j (by omega)
 exact ⟨_, find all.length 0 (by omega) fun j hj => by omega⟩
/-- the place as the code tells it -/
def ixI (r : Option Nat) : Int := match r with | some i => (i : Int) | none => -1
theorem next_eq (r : Option Nat) (h : ixS all o = r) (hk : 1 ≤ o.1 ∧ o.1 ≤ 3) (hi : ∀ i, r = some i → i < 1000) : rsaV38 o all (ixI r) = nextS all o ∧ rsaV37 all (ixI r) = (ansS all o).2.1 ∧ decide (ixI r ≥ 0) = (ansS all o).2.2.1 := by
 unfold rsaV38 rsaV37 nextS ansS
 rw [h]
 cases r with
 | none =>
  have hd : decide (ixI none ≥ 0) = false := by decide
  simp only [hd, Bool.and_false, Bool.false_eq_true, if_false]
  refine ⟨?_, trivial, trivial⟩
  by_cases h1 : o.1 = 1
  ·rw [if_pos (by rw [h1]; rfl), if_pos h1]; rfl
  ·rw [if_neg (by simpa using h1), if_neg h1]; rfl
 | some i =>
  have hd : decide (ixI (some i) ≥ 0) = true := by
   rw [decide_eq_true_eq]
   show (i : Int) ≥ 0
   omega
  have ht : Int.toNat (ixI (some i)) = i := rfl
  have hl := hi i rfl
  simp only [hd, Bool.and_true, if_true, ht]
  refine ⟨?_, trivial, trivial⟩
  by_cases h1 : o.1 = 1
  ·rw [if_pos (by rw [h1]; rfl), if_pos h1]; rfl
  ·rw [if_neg (by simpa using h1), if_neg (by simpa using h1), if_neg h1]
   by_cases h3 : o.1 = 3
   ·rw [if_pos (by rw [h3]; rfl), if_pos h3]
    have e : w6 (ixI (some i) + 1) = (i : Int) + 1 := by
     show w6 ((i : Int) + 1) = _
     exact w64 (by omega)
    unfold kdlS cutL kclS
    rw [ht, e]
    congr 2
   ·rw [if_neg (by simpa using h3), if_neg h3]; rfl
/-- the bytes that an origin would have -/
theorem sum_ok (hall : (nextS all o).length ≤ 1000) (ho : out.length ≤ 1000) {x37 : Int} (hV : rsaV38 o all x37 = nextS all o) (hb : sz ((nextS all o).filter (own (gOf o))) ≤ 4611686018427387904)
  (h1 : ((o.1 == 1) && decide (sz ((nextS all o).filter (own (gOf o))) > 400)) = true → rsaj32 [] 2 [] false all (q : Int) out C) (h2 : ((o.1 == 1) && decide (sz ((nextS all o).filter (own (gOf o))) > 400)) = false → rsaj32 [] 0 (rsaV37 all x37) (decide (x37 ≥ 0)) (rsaV38 o all x37) (q : Int) out C) :
  rsaj81 o (q : Int) out all C x37 := by
 obtain ⟨l, hl⟩ : ∃ l, l = nextS all o := ⟨_, rfl⟩
 rw [← hl] at hall hV hb h1 h2
 have loop : ∀ (k i : Nat), i + k = l.length → rsal102 o (q : Int) out all C x37 (k + 1) (sz ((l.take i).filter (own (gOf o)))) (i : Int) := by
  intro k
  induction k with
  | zero =>
   intro i hi
   rw [List.take_of_length_le (by omega)]
   refine ⟨fun h => (by have := of_decide_eq_true h; rw [hV] at this; omega), fun _ => ⟨h1, h2⟩⟩
  | succ k ih =>
   intro i hi
   have hil : i < l.length := by omega
   have e : sz ((l.take (i + 1)).filter (own (gOf o))) = if ((l.getD i default).1 == gOf o) = true then sz ((l.take i).filter (own (gOf o))) + (((l.getD i default).2.1.length : Int) + (l.getD i default).2.2.length) else sz ((l.take i).filter (own (gOf o))) := by
    rw [take_get (l := l) default hil, List.filter_append, sz_app]
    by_cases hb : own (gOf o) (l.getD i default) = true
    ·rw [List.filter_cons, if_pos hb, if_pos (show ((l.getD i default).1 == gOf o) = true from hb), List.filter_nil]
     show _ + ((((l.getD i default).2.1.length : Int) + (l.getD i default).2.2.length) + 0) = _
     omega
    ·rw [List.filter_cons, if_neg hb, if_neg (show ¬((l.getD i default).1 == gOf o) = true from hb), List.filter_nil]
     show _ + 0 = _
     omega
   have hle : sz ((l.take (i + 1)).filter (own (gOf o))) ≤ sz (l.filter (own (gOf o))) := by
    have := congrArg (fun z => sz (z.filter (own (gOf o)))) (List.take_append_drop (i + 1) l)
    simp only [List.filter_append, sz_app] at this
    have := sz_pos ((l.drop (i + 1)).filter (own (gOf o)))
    omega
   have hp := sz_pos ((l.take i).filter (own (gOf o)))
   have hj : rsaj109 o (sz ((l.take i).filter (own (gOf o)))) (i : Int) all x37 (rsal102 o (q : Int) out all C x37 (k + 1)) := by
    unfold rsaj109
    rw [w64 (x := (i : Int) + 1) (by omega)]
    have e2 : rsaV58 o (sz ((l.take i).filter (own (gOf o)))) (i : Int) all x37 = sz ((l.take (i + 1)).filter (own (gOf o))) := by
     rw [e]
     unfold rsaV58
     rw [hV, Int.toNat_natCast]
     by_cases hc : ((l.getD i default).1 == gOf o) = true
     ·rw [e, if_pos hc] at hle
      rw [if_pos hc, if_pos (show ((l.getD i default).1 == oriS (parS o.2.1).1) = true from hc)]
      rw [w64 (x := ((l.getD i default).2.1.length : Int) + _) (by omega), w64 (by omega)]
     ·rw [if_neg hc, if_neg (show ¬((l.getD i default).1 == oriS (parS o.2.1).1) = true from hc)]
    rw [e2]
    exact ih (i + 1) (by omega)
   exact ⟨fun _ => ⟨by omega, by rw [hV]; omega, fun _ => hj, fun _ => hj⟩, fun h => by have := of_decide_eq_false h; rw [hV] at this; omega⟩
 exact ⟨_, loop l.length 0 (by omega)⟩
theorem big_ok {n : Nat} {D : List (Bt × DR)} (hR : Rel n all D) (hx : txP o.2.2.1 ∧ txP o.2.2.2) : sz ((nextS all o).filter (own (gOf o))) ≤ 4611686018427387904 := by
 obtain ⟨h1, h2⟩ := hx
 unfold txP at h1 h2
 have hD := hR.at_ (gOf o)
 have hf := hD.few
 have hall : sz (all.filter (own (gOf o))) ≤ 4611686018427387904 := by unfold subOf at hf; omega
 rcases at_first (g := gOf o) (k := o.2.2.1) (v := o.2.2.2) hD.nd with ⟨a1, a2, a3⟩ | ⟨i, x, a0, a1, a2, a3, a4, a5, a6⟩
 ·have hix : ixS all o = none := a1
  unfold nextS; rw [hix]
  dsimp only
  split
  ·rw [List.filter_append, sz_app]
   have : [((gOf o, o.2.2.1, o.2.2.2) : KP)].filter (own (gOf o)) = [(gOf o, o.2.2.1, o.2.2.2)] := by rw [List.filter_cons, if_pos (show own (gOf o) (gOf o, o.2.2.1, o.2.2.2) = true from beq_self_eq_true (gOf o))]; rfl
   rw [this]
   show _ + (((o.2.2.1.length : Int) + o.2.2.2.length) + 0) ≤ _
   unfold subOf at hf
   omega
  ·exact hall
 ·have hix : ixS all o = some i := a1
  unfold nextS; rw [hix]
  subst a2
  dsimp only
  split
  ·rw [a5]
   have e : (all.map (newT (gOf o) o.2.2.1 o.2.2.2)).filter (own (gOf o)) = (subOf (gOf o) all).map (newT (gOf o) o.2.2.1 o.2.2.2) := sub_map (g2 := gOf o) all
   rw [e, sz_map own_hit hD.nd a4]
   omega
  ·split
   ·rw [a6]
    have e : (all.filter fun y => !(hit (gOf o) o.2.2.1 y)).filter (own (gOf o)) = (subOf (gOf o) all).filter fun y => !(isK o.2.2.1 y) := by
     show subOf (gOf o) (all.filter fun y => !(hit (gOf o) o.2.2.1 y)) = _
     rw [sub_filter]
     exact List.filter_congr fun y hy => by rw [own_hit y hy]
    rw [e, sz_del hD.nd a4]
    omega
   ·exact hall
theorem next_len : (nextS all o).length ≤ all.length + 1 := by
 unfold nextS
 split
 ·split
  ·rw [List.length_set]; omega
  ·split
   ·rw [List.length_append, List.length_take, List.length_drop]; omega
   ·omega
 ·split
  ·rw [List.length_append]; simp only [List.length_cons, List.length_nil]; omega
  ·omega
theorem op_one {n : Nat} {D : List (Bt × DR)} (hR : Rel n all D) (hn : n ≤ 500) (ho : out.length ≤ 500) (hx : txP o.2.2.1 ∧ txP o.2.2.2) (r : Option Nat) (hr : ixS all o = r) (hi : ∀ i, r = some i → i < all.length) (hH : Hand o q out all C) : rsaji28 o (q : Int) out all C (ixI r) := by
 have hlen := hR.len
 refine ⟨fun he => j32_ok (by omega) _ _ _ _ _ (by unfold opS; exact if_pos he) hH, fun he => ⟨fun hb => j32_ok (by omega) _ _ _ _ _ ?_ hH, fun hb => ⟨fun h5 => ?_, fun h5 => ⟨fun h4 => ⟨?_, del_ok (by omega) (by omega) ?_ hH⟩, fun h4 => ?_⟩⟩⟩⟩
 ·unfold opS; rw [if_neg (by rw [he]; decide)]; exact if_pos hb
 ·have e : opS all o = ((0, [], false, (all.filter (own (gOf o))).map (·.2.1)), all) := by
   unfold opS; rw [if_neg (by rw [he]; decide), if_neg (by rw [hb]; decide)]; exact if_pos h5
  exact ⟨_, keys_ok (by omega) (by omega) e hH all.length 0 [] (by omega) rfl⟩
 ·unfold kclP; omega
 ·unfold opS; rw [if_neg (by rw [he]; decide), if_neg (by rw [hb]; decide), if_neg (by rw [h5]; decide)]; exact if_pos h4
 ·have e : opS all o = if ((o.1 == 1) && decide (sz ((nextS all o).filter (own (gOf o))) > 400)) = true then ((2, [], false, []), all) else (ansS all o, nextS all o) := by
   unfold opS; rw [if_neg (by rw [he]; decide), if_neg (by rw [hb]; decide), if_neg (by rw [h5]; decide), if_neg (by rw [h4]; decide)]
  have hk : 1 ≤ o.1 ∧ o.1 ≤ 3 := by
   have hb : rbtM o.1 1 5 = true := by simpa using hb
   unfold rbtM at hb
   rw [Bool.and_eq_true, decide_eq_true_eq, decide_eq_true_eq] at hb
   have h4 : ¬ o.1 = 4 := by simpa using h4
   have h5 : ¬ o.1 = 5 := by simpa using h5
   omega
  obtain ⟨v1, v2, v3⟩ := next_eq r hr hk fun i hi2 => by have := hi i hi2; omega
  have hnl := next_len (o := o) (all := all)
  have h81 : rsaj81 o (q : Int) out all C (ixI r) := by
   refine sum_ok (by omega) (by omega) v1 (big_ok hR hx) (fun h => j32_ok (by omega) _ _ _ _ _ (by rw [e]; exact if_pos h) hH) fun h => j32_ok (by omega) _ _ _ _ _ ?_ hH
   rw [e, if_neg (by rw [h]; decide), v1, v2, v3]
   unfold ansS
   split <;> rfl
  have h0 : decide (ixI r ≥ 0) = true → (0 : Int) ≤ ixI r ∧ Int.toNat (ixI r) < all.length := fun h => by
   cases r with
   | none => cases h
   | some i => have := hi i rfl; exact ⟨by show (0 : Int) ≤ (i : Int); omega, this⟩
  have h73 : rsaj73 o (q : Int) out all C (ixI r) := by
   refine ⟨by unfold kclP; omega, fun h => ?_, fun h => ⟨fun h1 => ⟨?_, h81⟩, fun h1 => ⟨fun h3 => ⟨?_, h81⟩, fun _ => h81⟩⟩⟩
   ·rw [Bool.and_eq_true] at h
    obtain ⟨z1, z2⟩ := h0 h.2
    exact ⟨z1, z2, h81⟩
   ·unfold kclS; rw [List.length_append]; simp only [List.length_cons, List.length_nil]; omega
   ·rw [Bool.and_eq_true] at h3
    obtain ⟨z1, z2⟩ := h0 h3.2
    unfold kdlP kclS
    rw [w64 (by omega)]
    exact ⟨z1, by omega, by omega, by omega⟩
  exact ⟨fun h => ⟨(h0 h).1, (h0 h).2, h73⟩, fun _ => h73⟩
theorem find_one {n : Nat} {D : List (Bt × DR)} (hR : Rel n all D) (hn : n ≤ 500) (ho : out.length ≤ 500) (hx : txP o.2.2.1 ∧ txP o.2.2.2) (hH : Hand o q out all C) : ∃ k, rsal7x6 o (q : Int) out all C k 0 := by
 have hlen := hR.len
 have find : ∀ (k i : Nat), i + k = all.length → (∀ j, j < i → hit (gOf o) o.2.2.1 (all.getD j default) = false) → rsal7x6 o (q : Int) out all C (k + 1) (i : Int) := by
  intro k
  induction k with
  | zero =>
   intro i hi hj
   refine ⟨fun h => (by have := of_decide_eq_true h; omega), fun _ => op_one hR hn ho hx none ?_ (fun i h => by cases h) hH⟩
   unfold ixS
   rw [List.findIdx?_eq_none_iff]
   intro x hx2
   obtain ⟨j, hj2, rfl⟩ := List.getElem_of_mem hx2
   have := hj j (by omega)
   rw [List.getD_eq_getElem?_getD, List.getElem?_eq_getElem hj2, Option.getD_some] at this
   exact this
  | succ k ih =>
   intro i hi hj
   have hil : i < all.length := by omega
   refine ⟨fun _ => ⟨by omega, by omega, ?_⟩, fun h => by have := of_decide_eq_false h; omega⟩
   rw [Int.toNat_natCast]
   have h3 : rsaj3i37i16 o (i : Int) (q : Int) out all C (all.getD i default) (rsal7x6 o (q : Int) out all C (k + 1)) := by
    refine ⟨fun h => op_one hR hn ho hx (some i) ?_ (fun j h => by cases h; exact hil) hH, fun h => ?_⟩
    ·unfold ixS
     rw [List.findIdx?_eq_some_iff_getElem]
     refine ⟨hil, ?_, fun j hji => ?_⟩
     ·have h : hit (gOf o) o.2.2.1 (all.getD i default) = true := h
      rw [List.getD_eq_getElem?_getD, List.getElem?_eq_getElem hil, Option.getD_some] at h
      exact h
     ·have := hj j hji
      rw [List.getD_eq_getElem?_getD, List.getElem?_eq_getElem (by omega), Option.getD_some] at this
      rw [this]; decide
    ·rw [w64 (by omega)]
     refine ih (i + 1) (by omega) fun j hj2 => ?_
     by_cases hji : j = i
     ·subst hji; exact h
     ·exact hj j (by omega)
   exact ⟨fun _ => h3, fun _ => h3⟩
 exact ⟨_, find all.length 0 (by omega) fun j hj => by omega⟩
end
theorem rsa_F (l : List OP) (hp : rsaP l) : rsaF l (fun a => a = rsaS l) := by
 obtain ⟨hl, hp⟩ := hp
 have loop : ∀ (k q : Nat) (out : List AN) (all : List KP) (D : List (Bt × DR)), q + k = l.length → out.length = q → Rel q all D → rsaS l = allS (l.drop q) all out → rsal11 l (fun a => a = rsaS l) (k + 1) (q : Int) out all := by
  intro k
  induction k with
  | zero =>
   intro q out all D hq ho hR he
   rw [List.drop_of_length_le (by omega)] at he
   exact ⟨fun h => (by have := of_decide_eq_true h; omega), fun _ => he.symm⟩
  | succ k ih =>
   intro q out all D hq ho hR he
   have hql : q < l.length := by omega
   rw [drop_get (l := l) default hql] at he
   obtain ⟨o, hoe⟩ : ∃ o, o = l.getD q default := ⟨_, rfl⟩
   have hx := hp o (by rw [hoe]; exact getD_in hql)
   rw [← hoe] at he
   refine ⟨fun _ => ⟨by omega, by omega, par_ori _, ?_⟩, fun h => by have := of_decide_eq_false h; omega⟩
   rw [Int.toNat_natCast, ← hoe]
   refine find_one hR (by omega) (by omega) hx ?_
   unfold Hand
   rw [w64 (by omega)]
   exact ih (q + 1) _ _ _ (by omega) (by rw [List.length_append]; simp only [List.length_cons, List.length_nil]; omega) (step_ok hR o).2 he
 exact ⟨_, loop l.length 0 [] [] [] (by omega) rfl Rel.start rfl⟩
end
end Go.Proofs.YtdjcgbejnpbjlaaGreatDoor.Sd
