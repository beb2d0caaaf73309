/- Events: the law. -/
import Derived.Test.YtbifbljdmndjbaaDoorEvd
namespace Go.Proofs.YtbifbljdmndjbaaDoor.Ev
open Go Go.Eng Go.RowKit Do
set_option maxHeartbeats 4000000
set_option maxRecDepth 100000
set_option linter.unusedSimpArgs false
set_option linter.unusedVariables false
noncomputable section
theorem rse_inA (d : DC) (l : List LI) (e : EV) (hll : l.length ≤ 60) (hw : (epaS d e.2.1).1.length ≤ 41) (j : Nat) (hj : j < (epaS d e.2.1).1.length) (C : Int → Bool → Bool → List Int → List HD → Prop) : ∀ (q i : Nat) (s : RS), i + q = l.length → s.2.2.1.length + q ≤ 100000 → s.2.2.2.length + q ≤ 100000 →
  rseji51 (j : Int) C (atR e (fstp (epaS d e.2.1).1 j) (l.drop i) s).1 (atR e (fstp (epaS d e.2.1).1 j) (l.drop i) s).2.1 (atR e (fstp (epaS d e.2.1).1 j) (l.drop i) s).2.2.1 (atR e (fstp (epaS d e.2.1).1 j) (l.drop i) s).2.2.2 → rsel16x4 d l e (j : Int) C (q + 1) (i : Int) s.1 s.2.1 s.2.2.1 s.2.2.2 := by
 intro q
 induction q with
 | zero =>
  intro i s hi h1 h2 hC
  rw [List.drop_of_length_le (by omega)] at hC
  exact ⟨fun h => by have := of_decide_eq_true h; omega, fun _ => hC⟩
 | succ q ih =>
  intro i s hi h1 h2 hC
  have hil : i < l.length := by omega
  rw [drop_get default hil, atR] at hC
  have hwr : w6 (((epaS d e.2.1).1.length : Int) - 1) = ((epaS d e.2.1).1.length : Int) - 1 := w64 (by omega)
  have hm : rseV61 e (l.getD (Int.toNat (i : Int)) default) ((epaS d e.2.1).1.getD (Int.toNat (j : Int)) default) = !(hitP e (fstp (epaS d e.2.1).1 j) (l.getD i default)) := by
   show (((l.getD i default).2.1 != _) || ((!((l.getD i default).2.2.1 == e.1)) || (!((l.getD i default).2.2.2.1 == true)))) = !(((l.getD i default).2.1 == _) && (((l.getD i default).2.2.1 == e.1) && ((l.getD i default).2.2.2.1 == true)))
   rw [Bool.not_and, Bool.not_and]; rfl
  have hm2 : rseV128 d e (j : Int) (l.getD (Int.toNat (i : Int)) default) = !(hitP e (fstp (epaS d e.2.1).1 j) (l.getD i default)) := hm
  have hph : rseV12 d e (j : Int) = (fstp (epaS d e.2.1).1 j).2.1 := by
   unfold rseV12; rw [hwr]; rfl
  have hn : ∀ s' : RS, rseV124 d l e (i : Int) (j : Int) s.1 = s'.1 → rseV125 d l e (i : Int) (j : Int) s.2.1 = s'.2.1 → rseV126 d l e (i : Int) (j : Int) s.2.2.1 = s'.2.2.1 → rseV127 d l e (i : Int) (j : Int) s.2.2.2 = s'.2.2.2 → s'.2.2.1.length ≤ s.2.2.1.length + 1 → s'.2.2.2.length ≤ s.2.2.2.length + 1 → rseji51 (j : Int) C (atR e (fstp (epaS d e.2.1).1 j) (l.drop (i + 1)) s').1 (atR e (fstp (epaS d e.2.1).1 j) (l.drop (i + 1)) s').2.1 (atR e (fstp (epaS d e.2.1).1 j) (l.drop (i + 1)) s').2.2.1 (atR e (fstp (epaS d e.2.1).1 j) (l.drop (i + 1)) s').2.2.2 → rsel16x4 d l e (j : Int) C (q + 1) (w6 ((i : Int) + 1)) (rseV124 d l e (i : Int) (j : Int) s.1) (rseV125 d l e (i : Int) (j : Int) s.2.1) (rseV126 d l e (i : Int) (j : Int) s.2.2.1) (rseV127 d l e (i : Int) (j : Int) s.2.2.2) := by
   intro s' e1 e2 e3 e4 l1 l2 hC
   rw [e1, e2, e3, e4, w64 (by omega)]
   exact ih (i + 1) s' (by omega) (by omega) (by omega) hC
  cases hh : hitP e (fstp (epaS d e.2.1).1 j) (l.getD i default) with
  | false =>
   rw [hh] at hm hm2 hC
   rw [if_f rfl] at hC
   have j28 := fun (h : rseV128 d e (j : Int) (l.getD (Int.toNat (i : Int)) default) = true) => hn s (by unfold rseV124; rw [hm]; rfl) (by unfold rseV125; rw [hm]; rfl) (by unfold rseV126; rw [hm]; rfl) (by unfold rseV127; rw [hm]; rfl) (by omega) (by omega) hC
   refine ⟨fun _ => ⟨by omega, by omega, by omega, by omega, ?_⟩, fun h => by have := of_decide_eq_false h; omega⟩
   exact ⟨fun _ => ⟨j28, (fun h => by rw [hm2] at h; cases h)⟩, fun _ => two ⟨j28, (fun h => by rw [hm2] at h; cases h)⟩⟩
  | true =>
   rw [hh] at hm hm2 hC
   rw [if_t rfl] at hC
   have j43 : rsej43i130 d l e (i : Int) (j : Int) (l.getD (Int.toNat (i : Int)) default) s.1 s.2.1 s.2.2.1 s.2.2.2 C (rsel16x4 d l e (j : Int) C (q + 1)) := by
    refine ⟨fun h => ?_, fun h => ?_⟩
    ·rw [Int.toNat_natCast] at h
     rw [if_t h] at hC
     show rseji51 (j : Int) C _ _ _ _
     rw [hph]
     exact hC
    ·rw [Int.toNat_natCast] at h
     rw [if_f h] at hC
     exact hn (hearR e (fstp (epaS d e.2.1).1 j) s (l.getD i default)) (by unfold rseV124; rw [hm]; rfl) (by unfold rseV125; rw [hm]; rfl) (by unfold rseV126; rw [hm]; rfl) (by unfold rseV127; rw [hm, hph]; rfl) (by unfold hearR; simp only []; split <;> simp) (by unfold hearR; simp) hC
   refine ⟨fun _ => ⟨by omega, by omega, by omega, by omega, ?_⟩, fun h => by have := of_decide_eq_false h; omega⟩
   have j28 := (show rsej28i130 d l e (i : Int) (j : Int) (l.getD (Int.toNat (i : Int)) default) s.1 s.2.1 s.2.2.1 s.2.2.2 C (rsel16x4 d l e (j : Int) C (q + 1)) from ⟨(fun h => by rw [hm2] at h; cases h), fun _ => ⟨by rw [List.length_append, List.length_singleton]; omega, tri ⟨fun _ => ⟨by rw [List.length_append, List.length_singleton]; omega, tri j43⟩, fun _ => tri j43⟩⟩⟩)
   exact ⟨fun _ => j28, fun _ => two j28⟩
theorem rse_inB (d : DC) (l : List LI) (e : EV) (hll : l.length ≤ 60) (hw : (epaS d e.2.1).1.length ≤ 41) (j : Nat) (hj : j < (epaS d e.2.1).1.length) (C : Int → Bool → Bool → List Int → List HD → Prop) : ∀ (q i : Nat) (s : RS), i + q = l.length → s.2.2.1.length + q ≤ 100000 → s.2.2.2.length + q ≤ 100000 →
  rseji60 (j : Int) C (atR e (bstp (epaS d e.2.1).1 j) (l.drop i) s).1 (atR e (bstp (epaS d e.2.1).1 j) (l.drop i) s).2.1 (atR e (bstp (epaS d e.2.1).1 j) (l.drop i) s).2.2.1 (atR e (bstp (epaS d e.2.1).1 j) (l.drop i) s).2.2.2 → rsel16x6 d l e (j : Int) C (q + 1) (i : Int) s.1 s.2.1 s.2.2.1 s.2.2.2 := by
 intro q
 induction q with
 | zero =>
  intro i s hi h1 h2 hC
  rw [List.drop_of_length_le (by omega)] at hC
  exact ⟨fun h => by have := of_decide_eq_true h; omega, fun _ => hC⟩
 | succ q ih =>
  intro i s hi h1 h2 hC
  have hil : i < l.length := by omega
  rw [drop_get default hil, atR] at hC
  have hwr : w6 (((epaS d e.2.1).1.length : Int) - 1) = ((epaS d e.2.1).1.length : Int) - 1 := w64 (by omega)
  have hm : rseV129 e (l.getD (Int.toNat (i : Int)) default) ((epaS d e.2.1).1.getD (Int.toNat (j : Int)) default) = !(hitP e (bstp (epaS d e.2.1).1 j) (l.getD i default)) := by
   show (((l.getD i default).2.1 != _) || ((!((l.getD i default).2.2.1 == e.1)) || (!((l.getD i default).2.2.2.1 == false)))) = !(((l.getD i default).2.1 == _) && (((l.getD i default).2.2.1 == e.1) && ((l.getD i default).2.2.2.1 == false)))
   rw [Bool.not_and, Bool.not_and]; rfl
  have hm2 : rseV187 d e (j : Int) (l.getD (Int.toNat (i : Int)) default) = !(hitP e (bstp (epaS d e.2.1).1 j) (l.getD i default)) := hm
  have hph : rseV48 d e (j : Int) = (bstp (epaS d e.2.1).1 j).2.1 := by
   unfold rseV48; rw [hwr]; rfl
  have hn : ∀ s' : RS, rseV183 d l e (i : Int) (j : Int) s.1 = s'.1 → rseV184 d l e (i : Int) (j : Int) s.2.1 = s'.2.1 → rseV185 d l e (i : Int) (j : Int) s.2.2.1 = s'.2.2.1 → rseV186 d l e (i : Int) (j : Int) s.2.2.2 = s'.2.2.2 → s'.2.2.1.length ≤ s.2.2.1.length + 1 → s'.2.2.2.length ≤ s.2.2.2.length + 1 → rseji60 (j : Int) C (atR e (bstp (epaS d e.2.1).1 j) (l.drop (i + 1)) s').1 (atR e (bstp (epaS d e.2.1).1 j) (l.drop (i + 1)) s').2.1 (atR e (bstp (epaS d e.2.1).1 j) (l.drop (i + 1)) s').2.2.1 (atR e (bstp (epaS d e.2.1).1 j) (l.drop (i + 1)) s').2.2.2 → rsel16x6 d l e (j : Int) C (q + 1) (w6 ((i : Int) + 1)) (rseV183 d l e (i : Int) (j : Int) s.1) (rseV184 d l e (i : Int) (j : Int) s.2.1) (rseV185 d l e (i : Int) (j : Int) s.2.2.1) (rseV186 d l e (i : Int) (j : Int) s.2.2.2) := by
   intro s' e1 e2 e3 e4 l1 l2 hC
   rw [e1, e2, e3, e4, w64 (by omega)]
   exact ih (i + 1) s' (by omega) (by omega) (by omega) hC
  cases hh : hitP e (bstp (epaS d e.2.1).1 j) (l.getD i default) with
  | false =>
   rw [hh] at hm hm2 hC
   rw [if_f rfl] at hC
   have j28 := fun (h : rseV187 d e (j : Int) (l.getD (Int.toNat (i : Int)) default) = true) => hn s (by unfold rseV183; rw [hm]; rfl) (by unfold rseV184; rw [hm]; rfl) (by unfold rseV185; rw [hm]; rfl) (by unfold rseV186; rw [hm]; rfl) (by omega) (by omega) hC
   refine ⟨fun _ => ⟨by omega, by omega, by omega, by omega, ?_⟩, fun h => by have := of_decide_eq_false h; omega⟩
   exact ⟨fun _ => ⟨j28, (fun h => by rw [hm2] at h; cases h)⟩, fun _ => two ⟨j28, (fun h => by rw [hm2] at h; cases h)⟩⟩
  | true =>
   rw [hh] at hm hm2 hC
   rw [if_t rfl] at hC
   have j43 : rsej43i150 d l e (i : Int) (j : Int) s.1 s.2.1 s.2.2.1 s.2.2.2 (l.getD (Int.toNat (i : Int)) default) C (rsel16x6 d l e (j : Int) C (q + 1)) := by
    refine ⟨fun h => ?_, fun h => ?_⟩
    ·rw [Int.toNat_natCast] at h
     rw [if_t h] at hC
     show rseji60 (j : Int) C _ _ _ _
     rw [hph]
     exact hC
    ·rw [Int.toNat_natCast] at h
     rw [if_f h] at hC
     exact hn (hearR e (bstp (epaS d e.2.1).1 j) s (l.getD i default)) (by unfold rseV183; rw [hm]; rfl) (by unfold rseV184; rw [hm]; rfl) (by unfold rseV185; rw [hm]; rfl) (by unfold rseV186; rw [hm, hph]; rfl) (by unfold hearR; simp only []; split <;> simp) (by unfold hearR; simp) hC
   refine ⟨fun _ => ⟨by omega, by omega, by omega, by omega, ?_⟩, fun h => by have := of_decide_eq_false h; omega⟩
   have j28 := (show rsej28i150 d l e (i : Int) (j : Int) s.1 s.2.1 s.2.2.1 s.2.2.2 (l.getD (Int.toNat (i : Int)) default) C (rsel16x6 d l e (j : Int) C (q + 1)) from ⟨(fun h => by rw [hm2] at h; cases h), fun _ => ⟨by rw [List.length_append, List.length_singleton]; omega, tri ⟨fun _ => ⟨by rw [List.length_append, List.length_singleton]; omega, tri j43⟩, fun _ => tri j43⟩⟩⟩)
   exact ⟨fun _ => j28, fun _ => two j28⟩
theorem rse_inC (d : DC) (l : List LI) (e : EV) (hll : l.length ≤ 60) (hw : (epaS d e.2.1).1.length ≤ 41) (K : List HD → Bool → List LI → Int → Prop) (h1w : 1 ≤ (epaS d e.2.1).1.length) : ∀ (q i : Nat) (s : RS), i + q = l.length → s.2.2.1.length + q ≤ 100000 → s.2.2.2.length + q ≤ 100000 →
  rseji53 d l e K (atR e (bstp (epaS d e.2.1).1 ((epaS d e.2.1).1.length - 1)) (l.drop i) s).1 (atR e (bstp (epaS d e.2.1).1 ((epaS d e.2.1).1.length - 1)) (l.drop i) s).2.1 (atR e (bstp (epaS d e.2.1).1 ((epaS d e.2.1).1.length - 1)) (l.drop i) s).2.2.1 (atR e (bstp (epaS d e.2.1).1 ((epaS d e.2.1).1.length - 1)) (l.drop i) s).2.2.2 → rsel16x8 d l e K (q + 1) (i : Int) s.1 s.2.1 s.2.2.1 s.2.2.2 := by
 intro q
 induction q with
 | zero =>
  intro i s hi h1 h2 hC
  rw [List.drop_of_length_le (by omega)] at hC
  exact ⟨fun h => by have := of_decide_eq_true h; omega, fun _ => hC⟩
 | succ q ih =>
  intro i s hi h1 h2 hC
  have hil : i < l.length := by omega
  rw [drop_get default hil, atR] at hC
  have hwr : w6 (((epaS d e.2.1).1.length : Int) - 1) = ((epaS d e.2.1).1.length : Int) - 1 := w64 (by omega)
  have hm : rseV191 e (l.getD (Int.toNat (i : Int)) default) ((epaS d e.2.1).1.getD (Int.toNat (w6 ((((epaS d e.2.1).1).length : Int) - 1))) default) = !(hitP e (bstp (epaS d e.2.1).1 ((epaS d e.2.1).1.length - 1)) (l.getD i default)) := by
   show (((l.getD i default).2.1 != (epaS d e.2.1).1.getD (Int.toNat (w6 ((((epaS d e.2.1).1).length : Int) - 1))) default) || ((!((l.getD i default).2.2.1 == e.1)) || (!((l.getD i default).2.2.2.1 == false)))) = !(((l.getD i default).2.1 == (epaS d e.2.1).1.getD ((epaS d e.2.1).1.length - 1) default) && (((l.getD i default).2.2.1 == e.1) && ((l.getD i default).2.2.2.1 == false)))
   rw [show Int.toNat (w6 ((((epaS d e.2.1).1).length : Int) - 1)) = (epaS d e.2.1).1.length - 1 by rw [hwr]; omega]; rw [Bool.not_and, Bool.not_and]; rfl
  have hm2 : rseV206 d e (l.getD (Int.toNat (i : Int)) default) = !(hitP e (bstp (epaS d e.2.1).1 ((epaS d e.2.1).1.length - 1)) (l.getD i default)) := hm
  have hph : rseV24 d e = (bstp (epaS d e.2.1).1 ((epaS d e.2.1).1.length - 1)).2.1 := by
   unfold rseV24; rw [hwr]; unfold bstp ephM; rw [show (((epaS d e.2.1).1.length - 1 : Nat) : Int) = ((epaS d e.2.1).1.length : Int) - 1 by omega]
  have hn : ∀ s' : RS, rseV202 d l e (i : Int) s.1 = s'.1 → rseV203 d l e (i : Int) s.2.1 = s'.2.1 → rseV204 d l e (i : Int) s.2.2.1 = s'.2.2.1 → rseV205 d l e (i : Int) s.2.2.2 = s'.2.2.2 → s'.2.2.1.length ≤ s.2.2.1.length + 1 → s'.2.2.2.length ≤ s.2.2.2.length + 1 → rseji53 d l e K (atR e (bstp (epaS d e.2.1).1 ((epaS d e.2.1).1.length - 1)) (l.drop (i + 1)) s').1 (atR e (bstp (epaS d e.2.1).1 ((epaS d e.2.1).1.length - 1)) (l.drop (i + 1)) s').2.1 (atR e (bstp (epaS d e.2.1).1 ((epaS d e.2.1).1.length - 1)) (l.drop (i + 1)) s').2.2.1 (atR e (bstp (epaS d e.2.1).1 ((epaS d e.2.1).1.length - 1)) (l.drop (i + 1)) s').2.2.2 → rsel16x8 d l e K (q + 1) (w6 ((i : Int) + 1)) (rseV202 d l e (i : Int) s.1) (rseV203 d l e (i : Int) s.2.1) (rseV204 d l e (i : Int) s.2.2.1) (rseV205 d l e (i : Int) s.2.2.2) := by
   intro s' e1 e2 e3 e4 l1 l2 hC
   rw [e1, e2, e3, e4, w64 (by omega)]
   exact ih (i + 1) s' (by omega) (by omega) (by omega) hC
  cases hh : hitP e (bstp (epaS d e.2.1).1 ((epaS d e.2.1).1.length - 1)) (l.getD i default) with
  | false =>
   rw [hh] at hm hm2 hC
   rw [if_f rfl] at hC
   have j28 := fun (h : rseV206 d e (l.getD (Int.toNat (i : Int)) default) = true) => hn s (by unfold rseV202; rw [hm]; rfl) (by unfold rseV203; rw [hm]; rfl) (by unfold rseV204; rw [hm]; rfl) (by unfold rseV205; rw [hm]; rfl) (by omega) (by omega) hC
   refine ⟨fun _ => ⟨by omega, by omega, by rw [hwr]; omega, by rw [hwr]; omega, ?_⟩, fun h => by have := of_decide_eq_false h; omega⟩
   exact ⟨fun _ => ⟨j28, (fun h => by rw [hm2] at h; cases h)⟩, fun _ => two ⟨j28, (fun h => by rw [hm2] at h; cases h)⟩⟩
  | true =>
   rw [hh] at hm hm2 hC
   rw [if_t rfl] at hC
   have j43 : rsej43i136 d l e K (i : Int) s.1 s.2.1 s.2.2.1 s.2.2.2 (l.getD (Int.toNat (i : Int)) default) (rsel16x8 d l e K (q + 1)) := by
    refine ⟨fun h => ?_, fun h => ?_⟩
    ·rw [Int.toNat_natCast] at h
     rw [if_t h] at hC
     show rseji53 d l e K _ _ _ _
     rw [hph]
     exact hC
    ·rw [Int.toNat_natCast] at h
     rw [if_f h] at hC
     exact hn (hearR e (bstp (epaS d e.2.1).1 ((epaS d e.2.1).1.length - 1)) s (l.getD i default)) (by unfold rseV202; rw [hm]; rfl) (by unfold rseV203; rw [hm]; rfl) (by unfold rseV204; rw [hm]; rfl) (by unfold rseV205; rw [hm, hph]; rfl) (by unfold hearR; simp only []; split <;> simp) (by unfold hearR; simp) hC
   refine ⟨fun _ => ⟨by omega, by omega, by rw [hwr]; omega, by rw [hwr]; omega, ?_⟩, fun h => by have := of_decide_eq_false h; omega⟩
   have j28 := (show rsej28i136 d l e K (i : Int) s.1 s.2.1 s.2.2.1 s.2.2.2 (l.getD (Int.toNat (i : Int)) default) (rsel16x8 d l e K (q + 1)) from ⟨(fun h => by rw [hm2] at h; cases h), fun _ => ⟨by rw [List.length_append, List.length_singleton]; omega, tri ⟨fun _ => ⟨by rw [List.length_append, List.length_singleton]; omega, tri j43⟩, fun _ => tri j43⟩⟩⟩)
   exact ⟨fun _ => j28, fun _ => two j28⟩
theorem rse_left (l : List LI) (hl : l.length ≤ 60) (R : List HD × Bool × List LI × Int) (s : RS) (hg : s.2.2.1.length ≤ 100000) (hR : R = finR l s) : ∃ k, rsel139 l (fun a b c f => (a, b, c, f) = R) s.2.1 s.2.2.1 s.2.2.2 k 0 ([] : List LI) := by
 have loop : ∀ (q i : Nat) (acc : List LI), i + q = l.length → acc.length ≤ i → l.filter (fun x => !(ecoS s.2.2.1 x.1)) = acc ++ (l.drop i).filter (fun x => !(ecoS s.2.2.1 x.1)) → rsel139 l (fun a b c f => (a, b, c, f) = R) s.2.1 s.2.2.1 s.2.2.2 (q + 1) (i : Int) acc := by
  intro q
  induction q with
  | zero =>
   intro i acc hi ha he
   rw [List.drop_of_length_le (by omega), List.filter_nil, List.append_nil] at he
   refine ⟨fun h => by have := of_decide_eq_true h; omega, fun _ => ?_⟩
   show (s.2.2.2, s.2.1, acc, (0 : Int)) = R
   rw [hR, finR, he]
  | succ q ih =>
   intro i acc hi ha he
   rw [drop_get default (show i < l.length by omega), List.filter_cons] at he
   have j : rsej146 l (i : Int) s.2.2.1 acc (rsel139 l (fun a b c f => (a, b, c, f) = R) s.2.1 s.2.2.1 s.2.2.2 (q + 1)) := by
    unfold rsej146 rseV190
    rw [w64 (by omega), Int.toNat_natCast]
    refine ih (i + 1) _ (by omega) ?_ ?_
    ·split
     ·rw [List.length_append, List.length_singleton]; omega
     ·omega
    ·rw [he]
     by_cases hc : (!(ecoS s.2.2.1 (l.getD i default).1)) = true
     ·rw [if_pos hc, if_pos hc, List.append_assoc]; rfl
     ·rw [if_neg hc, if_neg hc]
   refine ⟨fun _ => ⟨by omega, by omega, by unfold ecoP; omega, fun _ => ⟨by rw [List.length_append, List.length_singleton]; omega, j⟩, fun _ => j⟩, fun h => by have := of_decide_eq_false h; omega⟩
 exact ⟨_, loop l.length 0 [] (by omega) (Nat.le_refl _) (by rw [List.drop_zero]; rfl)⟩
theorem rse_back (d : DC) (l : List LI) (e : EV) (hll : l.length ≤ 60) (hw : (epaS d e.2.1).1.length ≤ 41) (R : List HD × Bool × List LI × Int) : ∀ (i : Nat) (s : RS), i < (epaS d e.2.1).1.length → s.2.2.1.length + 60 * i ≤ 10000 → s.2.2.2.length + 60 * i ≤ 10000 →
  R = finR l ((if e.2.2.2.2.2.1 = true then back (epaS d e.2.1).1 e.2.2.2.2.2.1 i else []).foldl (stR e l) s) → rsel122 d l e (fun a b c f => (a, b, c, f) = R) (i + 1) ((i : Int) - 1) s.1 s.2.1 s.2.2.1 s.2.2.2 := by
 have stop : ∀ (k : Nat) (x : Int) (s : RS), s.2.2.1.length ≤ 10000 → (decide (x ≥ 0) && e.2.2.2.2.2.1) = false → R = finR l s → rsel122 d l e (fun a b c f => (a, b, c, f) = R) (k + 1) x s.1 s.2.1 s.2.2.1 s.2.2.2 := by
  intro k x s h1 h2 hR
  have j : rsej124 d l e (fun a b c f => (a, b, c, f) = R) x s.1 s.2.1 s.2.2.1 s.2.2.2 (rsel122 d l e (fun a b c f => (a, b, c, f) = R) k) := ⟨(fun h => by rw [h2] at h; cases h), fun _ => rse_left l hll R s (by omega) hR⟩
  exact two j
 intro i
 induction i with
 | zero =>
  intro s hi h1 h2 hR
  refine stop 0 _ s (by omega) rfl ?_
  rw [hR]; congr 1
  split <;> rfl
 | succ i ih =>
  intro s hi h1 h2 hR
  cases hb : e.2.2.2.2.2.1 with
  | false =>
   rw [hb, if_f rfl] at hR
   exact stop _ _ s (by omega) (by rw [hb, Bool.and_false]) hR
  | true =>
   rw [hb] at hR ih
   rw [if_t rfl, back, List.foldl_cons, if_t rfl] at hR
   rw [show (((i + 1 : Nat) : Int) - 1) = (i : Int) by omega]
   have hl1 := st_len e l s (bstp (epaS d e.2.1).1 i)
   have go : ∀ s', s' = stR e l s (bstp (epaS d e.2.1).1 i) → rseji60 (i : Int) (rsel122 d l e (fun a b c f => (a, b, c, f) = R) (i + 1)) s'.1 s'.2.1 s'.2.2.1 s'.2.2.2 := fun s' hs' => by
    subst hs'
    unfold rseji60
    rw [w64 (by omega)]
    exact ih _ (by omega) (by omega) (by omega) (by rw [if_t rfl]; exact hR)
   have j : rsej124 d l e (fun a b c f => (a, b, c, f) = R) (i : Int) s.1 s.2.1 s.2.2.1 s.2.2.2 (rsel122 d l e (fun a b c f => (a, b, c, f) = R) (i + 1)) := by
    refine ⟨fun _ => ⟨fun h => ?_, fun h => two ⟨l.length + 1, ?_⟩⟩, fun h => ?_⟩
    ·exact go s (by unfold stR; rw [if_t h])
    ·refine rse_inB d l e hll hw i (by omega) _ l.length 0 s (by omega) (by omega) (by omega) ?_
     rw [List.drop_zero]
     exact go _ (by unfold stR; rw [if_f h])
    ·rw [hb, Bool.and_true] at h
     have := of_decide_eq_false h; omega
   exact two j
def rseP (d : DC) (_ : List LI) (_ : EV) : Prop := dchkP d
theorem epa_pos (d : DC) (n : Int) (hp : dchkP d) (h : ((epaS d n).2 != 0) = false) : 1 ≤ (epaS d n).1.length := by
 unfold epaS at h ⊢
 by_cases h1 : (dchkS d != 0) = true
 ·rw [if_t h1] at h; rw [h1] at h; cases h
 ·have h1 : (dchkS d != 0) = false := by simpa using h1
  rw [if_f h1] at h ⊢
  by_cases h2 : (decide (n < 0) || decide (n ≥ (d.1.length : Int))) = true
  ·rw [if_t h2] at h; cases h
  ·have h2 : (decide (n < 0) || decide (n ≥ (d.1.length : Int))) = false := by simpa using h2
   rw [if_f h2] at h ⊢
   rw [Bool.or_eq_false_iff] at h2
   have hch : chainN d.1 41 n = n :: chainN d.1 40 (par d.1 n.toNat) := by rw [chainN, if_f h2.1]
   rw [hch] at h ⊢
   unfold finC at h ⊢
   split
   ·rename_i h3; rw [if_t h3] at h; cases h
   ·rw [List.length_reverse, List.length_cons]; omega
theorem rse_F (d : DC) (l : List LI) (e : EV) (hp : rseP d l e) : rseF d l e (fun a b c f => (a, b, c, f) = eseS d l e) := by
 have hE : ∀ x : List Int × Int, easS d l e = x → (x.2 != 0) = true → eseS d l e = ([], false, [], x.2) := fun x hx hn => by unfold eseS; rw [hx, if_t hn]
 refine ⟨hp, fun h => ?_, fun h => ⟨fun h2 => ?_, fun h2 => ?_⟩⟩
 ·rw [hE ([], dchkS d) (by unfold easS; rw [if_t h]) h]
 ·rw [hE ([], 2) (by unfold easS; rw [if_f h, if_t h2]) rfl]
 have hl : l.length ≤ 60 := by have := of_decide_eq_false h2; omega
 have h200 := ((dchk_sp d hp).2 (by simpa using h)).few
 have hw := epa_len d e.2.1
 have hbad : ∀ x : LI, (!(rbtM x.2.1 0 (w6 ((d.1.length : Int) - 1)))) = badS d x := fun x => by
  rw [w64 (by omega)]
  unfold rbtM badS
  generalize x.2.1 = n
  by_cases h1 : n < 0
  ·rw [decide_eq_true h1, decide_eq_false (show ¬ (n ≥ 0) by omega)]; rfl
  ·by_cases h2 : n ≥ (d.1.length : Int)
   ·rw [decide_eq_true h2, decide_eq_false (show ¬ (n ≤ (d.1.length : Int) - 1) by omega)]; simp
   ·rw [decide_eq_false h1, decide_eq_false h2, decide_eq_true (show n ≥ 0 by omega), decide_eq_true (show n ≤ (d.1.length : Int) - 1 by omega)]; rfl
 have hform : (!(rbtM (e.1.length : Int) 1 40)) = ((e.1 == ([] : Bs)) || decide ((e.1.length : Int) > 40)) := by
  unfold rbtM
  cases he : e.1 with
  | nil => rfl
  | cons c r =>
   have e1 : ((c :: r) == ([] : Bs)) = false := rfl
   rw [e1, Bool.false_or, decide_eq_true (show ((c :: r).length : Int) ≥ 1 by rw [List.length_cons]; omega), Bool.true_and]
   by_cases h3 : ((c :: r).length : Int) > 40
   ·rw [decide_eq_true h3, decide_eq_false (by omega)]; rfl
   ·rw [decide_eq_false h3, decide_eq_true (by omega)]; rfl
 -- the sending itself
 have send : ((epaS d e.2.1).2 != 0) = false → easS d l e = epaS d e.2.1 → ∃ k, rsel103 d l e (fun a b c f => (a, b, c, f) = eseS d l e) k 0 false false [] [] := by
  intro hz he
  have h1w := epa_pos d e.2.1 hp hz
  have hR : eseS d l e = finR l ((estS (epaS d e.2.1).1 e.2.2.2.2.2.1).foldl (stR e l) (false, false, [], [])) := by
   have := run_eq e l (estS (epaS d e.2.1).1 e.2.2.2.2.2.1) zeroP
   unfold eseS
   rw [he, if_f hz]
   rw [show ((false, false, [], []) : RS) = toR zeroP from rfl, ← this]
   rfl
  generalize eseS d l e = R at hR ⊢
  have hb2 : back (epaS d e.2.1).1 e.2.2.2.2.2.1 (epaS d e.2.1).1.length = bstp (epaS d e.2.1).1 ((epaS d e.2.1).1.length - 1) :: (if e.2.2.2.2.2.1 = true then back (epaS d e.2.1).1 e.2.2.2.2.2.1 ((epaS d e.2.1).1.length - 1) else []) := by
   obtain ⟨k, hk⟩ : ∃ k, (epaS d e.2.1).1.length = k + 1 := ⟨(epaS d e.2.1).1.length - 1, by omega⟩
   rw [hk, back]; rfl
  have hwr : w6 (((epaS d e.2.1).1.length : Int) - 1) = ((epaS d e.2.1).1.length : Int) - 1 := w64 (by omega)
  have tail : ∀ (s : RS), s.2.2.1.length ≤ 3000 → s.2.2.2.length ≤ 3000 → R = finR l ((if e.2.2.2.2.2.1 = true then back (epaS d e.2.1).1 e.2.2.2.2.2.1 ((epaS d e.2.1).1.length - 1) else []).foldl (stR e l) s) → rseji53 d l e (fun a b c f => (a, b, c, f) = R) s.1 s.2.1 s.2.2.1 s.2.2.2 := by
   intro s h1 h2 hR
   refine ⟨(epaS d e.2.1).1.length - 1 + 1, ?_⟩
   rw [w64 (by omega), show ((epaS d e.2.1).1.length : Int) - 2 = (((epaS d e.2.1).1.length - 1 : Nat) : Int) - 1 by omega]
   exact rse_back d l e hl hw R _ s (by omega) (by omega) (by omega) hR
  have fw : ∀ (q i : Nat) (s : RS), i + q = (epaS d e.2.1).1.length → s.2.2.1.length + 60 * q ≤ 2500 → s.2.2.2.length + 60 * q ≤ 2500 → R = finR l ((((List.range' i q).map (fstp (epaS d e.2.1).1)) ++ back (epaS d e.2.1).1 e.2.2.2.2.2.1 (epaS d e.2.1).1.length).foldl (stR e l) s) →
    rsel103 d l e (fun a b c f => (a, b, c, f) = R) (q + 1) (i : Int) s.1 s.2.1 s.2.2.1 s.2.2.2 := by
   intro q
   induction q with
   | zero =>
    intro i s hi h1 h2 hR
    rw [List.range'_zero, List.map_nil, List.nil_append, hb2, List.foldl_cons] at hR
    have hln := st_len e l s (bstp (epaS d e.2.1).1 ((epaS d e.2.1).1.length - 1))
    refine ⟨fun h => by have := of_decide_eq_true h; omega, fun _ => ⟨fun h => ?_, fun h => two ⟨l.length + 1, ?_⟩⟩⟩
    ·refine tail s (by omega) (by omega) ?_
     rw [show stR e l s (bstp (epaS d e.2.1).1 ((epaS d e.2.1).1.length - 1)) = s by unfold stR; rw [if_t h]] at hR
     exact hR
    ·refine rse_inC d l e hl hw _ h1w l.length 0 s (by omega) (by omega) (by omega) ?_
     rw [List.drop_zero]
     rw [show stR e l s (bstp (epaS d e.2.1).1 ((epaS d e.2.1).1.length - 1)) = atR e (bstp (epaS d e.2.1).1 ((epaS d e.2.1).1.length - 1)) l s by unfold stR; rw [if_f h]] at hR hln
     exact tail _ (by omega) (by omega) hR
   | succ q ih =>
    intro i s hi h1 h2 hR
    rw [List.range'_succ, List.map_cons, List.cons_append, List.foldl_cons] at hR
    have hln := st_len e l s (fstp (epaS d e.2.1).1 i)
    have go : ∀ s', s' = stR e l s (fstp (epaS d e.2.1).1 i) → rseji51 (i : Int) (rsel103 d l e (fun a b c f => (a, b, c, f) = R) (q + 1)) s'.1 s'.2.1 s'.2.2.1 s'.2.2.2 := fun s' hs' => by
     subst hs'
     unfold rseji51
     rw [w64 (by omega)]
     exact ih (i + 1) _ (by omega) (by omega) (by omega) hR
    refine ⟨fun _ => ⟨fun h => ?_, fun h => two ⟨l.length + 1, ?_⟩⟩, fun h => by have := of_decide_eq_false h; omega⟩
    ·exact go s (by unfold stR; rw [if_t h])
    ·refine rse_inA d l e hl hw i (by omega) _ l.length 0 s (by omega) (by omega) (by omega) ?_
     rw [List.drop_zero]
     exact go _ (by unfold stR; rw [if_f h])
  refine ⟨_, fw (epaS d e.2.1).1.length 0 (false, false, [], []) (by omega) (by show 0 + 60 * _ ≤ 2500; omega) (by show 0 + 60 * _ ≤ 2500; omega) ?_⟩
  rw [hR, estS, List.range_eq_range']
 have loop : ∀ (q i : Nat), i + q = l.length → (∀ j, j < i → badS d (l.getD j default) = false) → rsel29 d l e (fun a b c f => (a, b, c, f) = eseS d l e) (q + 1) (twN l i) (i : Int) := by
  intro q
  induction q with
  | zero =>
   intro i hi hb
   obtain rfl : i = l.length := by omega
   have hany := any_none hb
   refine ⟨fun h3 => by have := of_decide_eq_true h3; omega, fun _ => ⟨fun h3 => ?_, fun h3 => ⟨fun h4 => ?_, fun h4 => ⟨hp, fun h5 => ?_, fun h5 => ?_⟩⟩⟩⟩
   ·rw [hE ([], 6) (by unfold easS; rw [if_f h, if_f h2, if_f hany, if_t h3]) rfl]
   ·rw [hform] at h4
    rw [hE ([], 3) (by unfold easS; rw [if_f h, if_f h2, if_f hany, if_f h3, if_t h4]) rfl]
   ·rw [hform] at h4
    rw [hE (epaS d e.2.1) (by unfold easS; rw [if_f h, if_f h2, if_f hany, if_f h3, if_f h4]) h5]
   ·rw [hform] at h4
    exact send h5 (by unfold easS; rw [if_f h, if_f h2, if_f hany, if_f h3, if_f h4])
  | succ q ih =>
   intro i hi hb
   have hil : i < l.length := by omega
   refine ⟨fun _ => ⟨by omega, by omega, ?_⟩, fun h3 => by have := of_decide_eq_false h3; omega⟩
   rw [Int.toNat_natCast, hbad]
   refine ⟨fun h3 => ?_, fun h3 => ⟨Int.le_refl _, by omega, by omega, ?_⟩⟩
   ·rw [hE ([], 1) (by unfold easS; rw [if_f h, if_f h2, if_t (any_of_get hil h3)]) rfl]
   have tw : ∀ (q2 j : Nat) (b : Bool), j + q2 = i → (b || ((l.take i).drop j).any (fun y => (l.getD i default).1 == y.1)) = twN l (i + 1) → rsel51 l (l.getD i default) (i : Int) (rsel29 d l e (fun a b c f => (a, b, c, f) = eseS d l e) (q + 1)) (q2 + 1) b (j : Int) := by
    intro q2
    induction q2 with
    | zero =>
     intro j b hj he
     rw [List.drop_of_length_le (by rw [List.length_take]; omega), List.any_nil, Bool.or_false] at he
     refine ⟨fun h4 => by have h4 := of_decide_eq_true h4; rw [Int.toNat_natCast, List.length_take] at h4; omega, fun _ => ?_⟩
     rw [w64 (by omega), he]
     refine ih (i + 1) (by omega) fun k hk => ?_
     by_cases hki : k < i
     ·exact hb k hki
     ·obtain rfl : k = i := by omega
      exact h3
    | succ q2 ih2 =>
     intro j b hj he
     rw [drop_get default (show j < (l.take i).length by rw [List.length_take]; omega), List.any_cons] at he
     have j58 : rsej58 l (l.getD i default) b (j : Int) (i : Int) (rsel51 l (l.getD i default) (i : Int) (rsel29 d l e (fun a b c f => (a, b, c, f) = eseS d l e) (q + 1)) (q2 + 1)) := by
      unfold rsej58 rseV60
      rw [w64 (by omega), Int.toNat_natCast, Int.toNat_natCast]
      exact ih2 (j + 1) _ (by omega) (by rw [Bool.or_assoc]; exact he)
     exact ⟨fun _ => ⟨by omega, by rw [Int.toNat_natCast, Int.toNat_natCast, List.length_take]; omega, two j58⟩, fun h4 => by have h4 := of_decide_eq_false h4; rw [Int.toNat_natCast, List.length_take] at h4; omega⟩
   exact ⟨i + 1, tw i 0 (twN l i) (by omega) (by rw [List.drop_zero]; rfl)⟩
 exact ⟨_, loop l.length 0 (by omega) (fun j hj => by omega)⟩
theorem rse_c {g : Ghost} {axd_0 : Option Addr} {cxd_0 : Nat} (xd : (List (Int × Bs × (List (Bs × Bs)) × Bs × Int × List (Int))) × Bool) {axl_0 : Option Addr} {cxl_0 : Nat} (xl : List (Int × Int × Bs × Bool × Bool × Bool × Bool × Bool)) (xe : Bs × Int × Int × Int × Bs × Bool × Bool) (hRxd_0 : Rep g (.slice (.pair (.int .i64) (.pair (.str) (.pair (.slice (.pair (.str) (.str))) (.pair (.str) (.pair (.int .i64) (.slice (.int .i64)))))))) [.slice axd_0 xd.1.length cxd_0] xd.1) (hRxl_0 : Rep g (.slice (.pair (.int .i64) (.pair (.int .i64) (.pair (.str) (.pair (.bool) (.pair (.bool) (.pair (.bool) (.pair (.bool) (.bool))))))))) [.slice axl_0 xl.length cxl_0] xl)  (hp : rseP xd xl xe) : CallsH Tryd.prog 8 #[.agg #[.slice axd_0 xd.1.length cxd_0, .bool xd.2], .slice axl_0 xl.length cxl_0, .agg #[sv xe.1, .int .i64 xe.2.1, .int .i64 xe.2.2.1, .int .i64 xe.2.2.2.1, sv xe.2.2.2.2.1, .bool xe.2.2.2.2.2.1, .bool xe.2.2.2.2.2.2]] g [] (fun g' H' v => ∃ (ar0_0 : Option Addr) (cr0_0 : Nat), ∃ (ar2_0 : Option Addr) (cr2_0 : Nat), v = .tuple #[.slice ar0_0 ((eseS xd xl xe).1).length cr0_0, .bool (eseS xd xl xe).2.1, .slice ar2_0 ((eseS xd xl xe).2.2.1).length cr2_0, .int .i64 (eseS xd xl xe).2.2.2] ∧ Rep g' (.slice (.pair (.int .i64) (.pair (.int .i64) (.int .i64)))) [.slice ar0_0 ((eseS xd xl xe).1).length cr0_0] (eseS xd xl xe).1 ∧ Rep g' (.slice (.pair (.int .i64) (.pair (.int .i64) (.pair (.str) (.pair (.bool) (.pair (.bool) (.pair (.bool) (.pair (.bool) (.bool))))))))) [.slice ar2_0 ((eseS xd xl xe).2.2.1).length cr2_0] (eseS xd xl xe).2.2.1 ∧ H' = []) :=
 (rse_ok xd xl xe hRxd_0 hRxl_0 _ (rse_F xd xl xe hp)).mono (by rintro g' H' v _ ⟨r0, r1, r2, r3, ar0_0, cr0_0, ar2_0, cr2_0, rfl, hRr0_0, hRr2_0, rfl, hK⟩; obtain ⟨rfl, rfl, rfl, rfl⟩ : r0 = (eseS xd xl xe).1 ∧ r1 = (eseS xd xl xe).2.1 ∧ r2 = (eseS xd xl xe).2.2.1 ∧ r3 = (eseS xd xl xe).2.2.2 := ⟨congrArg (fun z => z.1) hK, congrArg (fun z => z.2.1) hK, congrArg (fun z => z.2.2.1) hK, congrArg (fun z => z.2.2.2) hK⟩; exact ⟨ar0_0, cr0_0, ar2_0, cr2_0, rfl, hRr0_0, hRr2_0, rfl⟩)
theorem run_len (e : EV) (l : List LI) (hl : l.length ≤ 60) : ∀ (sts : List SP) (s : PS), (runP e l sts s).2.2.2.1.length ≤ s.2.2.2.1.length + 60 * sts.length
 | [], _ => Nat.le_refl _
 | a :: sts, s => by
  show (runP e l sts (stepP e l s a)).2.2.2.1.length ≤ _
  have h1 := run_len e l hl sts (stepP e l s a)
  have h2 := step_len e l s a
  rw [List.length_cons]; omega
def levV0 (xd : (List (Int × Bs × (List (Bs × Bs)) × Bs × Int × List (Int))) × Bool) (xl : List (LI)) (xe : Bs × Int × Int × Int × Bs × Bool × Bool) : Bool :=
 (((ehqS (eseS xd xl xe).1 (eseS xd xl xe).1) && ((eseS xd xl xe).2.1 == (eseS xd xl xe).2.1)) && ((elqS (eseS xd xl xe).2.2.1 (eseS xd xl xe).2.2.1) && ((eseS xd xl xe).2.2.2 == (eseS xd xl xe).2.2.2)))
def levj19 (xd : (List (Int × Bs × (List (Bs × Bs)) × Bs × Int × List (Int))) × Bool) (xl : List (LI)) (xe : Bs × Int × Int × Int × Bs × Bool × Bool) (K : Bool → Prop) : Prop :=
 K (levV0 xd xl xe)
def levF (xd : (List (Int × Bs × (List (Bs × Bs)) × Bs × Int × List (Int))) × Bool) (xl : List (LI)) (xe : Bs × Int × Int × Int × Bs × Bool × Bool) (K : Bool → Prop) : Prop :=
 epaP xd xe.2.1 ∧ eseP xd xl xe ∧ epaP xd xe.2.1 ∧ eeqP (epaS xd xe.2.1).1 (epaS xd xe.2.1).1 ∧ ((((!(eeqS (epaS xd xe.2.1).1 (epaS xd xe.2.1).1)) || ((epaS xd xe.2.1).2 != (epaS xd xe.2.1).2))) = true → K false) ∧ ((((!(eeqS (epaS xd xe.2.1).1 (epaS xd xe.2.1).1)) || ((epaS xd xe.2.1).2 != (epaS xd xe.2.1).2))) = false → rseP xd xl xe ∧ ehqP (eseS xd xl xe).1 (eseS xd xl xe).1 ∧ ((((ehqS (eseS xd xl xe).1 (eseS xd xl xe).1) && ((eseS xd xl xe).2.1 == (eseS xd xl xe).2.1))) = true → elqP (eseS xd xl xe).2.2.1 (eseS xd xl xe).2.2.1 ∧ levj19 xd xl xe K) ∧ ((((ehqS (eseS xd xl xe).1 (eseS xd xl xe).1) && ((eseS xd xl xe).2.1 == (eseS xd xl xe).2.1))) = false → levj19 xd xl xe K))
theorem lev_ok {g : Ghost} {axd_0 : Option Addr} {cxd_0 : Nat} (xd : (List (Int × Bs × (List (Bs × Bs)) × Bs × Int × List (Int))) × Bool) {axl_0 : Option Addr} {cxl_0 : Nat} (xl : List (LI)) (xe : Bs × Int × Int × Int × Bs × Bool × Bool) (hRxd_0 : Rep g (.slice (.pair (.int .i64) (.pair (.str) (.pair (.slice (.pair (.str) (.str))) (.pair (.str) (.pair (.int .i64) (.slice (.int .i64)))))))) [.slice axd_0 xd.1.length cxd_0] xd.1) (hRxl_0 : Rep g (.slice (.pair (.int .i64) (.pair (.int .i64) (.pair (.str) (.pair (.bool) (.pair (.bool) (.pair (.bool) (.pair (.bool) (.bool))))))))) [.slice axl_0 xl.length cxl_0] xl) (K : Bool → Prop)
  (hF : levF xd xl xe K) : CallsH Tryd.prog 3 #[.agg #[.slice axd_0 xd.1.length cxd_0, .bool xd.2], .slice axl_0 xl.length cxl_0, .agg #[sv xe.1, .int .i64 xe.2.1, .int .i64 xe.2.2.1, .int .i64 xe.2.2.2.1, sv xe.2.2.2.2.1, .bool xe.2.2.2.2.2.1, .bool xe.2.2.2.2.2.2]] g [] (fun g' H' v => ∃ (r0 : Bool), v = .bool r0 ∧ H' = [] ∧ K r0) := by
 refine CallsH.enter 78 [(0, .agg #[.slice axd_0 xd.1.length cxd_0, .bool xd.2]), (1, .slice axl_0 xl.length cxl_0), (2, .agg #[sv xe.1, .int .i64 xe.2.1, .int .i64 xe.2.2.1, .int .i64 xe.2.2.2.1, sv xe.2.2.2.2.1, .bool xe.2.2.2.2.2.1, .bool xe.2.2.2.2.2.2])] Tryd.func3 rfl (by kernel_rfl) (by kernel_rfl) (by kernel_rfl) fun w0 => ?_
 refine Ok.seq (Ok.region (Ok.op rfl (OpOk.box (v := .agg #[.slice axd_0 xd.1.length cxd_0, .bool xd.2]) (cs := #[.slice axd_0 xd.1.length cxd_0, .bool xd.2]) rfl (by kernel_rfl) rfl fun b1 => ?_)))
 refine Ok.op rfl (OpOk.box (v := .agg #[sv xe.1, .int .i64 xe.2.1, .int .i64 xe.2.2.1, .int .i64 xe.2.2.2.1, sv xe.2.2.2.2.1, .bool xe.2.2.2.2.2.1, .bool xe.2.2.2.2.2.2]) (cs := #[sv xe.1, .int .i64 xe.2.1, .int .i64 xe.2.2.1, .int .i64 xe.2.2.2.1, sv xe.2.2.2.2.1, .bool xe.2.2.2.2.2.1, .bool xe.2.2.2.2.2.2]) rfl (by kernel_rfl) rfl fun b2 => ?_)
 refine Ok.batch 1 [(1, .slice axl_0 xl.length cxl_0), (3, pv b1 0), (5, pv b2 0)] (by kernel_rfl) (Ok.nil (Ok.thenN (Ok.seq (Ok.region (Ok.op rfl (OpOk.step (v := .agg #[.slice axd_0 xd.1.length cxd_0, .bool xd.2]) (Yields.loadAgg 1 2 #[.slice axd_0 xd.1.length cxd_0, .bool xd.2] rfl rfl Tryd.underlying24 rfl (by kernel_rfl) (by kernel_rfl) (by kernel_rfl)) rfl rfl (Ok.bat 1 [1, 3, 5] [(20, .agg #[.slice axd_0 xd.1.length cxd_0, .bool xd.2]), (21, pv b2 1)] ?_)))))))
 refine Ok.op rfl (OpOk.step (v := .int .i64 xe.2.1) (Yields.load 0 rfl rfl Tryd.underlying3 rfl (by kernel_rfl)) rfl rfl ?_)
 obtain ⟨hp3, hF⟩ := hF
 refine Ok.op rfl (OpOk.callH [] _ enr rfl (epa_c xd xe.2.1 hRxd_0 hp3) rfl fun g4 _ _ hx4 hV4 => ?_)
 obtain ⟨a4_0, c4_0, rfl, hR4_0, rfl⟩ := hV4
 replace hRxl_0 := hRxl_0.mono hx4.1
 replace hRxd_0 := hRxd_0.mono hx4.1
 refine Ok.bat 5 [1, 3, 5] [(7, .slice a4_0 ((epaS xd xe.2.1).1).length c4_0), (8, .int .i64 (epaS xd xe.2.1).2)] ?_
 refine Ok.nil (Ok.thenN (Ok.seq (Ok.region (Ok.op rfl (OpOk.step (v := .agg #[.slice axd_0 xd.1.length cxd_0, .bool xd.2]) (Yields.loadAgg 1 2 #[.slice axd_0 xd.1.length cxd_0, .bool xd.2] rfl rfl Tryd.underlying24 rfl (by kernel_rfl) (by kernel_rfl) (by kernel_rfl)) rfl rfl (Ok.bat 1 [1, 3, 5, 7, 8] [(27, .agg #[.slice axd_0 xd.1.length cxd_0, .bool xd.2]), (28, .slice axl_0 xl.length cxl_0)] ?_))))))
 refine Ok.op rfl (OpOk.step (v := .agg #[sv xe.1, .int .i64 xe.2.1, .int .i64 xe.2.2.1, .int .i64 xe.2.2.2.1, sv xe.2.2.2.2.1, .bool xe.2.2.2.2.2.1, .bool xe.2.2.2.2.2.2]) (Yields.loadAgg 0 7 #[sv xe.1, .int .i64 xe.2.1, .int .i64 xe.2.2.1, .int .i64 xe.2.2.2.1, sv xe.2.2.2.2.1, .bool xe.2.2.2.2.2.1, .bool xe.2.2.2.2.2.2] rfl rfl Tryd.underlying27 rfl (by kernel_rfl) (by kernel_rfl) (by kernel_rfl)) rfl rfl ?_)
 obtain ⟨hp5, hF⟩ := hF
 refine Ok.op rfl (OpOk.callH [] _ enr rfl (ese_c xd xl xe hRxd_0 hRxl_0 hp5) rfl fun g6 _ _ hx6 hV6 => ?_)
 obtain ⟨a6_0, c6_0, a6_2, c6_2, rfl, hR6_0, hR6_2, rfl⟩ := hV6
 replace hRxl_0 := hRxl_0.mono hx6.1
 replace hR4_0 := hR4_0.mono hx6.1
 replace hRxd_0 := hRxd_0.mono hx6.1
 refine Ok.bat 9 [1, 3, 5, 7, 8] [(9, .slice a6_0 ((eseS xd xl xe).1).length c6_0), (10, .bool (eseS xd xl xe).2.1), (11, .slice a6_2 ((eseS xd xl xe).2.2.1).length c6_2), (12, .int .i64 (eseS xd xl xe).2.2.2)] ?_
 refine Ok.nil (Ok.thenN (Ok.seq (Ok.region (Ok.op rfl (OpOk.step (v := .agg #[.slice axd_0 xd.1.length cxd_0, .bool xd.2]) (Yields.loadAgg 1 2 #[.slice axd_0 xd.1.length cxd_0, .bool xd.2] rfl rfl Tryd.underlying24 rfl (by kernel_rfl) (by kernel_rfl) (by kernel_rfl)) rfl rfl (Ok.bat 1 [1, 3, 5, 7, 8, 9, 10, 11, 12] [(36, .agg #[.slice axd_0 xd.1.length cxd_0, .bool xd.2]), (37, pv b2 1)] ?_))))))
 refine Ok.op rfl (OpOk.step (v := .int .i64 xe.2.1) (Yields.load 0 rfl rfl Tryd.underlying3 rfl (by kernel_rfl)) rfl rfl ?_)
 obtain ⟨hp7, hF⟩ := hF
 refine Ok.op rfl (OpOk.callH [] _ enr rfl (rwt_c xd xe.2.1 hRxd_0 hp7) rfl fun g8 _ _ hx8 hV8 => ?_)
 obtain ⟨a8_0, c8_0, rfl, hR8_0, rfl⟩ := hV8
 replace hRxl_0 := hRxl_0.mono hx8.1
 replace hR4_0 := hR4_0.mono hx8.1
 replace hR6_0 := hR6_0.mono hx8.1
 replace hR6_2 := hR6_2.mono hx8.1
 replace hRxd_0 := hRxd_0.mono hx8.1
 refine Ok.bat 5 [1, 3, 5, 7, 8, 9, 10, 11, 12] [(13, .slice a8_0 ((epaS xd xe.2.1).1).length c8_0), (14, .int .i64 (epaS xd xe.2.1).2)] ?_
 refine Ok.nil (Ok.thenN (Ok.seq (Ok.seq (Ok.region (Ok.bat 2 [1, 3, 5, 8, 9, 10, 11, 12, 14] [(42, .slice a4_0 ((epaS xd xe.2.1).1).length c4_0), (43, .slice a8_0 ((epaS xd xe.2.1).1).length c8_0)] ?_)))))
 obtain ⟨hp9, hF⟩ := hF
 refine Ok.op rfl (OpOk.callG (v := .bool (eeqS (epaS xd xe.2.1).1 (epaS xd xe.2.1).1)) enr (fun W hW => eeq_c (epaS xd xe.2.1).1 (epaS xd xe.2.1).1 (hR4_0.mono hW.sees) (hR8_0.mono hW.sees) hp9) rfl ?_)
 refine Ok.bat 2 [1, 3, 5, 8, 9, 10, 11, 12, 14] [(46, .bool (!(eeqS (epaS xd xe.2.1).1 (epaS xd xe.2.1).1)))] ?_
 refine Ok.midway 4 [(1, .slice axl_0 xl.length cxl_0), (3, pv b1 0), (5, pv b2 0), (9, .slice a6_0 ((eseS xd xl xe).1).length c6_0), (10, .bool (eseS xd xl xe).2.1), (11, .slice a6_2 ((eseS xd xl xe).2.2.1).length c6_2), (12, .int .i64 (eseS xd xl xe).2.2.2), (50, .bool ((!(eeqS (epaS xd xe.2.1).1 (epaS xd xe.2.1).1)) || ((epaS xd xe.2.1).2 != (epaS xd xe.2.1).2)))] (fun hR10 => ?_) ?_
 ·refine Ok.boolAt 46 (!(eeqS (epaS xd xe.2.1).1 (epaS xd xe.2.1).1)) rfl (fun hc11 => ?_) (fun hc11 => ?_)
  ·skip
   refine Ok.bat 4 [1, 3, 5, 9, 10, 11, 12] [(50, .bool true)] ?_
   refine Ok.reval 50 rfl (show (.bool true : Value) = .bool ((!(eeqS (epaS xd xe.2.1).1 (epaS xd xe.2.1).1)) || ((epaS xd xe.2.1).2 != (epaS xd xe.2.1).2)) from congrArg Value.bool (mor_t hc11)) (Ok.bat 0 [1, 3, 5, 9, 10, 11, 12] [(50, .bool ((!(eeqS (epaS xd xe.2.1).1 (epaS xd xe.2.1).1)) || ((epaS xd xe.2.1).2 != (epaS xd xe.2.1).2)))] ?_)
   exact hR10
  ·skip
   refine Ok.bat 4 [1, 3, 5, 9, 10, 11, 12] [(50, .bool ((epaS xd xe.2.1).2 != (epaS xd xe.2.1).2))] ?_
   refine Ok.reval 50 rfl (show (.bool ((epaS xd xe.2.1).2 != (epaS xd xe.2.1).2) : Value) = .bool ((!(eeqS (epaS xd xe.2.1).1 (epaS xd xe.2.1).1)) || ((epaS xd xe.2.1).2 != (epaS xd xe.2.1).2)) from congrArg Value.bool (mor_f hc11)) (Ok.bat 0 [1, 3, 5, 9, 10, 11, 12] [(50, .bool ((!(eeqS (epaS xd xe.2.1).1 (epaS xd xe.2.1).1)) || ((epaS xd xe.2.1).2 != (epaS xd xe.2.1).2)))] ?_)
   exact hR10
 refine Ok.nil (Ok.thenN (Ok.cond (b := ((!(eeqS (epaS xd xe.2.1).1 (epaS xd xe.2.1).1)) || ((epaS xd xe.2.1).2 != (epaS xd xe.2.1).2))) rfl (fun hc12 => ?_) (fun hc12 => ?_)))
 ·replace hF := hF.1 hc12
  refine Ok.seq (Ok.region (Ok.batch 1 [(6, .bool false)] (by kernel_rfl) (Ok.nil (Ok.thenN (Ok.ret (Ok.thenR ?_))))))
  exact Ok.resP (vs := [.bool false]) [] [] (by decide) rfl (.inl rfl) rfl (.cons (.tmp rfl) .nil) ((hx4.trans hx6).trans hx8) ⟨false, rfl, rfl, hF⟩
 ·replace hF := hF.2 hc12
  refine Ok.skip (Ok.thenN (Ok.seq (Ok.region (Ok.op rfl (OpOk.step (v := .agg #[.slice axd_0 xd.1.length cxd_0, .bool xd.2]) (Yields.loadAgg 1 2 #[.slice axd_0 xd.1.length cxd_0, .bool xd.2] rfl rfl Tryd.underlying24 rfl (by kernel_rfl) (by kernel_rfl) (by kernel_rfl)) rfl rfl (Ok.bat 1 [5, 9, 10, 11, 12] [(52, .agg #[.slice axd_0 xd.1.length cxd_0, .bool xd.2]), (53, .slice axl_0 xl.length cxl_0)] ?_))))))
  refine Ok.op rfl (OpOk.step (v := .agg #[sv xe.1, .int .i64 xe.2.1, .int .i64 xe.2.2.1, .int .i64 xe.2.2.2.1, sv xe.2.2.2.2.1, .bool xe.2.2.2.2.2.1, .bool xe.2.2.2.2.2.2]) (Yields.loadAgg 0 7 #[sv xe.1, .int .i64 xe.2.1, .int .i64 xe.2.2.1, .int .i64 xe.2.2.2.1, sv xe.2.2.2.2.1, .bool xe.2.2.2.2.2.1, .bool xe.2.2.2.2.2.2] rfl rfl Tryd.underlying27 rfl (by kernel_rfl) (by kernel_rfl) (by kernel_rfl)) rfl rfl ?_)
  obtain ⟨hp13, hF⟩ := hF
  refine Ok.op rfl (OpOk.callH [] _ enr rfl (rse_c xd xl xe hRxd_0 hRxl_0 hp13) rfl fun g14 _ _ hx14 hV14 => ?_)
  obtain ⟨a14_0, c14_0, a14_2, c14_2, rfl, hR14_0, hR14_2, rfl⟩ := hV14
  replace hR6_0 := hR6_0.mono hx14.1
  replace hR6_2 := hR6_2.mono hx14.1
  replace hRxd_0 := hRxd_0.mono hx14.1
  replace hRxl_0 := hRxl_0.mono hx14.1
  refine Ok.bat 9 [9, 10, 11, 12] [(15, .slice a14_0 ((eseS xd xl xe).1).length c14_0), (16, .bool (eseS xd xl xe).2.1), (17, .slice a14_2 ((eseS xd xl xe).2.2.1).length c14_2), (18, .int .i64 (eseS xd xl xe).2.2.2)] ?_
  refine Ok.nil (Ok.thenN (Ok.cut (fun a W => ∃ gj19 : Ghost, Gext w0 g14 gj19 ∧ StA 78 [(6, .bool (levV0 xd xl xe))] a ∧ StW w0 [] gj19 W ∧ levj19 xd xl xe K) ?_ ?_))
  ·
   refine Ok.region (Ok.bat 2 [10, 11, 12, 16, 17, 18] [(60, .slice a6_0 ((eseS xd xl xe).1).length c6_0), (61, .slice a14_0 ((eseS xd xl xe).1).length c14_0)] ?_)
   obtain ⟨hp15, hF⟩ := hF
   refine Ok.op rfl (OpOk.callG (v := .bool (ehqS (eseS xd xl xe).1 (eseS xd xl xe).1)) enr (fun W hW => ehq_c (eseS xd xl xe).1 (eseS xd xl xe).1 (hR6_0.mono hW.sees) (hR14_0.mono hW.sees) hp15) rfl ?_)
   refine Ok.bat 1 [10, 11, 12, 16, 17, 18] [(63, .bool (ehqS (eseS xd xl xe).1 (eseS xd xl xe).1))] ?_
   refine Ok.midway 4 [(11, .slice a6_2 ((eseS xd xl xe).2.2.1).length c6_2), (12, .int .i64 (eseS xd xl xe).2.2.2), (17, .slice a14_2 ((eseS xd xl xe).2.2.1).length c14_2), (18, .int .i64 (eseS xd xl xe).2.2.2), (67, .bool ((ehqS (eseS xd xl xe).1 (eseS xd xl xe).1) && ((eseS xd xl xe).2.1 == (eseS xd xl xe).2.1)))] (fun hR16 => ?_) ?_
   ·refine Ok.boolAt 63 ((ehqS (eseS xd xl xe).1 (eseS xd xl xe).1)) rfl (fun hc17 => ?_) (fun hc17 => ?_)
    ·skip
     refine Ok.bat 4 [11, 12, 17, 18] [(67, .bool ((eseS xd xl xe).2.1 == (eseS xd xl xe).2.1))] ?_
     refine Ok.reval 67 rfl (show (.bool ((eseS xd xl xe).2.1 == (eseS xd xl xe).2.1) : Value) = .bool ((ehqS (eseS xd xl xe).1 (eseS xd xl xe).1) && ((eseS xd xl xe).2.1 == (eseS xd xl xe).2.1)) from congrArg Value.bool (mand_t hc17)) (Ok.bat 0 [11, 12, 17, 18] [(67, .bool ((ehqS (eseS xd xl xe).1 (eseS xd xl xe).1) && ((eseS xd xl xe).2.1 == (eseS xd xl xe).2.1)))] ?_)
     exact hR16
    ·skip
     refine Ok.bat 4 [11, 12, 17, 18] [(67, .bool false)] ?_
     refine Ok.reval 67 rfl (show (.bool false : Value) = .bool ((ehqS (eseS xd xl xe).1 (eseS xd xl xe).1) && ((eseS xd xl xe).2.1 == (eseS xd xl xe).2.1)) from congrArg Value.bool (mand_f hc17)) (Ok.bat 0 [11, 12, 17, 18] [(67, .bool ((ehqS (eseS xd xl xe).1 (eseS xd xl xe).1) && ((eseS xd xl xe).2.1 == (eseS xd xl xe).2.1)))] ?_)
     exact hR16
   refine Ok.bat 1 [11, 12, 17, 18] [(68, .bool ((ehqS (eseS xd xl xe).1 (eseS xd xl xe).1) && ((eseS xd xl xe).2.1 == (eseS xd xl xe).2.1)))] ?_
   refine Ok.boolAt 68 (((ehqS (eseS xd xl xe).1 (eseS xd xl xe).1) && ((eseS xd xl xe).2.1 == (eseS xd xl xe).2.1))) rfl (fun hc18 => ?_) (fun hc18 => ?_)
   ·replace hF := hF.1 hc18
    refine Ok.bat 2 [12, 18] [(68, .bool true), (69, .slice a6_2 ((eseS xd xl xe).2.2.1).length c6_2), (70, .slice a14_2 ((eseS xd xl xe).2.2.1).length c14_2)] ?_
    obtain ⟨hp19, hF⟩ := hF
    refine Ok.opYes (j := 8) (d := 68) (want := true) (b := true) rfl (by kernel_rfl) (by kernel_rfl) rfl (OpOk.callG (v := .bool (elqS (eseS xd xl xe).2.2.1 (eseS xd xl xe).2.2.1)) enr (fun W hW => elq_c (eseS xd xl xe).2.2.1 (eseS xd xl xe).2.2.1 (hR6_2.mono hW.sees) (hR14_2.mono hW.sees) hp19) rfl ?_)
    refine Ok.bat 2 [12, 18] [(73, .bool (elqS (eseS xd xl xe).2.2.1 (eseS xd xl xe).2.2.1))] ?_
    refine Ok.midway 4 [(77, .bool ((elqS (eseS xd xl xe).2.2.1 (eseS xd xl xe).2.2.1) && ((eseS xd xl xe).2.2.2 == (eseS xd xl xe).2.2.2)))] (fun hR20 => ?_) ?_
    ·refine Ok.boolAt 73 ((elqS (eseS xd xl xe).2.2.1 (eseS xd xl xe).2.2.1)) rfl (fun hc21 => ?_) (fun hc21 => ?_)
     ·skip
      refine Ok.batch 4 [(77, .bool ((eseS xd xl xe).2.2.2 == (eseS xd xl xe).2.2.2))] (by kernel_rfl) (Ok.reval 77 rfl (show (.bool ((eseS xd xl xe).2.2.2 == (eseS xd xl xe).2.2.2) : Value) = .bool ((elqS (eseS xd xl xe).2.2.1 (eseS xd xl xe).2.2.1) && ((eseS xd xl xe).2.2.2 == (eseS xd xl xe).2.2.2)) from congrArg Value.bool (mand_t hc21)) (Ok.batch 0 [(77, .bool ((elqS (eseS xd xl xe).2.2.1 (eseS xd xl xe).2.2.1) && ((eseS xd xl xe).2.2.2 == (eseS xd xl xe).2.2.2)))] (by kernel_rfl) ?_))
      exact hR20
     ·skip
      refine Ok.batch 4 [(77, .bool false)] (by kernel_rfl) (Ok.reval 77 rfl (show (.bool false : Value) = .bool ((elqS (eseS xd xl xe).2.2.1 (eseS xd xl xe).2.2.1) && ((eseS xd xl xe).2.2.2 == (eseS xd xl xe).2.2.2)) from congrArg Value.bool (mand_f hc21)) (Ok.batch 0 [(77, .bool ((elqS (eseS xd xl xe).2.2.1 (eseS xd xl xe).2.2.1) && ((eseS xd xl xe).2.2.2 == (eseS xd xl xe).2.2.2)))] (by kernel_rfl) ?_))
      exact hR20
    refine Ok.batch 1 [(6, .bool ((elqS (eseS xd xl xe).2.2.1 (eseS xd xl xe).2.2.1) && ((eseS xd xl xe).2.2.2 == (eseS xd xl xe).2.2.2)))] (by kernel_rfl) (Ok.nil (Ok.thenN (Ok.reval 6 rfl (show (.bool ((elqS (eseS xd xl xe).2.2.1 (eseS xd xl xe).2.2.1) && ((eseS xd xl xe).2.2.2 == (eseS xd xl xe).2.2.2)) : Value) = .bool (levV0 xd xl xe) from congrArg (Value.bool) (mand_t hc18)) ?_)))
    exact fun a W hA hW => ⟨g14, (Gext.refl w0 g14), hA.sub (by kernel_rfl), hW.sub (.cons _ (.cons _ .slnil)), hF⟩
   ·replace hF := hF.2 hc18
    refine Ok.batch 10 [(6, .bool false)] (by kernel_rfl) (Ok.nil (Ok.thenN (Ok.reval 6 rfl (show (.bool false : Value) = .bool (levV0 xd xl xe) from congrArg (Value.bool) (mand_f hc18)) ?_)))
    exact fun a W hA hW => ⟨g14, (Gext.refl w0 g14), hA.sub (by kernel_rfl), hW.sub (.cons _ (.cons _ .slnil)), hF⟩
  ·
   clear hF
   rintro a W ⟨gj19, hxj19, hA, hW, hF⟩
   refine (?_ : Ok _ _ _ _ _ _) a W hA hW
   clear hA hW
   refine Ok.ret ?_
   exact Ok.resH (vs := [.bool (levV0 xd xl xe)]) (.inl rfl) rfl (.cons (.tmp rfl) .nil) ((((hx4.trans hx6).trans hx8).trans hx14).trans hxj19) ⟨(levV0 xd xl xe), rfl, rfl, hF⟩
def levP (d : DC) (l : List LI) (e : EV) : Prop := DomS (.pair (.slice (.pair (.int .i64) (.pair (.str) (.pair (.slice (.pair (.str) (.str))) (.pair (.str) (.pair (.int .i64) (.slice (.int .i64)))))))) (.bool)) d ∧ DomS (.slice (.pair (.int .i64) (.pair (.int .i64) (.pair (.str) (.pair (.bool) (.pair (.bool) (.pair (.bool) (.pair (.bool) (.bool))))))))) l ∧ DomS (.pair (.str) (.pair (.int .i64) (.pair (.int .i64) (.pair (.int .i64) (.pair (.str) (.pair (.bool) (.bool))))))) e
theorem lev_F (d : DC) (l : List LI) (e : EV) (hp0 : levP d l e) : levF d l e (fun r => r = true) := by
 have hp : dchkP d := fun x hx => (hp0.1.1.1.2 x hx).2.2.2.2.2.1
 have hw := epa_len d e.2.1
 have hq : (!(eeqS (epaS d e.2.1).1 (epaS d e.2.1).1) || ((epaS d e.2.1).2 != (epaS d e.2.1).2)) = false := by
  unfold eeqS; rw [beq_self_eq_true]; simp
 refine ⟨hp, hp, hp, ⟨by unfold eeqP; omega, (fun h => by rw [hq] at h; cases h), fun _ => ⟨hp, ?_⟩⟩⟩
 have hlen : (eseS d l e).1.length ≤ 1000000 ∧ (eseS d l e).2.2.1.length ≤ 1000000 := by
  unfold eseS
  by_cases h : ((easS d l e).2 != 0) = true
  ·rw [if_t h]; exact ⟨by simp, by simp⟩
  ·have h : ((easS d l e).2 != 0) = false := by simpa using h
   rw [if_f h]
   have hl := eas_few d l e h
   have h1 := run_len e l hl (estS (easS d l e).1 e.2.2.2.2.2.1) zeroP
   have h2 := est_len (easS d l e).1 e.2.2.2.2.2.1
   have h3 := eas_len d l e
   have h4 : zeroP.2.2.2.1.length = 0 := rfl
   refine ⟨?_, ?_⟩
   ·show (runP e l _ zeroP).2.2.2.1.length ≤ _; omega
   ·show (l.filter _).length ≤ _
    have := List.length_filter_le (fun x : LI => !(ecoS (runP e l (estS (easS d l e).1 e.2.2.2.2.2.1) zeroP).2.2.2.2 x.1)) l
    omega
 have j : levj19 d l e (fun r => r = true) := by
  show levV0 d l e = true
  unfold levV0 ehqS elqS
  rw [beq_self_eq_true, beq_self_eq_true, beq_self_eq_true, beq_self_eq_true]; rfl
 exact ⟨⟨hlen.1, hlen.1⟩, fun _ => ⟨⟨hlen.2, hlen.2⟩, j⟩, fun _ => j⟩
theorem lev_c {g : Ghost} {axd_0 : Option Addr} {cxd_0 : Nat} (xd : (List (Int × Bs × (List (Bs × Bs)) × Bs × Int × List (Int))) × Bool) {axl_0 : Option Addr} {cxl_0 : Nat} (xl : List (Int × Int × Bs × Bool × Bool × Bool × Bool × Bool)) (xe : Bs × Int × Int × Int × Bs × Bool × Bool) (hRxd_0 : Rep g (.slice (.pair (.int .i64) (.pair (.str) (.pair (.slice (.pair (.str) (.str))) (.pair (.str) (.pair (.int .i64) (.slice (.int .i64)))))))) [.slice axd_0 xd.1.length cxd_0] xd.1) (hRxl_0 : Rep g (.slice (.pair (.int .i64) (.pair (.int .i64) (.pair (.str) (.pair (.bool) (.pair (.bool) (.pair (.bool) (.pair (.bool) (.bool))))))))) [.slice axl_0 xl.length cxl_0] xl)  (hp : levP xd xl xe) : CallsG Tryd.prog 3 #[.agg #[.slice axd_0 xd.1.length cxd_0, .bool xd.2], .slice axl_0 xl.length cxl_0, .agg #[sv xe.1, .int .i64 xe.2.1, .int .i64 xe.2.2.1, .int .i64 xe.2.2.2.1, sv xe.2.2.2.2.1, .bool xe.2.2.2.2.2.1, .bool xe.2.2.2.2.2.2]] g (.bool ((fun _ _ _ => true) xd xl xe)) :=
 (lev_ok xd xl xe hRxd_0 hRxl_0 _ (lev_F xd xl xe hp)).gives (by rintro g' H' v _ ⟨r0, rfl, rfl, hK⟩; subst hK; rfl)
end
end Go.Proofs.YtbifbljdmndjbaaDoor.Ev
