/- CascadeWins: what is won, in plain lists. -/
import Derived.Test.YtejkloinamgpaaaCaA
namespace Go.Proofs.Ytejkloinamgpaaa.Ca
open Go.Eng IntWalk Pr
set_option linter.unusedVariables false
abbrev Nm := List UInt8
def upd (n : Nm) (o : Option G) (g : G) : Option G :=
  if g.1 = n then (match o with | none => some g | some b => if laterB g b = true then some b else some g) else o
def best (n : Nm) (l : List G) : Option G := l.foldl (upd n) none
def addN (ns : List Nm) (g : G) : List Nm := if g.1 ∈ ns then ns else ns ++ [g.1]
def firstNs (l : List G) : List Nm := l.foldl addN []
def winAt (l : List G) (n : Nm) : G := (best n l).getD dG
def winL (l : List G) : List G := (firstNs l).map (winAt l)
theorem take_snoc {α : Type} {l : List α} {i : Nat} {x : α} (h : l[i]? = some x) : l.take (i + 1) = l.take i ++ [x] := by
  rw [List.take_add_one, h]; rfl
theorem best_snoc (n : Nm) (l : List G) (g : G) : best n (l ++ [g]) = upd n (best n l) g := by
  unfold best; rw [List.foldl_append]; rfl
theorem firstNs_snoc (l : List G) (g : G) : firstNs (l ++ [g]) = addN (firstNs l) g := by
  unfold firstNs; rw [List.foldl_append]; rfl
/-- a property of all lists, from the end -/
theorem snoc_ind {α : Type} {p : List α → Prop} (h0 : p []) (hs : ∀ l x, p l → p (l ++ [x])) : ∀ l, p l := by
  have key : ∀ n, ∀ l : List α, l.length = n → p l := by
    intro n
    induction n with
    | zero => intro l hl; rw [List.eq_nil_of_length_eq_zero hl]; exact h0
    | succ n ih =>
      intro l hl
      have hne : l ≠ [] := fun e => by rw [e] at hl; cases hl
      rw [← List.dropLast_concat_getLast hne]
      exact hs _ _ (ih _ (by rw [List.length_dropLast, hl]; rfl))
  intro l; exact key _ l rfl
theorem addN_nodup {ns : List Nm} (g : G) (h : ns.Nodup) : (addN ns g).Nodup := by
  unfold addN
  split
  · exact h
  · rename_i hn
    rw [List.nodup_append]
    exact ⟨h, by simp, fun a ha b hb => by rw [List.mem_singleton] at hb; subst hb; exact fun e => hn (e ▸ ha)⟩
theorem firstNs_nodup : ∀ l, (firstNs l).Nodup := snoc_ind (by simp [firstNs]) fun l g h => by rw [firstNs_snoc]; exact addN_nodup g h
theorem best_none (n : Nm) : ∀ l, best n l = none ↔ n ∉ firstNs l := snoc_ind (by simp [best, firstNs]) fun l g ih => by
  rw [best_snoc, firstNs_snoc]
  unfold upd addN
  by_cases hg : g.1 = n
  · rw [if_pos hg]
    constructor
    · intro h
      cases hb : best n l with
      | none => rw [hb] at h; cases h
      | some b => rw [hb] at h; simp only at h; split at h <;> cases h
    · intro h
      split at h
      · rename_i h2; rw [hg] at h2; exact absurd h2 h
      · rw [hg] at h; simp at h
  · rw [if_neg hg, ih]
    split
    · rfl
    · simp [Ne.symm hg]
theorem idx_none {n : Nm} : ∀ {l : List Nm}, Pr.firstIdx n l = none ↔ n ∉ l
  | [] => by simp [Pr.firstIdx]
  | x :: l => by
    unfold Pr.firstIdx
    by_cases h : (x == n) = true
    · rw [if_pos h]
      simp [beq_iff_eq.1 h]
    · rw [if_neg h]
      have h' : ¬ x = n := by simpa using h
      simp [Option.map_eq_none_iff, idx_none (l := l), Ne.symm h']
theorem idx_snoc {n m : Nm} : ∀ {l : List Nm}, Pr.firstIdx n (l ++ [m]) = match Pr.firstIdx n l with | some k => some k | none => if (m == n) = true then some l.length else none
  | [] => by simp [Pr.firstIdx]
  | x :: l => by
    simp only [List.cons_append, Pr.firstIdx]
    by_cases h : (x == n) = true
    · rw [if_pos h, if_pos h]
    · rw [if_neg h, if_neg h, idx_snoc (l := l)]
      cases Pr.firstIdx n l with
      | some k => rfl
      | none => by_cases h2 : (m == n) = true <;> simp [h2]
theorem assoc_put {V : Type} {n k : Nm} {v : V} : ∀ {mp : List (Nm × V)}, assocS n (putS k v mp) = if n = k then some v else assocS n mp
  | [] => by
    unfold putS assocS assocS
    by_cases h : n = k <;> simp [h]
  | x :: mp => by
    unfold putS
    by_cases h : (k == x.1) = true
    · rw [if_pos h]
      have h' := beq_iff_eq.1 h
      unfold assocS
      by_cases h2 : n = k
      · simp [h2]
      · have h3 : ¬ n = x.1 := h' ▸ h2
        simp [h2, h3]
    · rw [if_neg h]
      have h' : ¬ k = x.1 := by simpa using h
      simp only [assocS]
      by_cases h2 : (n == x.1) = true
      · rw [if_pos h2, if_pos h2, if_neg (fun e : n = k => h' (e.symm.trans (beq_iff_eq.1 h2)))]
      · rw [if_neg h2, if_neg h2, assoc_put]
theorem firstNs_len : ∀ l, (firstNs l).length ≤ l.length := snoc_ind (by simp [firstNs]) fun l g ih => by
  rw [firstNs_snoc, List.length_append]
  unfold addN
  split
  · simp; omega
  · simp; omega
theorem winAt_ne {T : List G} {g : G} {n : Nm} (h : ¬ g.1 = n) : winAt (T ++ [g]) n = winAt T n := by
  unfold winAt; rw [best_snoc]; unfold upd; rw [if_neg h]
theorem winAt_new {T : List G} {g : G} (h : g.1 ∉ firstNs T) : winAt (T ++ [g]) g.1 = g := by
  unfold winAt
  rw [best_snoc, (best_none _ _).2 h]
  unfold upd; rw [if_pos rfl]; rfl
theorem winAt_old {T : List G} {g : G} (h : g.1 ∈ firstNs T) : winAt (T ++ [g]) g.1 = if laterB g (winAt T g.1) = true then winAt T g.1 else g := by
  unfold winAt
  rw [best_snoc]
  unfold upd; rw [if_pos rfl]
  cases hb : best g.1 T with
  | none => exact absurd h ((best_none _ _).1 hb)
  | some b => simp only [Option.getD_some]; split <;> rfl
theorem map_one {f f' : Nm → G} {L : List Nm} (hn : L.Nodup) {k : Nat} {a : Nm} (ha : L[k]? = some a) (hne : ∀ b, b ≠ a → f' b = f b) : L.map f' = (L.map f).set k (f' a) := by
  apply List.ext_getElem?
  intro j
  rw [List.getElem?_set, List.getElem?_map, List.getElem?_map]
  have hk : k < L.length := (List.getElem?_eq_some_iff.1 ha).1
  by_cases hj : k = j
  · subst hj
    rw [ha]; simp [hk]
  · rw [if_neg hj]
    cases hb : L[j]? with
    | none => rfl
    | some b =>
      have hjl : j < L.length := (List.getElem?_eq_some_iff.1 hb).1
      have hba : b ≠ a := fun e => by
        have h1 := (List.getElem?_eq_some_iff.1 ha).2
        have h2 := (List.getElem?_eq_some_iff.1 hb).2
        have h3 := List.pairwise_iff_getElem.1 hn
        rcases Nat.lt_or_ge k j with h | h
        · exact h3 k j hk hjl h (by rw [h1, h2, e])
        · exact h3 j k hjl hk (by omega) (by rw [h1, h2, e])
      simp [hne b hba]
def winP (l : List G) : Prop := l.length ≤ 1000
theorem win_loop {l : List G} (hl : l.length ≤ 1000) : ∀ (n i : Nat) (out : List G) (mp : List (Nm × Int)), l.length < n + i → i ≤ l.length → out = winL (l.take i) →
    (∀ nm, assocS nm mp = (Pr.firstIdx nm (firstNs (l.take i))).map (fun k : Nat => (k : Int))) → winl11 l (fun r => r = winL l) n i out mp := by
  intro n
  induction n with
  | zero => intro i out mp h1 h2; omega
  | succ n ih =>
    intro i out mp h1 h2 hout hmp
    show winl11b l _ i out mp _
    unfold winl11b
    rw [show (i : Int).toNat = i by omega]
    refine ⟨fun h => ?_, fun h => ?_⟩
    · have h := of_decide_eq_true h
      obtain ⟨g, hg⟩ : ∃ g, l[i]? = some g := ⟨l[i], by simp⟩
      have hT := take_snoc hg
      have hlen := firstNs_len (l.take i)
      rw [List.length_take, Nat.min_eq_left h2] at hlen
      have hol : out.length = (firstNs (l.take i)).length := by rw [hout]; unfold winL; rw [List.length_map]
      have hnext : ∀ out' mp', out' = winL (l.take (i + 1)) → (∀ nm, assocS nm mp' = (Pr.firstIdx nm (firstNs (l.take (i + 1)))).map (fun k : Nat => (k : Int))) → winj18 out' mp' i (winl11 l (fun r => r = winL l) n) := fun out' mp' ho hm => by
        unfold winj18
        rw [i64_in _ (by omega), show (i : Int) + 1 = ((i + 1 : Nat) : Int) by omega]
        exact ih (i + 1) out' mp' (by omega) (by omega) ho hm
      refine ⟨g, by omega, hg, fun e he => ?_, fun he => ?_⟩
      · rw [hmp] at he
        obtain ⟨k, hk, rfl⟩ := Option.map_eq_some_iff.1 he
        have hk2 := first_get hk
        have hin : g.1 ∈ firstNs (l.take i) := List.mem_of_getElem? hk2
        have hfn : firstNs (l.take (i + 1)) = firstNs (l.take i) := by rw [hT, firstNs_snoc]; unfold addN; rw [if_pos hin]
        have hw : winL (l.take (i + 1)) = out.set k (winAt (l.take (i + 1)) g.1) := by
          rw [hout]; unfold winL
          rw [hfn]
          exact map_one (firstNs_nodup _) hk2 fun b hb => by rw [hT]; exact winAt_ne (Ne.symm hb)
        have hval : winAt (l.take (i + 1)) g.1 = if laterB g (winAt (l.take i) g.1) = true then winAt (l.take i) g.1 else g := by rw [hT]; exact winAt_old hin
        have hok : out[k]? = some (winAt (l.take i) g.1) := by rw [hout]; unfold winL; rw [List.getElem?_map, hk2]; rfl
        have hmp' : ∀ nm, assocS nm mp = (Pr.firstIdx nm (firstNs (l.take (i + 1)))).map (fun k : Nat => (k : Int)) := by rw [hfn]; exact hmp
        unfold winj22
        rw [show (k : Int).toNat = k by omega]
        refine ⟨fun h => (by cases h), fun _ => ⟨_, by omega, hok, fun h3 => ⟨_, by omega, hok, hnext _ _ ?_ hmp'⟩, fun h3 => hnext _ _ ?_ hmp'⟩⟩
        · have h3 := of_decide_eq_true h3
          have : ¬ laterB g (winAt (l.take i) g.1) = true := fun h4 => by have := (comp_later _ _).2 h4; omega
          rw [hw, hval, if_neg this]
        · have h3 := of_decide_eq_false h3
          have : laterB g (winAt (l.take i) g.1) = true := (comp_later _ _).1 (by omega)
          rw [hw, hval, if_pos this]
          apply List.ext_getElem?
          intro j
          rw [List.getElem?_set]
          split
          · rename_i e; subst e; rw [hok]; simp [(List.getElem?_eq_some_iff.1 hok).1]
          · rfl
      · rw [hmp, Option.map_eq_none_iff] at he
        have hnin := idx_none.1 he
        have hfn : firstNs (l.take (i + 1)) = firstNs (l.take i) ++ [g.1] := by rw [hT, firstNs_snoc]; unfold addN; rw [if_neg hnin]
        unfold winj22
        refine ⟨fun _ => ⟨by simp; omega, hnext _ _ ?_ fun nm => ?_⟩, fun h => (by cases h)⟩
        · unfold winL
          rw [hfn, List.map_append, List.map_singleton, hT, winAt_new hnin, hout]
          unfold winL
          congr 1
          exact List.map_congr_left fun b hb => (winAt_ne fun e => hnin (e ▸ hb)).symm
        · rw [assoc_put, hmp, hfn, idx_snoc]
          by_cases hn : nm = g.1
          · subst hn
            rw [if_pos rfl, he]; simp [hol]
          · rw [if_neg hn]
            have hn2 : ¬ (g.1 == nm) = true := by simpa using Ne.symm hn
            cases Pr.firstIdx nm (firstNs (l.take i)) with
            | some k => rfl
            | none => simp [hn2]
    · have h := of_decide_eq_false h
      rw [hout, List.take_of_length_le (by omega)]
theorem win_F (l : List G) (h : winP l) : winF l (fun r => r = winL l) :=
  ⟨l.length + 1, win_loop h (l.length + 1) 0 _ _ (by omega) (by omega) rfl (fun nm => by simp [assocS, firstNs, Pr.firstIdx])⟩
end Go.Proofs.Ytejkloinamgpaaa.Ca
