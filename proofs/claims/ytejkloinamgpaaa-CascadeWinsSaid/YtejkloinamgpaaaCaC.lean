/- CascadeWins: the reference's winners are the same. -/
import Derived.Test.YtejkloinamgpaaaCaB
namespace Go.Proofs.Ytejkloinamgpaaa.Ca
open Go.Eng IntWalk Pr
set_option linter.unusedVariables false
theorem le_trans' {a b c : G} (h : laterB b a = false) (h2 : laterB c b = false) : laterB c a = false := by
  unfold laterB at *
  repeat' split at h
  all_goals repeat' split at h2
  all_goals repeat' split
  all_goals simp_all
  all_goals omega
theorem later_asymm {a b : G} (h : laterB a b = true) : laterB b a = false := by
  unfold laterB at *
  repeat' split at h
  all_goals repeat' split
  all_goals simp_all
  all_goals omega
def lastN (n : Nm) (L : List G) : Option G := L.foldl (fun o x => if x.1 = n then some x else o) none
theorem last_from (n : Nm) : ∀ (L : List G) (o : Option G), L.foldl (fun o x => if x.1 = n then some x else o) o = match lastN n L with | some b => some b | none => o
  | [], o => rfl
  | x :: L, o => by
    unfold lastN
    simp only [List.foldl_cons]
    rw [last_from n L, last_from n L]
    cases lastN n L with
    | some b => rfl
    | none => by_cases h : x.1 = n <;> simp [h]
theorem last_append (n : Nm) (A B : List G) : lastN n (A ++ B) = match lastN n B with | some b => some b | none => lastN n A := by
  unfold lastN
  rw [List.foldl_append, last_from]; rfl
theorem last_mem {n : Nm} {b : G} : ∀ {L : List G}, lastN n L = some b → b ∈ L ∧ b.1 = n := by
  intro L
  refine snoc_ind (p := fun L => lastN n L = some b → b ∈ L ∧ b.1 = n) (by simp [lastN]) (fun L x ih h => ?_) L
  rw [last_append] at h
  by_cases hx : x.1 = n
  · simp [lastN, hx] at h; subst h; simp [hx]
  · simp [lastN, hx] at h
    have := ih h
    exact ⟨by simp [this.1], this.2⟩
def ofIx (l : List G) (out : List Int) : List G := out.map fun j => l.getD j.toNat dG
theorem posN_at (l : List G) (g : G) (out : List Int) : ∀ k, k ≤ out.length → (∀ j x, posN l g out k ≤ j → j < k → (ofIx l out)[j]? = some x → laterB g x = true) ∧
    (posN l g out k = 0 ∨ ∃ x, (ofIx l out)[posN l g out k - 1]? = some x ∧ laterB g x = false)
  | 0, _ => ⟨fun j x h1 h2 => by omega, .inl rfl⟩
  | k + 1, hk => by
    have hx : (ofIx l out)[k]? = some (l.getD (out.getD k 0).toNat dG) := by
      unfold ofIx
      rw [List.getElem?_map, List.getElem?_eq_getElem (by omega), Option.map_some, List.getD_eq_getElem?_getD (l := out), List.getElem?_eq_getElem (by omega), Option.getD_some]
    unfold posN
    split
    · rename_i hb
      obtain ⟨h1, h2⟩ := posN_at l g out k (by omega)
      refine ⟨fun j x hj hj2 hxj => ?_, h2⟩
      by_cases hjk : j = k
      · subst hjk; rw [hx] at hxj; injection hxj with hxj; rw [← hxj]; exact hb
      · exact h1 j x hj (by omega) hxj
    · rename_i hb
      exact ⟨fun j x h1 h2 => by omega, .inr ⟨_, by rw [Nat.add_sub_cancel]; exact hx, by simpa using hb⟩⟩
theorem put_sorted {A B : List G} {g : G} (hs : (A ++ B).Pairwise (fun a b => laterB b a = false)) (hA : ∀ x ∈ A, laterB g x = false) (hB : ∀ x ∈ B, laterB g x = true) : (A ++ [g] ++ B).Pairwise (fun a b => laterB b a = false) := by
  rw [List.pairwise_append] at hs
  rw [List.append_assoc, List.pairwise_append]
  refine ⟨hs.1, ?_, fun a ha b hb => ?_⟩
  · rw [List.singleton_append, List.pairwise_cons]
    refine ⟨fun b hb => ?_, hs.2.1⟩
    exact later_asymm (hB b hb)
  · rw [List.singleton_append, List.mem_cons] at hb
    rcases hb with rfl | hb
    · exact hA a ha
    · exact hs.2.2 a ha b hb
theorem put_last {A B : List G} {g : G} (n : Nm) (hA : ∀ x ∈ A, laterB g x = false) (hB : ∀ x ∈ B, laterB g x = true) : lastN n (A ++ [g] ++ B) = upd n (lastN n (A ++ B)) g := by
  rw [last_append, last_append, last_append]
  unfold upd
  by_cases hg : g.1 = n
  · rw [if_pos hg]
    cases hb : lastN n B with
    | some b =>
      have := hB b (last_mem hb).1
      simp [this]
    | none =>
      have e1 : lastN n [g] = some g := by simp [lastN, hg]
      rw [e1]
      cases ha : lastN n A with
      | none => rfl
      | some b =>
        have := hA b (last_mem ha).1
        simp [this]
  · rw [if_neg hg]
    have e1 : lastN n [g] = none := by simp [lastN, hg]
    rw [e1]
theorem ofIx_put (l : List G) (out : List Int) (k : Nat) (i : Nat) : ofIx l (out.take k ++ [(i : Int)] ++ out.drop k) = (ofIx l out).take k ++ [l.getD i dG] ++ (ofIx l out).drop k := by
  unfold ofIx
  rw [List.map_append, List.map_append, List.map_take, List.map_drop]
  rfl
theorem ord_ok (l : List G) : ∀ i, i ≤ l.length → (ofIx l (ordN l i)).Pairwise (fun a b => laterB b a = false) ∧ ∀ n, lastN n (ofIx l (ordN l i)) = best n (l.take i)
  | 0, _ => ⟨by simp [ofIx, ordN], fun n => by simp [ofIx, ordN, lastN, best]⟩
  | i + 1, h => by
    obtain ⟨h1, h2⟩ := ord_ok l i (by omega)
    have hg : l[i]? = some (l.getD i dG) := get_of dG (by omega)
    generalize hgg : l.getD i dG = g at hg
    generalize hk : posN l g (ordN l i) (ordN l i).length = k
    obtain ⟨p1, p2⟩ := posN_at l g (ordN l i) (ordN l i).length (Nat.le_refl _)
    rw [hk] at p1 p2
    have hlen : (ofIx l (ordN l i)).length = (ordN l i).length := by unfold ofIx; rw [List.length_map]
    have e : ofIx l (ordN l (i + 1)) = (ofIx l (ordN l i)).take k ++ [g] ++ (ofIx l (ordN l i)).drop k := by
      show ofIx l ((ordN l i).take (posN l (l.getD i dG) (ordN l i) (ordN l i).length) ++ [(i : Int)] ++ (ordN l i).drop (posN l (l.getD i dG) (ordN l i) (ordN l i).length)) = _
      rw [hgg, hk, ofIx_put, hgg]
    generalize ofIx l (ordN l i) = L at h1 h2 p1 p2 e hlen
    have hB : ∀ x ∈ L.drop k, laterB g x = true := fun x hx => by
      obtain ⟨j, hj⟩ := List.mem_iff_getElem?.1 hx
      rw [List.getElem?_drop] at hj
      have := (List.getElem?_eq_some_iff.1 hj).1
      exact p1 (k + j) x (by omega) (by omega) hj
    have hA : ∀ x ∈ L.take k, laterB g x = false := fun x hx => by
      obtain ⟨j, hj⟩ := List.mem_iff_getElem?.1 hx
      rw [List.getElem?_take] at hj
      split at hj
      · rename_i hjk
        rcases p2 with p2 | ⟨y, hy, hy2⟩
        · omega
        · by_cases hjy : j = k - 1
          · subst hjy; rw [hj] at hy; injection hy with hy; rw [hy]; exact hy2
          · have hjl := (List.getElem?_eq_some_iff.1 hj).1
            have hkl := (List.getElem?_eq_some_iff.1 hy).1
            have := List.pairwise_iff_getElem.1 h1 j (k - 1) hjl hkl (by omega)
            rw [(List.getElem?_eq_some_iff.1 hj).2, (List.getElem?_eq_some_iff.1 hy).2] at this
            exact le_trans' this hy2
      · cases hj
    have hL : L.take k ++ L.drop k = L := List.take_append_drop k L
    rw [e]
    refine ⟨put_sorted (by rw [hL]; exact h1) hA hB, fun n => ?_⟩
    rw [put_last n hA hB, hL, h2, take_snoc hg, best_snoc]
theorem order_last (l : List G) (n : Nm) : lastN n (ofIx l (orderI l)) = best n l := by
  have := (ord_ok l l.length (Nat.le_refl _)).2 n
  rw [List.take_length] at this
  exact this
theorem mem_firstNs : ∀ (l : List G), ∀ g ∈ l, g.1 ∈ firstNs l := snoc_ind (fun g h => by cases h) fun l x ih g h => by
  rw [firstNs_snoc]
  unfold addN
  rcases List.mem_append.1 h with h | h
  · have := ih g h
    split
    · exact this
    · exact List.mem_append_left _ this
  · rw [List.mem_singleton] at h
    subst h
    split
    · assumption
    · simp
theorem rwin_put {l : List G} {i : Nat} {out : List G} {names : List Nm} {C : Int → List G → List Nm → Prop} (hi : i ≤ 1000) (h : C ((i + 1 : Nat) : Int) out names) : rwinj20 out names i C := by
  unfold rwinj20
  rw [i64_in _ (by omega), show (i : Int) + 1 = ((i + 1 : Nat) : Int) by omega]; exact h
theorem rwin_in {l : List G} {i : Nat} {g b : G} {out : List G} {names : List Nm} {C : Int → List G → List Nm → Prop} (hl : l.length ≤ 1000) (ho : out.length ≤ 1000) (hg : l[i]? = some g) (h : C ((i + 1 : Nat) : Int) (out ++ [b]) (names ++ [g.1])) :
    ∀ (k : Nat) (C33 : Int → Prop), k < l.length → lastN g.1 ((ofIx l (orderI l)).take (k + 1)) = some b → (lastN g.1 ((ofIx l (orderI l)).take k) = some b → C33 ((k : Int) - 1)) → rwinl33b l g i out names C k C33 := by
  have hil := (List.getElem?_eq_some_iff.1 hg).1
  intro k C33 hk hb hC
  have hol : (orderI l).length = l.length := ordN_len l l.length
  have hko : k < (orderI l).length := by omega
  obtain ⟨x0, x1⟩ := ordN_in l l.length _ (List.getElem_mem hko)
  have hox : (orderI l)[k]? = some (orderI l)[k] := List.getElem?_eq_getElem hko
  have hxl : ((orderI l)[k]).toNat < l.length := by
    have : (orderI l)[k] < (l.length : Int) := x1
    omega
  have hlx : l[((orderI l)[k]).toNat]? = some l[((orderI l)[k]).toNat] := List.getElem?_eq_getElem hxl
  have hLk : (ofIx l (orderI l))[k]? = some l[((orderI l)[k]).toNat] := by
    unfold ofIx
    rw [List.getElem?_map, hox, Option.map_some, List.getD_eq_getElem?_getD, hlx, Option.getD_some]
  rw [take_snoc hLk, last_append] at hb
  unfold rwinl33b
  rw [show (k : Int).toNat = k by omega, show (i : Int).toNat = i by omega]
  refine ⟨fun _ => ⟨_, by omega, hox, _, x0, hlx, g, by omega, hg, fun h3 => ?_, fun h3 => ?_⟩, fun h => by have := of_decide_eq_false h; omega⟩
  · have h3 := beq_iff_eq.1 h3
    have e1 : lastN g.1 [l[((orderI l)[k]).toNat]] = some l[((orderI l)[k]).toNat] := by simp [lastN, h3]
    rw [e1] at hb
    injection hb with hb
    refine ⟨_, by omega, hox, _, x0, hlx, by simp; omega, rwin_put (l := l) (by omega) ?_⟩
    rw [hb]; exact h
  · have h3 : ¬ (l[((orderI l)[k]).toNat]).1 = g.1 := by simpa using h3
    have e1 : lastN g.1 [l[((orderI l)[k]).toNat]] = none := by simp [lastN, h3]
    rw [e1] at hb
    rw [i64_in _ (by omega)]
    exact hC hb
theorem rwin_run {l : List G} {i : Nat} {g b : G} {out : List G} {names : List Nm} {C : Int → List G → List Nm → Prop} (hl : l.length ≤ 1000) (ho : out.length ≤ 1000) (hg : l[i]? = some g) (h : C ((i + 1 : Nat) : Int) (out ++ [b]) (names ++ [g.1])) :
    ∀ (k : Nat), k < l.length → lastN g.1 ((ofIx l (orderI l)).take (k + 1)) = some b → rwinl33 l g i out names C (k + 1) k := by
  intro k
  induction k with
  | zero => intro hk hb; exact rwin_in hl ho hg h 0 _ hk hb (fun hb => by simp [lastN] at hb)
  | succ k ih =>
    intro hk hb
    refine rwin_in hl ho hg h (k + 1) _ hk hb (fun hb => ?_)
    rw [show ((k + 1 : Nat) : Int) - 1 = (k : Int) by omega]
    exact ih (by omega) hb
theorem rwin_loop {l : List G} (hl : l.length ≤ 1000) : ∀ (n i : Nat) (out : List G) (names : List Nm), l.length < n + i → i ≤ l.length → out = (firstNs (l.take i)).map (winAt l) → names = firstNs (l.take i) → rwinl13 l (fun r => r = winL l) n i out names := by
  intro n
  induction n with
  | zero => intro i out names h1 h2; omega
  | succ n ih =>
    intro i out names h1 h2 hout hnm
    show rwinl13b l _ i out names _
    unfold rwinl13b
    rw [show (i : Int).toNat = i by omega]
    have hlen := firstNs_len (l.take i)
    rw [List.length_take, Nat.min_eq_left h2] at hlen
    refine ⟨fun h => ?_, fun h => ?_⟩
    · have h := of_decide_eq_true h
      obtain ⟨g, hg⟩ : ∃ g, l[i]? = some g := ⟨l[i], by simp⟩
      have hT := take_snoc hg
      refine ⟨g, by omega, hg, by unfold inP; rw [hnm]; omega, fun h3 => ?_, fun h3 => ⟨g, by omega, hg, ?_, l.length, ?_⟩⟩
      · have hin : g.1 ∈ firstNs (l.take i) := by
          apply Classical.byContradiction
          intro hc
          have := idx_none.2 hc
          unfold isIn at h3
          rw [hnm, this] at h3; cases h3
        have hfn : firstNs (l.take (i + 1)) = firstNs (l.take i) := by rw [hT, firstNs_snoc]; unfold addN; rw [if_pos hin]
        exact rwin_put (l := l) (by omega) (ih (i + 1) _ _ (by omega) (by omega) (by rw [hfn]; exact hout) (by rw [hfn]; exact hnm))
      · rw [hnm]; simp; omega
      · have hnin : g.1 ∉ firstNs (l.take i) := fun hc => by
          have : Pr.firstIdx g.1 (firstNs (l.take i)) ≠ none := fun e => idx_none.1 e hc
          unfold isIn at h3
          rw [hnm] at h3
          cases he : Pr.firstIdx g.1 (firstNs (l.take i)) with
          | none => exact this he
          | some k => rw [he] at h3; cases h3
        have hfn : firstNs (l.take (i + 1)) = firstNs (l.take i) ++ [g.1] := by rw [hT, firstNs_snoc]; unfold addN; rw [if_neg hnin]
        have hbest : best g.1 l = some (winAt l g.1) := by
          unfold winAt
          cases hb : best g.1 l with
          | none => exact absurd (mem_firstNs l g (List.mem_of_getElem? hg)) ((best_none _ _).1 hb)
          | some b => rfl
        have hol : (orderI l).length = l.length := ordN_len l l.length
        rw [hol, i64_in _ (by omega), show (l.length : Int) - 1 = ((l.length - 1 : Nat) : Int) by omega, show l.length = l.length - 1 + 1 by omega]
        refine rwin_run (b := winAt l g.1) hl (by rw [hout, List.length_map]; omega) hg ?_ (l.length - 1) (by omega) ?_
        · refine ih (i + 1) _ _ (by omega) (by omega) ?_ ?_
          · rw [hfn, List.map_append, hout]; rfl
          · rw [hfn, hnm]
        · rw [show l.length - 1 + 1 = l.length by omega, List.take_of_length_le (by unfold ofIx; rw [List.length_map, hol]; exact Nat.le_refl _), order_last]; exact hbest
    · have h := of_decide_eq_false h
      rw [hout, List.take_of_length_le (by omega)]; rfl
theorem rwin_F (l : List G) (h : winP l) : rwinF l (fun r => r = winL l) :=
  ⟨h, l.length + 1, rwin_loop h (l.length + 1) 0 _ _ (by omega) (by omega) (by simp [firstNs]) (by simp [firstNs])⟩
set_option linter.unusedVariables false in
theorem win_c {g : Ghost} (xl : List (List UInt8 × List UInt8 × Int × Bool × Int × Int)) {a0 : Option Addr} {c0 : Nat} (hR0 : Rep g (.slice (.pair (.str) (.pair (.str) (.pair (.int .i64) (.pair (.bool) (.pair (.int .i64) (.int .i64))))))) [.slice a0 xl.length c0] xl) (hp : winP xl) : CallsM Try.prog 19 #[.slice a0 xl.length c0] g (fun g' v => ∃ (ra0 : Option Addr) (rc0 : Nat), v = .slice ra0 (winL xl).length rc0 ∧ Rep g' (.slice (.pair (.str) (.pair (.str) (.pair (.int .i64) (.pair (.bool) (.pair (.int .i64) (.int .i64))))))) [.slice ra0 (winL xl).length rc0] (winL xl)) :=
  (win_ok xl hR0 _ (win_F xl hp)).mono (by rintro _ _ _ ⟨_, _, _, rfl, hr0, rfl⟩; exact ⟨_, _, rfl, hr0⟩)
set_option linter.unusedVariables false in
theorem rwin_c {g : Ghost} (xl : List (List UInt8 × List UInt8 × Int × Bool × Int × Int)) {a0 : Option Addr} {c0 : Nat} (hR0 : Rep g (.slice (.pair (.str) (.pair (.str) (.pair (.int .i64) (.pair (.bool) (.pair (.int .i64) (.int .i64))))))) [.slice a0 xl.length c0] xl) (hp : winP xl) : CallsM Try.prog 20 #[.slice a0 xl.length c0] g (fun g' v => ∃ (ra0 : Option Addr) (rc0 : Nat), v = .slice ra0 (winL xl).length rc0 ∧ Rep g' (.slice (.pair (.str) (.pair (.str) (.pair (.int .i64) (.pair (.bool) (.pair (.int .i64) (.int .i64))))))) [.slice ra0 (winL xl).length rc0] (winL xl)) :=
  (rwin_ok xl hR0 _ (rwin_F xl hp)).mono (by rintro _ _ _ ⟨_, _, _, rfl, hr0, rfl⟩; exact ⟨_, _, rfl, hr0⟩)
def ownedj3 (K : Bool → Prop) (x0j3 : Bool) : Prop :=
  K x0j3
def ownedF (K : Bool → Prop) : Prop :=
  ((laterB (([] : List UInt8), ([] : List UInt8), 1, false, 0, 0) (([] : List UInt8), ([] : List UInt8), 2, false, 0, 0)) = true → ownedj3 K (!(laterB (([] : List UInt8), ([] : List UInt8), 1, true, 0, 0) (([] : List UInt8), ([] : List UInt8), 2, false, 0, 0)))) ∧ ((laterB (([] : List UInt8), ([] : List UInt8), 1, false, 0, 0) (([] : List UInt8), ([] : List UInt8), 2, false, 0, 0)) = false → ownedj3 K false)
set_option maxHeartbeats 4000000 in
set_option maxRecDepth 100000 in
set_option linter.unusedVariables false in
theorem owned_ok {g : Ghost}  (K : Bool → Prop)
    (hF : ownedF K) : CallsK Try.prog 18 #[] g (fun v => ∃ r0 : Bool, v = .bool r0 ∧ K r0) := by
  refine CallsK.enter 10 [] Try.func18 rfl (by kernel_rfl) (by kernel_rfl) (by kernel_rfl) fun w0 => ?_
  refine Ok.seq ?_
  refine Ok.region ?_
  refine Ok.batch 1 [] (by kernel_rfl) ?_
  refine Ok.nil ?_
  refine Ok.thenN ?_
  refine Ok.cut (fun a W => ∃ (x0j3 : Bool), StA 10 [(0, .bool x0j3)] a ∧ StW w0 [] g W ∧ ownedj3 K x0j3) ?_ ?_
  ·
    refine Ok.region ?_
    refine Ok.batch 2 [(1, .agg #[.string ⟨⟨([] : List UInt8)⟩⟩, .string ⟨⟨([] : List UInt8)⟩⟩, .int .i64 1, .bool false, .int .i64 0, .int .i64 0]), (2, .agg #[.string ⟨⟨([] : List UInt8)⟩⟩, .string ⟨⟨([] : List UInt8)⟩⟩, .int .i64 2, .bool false, .int .i64 0, .int .i64 0])] (by kernel_rfl) ?_
    refine Ok.op rfl (OpOk.call (v := .bool (laterB (([] : List UInt8), ([] : List UInt8), 1, false, 0, 0) (([] : List UInt8), ([] : List UInt8), 2, false, 0, 0))) (enters (by kernel_rfl) (fun _ => by kernel_rfl)) (less_c (([] : List UInt8), ([] : List UInt8), 1, false, 0, 0) (([] : List UInt8), ([] : List UInt8), 2, false, 0, 0)) rfl rfl ?_)
    refine Ok.batch 1 [(4, .bool (laterB (([] : List UInt8), ([] : List UInt8), 1, false, 0, 0) (([] : List UInt8), ([] : List UInt8), 2, false, 0, 0)))] (by kernel_rfl) ?_
    refine Ok.boolAt 4 (laterB (([] : List UInt8), ([] : List UInt8), 1, false, 0, 0) (([] : List UInt8), ([] : List UInt8), 2, false, 0, 0)) rfl (fun hc => ?_) (fun hc => ?_)
    · replace hF := hF.1 hc
      refine Ok.batch 2 [(4, .bool true), (5, .agg #[.string ⟨⟨([] : List UInt8)⟩⟩, .string ⟨⟨([] : List UInt8)⟩⟩, .int .i64 1, .bool true, .int .i64 0, .int .i64 0]), (6, .agg #[.string ⟨⟨([] : List UInt8)⟩⟩, .string ⟨⟨([] : List UInt8)⟩⟩, .int .i64 2, .bool false, .int .i64 0, .int .i64 0])] (by kernel_rfl) ?_
      refine Ok.opYes (j := 3) (d := 4) (want := true) (b := true) rfl (by kernel_rfl) (by kernel_rfl) rfl (OpOk.call (v := .bool (laterB (([] : List UInt8), ([] : List UInt8), 1, true, 0, 0) (([] : List UInt8), ([] : List UInt8), 2, false, 0, 0))) (enters (by kernel_rfl) (fun _ => by kernel_rfl)) (less_c (([] : List UInt8), ([] : List UInt8), 1, true, 0, 0) (([] : List UInt8), ([] : List UInt8), 2, false, 0, 0)) rfl rfl ?_)
      refine Ok.batch 3 [(0, .bool (!(laterB (([] : List UInt8), ([] : List UInt8), 1, true, 0, 0) (([] : List UInt8), ([] : List UInt8), 2, false, 0, 0))))] (by kernel_rfl) ?_
      refine Ok.nil ?_
      refine Ok.thenN ?_
      exact fun a W hA hW => ⟨(!(laterB (([] : List UInt8), ([] : List UInt8), 1, true, 0, 0) (([] : List UInt8), ([] : List UInt8), 2, false, 0, 0))), hA.sub (by kernel_rfl), hW, hF⟩
    · replace hF := hF.2 hc
      refine Ok.batch 6 [(0, .bool false)] (by kernel_rfl) ?_
      refine Ok.nil ?_
      refine Ok.thenN ?_
      exact fun a W hA hW => ⟨false, hA.sub (by kernel_rfl), hW, hF⟩
  ·
    rintro a W ⟨x0j3, hA, hW, hF⟩
    refine (?_ : Ok _ _ _ _ _ _) a W hA hW
    clear hA hW
    refine Ok.ret ?_
    exact Ok.res1 (.inl rfl) rfl (.tmp rfl) ⟨x0j3, rfl, hF⟩
theorem owned_F : ownedF (fun r => r = true) := by
  unfold ownedF ownedj3
  exact ⟨fun _ => by decide, fun h => absurd h (by decide)⟩
set_option linter.unusedVariables false in
theorem owned_c {g : Ghost}   : CallsG Try.prog 18 #[] g (.bool true) :=
  (owned_ok  _ (owned_F )).gives (by rintro _ ⟨_, rfl, rfl⟩; rfl)
def winsl23b (pl : List (List UInt8 × List UInt8 × Int × Bool × Int × Int)) (K : Bool → Prop) (x6l23 : Int) (C23 : Int → Prop) : Prop :=
  ((decide (x6l23 < ((winL (pl.take (Int.toNat (if 60 < (pl.length : Int) then 60 else (pl.length : Int))))).length : Int))) = true → ∃ e4 : List UInt8 × List UInt8 × Int × Bool × Int × Int, (0 : Int) ≤ x6l23 ∧ (winL (pl.take (Int.toNat (if 60 < (pl.length : Int) then 60 else (pl.length : Int)))))[Int.toNat x6l23]? = some e4 ∧ ∃ e5 : List UInt8 × List UInt8 × Int × Bool × Int × Int, (0 : Int) ≤ x6l23 ∧ (winL (pl.take (Int.toNat (if 60 < (pl.length : Int) then 60 else (pl.length : Int)))))[Int.toNat x6l23]? = some e5 ∧ ((!([(e4.1 == e5.1), (e4.2.1 == e5.2.1), (e4.2.2.1 == e5.2.2.1), (e4.2.2.2.1 == e5.2.2.2.1), (e4.2.2.2.2.1 == e5.2.2.2.2.1), (e4.2.2.2.2.2 == e5.2.2.2.2.2)].all id)) = true → K false) ∧ ((!([(e4.1 == e5.1), (e4.2.1 == e5.2.1), (e4.2.2.1 == e5.2.2.1), (e4.2.2.2.1 == e5.2.2.2.1), (e4.2.2.2.2.1 == e5.2.2.2.2.1), (e4.2.2.2.2.2 == e5.2.2.2.2.2)].all id)) = false → C23 (IntKind.wrap .i64 (x6l23 + 1)))) ∧ ((decide (x6l23 < ((winL (pl.take (Int.toNat (if 60 < (pl.length : Int) then 60 else (pl.length : Int))))).length : Int))) = false → K true)
def winsl23 (pl : List (List UInt8 × List UInt8 × Int × Bool × Int × Int)) (K : Bool → Prop) : Nat → Int → Prop
  | 0, _ => False
  | k + 1, x6l23 => winsl23b pl K x6l23 (winsl23 pl K k)
def winsF (pl : List (List UInt8 × List UInt8 × Int × Bool × Int × Int)) (K : Bool → Prop) : Prop :=
  (0 : Int) ≤ 0 ∧ 0 ≤ (if 60 < (pl.length : Int) then 60 else (pl.length : Int)) ∧ (if 60 < (pl.length : Int) then 60 else (pl.length : Int)) ≤ (pl.length : Int) ∧ winP (pl.take (Int.toNat (if 60 < (pl.length : Int) then 60 else (pl.length : Int)))) ∧ winP (pl.take (Int.toNat (if 60 < (pl.length : Int) then 60 else (pl.length : Int)))) ∧ (((((winL (pl.take (Int.toNat (if 60 < (pl.length : Int) then 60 else (pl.length : Int))))).length : Int) != ((winL (pl.take (Int.toNat (if 60 < (pl.length : Int) then 60 else (pl.length : Int))))).length : Int))) = true → K false) ∧ (((((winL (pl.take (Int.toNat (if 60 < (pl.length : Int) then 60 else (pl.length : Int))))).length : Int) != ((winL (pl.take (Int.toNat (if 60 < (pl.length : Int) then 60 else (pl.length : Int))))).length : Int))) = false → ∃ k, winsl23 pl K k 0)
set_option maxHeartbeats 4000000 in
set_option maxRecDepth 100000 in
set_option linter.unusedVariables false in
theorem wins_ok {g : Ghost} {apl : Option Addr} {cpl : Nat} (pl : List (List UInt8 × List UInt8 × Int × Bool × Int × Int)) (hRpl : Rep g (.slice (.pair (.str) (.pair (.str) (.pair (.int .i64) (.pair (.bool) (.pair (.int .i64) (.int .i64))))))) [.slice apl pl.length cpl] pl) (K : Bool → Prop)
    (hF : winsF pl K) : CallsK Try.prog 5 #[.slice apl pl.length cpl] g (fun v => ∃ r0 : Bool, v = .bool r0 ∧ K r0) := by
  refine CallsK.enter 38 [(0, .slice apl pl.length cpl)] Try.func5 rfl (by kernel_rfl) (by kernel_rfl) (by kernel_rfl) fun w0 => ?_
  refine Ok.seq ?_
  refine Ok.region ?_
  refine Ok.batch 1 [(0, .slice apl pl.length cpl)] (by kernel_rfl) ?_
  refine Ok.nil ?_
  refine Ok.thenN ?_
  refine Ok.seq ?_
  refine Ok.region ?_
  refine Ok.op rfl (OpOk.call (v := .bool true) (enters (by kernel_rfl) (fun _ => by kernel_rfl)) (owned_c ) rfl rfl ?_)
  refine Ok.batch 1 [(0, .slice apl pl.length cpl), (3, .bool true)] (by kernel_rfl) ?_
  refine Ok.nil ?_
  refine Ok.thenN ?_
  refine Ok.seq ?_
  refine Ok.region ?_
  refine Ok.batch 4 [(3, .bool true), (8, .slice apl pl.length cpl), (11, .int .i64 (if 60 < (pl.length : Int) then 60 else (pl.length : Int)))] (by kernel_rfl) ?_
  obtain ⟨h01, h11, h21, hF⟩ := hF
  refine Ok.op rfl (OpOk.sliceRo (e := .pair (.str) (.pair (.str) (.pair (.int .i64) (.pair (.bool) (.pair (.int .i64) (.int .i64)))))) (l := 0) (h := (if 60 < (pl.length : Int) then 60 else (pl.length : Int))) rfl Try.underlying33 (by kernel_rfl) (.inr ⟨rfl, rfl⟩) (.inl ⟨_, _, rfl, rfl⟩) hRpl h01 h11 h21 rfl (pl.take (Int.toNat (if 60 < (pl.length : Int) then 60 else (pl.length : Int)))) (by simp) fun a1 c1 hR1 => ?_)
  refine Ok.batch 1 [(0, .slice a1 (pl.take (Int.toNat (if 60 < (pl.length : Int) then 60 else (pl.length : Int)))).length c1), (3, .bool true)] (by kernel_rfl) ?_
  refine Ok.nil ?_
  refine Ok.thenN ?_
  refine Ok.seq ?_
  refine Ok.region ?_
  refine Ok.batch 1 [(0, .slice a1 (pl.take (Int.toNat (if 60 < (pl.length : Int) then 60 else (pl.length : Int)))).length c1), (3, .bool true), (13, .slice a1 (pl.take (Int.toNat (if 60 < (pl.length : Int) then 60 else (pl.length : Int)))).length c1)] (by kernel_rfl) ?_
  obtain ⟨hp, hF⟩ := hF
  refine Ok.op rfl (OpOk.callM (enters (by kernel_rfl) (fun _ => by kernel_rfl)) (win_c (pl.take (Int.toNat (if 60 < (pl.length : Int) then 60 else (pl.length : Int)))) hR1 hp) rfl rfl fun g2 v2 hx2 hV2 => ?_)
  obtain ⟨a2_0, c2_0, rfl, hR2_0⟩ := hV2
  replace hR1 := hR1.mono hx2.1
  refine Ok.batch 1 [(0, .slice a1 (pl.take (Int.toNat (if 60 < (pl.length : Int) then 60 else (pl.length : Int)))).length c1), (3, .bool true), (4, .slice a2_0 (winL (pl.take (Int.toNat (if 60 < (pl.length : Int) then 60 else (pl.length : Int))))).length c2_0)] (by kernel_rfl) ?_
  refine Ok.nil ?_
  refine Ok.thenN ?_
  refine Ok.seq ?_
  refine Ok.region ?_
  refine Ok.batch 1 [(3, .bool true), (4, .slice a2_0 (winL (pl.take (Int.toNat (if 60 < (pl.length : Int) then 60 else (pl.length : Int))))).length c2_0), (15, .slice a1 (pl.take (Int.toNat (if 60 < (pl.length : Int) then 60 else (pl.length : Int)))).length c1)] (by kernel_rfl) ?_
  obtain ⟨hp, hF⟩ := hF
  refine Ok.op rfl (OpOk.callM (enters (by kernel_rfl) (fun _ => by kernel_rfl)) (rwin_c (pl.take (Int.toNat (if 60 < (pl.length : Int) then 60 else (pl.length : Int)))) hR1 hp) rfl rfl fun g3 v3 hx3 hV3 => ?_)
  obtain ⟨a3_0, c3_0, rfl, hR3_0⟩ := hV3
  replace hR2_0 := hR2_0.mono hx3.1
  replace hR1 := hR1.mono hx3.1
  refine Ok.batch 1 [(3, .bool true), (4, .slice a2_0 (winL (pl.take (Int.toNat (if 60 < (pl.length : Int) then 60 else (pl.length : Int))))).length c2_0), (5, .slice a3_0 (winL (pl.take (Int.toNat (if 60 < (pl.length : Int) then 60 else (pl.length : Int))))).length c3_0)] (by kernel_rfl) ?_
  refine Ok.nil ?_
  refine Ok.thenN ?_
  refine Ok.seq ?_
  refine Ok.seq ?_
  refine Ok.region ?_
  refine Ok.batch 5 [(3, .bool true), (4, .slice a2_0 (winL (pl.take (Int.toNat (if 60 < (pl.length : Int) then 60 else (pl.length : Int))))).length c2_0), (5, .slice a3_0 (winL (pl.take (Int.toNat (if 60 < (pl.length : Int) then 60 else (pl.length : Int))))).length c3_0), (21, .bool (((winL (pl.take (Int.toNat (if 60 < (pl.length : Int) then 60 else (pl.length : Int))))).length : Int) != ((winL (pl.take (Int.toNat (if 60 < (pl.length : Int) then 60 else (pl.length : Int))))).length : Int)))] (by kernel_rfl) ?_
  refine Ok.nil ?_
  refine Ok.thenN ?_
  refine Ok.cond (b := (((winL (pl.take (Int.toNat (if 60 < (pl.length : Int) then 60 else (pl.length : Int))))).length : Int) != ((winL (pl.take (Int.toNat (if 60 < (pl.length : Int) then 60 else (pl.length : Int))))).length : Int))) rfl (fun hc => ?_) (fun hc => ?_)
  · replace hF := hF.1 hc
    refine Ok.seq ?_
    refine Ok.region ?_
    refine Ok.batch 1 [(2, .bool false)] (by kernel_rfl) ?_
    refine Ok.nil ?_
    refine Ok.thenN ?_
    refine Ok.ret ?_
    refine Ok.thenR ?_
    exact Ok.res1 (.inl rfl) rfl (.tmp rfl) ⟨false, rfl, hF⟩
  · replace hF := hF.2 hc
    refine Ok.skip ?_
    refine Ok.thenN ?_
    refine Ok.seq ?_
    refine Ok.seq ?_
    refine Ok.region ?_
    refine Ok.batch 1 [(3, .bool true), (4, .slice a2_0 (winL (pl.take (Int.toNat (if 60 < (pl.length : Int) then 60 else (pl.length : Int))))).length c2_0), (5, .slice a3_0 (winL (pl.take (Int.toNat (if 60 < (pl.length : Int) then 60 else (pl.length : Int))))).length c3_0), (6, .int .i64 0)] (by kernel_rfl) ?_
    refine Ok.nil ?_
    refine Ok.thenN ?_
    refine Ok.block ?_
    obtain ⟨k, hF⟩ := hF
    refine Ok.loop (fun k a W => ∃ gl23 : Ghost, Gext w0 g3 gl23 ∧ ∃ (x6l23 : Int), StA 38 [(3, .bool true), (4, .slice a2_0 (winL (pl.take (Int.toNat (if 60 < (pl.length : Int) then 60 else (pl.length : Int))))).length c2_0), (5, .slice a3_0 (winL (pl.take (Int.toNat (if 60 < (pl.length : Int) then 60 else (pl.length : Int))))).length c3_0), (6, .int .i64 x6l23)] a ∧ StW w0 [] gl23 W ∧ winsl23 pl K k x6l23) k ?_ ?_
    ·
      exact fun a W hA hW => ⟨g3, (Gext.refl w0 g3), 0, hA.sub (by kernel_rfl), hW, hF⟩
    ·
      rintro k23 a W ⟨gl23, hxl23, x6l23, hA, hW, hF⟩
      cases k23 with
      | zero => exact (hF : False).elim
      | succ k23 =>
        refine (?_ : Ok _ _ _ _ _ _) a W hA hW
        clear hA hW
        replace hR2_0 := hR2_0.mono hxl23.1
        replace hR3_0 := hR3_0.mono hxl23.1
        refine Ok.seq ?_
        refine Ok.seq ?_
        refine Ok.region ?_
        refine Ok.batch 4 [(3, .bool true), (4, .slice a2_0 (winL (pl.take (Int.toNat (if 60 < (pl.length : Int) then 60 else (pl.length : Int))))).length c2_0), (5, .slice a3_0 (winL (pl.take (Int.toNat (if 60 < (pl.length : Int) then 60 else (pl.length : Int))))).length c3_0), (6, .int .i64 x6l23), (25, .bool (decide (x6l23 < ((winL (pl.take (Int.toNat (if 60 < (pl.length : Int) then 60 else (pl.length : Int))))).length : Int))))] (by kernel_rfl) ?_
        refine Ok.nil ?_
        refine Ok.thenN ?_
        refine Ok.cond (b := decide (x6l23 < ((winL (pl.take (Int.toNat (if 60 < (pl.length : Int) then 60 else (pl.length : Int))))).length : Int))) rfl (fun hc => ?_) (fun hc => ?_)
        · replace hF := hF.1 hc
          refine Ok.skip ?_
          refine Ok.thenN ?_
          refine Ok.seq ?_
          refine Ok.block ?_
          refine Ok.seq ?_
          refine Ok.quiet' (by kernel_rfl) (by kernel_rfl) ?_
          refine OkQ.batch 2 [(3, .bool true), (4, .slice a2_0 (winL (pl.take (Int.toNat (if 60 < (pl.length : Int) then 60 else (pl.length : Int))))).length c2_0), (5, .slice a3_0 (winL (pl.take (Int.toNat (if 60 < (pl.length : Int) then 60 else (pl.length : Int))))).length c3_0), (6, .int .i64 x6l23), (28, .slice a2_0 (winL (pl.take (Int.toNat (if 60 < (pl.length : Int) then 60 else (pl.length : Int))))).length c2_0), (29, .int .i64 x6l23)] (by kernel_rfl) ?_
          obtain ⟨e4, h04, he4, hF⟩ := hF
          refine OkQ.op rfl (OpQ.indexRo (e := .pair (.str) (.pair (.str) (.pair (.int .i64) (.pair (.bool) (.pair (.int .i64) (.int .i64)))))) (i := x6l23) (el := e4) rfl rfl Try.underlying33 (by kernel_rfl) hR2_0 h04 he4 rfl fun q4 o4 cs4 _ hat4 hr4 => ?_)
          obtain ⟨_, _, rfl, rfl, ⟨_, _, rfl, rfl, ⟨_, _, rfl, rfl, ⟨_, _, rfl, rfl, ⟨_, _, rfl, rfl, rfl⟩⟩⟩⟩⟩ := hr4
          replace hat4 : At gl23 q4 o4 [.string ⟨⟨e4.1⟩⟩, .string ⟨⟨e4.2.1⟩⟩, .int .i64 e4.2.2.1, .bool e4.2.2.2.1, .int .i64 e4.2.2.2.2.1, .int .i64 e4.2.2.2.2.2] := hat4
          refine OkQ.op rfl (OpQ.step (v := .agg #[.string ⟨⟨e4.1⟩⟩, .string ⟨⟨e4.2.1⟩⟩, .int .i64 e4.2.2.1, .bool e4.2.2.2.1, .int .i64 e4.2.2.2.2.1, .int .i64 e4.2.2.2.2.2]) (Yields.loadAggRo 0 6 #[.string ⟨⟨e4.1⟩⟩, .string ⟨⟨e4.2.1⟩⟩, .int .i64 e4.2.2.1, .bool e4.2.2.2.1, .int .i64 e4.2.2.2.2.1, .int .i64 e4.2.2.2.2.2] hat4 (by kernel_rfl) Try.underlying36 rfl (by kernel_rfl) (by kernel_rfl) (by kernel_rfl)) rfl rfl ?_)
          refine OkQ.batch 2 [(3, .bool true), (4, .slice a2_0 (winL (pl.take (Int.toNat (if 60 < (pl.length : Int) then 60 else (pl.length : Int))))).length c2_0), (5, .slice a3_0 (winL (pl.take (Int.toNat (if 60 < (pl.length : Int) then 60 else (pl.length : Int))))).length c3_0), (6, .int .i64 x6l23), (31, .agg #[.string ⟨⟨e4.1⟩⟩, .string ⟨⟨e4.2.1⟩⟩, .int .i64 e4.2.2.1, .bool e4.2.2.2.1, .int .i64 e4.2.2.2.2.1, .int .i64 e4.2.2.2.2.2]), (32, .slice a3_0 (winL (pl.take (Int.toNat (if 60 < (pl.length : Int) then 60 else (pl.length : Int))))).length c3_0), (33, .int .i64 x6l23)] (by kernel_rfl) ?_
          obtain ⟨e5, h05, he5, hF⟩ := hF
          refine OkQ.op rfl (OpQ.indexRo (e := .pair (.str) (.pair (.str) (.pair (.int .i64) (.pair (.bool) (.pair (.int .i64) (.int .i64)))))) (i := x6l23) (el := e5) rfl rfl Try.underlying33 (by kernel_rfl) hR3_0 h05 he5 rfl fun q5 o5 cs5 _ hat5 hr5 => ?_)
          obtain ⟨_, _, rfl, rfl, ⟨_, _, rfl, rfl, ⟨_, _, rfl, rfl, ⟨_, _, rfl, rfl, ⟨_, _, rfl, rfl, rfl⟩⟩⟩⟩⟩ := hr5
          replace hat5 : At gl23 q5 o5 [.string ⟨⟨e5.1⟩⟩, .string ⟨⟨e5.2.1⟩⟩, .int .i64 e5.2.2.1, .bool e5.2.2.2.1, .int .i64 e5.2.2.2.2.1, .int .i64 e5.2.2.2.2.2] := hat5
          refine OkQ.op rfl (OpQ.step (v := .agg #[.string ⟨⟨e5.1⟩⟩, .string ⟨⟨e5.2.1⟩⟩, .int .i64 e5.2.2.1, .bool e5.2.2.2.1, .int .i64 e5.2.2.2.2.1, .int .i64 e5.2.2.2.2.2]) (Yields.loadAggRo 0 6 #[.string ⟨⟨e5.1⟩⟩, .string ⟨⟨e5.2.1⟩⟩, .int .i64 e5.2.2.1, .bool e5.2.2.2.1, .int .i64 e5.2.2.2.2.1, .int .i64 e5.2.2.2.2.2] hat5 (by kernel_rfl) Try.underlying36 rfl (by kernel_rfl) (by kernel_rfl) (by kernel_rfl)) rfl rfl ?_)
          refine OkQ.op rfl (OpQ.step (v := .bool (!([(e4.1 == e5.1), (e4.2.1 == e5.2.1), (e4.2.2.1 == e5.2.2.1), (e4.2.2.2.1 == e5.2.2.2.1), (e4.2.2.2.2.1 == e5.2.2.2.2.1), (e4.2.2.2.2.2 == e5.2.2.2.2.2)].all id))) (Yields.neAgg (k := 2) rfl rfl (.struct (k := 1) Try.underlying36 (by kernel_rfl) ⟨by decide, ⟨.string ⟨⟨e4.1⟩⟩, .string ⟨⟨e5.1⟩⟩, fun _ => by kernel_rfl, fun _ => by kernel_rfl, EqR.mono (k := 1) (.str Try.underlying9) (by decide)⟩, ⟨by decide, ⟨.string ⟨⟨e4.2.1⟩⟩, .string ⟨⟨e5.2.1⟩⟩, fun _ => by kernel_rfl, fun _ => by kernel_rfl, EqR.mono (k := 1) (.str Try.underlying9) (by decide)⟩, ⟨by decide, ⟨.int .i64 e4.2.2.1, .int .i64 e5.2.2.1, fun _ => by kernel_rfl, fun _ => by kernel_rfl, EqR.mono (k := 1) (.int Try.underlying3) (by decide)⟩, ⟨by decide, ⟨.bool e4.2.2.2.1, .bool e5.2.2.2.1, fun _ => by kernel_rfl, fun _ => by kernel_rfl, EqR.mono (k := 1) (.bool Try.underlying4) (by decide)⟩, ⟨by decide, ⟨.int .i64 e4.2.2.2.2.1, .int .i64 e5.2.2.2.2.1, fun _ => by kernel_rfl, fun _ => by kernel_rfl, EqR.mono (k := 1) (.int Try.underlying3) (by decide)⟩, ⟨by decide, ⟨.int .i64 e4.2.2.2.2.2, .int .i64 e5.2.2.2.2.2, fun _ => by kernel_rfl, fun _ => by kernel_rfl, EqR.mono (k := 1) (.int Try.underlying3) (by decide)⟩, trivial⟩⟩⟩⟩⟩⟩) rfl (by kernel_rfl)) rfl rfl ?_)
          refine OkQ.nil ?_
          refine Ok.thenN ?_
          refine Ok.cond (b := !([(e4.1 == e5.1), (e4.2.1 == e5.2.1), (e4.2.2.1 == e5.2.2.1), (e4.2.2.2.1 == e5.2.2.2.1), (e4.2.2.2.2.1 == e5.2.2.2.2.1), (e4.2.2.2.2.2 == e5.2.2.2.2.2)].all id)) rfl (fun hc => ?_) (fun hc => ?_)
          · replace hF := hF.1 hc
            refine Ok.seq ?_
            refine Ok.region ?_
            refine Ok.batch 1 [(2, .bool false)] (by kernel_rfl) ?_
            refine Ok.nil ?_
            refine Ok.thenN ?_
            refine Ok.ret ?_
            refine Ok.blockR ?_
            refine Ok.thenR ?_
            refine Ok.thenR ?_
            refine Ok.blockR ?_
            refine Ok.thenR ?_
            exact Ok.res1 (.inl rfl) rfl (.tmp rfl) ⟨false, rfl, hF⟩
          · replace hF := hF.2 hc
            refine Ok.skip ?_
            refine Ok.blockN ?_
            refine Ok.thenN ?_
            refine Ok.region ?_
            refine Ok.batch 3 [(3, .bool true), (4, .slice a2_0 (winL (pl.take (Int.toNat (if 60 < (pl.length : Int) then 60 else (pl.length : Int))))).length c2_0), (5, .slice a3_0 (winL (pl.take (Int.toNat (if 60 < (pl.length : Int) then 60 else (pl.length : Int))))).length c3_0), (6, .int .i64 (IntKind.wrap .i64 (x6l23 + 1)))] (by kernel_rfl) ?_
            refine Ok.nil ?_
            refine Ok.thenN ?_
            exact fun a W hA hW => ⟨k23, Nat.lt_succ_self _, gl23, hxl23, (IntKind.wrap .i64 (x6l23 + 1)), hA.sub (by kernel_rfl), hW, hF⟩
        · replace hF := hF.2 hc
          refine Ok.exit ?_
          refine Ok.thenE ?_
          refine Ok.thenE ?_
          refine Ok.blockHit ?_
          refine Ok.thenN ?_
          refine Ok.seq ?_
          refine Ok.region ?_
          refine Ok.batch 2 [(2, .bool true)] (by kernel_rfl) ?_
          refine Ok.nil ?_
          refine Ok.thenN ?_
          refine Ok.ret ?_
          exact Ok.res1 (.inl rfl) rfl (.tmp rfl) ⟨true, rfl, hF⟩
theorem wins_loop {l : List G} {w : List G} (hw : winL (l.take (Int.toNat (if 60 < (l.length : Int) then 60 else (l.length : Int)))) = w) (hl : w.length ≤ 1000) : ∀ (n k : Nat), w.length < n + k → k ≤ w.length → winsl23 l (fun r => r = true) n k := by
  intro n
  induction n with
  | zero => intro k h1 h2; omega
  | succ n ih =>
    intro k h1 h2
    show winsl23b l _ k _
    unfold winsl23b
    rw [hw, show (k : Int).toNat = k by omega]
    refine ⟨fun h => ?_, fun h => rfl⟩
    have h := of_decide_eq_true h
    have hx : w[k]? = some w[k] := List.getElem?_eq_getElem (by omega)
    refine ⟨_, by omega, hx, _, by omega, hx, fun h3 => ?_, fun _ => ?_⟩
    · simp at h3
    · rw [i64_in _ (by omega), show (k : Int) + 1 = ((k + 1 : Nat) : Int) by omega]
      exact ih (k + 1) (by omega) (by omega)
theorem wins_F (l : List G) : winsF l (fun r => r = true) := by
  unfold winsF
  have hc : 0 ≤ (if 60 < (l.length : Int) then 60 else (l.length : Int)) ∧ (if 60 < (l.length : Int) then 60 else (l.length : Int)) ≤ (l.length : Int) ∧ (if 60 < (l.length : Int) then 60 else (l.length : Int)) ≤ 60 := by
    split <;> omega
  have hp : winP (l.take (Int.toNat (if 60 < (l.length : Int) then 60 else (l.length : Int)))) := by
    unfold winP; rw [List.length_take]; omega
  have hlen : (winL (l.take (Int.toNat (if 60 < (l.length : Int) then 60 else (l.length : Int))))).length ≤ 1000 := by
    unfold winL; rw [List.length_map]
    exact Nat.le_trans (firstNs_len _) hp
  refine ⟨by omega, hc.1, hc.2.1, hp, hp, fun h => ?_, fun _ => ⟨_, wins_loop rfl hlen _ 0 (Nat.lt_succ_self _) (Nat.zero_le _)⟩⟩
  simp at h
set_option linter.unusedVariables false in
theorem wins_c {g : Ghost} (xl : List (List UInt8 × List UInt8 × Int × Bool × Int × Int)) {a0 : Option Addr} {c0 : Nat} (hR0 : Rep g (.slice (.pair (.str) (.pair (.str) (.pair (.int .i64) (.pair (.bool) (.pair (.int .i64) (.int .i64))))))) [.slice a0 xl.length c0] xl) : CallsG Try.prog 5 #[.slice a0 xl.length c0] g (.bool true) :=
  (wins_ok xl hR0 _ (wins_F xl)).gives (by rintro _ ⟨_, rfl, rfl⟩; rfl)
end Go.Proofs.Ytejkloinamgpaaa.Ca
