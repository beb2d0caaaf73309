/- MediaHolds: the tokens of queries that are told. -/
import Derived.Test.YtjehllphdpkjeaaGreatDoorMhq
namespace Go.Proofs.YtjehllphdpkjeaaGreatDoor.Me
open Go Go.Eng Go.RowKit Go.Shelf Go.Proofs Bld Trm Css Ti
set_option linter.unusedVariables false
inductive FsT : List (Int × Int) → List Tok → Prop
  | one {f : Int × Int} {fs : List Tok} (h : FT f fs) : FsT [f] fs
  | more {f : Int × Int} {fs : List Tok} {gs : List (Int × Int)} {ts : List Tok} (h : FT f fs) (t : FsT gs ts) : FsT (f :: gs) (fs ++ tA :: ts)
inductive QT : Qu → List Tok → Prop
  | plain {l : List (Int × Int)} {ts : List Tok} (h : FsT l ts) : QT (false, l) ts
  | not {l : List (Int × Int)} {ts : List Tok} (h : FsT l ts) : QT (true, l) (tN :: ts)
inductive LT : List Qu → List Tok → Prop
  | one {q : Qu} {ts : List Tok} (h : QT q ts) : LT [q] ts
  | more {q : Qu} {l : List Qu} {ts us : List Tok} (h : QT q ts) (t : LT l us) : LT (q :: l) (ts ++ tK :: us)
theorem join2 (x y : List UInt8) (r : List (List UInt8)) (sep : List UInt8) : Lib.join (x :: y :: r) sep = x ++ (sep ++ Lib.join (y :: r) sep) := by
  rw [Lib.join_cons, Lib.join_cons]
  unfold Lib.joinTail
  rw [List.map_cons, List.flatten_cons, List.append_assoc]
theorem feat_ws {f : Int × Int} (hf : rightF f) (q : List UInt8) : tlS (featS f ++ q) ([32, 9, 10, 12, 13] : List UInt8) = featS f ++ q := by
  have : ∃ c v, featS f = c :: v ∧ ([32, 9, 10, 12, 13] : List UInt8).contains c = false := by
    obtain ⟨k, n⟩ := f
    obtain ⟨h1, h2, h3⟩ := hf
    have h1 : 1 ≤ k := h1
    have h2 : k ≤ 12 := h2
    unfold featS
    by_cases hw : k ≤ 3
    · have hk : k = 1 ∨ k = 2 ∨ k = 3 := by omega
      rw [if_pos (by simp; omega)]
      rcases hk with rfl | rfl | rfl <;> exact ⟨_, _, rfl, by decide⟩
    · rw [if_neg (by simp; omega)]
      split
      · exact ⟨40, _, rfl, by decide⟩
      · split
        · exact ⟨40, _, rfl, by decide⟩
        · exact ⟨40, _, rfl, by decide⟩
  obtain ⟨c, v, e, h⟩ := this
  rw [e]
  exact not_ws h
theorem and_word : (match ([97, 110, 100] : List UInt8) with | [] => false | c :: v => plB c && !decide (48 ≤ c.toNat ∧ c.toNat ≤ 57) && startsM (c.toNat : Int) && ((c :: v).all fun c => signM (c.toNat : Int) && !(c.toNat == 92)) && tokOK (1, c :: v, c :: v, 0)) = true := by decide +kernel
theorem not_word : (match ([110, 111, 116] : List UInt8) with | [] => false | c :: v => plB c && !decide (48 ≤ c.toNat ∧ c.toNat ≤ 57) && startsM (c.toNat : Int) && ((c :: v).all fun c => signM (c.toNat : Int) && !(c.toNat == 92)) && tokOK (1, c :: v, c :: v, 0)) = true := by decide +kernel
theorem sol_feats : ∀ (fs : List (Int × Int)), fs ≠ [] → (∀ f ∈ fs, rightF f) → ∀ (r : List UInt8) (ss : List Tok), (Lib.join (fs.map featS) sepA ++ r).length ≤ 1000 → stopB r = true → Sol r ss → ∃ ts, FsT fs ts ∧ Sol (Lib.join (fs.map featS) sepA ++ r) (ts ++ ss)
  | [], h, _, _, _, _, _, _ => absurd rfl h
  | [f], _, hf, r, ss, hl, hr, h => by
    rw [List.map_cons, List.map_nil, Lib.join_one] at hl ⊢
    obtain ⟨fs, h1, h2⟩ := sol_feat (hf f (List.mem_singleton.2 rfl)) hl hr h
    exact ⟨fs, .one h1, h2⟩
  | f :: g :: l, _, hf, r, ss, hl, hr, h => by
    rw [List.map_cons, List.map_cons, join2] at hl ⊢
    rw [← List.map_cons] at hl ⊢
    have e : (featS f ++ (sepA ++ Lib.join ((g :: l).map featS) sepA)) ++ r = featS f ++ (32 :: ([97, 110, 100] ++ (32 :: (Lib.join ((g :: l).map featS) sepA ++ r)))) := by simp
    rw [e] at hl ⊢
    simp only [List.length_append, List.length_cons, List.length_nil] at hl
    obtain ⟨ts, h1, h2⟩ := sol_feats (g :: l) (by simp) (fun x hx => hf x (List.mem_cons_of_mem _ hx)) r ss (by rw [List.length_append]; omega) hr h
    have hws : tlS (Lib.join ((g :: l).map featS) sepA ++ r) ([32, 9, 10, 12, 13] : List UInt8) = Lib.join ((g :: l).map featS) sepA ++ r := by
      rw [List.map_cons, Lib.join_cons, List.append_assoc]
      exact feat_ws (hf g (by simp)) _
    have a1 := sol_blank (by simp only [List.length_append, List.length_cons]; omega) hws h2
    have a2 := sol_word [97, 110, 100] and_word (by simp only [List.length_append, List.length_cons, List.length_nil]; omega) rfl a1
    have a3 := sol_blank (r := [97, 110, 100] ++ (32 :: (Lib.join ((g :: l).map featS) sepA ++ r))) (by simp only [List.length_append, List.length_cons, List.length_nil]; omega) (not_ws (by decide)) a2
    obtain ⟨fs, b1, b2⟩ := sol_feat (hf f (List.mem_cons_self ..)) (by simp only [List.length_append, List.length_cons, List.length_nil]; omega) rfl a3
    refine ⟨_, .more b1 h1, ?_⟩
    rw [List.append_assoc]
    exact b2
def rightQ (q : Qu) : Prop := q.2 ≠ [] ∧ ∀ f ∈ q.2, rightF f
theorem feats_ws {q : Qu} (h : rightQ q) (r : List UInt8) : tlS (featsS q ++ r) ([32, 9, 10, 12, 13] : List UInt8) = featsS q ++ r := by
  obtain ⟨h1, h2⟩ := h
  unfold featsS joinS
  cases hq : q.2 with
  | nil => exact absurd hq h1
  | cons f l =>
    rw [List.map_cons, Lib.join_cons, List.append_assoc]
    exact feat_ws (h2 f (by rw [hq]; exact List.mem_cons_self ..)) _
theorem que_ws {q : Qu} (h : rightQ q) (r : List UInt8) : tlS (queS q ++ r) ([32, 9, 10, 12, 13] : List UInt8) = queS q ++ r := by
  unfold queS
  split
  · exact not_ws (by decide)
  · exact feats_ws h r
theorem sol_que {q : Qu} (h : rightQ q) {r : List UInt8} {ss : List Tok} (hl : (queS q ++ r).length ≤ 1000) (hr : stopB r = true) (hs : Sol r ss) : ∃ ts, QT q ts ∧ Sol (queS q ++ r) (ts ++ ss) := by
  obtain ⟨b, l⟩ := q
  cases b with
  | false =>
    have e : queS (false, l) = Lib.join (l.map featS) sepA := rfl
    rw [e] at hl ⊢
    obtain ⟨ts, h1, h2⟩ := sol_feats l h.1 h.2 r ss hl hr hs
    exact ⟨ts, .plain h1, h2⟩
  | true =>
    have e : queS (true, l) ++ r = [110, 111, 116] ++ (32 :: (Lib.join (l.map featS) sepA ++ r)) := by
      show (notW ++ Lib.join (l.map featS) sepA) ++ r = _
      simp
    rw [e] at hl ⊢
    simp only [List.length_append, List.length_cons, List.length_nil] at hl
    obtain ⟨ts, h1, h2⟩ := sol_feats l h.1 h.2 r ss (by rw [List.length_append]; omega) hr hs
    have hws : tlS (Lib.join (l.map featS) sepA ++ r) ([32, 9, 10, 12, 13] : List UInt8) = Lib.join (l.map featS) sepA ++ r := feats_ws h r
    have a1 := sol_blank (by simp only [List.length_append, List.length_cons]; omega) hws h2
    have a2 := sol_word [110, 111, 116] not_word (by simp only [List.length_append, List.length_cons, List.length_nil]; omega) rfl a1
    exact ⟨_, .not h1, a2⟩
theorem sol_text : ∀ (l : List Qu), l ≠ [] → (∀ q ∈ l, rightQ q) → (textS l).length ≤ 1000 → ∃ ts, LT l ts ∧ Sol (textS l) ts
  | [], h, _, _ => absurd rfl h
  | [q], _, hq, hl => by
    have e : textS [q] = queS q ++ [] := by
      unfold textS joinS
      rw [List.map_cons, List.map_nil, Lib.join_one, List.append_nil]
    rw [e] at hl ⊢
    obtain ⟨ts, h1, h2⟩ := sol_que (hq q (List.mem_singleton.2 rfl)) hl rfl sol_nil
    rw [List.append_nil ts] at h2
    exact ⟨ts, .one h1, h2⟩
  | q :: p :: l, _, hq, hl => by
    have e : textS (q :: p :: l) = queS q ++ (44 :: 32 :: textS (p :: l)) := by
      unfold textS joinS
      rw [List.map_cons, List.map_cons, join2, ← List.map_cons]; rfl
    rw [e] at hl ⊢
    simp only [List.length_append, List.length_cons] at hl
    obtain ⟨us, h1, h2⟩ := sol_text (p :: l) (by simp) (fun x hx => hq x (List.mem_cons_of_mem _ hx)) (by omega)
    have hws : tlS (textS (p :: l)) ([32, 9, 10, 12, 13] : List UInt8) = textS (p :: l) := by
      unfold textS joinS
      rw [List.map_cons, Lib.join_cons]
      exact que_ws (hq p (by simp)) _
    have a1 := sol_blank (by simp only [List.length_cons]; omega) hws h2
    have a2 := sol_K (by simp only [List.length_cons]; omega) a1
    obtain ⟨ts, b1, b2⟩ := sol_que (hq q (List.mem_cons_self ..)) (by simp only [List.length_append, List.length_cons]; omega) rfl a2
    exact ⟨_, .more b1 h1, b2⟩
/-- what is told can be cut -/
theorem told_cut {s : List UInt8} {ss : List Tok} (hl : s.length ≤ 400) (h : Sol s ss) : cutP s ∧ toksOK (cutS s) ∧ solidS (cutS s) = ss := by
  obtain ⟨ts, h1, h2, h3⟩ := h
  obtain ⟨c1, c2⟩ := cuts_cut h1
  obtain ⟨d1, d2⟩ := c2 s.length (Nat.le_refl _)
  have e : cutS s = ts := d1
  rw [e]
  exact ⟨⟨hl, d2⟩, ⟨by omega, h3⟩, h2⟩
end Go.Proofs.YtjehllphdpkjeaaGreatDoor.Me
