/- Tokens of a text, one by one: what csstok's first token is, and what is left. -/
import Derived.Test.YtjehllphdpkjeaaGreatDoorCut
namespace Go.Proofs.YtjehllphdpkjeaaGreatDoor.Css
open Go Go.Eng Bld Trm
set_option linter.unusedVariables false
/-- bytes with which no token of its own kind begins -/
def plB (c : UInt8) : Bool := !(([32, 9, 10, 12, 13, 47, 39, 34, 35, 64, 43, 45, 46, 92] : List Nat).contains c.toNat)
structure PlF (c : UInt8) : Prop where
  ne : ∀ n : Nat, n ∈ ([32, 9, 10, 12, 13, 47, 39, 34, 35, 64, 43, 45, 46, 92] : List Nat) → c.toNat ≠ n
theorem pl_of {c : UInt8} (h : plB c = true) : PlF c := ⟨fun n hn e => by
  unfold plB at h
  rw [e] at h
  have := List.elem_eq_true_of_mem hn
  simp only [Bool.not_eq_true'] at h
  have h' : ([32, 9, 10, 12, 13, 47, 39, 34, 35, 64, 43, 45, 46, 92] : List Nat).elem n = false := h
  rw [this] at h'; cases h'⟩
theorem PlF.eq {c : UInt8} (h : PlF c) {n : Nat} (hn : n ∈ ([32, 9, 10, 12, 13, 47, 39, 34, 35, 64, 43, 45, 46, 92] : List Nat)) : ((c.toNat : Int) == (n : Int)) = false := by
  have := h.ne n hn
  simp; omega
theorem PlF.u8 {c d : UInt8} (h : PlF c) (hd : d.toNat ∈ ([32, 9, 10, 12, 13, 47, 39, 34, 35, 64, 43, 45, 46, 92] : List Nat)) : (c == d) = false := by
  have := h.ne _ hd
  simp only [beq_eq_false_iff_ne, ne_eq]
  intro e; subst e; exact this rfl
theorem head0 (c : UInt8) (r : List UInt8) : (c :: r).getD (Int.toNat 0) 0 = c := rfl
theorem slhp_ne {c d : UInt8} {r p : List UInt8} (h : (c == d) = false) : slhpM (c :: r) (d :: p) = false := by
  unfold slhpM slhpj3M
  simp only [List.length_cons, Int.toNat_natCast, List.take_succ_cons]
  rw [Bool.and_eq_false_iff]
  right
  simp only [List.cons_beq_cons, h, Bool.false_and]
theorem slhp_nil {d : UInt8} {p : List UInt8} : slhpM [] (d :: p) = false := by
  unfold slhpM slhpj3M
  rw [Bool.and_eq_false_iff]
  left
  simp
theorem tl_same {c : UInt8} {r cut : List UInt8} (h : cut.contains c = false) : tlS (c :: r) cut = c :: r := by
  unfold tlS
  rw [List.dropWhile_cons_of_neg (by rw [h]; simp)]
theorem first_head {c : UInt8} {r : List UInt8} (hl : (c :: r).length ≤ 1000) (hc : PlF c) :
    firstM (c :: r) = if (decide ((numS (c :: r)).2 > 0)) = true then numberM (c :: r) (numS (c :: r)).1 (numS (c :: r)).2 else if begM (c :: r) = true then firstj72M (c :: r) else firstj88M (c :: r) c := by
  have h1 : tlS (c :: r) ([32, 9, 10, 12, 13] : List UInt8) = c :: r := tl_same (by
    simp only [List.contains_cons, List.contains_nil, Bool.or_false, hc.u8 (d := 32) (by decide), hc.u8 (d := 9) (by decide), hc.u8 (d := 10) (by decide), hc.u8 (d := 12) (by decide), hc.u8 (d := 13) (by decide)])
  have h2 : (cpM (c :: r) ([47, 42] : List UInt8)).2 = false := by
    unfold cpM slcpM
    rw [slhp_ne (hc.u8 (d := 47) (by decide))]; rfl
  unfold firstM
  rw [h1, show IntKind.wrap .i64 (((c :: r).length : Int) - ((c :: r).length : Int)) = 0 by rw [Int.sub_self]; rfl, if_f (show decide ((0 : Int) > 0) = false from rfl), h2, if_f rfl, head0]
  have e39 : ((c.toNat : Int) == 39) = false := hc.eq (n := 39) (by decide)
  have e34 : ((c.toNat : Int) == 34) = false := hc.eq (n := 34) (by decide)
  have e35 : ((c.toNat : Int) == 35) = false := hc.eq (n := 35) (by decide)
  have e64 : ((c.toNat : Int) == 64) = false := hc.eq (n := 64) (by decide)
  rw [e39, e34, if_f (show (false || false) = false from rfl)]
  unfold firstj43M firstV1
  rw [e35, Bool.false_and, if_f rfl]
  unfold firstj49M firstV2
  rw [e64, Bool.false_and, if_f rfl]
/-- no number begins there -/
theorem num_none {c : UInt8} {r : List UInt8} (hl : (c :: r).length ≤ 1000) (hc : PlF c) (hd : (48 ≤ c.toNat ∧ c.toNat ≤ 57) = False) : numS (c :: r) = (0, 0) := by
  have e43 : ((c.toNat : Int) == 43) = false := hc.eq (n := 43) (by decide)
  have e45 : ((c.toNat : Int) == 45) = false := hc.eq (n := 45) (by decide)
  have v0 : numbV0 (c :: r) = false := by unfold numbV0; rw [head0, e43, e45]; simp
  have v1 : numbV1 (c :: r) = 0 := by unfold numbV1; rw [v0]; rfl
  have hne : ∀ d : UInt8, 48 ≤ d.toNat ∧ d.toNat ≤ 57 → (c == d) = false := fun d h => by
    simp only [beq_eq_false_iff_ne, ne_eq]
    intro e; subst e; rw [hd] at h; exact h
  have dg : digitsM (c :: r) = 0 := by
    unfold digitsM
    rw [tl_same (by simp only [List.contains_cons, List.contains_nil, Bool.or_false, hne 48 (by decide), hne 49 (by decide), hne 50 (by decide), hne 51 (by decide), hne 52 (by decide), hne 53 (by decide), hne 54 (by decide), hne 55 (by decide), hne 56 (by decide), hne 57 (by decide)]), Int.sub_self]
    rfl
  have v2 : numbV2 (c :: r) = 0 := by
    unfold numbV2
    rw [v1, show ((c :: r).drop (Int.toNat 0)) = c :: r from rfl, dg, show IntKind.wrap .i64 (0 + 0) = 0 from rfl, show ((c :: r).drop (Int.toNat 0)) = c :: r from rfl]
    unfold hpM
    rw [slhp_ne (hc.u8 (d := 46) (by decide)), if_f rfl]
  unfold numS
  rw [v1, show ((c :: r).drop (Int.toNat 0)) = c :: r from rfl, dg, v2]
  rfl
/-- a sign -/
theorem first_sign {c : UInt8} {r : List UInt8} (hl : (c :: r).length ≤ 1000) (hc : plB c = true) (hd : decide (48 ≤ c.toNat ∧ c.toNat ≤ 57) = false) (hs : startsM (c.toNat : Int) = false) :
    firstM (c :: r) = (if (c.toNat = 40 ∨ c.toNat = 91 ∨ c.toNat = 123) then 10 else if (c.toNat = 41 ∨ c.toNat = 93 ∨ c.toNat = 125) then 11 else 12, [c], [], 0) := by
  have hc := pl_of hc
  have hd : (48 ≤ c.toNat ∧ c.toNat ≤ 57) = False := eq_false (of_decide_eq_false hd)
  have e92 : ((c.toNat : Int) == 92) = false := hc.eq (n := 92) (by decide)
  have e45 : ((c.toNat : Int) == 45) = false := hc.eq (n := 45) (by decide)
  have hb : begM (c :: r) = false := by
    unfold begM
    rw [if_f (show (c :: r == ([] : List UInt8)) = false from rfl), head0, e45, Bool.false_and, if_f rfl]
    unfold begj19M escM escj3M
    rw [hs, head0, e92]; simp
  rw [first_head hl hc, num_none hl hc hd, if_f (show decide ((0 : Int) > 0) = false from rfl), hb, if_f rfl]
  unfold firstj88M firstj102M firstV5 firstV6
  rw [e92]
  have h5 : ((((c.toNat : Int) == 40) || (((c.toNat : Int) == 91) || ((c.toNat : Int) == 123))) = true) ↔ (c.toNat = 40 ∨ c.toNat = 91 ∨ c.toNat = 123) := by simp; omega
  have h6 : ((((c.toNat : Int) == 41) || (((c.toNat : Int) == 93) || ((c.toNat : Int) == 125))) = true) ↔ (c.toNat = 41 ∨ c.toNat = 93 ∨ c.toNat = 125) := by simp; omega
  by_cases a : c.toNat = 40 ∨ c.toNat = 91 ∨ c.toNat = 123
  · rw [if_pos (h5.2 a), if_pos a]; rfl
  · rw [if_neg (fun h => a (h5.1 h)), if_neg a]
    by_cases b : c.toNat = 41 ∨ c.toNat = 93 ∨ c.toNat = 125
    · rw [if_pos (h6.2 b), if_pos b]; rfl
    · rw [if_neg (fun h => b (h6.1 h)), if_neg b]; rfl
/-- what ends a name: the text's end, or a byte that no name has -/
def stopB : List UInt8 → Bool
  | [] => true
  | c :: _ => !(signM (c.toNat : Int)) && !(c.toNat == 92) && !(c.toNat == 40) && !(c.toNat == 37)
theorem nm_word : ∀ (w r : List UInt8) (k : Nat), w.length ≤ k → (w.all fun c => signM (c.toNat : Int) && !(c.toNat == 92)) = true → stopB r = true → nmN k (w ++ r) = (w, w.length)
  | [], [], k, _, _, _ => by cases k <;> rfl
  | [], c :: r, 0, _, _, _ => rfl
  | [], c :: r, k + 1, _, _, h => by
    unfold stopB at h
    simp only [Bool.and_eq_true, Bool.not_eq_true'] at h
    obtain ⟨⟨⟨h1, h2⟩, -⟩, -⟩ := h
    have he : escM (c :: r) = false := by
      unfold escM escj3M
      rw [head0]
      have : ((c.toNat : Int) == 92) = false := by simp at h2 ⊢; omega
      rw [this]; simp
    rw [List.nil_append, nmN_cons k c r he, h1]; rfl
  | c :: w, r, 0, h, _, _ => by simp at h
  | c :: w, r, k + 1, h, hw, hr => by
    rw [List.all_cons, Bool.and_eq_true, Bool.and_eq_true] at hw
    obtain ⟨⟨h1, h2⟩, h3⟩ := hw
    have he : escM (c :: (w ++ r)) = false := by
      unfold escM escj3M
      rw [head0]
      have : ((c.toNat : Int) == 92) = false := by simp at h2 ⊢; omega
      rw [this]; simp
    have ih := nm_word w r k (by simp at h; omega) h3 hr
    rw [List.cons_append, nmN_cons k c _ he, if_t h1, ih]; rfl
/-- a name -/
theorem first_name {c : UInt8} {w r : List UInt8} (hl : (c :: (w ++ r)).length ≤ 1000) (hc : plB c = true) (hd : decide (48 ≤ c.toNat ∧ c.toNat ≤ 57) = false) (hs : startsM (c.toNat : Int) = true) (hw : ((c :: w).all fun c => signM (c.toNat : Int) && !(c.toNat == 92)) = true) (hr : stopB r = true) :
    firstM (c :: (w ++ r)) = (1, c :: w, c :: w, 0) := by
  have hc := pl_of hc
  have hd : (48 ≤ c.toNat ∧ c.toNat ≤ 57) = False := eq_false (of_decide_eq_false hd)
  have e92 : ((c.toNat : Int) == 92) = false := hc.eq (n := 92) (by decide)
  have e45 : ((c.toNat : Int) == 45) = false := hc.eq (n := 45) (by decide)
  have hb : begM (c :: (w ++ r)) = true := by
    unfold begM
    rw [if_f (show (c :: (w ++ r) == ([] : List UInt8)) = false from rfl), head0, e45, Bool.false_and, if_f rfl]
    unfold begj19M
    rw [hs]; rfl
  have hn : nameS (c :: (w ++ r)) = (c :: w, ((c :: w).length : Int)) := by
    unfold nameS
    rw [show c :: (w ++ r) = (c :: w) ++ r from rfl, nm_word (c :: w) r _ (by simp) hw hr]
  rw [first_head hl hc, num_none hl hc hd, if_f (show decide ((0 : Int) > 0) = false from rfl), if_t hb]
  have hN : namedM 1 (c :: (w ++ r)) 0 = (1, c :: w, c :: w, 0) := by
    unfold namedM
    rw [show (c :: (w ++ r)).drop (Int.toNat 0) = c :: (w ++ r) from rfl, hn]
    simp only
    rw [w64 (by simp at hl ⊢; omega), Int.zero_add, Int.toNat_natCast, show c :: (w ++ r) = (c :: w) ++ r from rfl, List.take_left]
  have hp : hpM ((c :: (w ++ r)).drop (Int.toNat (((c :: w).length : Nat) : Int))) ([40] : List UInt8) = false := by
    rw [Int.toNat_natCast, show c :: (w ++ r) = (c :: w) ++ r from rfl, List.drop_left]
    unfold hpM
    cases r with
    | nil => exact slhp_nil
    | cons d r =>
      refine slhp_ne ?_
      unfold stopB at hr
      simp only [Bool.and_eq_true, Bool.not_eq_true'] at hr
      have := hr.1.2
      simp only [beq_eq_false_iff_ne, ne_eq] at this ⊢
      intro e; subst e; exact this rfl
  unfold firstj72M firstV3 firstV4
  rw [hN]
  simp only
  rw [hp, if_f rfl, if_f rfl]
/-- a blank -/
theorem first_blank {r : List UInt8} (hl : (32 :: r).length ≤ 1000) (hr : tlS r ([32, 9, 10, 12, 13] : List UInt8) = r) : firstM (32 :: r) = (8, [32], [], 0) := by
  have h1 : tlS (32 :: r) ([32, 9, 10, 12, 13] : List UInt8) = r := by
    unfold tlS at hr ⊢
    rw [List.dropWhile_cons_of_pos (by decide)]; exact hr
  unfold firstM
  rw [h1, List.length_cons, show IntKind.wrap .i64 (((r.length + 1 : Nat) : Int) - (r.length : Int)) = 1 by rw [w64 (by simp at hl; omega)]; omega, if_t (show decide ((1 : Int) > 0) = true from rfl)]
  rfl
/-- digits, with px behind them -/
theorem first_px {c : UInt8} {w r : List UInt8} (hl : (c :: (w ++ 112 :: 120 :: r)).length ≤ 1000) (hw : ((c :: w).all fun c => ([48, 49, 50, 51, 52, 53, 54, 55, 56, 57] : List UInt8).contains c) = true) (hr : stopB r = true) :
    ∃ x, firstM (c :: (w ++ 112 :: 120 :: r)) = (7, c :: w ++ [112, 120], [112, 120], x) := by
  have hdig : ∀ d : UInt8, ([48, 49, 50, 51, 52, 53, 54, 55, 56, 57] : List UInt8).contains d = true → 48 ≤ d.toNat ∧ d.toNat ≤ 57 := fun d h => by
    simp only [List.contains_cons, List.contains_nil, Bool.or_false, Bool.or_eq_true, beq_iff_eq] at h
    rcases h with rfl | rfl | rfl | rfl | rfl | rfl | rfl | rfl | rfl | rfl <;> decide
  rw [List.all_cons, Bool.and_eq_true] at hw
  have hcd := hdig c hw.1
  have hc : PlF c := ⟨fun n hn => by
    simp only [List.mem_cons, List.mem_nil_iff, or_false] at hn
    omega⟩
  have e43 : ((c.toNat : Int) == 43) = false := hc.eq (n := 43) (by decide)
  have e45 : ((c.toNat : Int) == 45) = false := hc.eq (n := 45) (by decide)
  have v0 : numbV0 (c :: (w ++ 112 :: 120 :: r)) = false := by unfold numbV0; rw [head0, e43, e45]; simp
  have v1 : numbV1 (c :: (w ++ 112 :: 120 :: r)) = 0 := by unfold numbV1; rw [v0]; rfl
  have htl : tlS (c :: (w ++ 112 :: 120 :: r)) ([48, 49, 50, 51, 52, 53, 54, 55, 56, 57] : List UInt8) = 112 :: 120 :: r := by
    unfold tlS
    rw [show c :: (w ++ 112 :: 120 :: r) = (c :: w) ++ 112 :: 120 :: r from rfl, List.dropWhile_append_of_pos (fun x hx => by
      rcases List.mem_cons.1 hx with rfl | hx
      · exact hw.1
      · exact List.all_eq_true.1 hw.2 x hx), List.dropWhile_cons_of_neg (by decide)]
  have hlen : (c :: (w ++ 112 :: 120 :: r)).length = (c :: w).length + (r.length + 2) := by simp; omega
  have dg : digitsM (c :: (w ++ 112 :: 120 :: r)) = ((c :: w).length : Int) := by
    unfold digitsM
    rw [htl, hlen, w64 (by simp at hl ⊢; omega)]
    simp only [List.length_cons]; omega
  have dr : (c :: (w ++ 112 :: 120 :: r)).drop (Int.toNat ((c :: w).length : Int)) = 112 :: 120 :: r := by
    rw [Int.toNat_natCast, show c :: (w ++ 112 :: 120 :: r) = (c :: w) ++ 112 :: 120 :: r from rfl, List.drop_left]
  have v2 : numbV2 (c :: (w ++ 112 :: 120 :: r)) = 0 := by
    unfold numbV2
    rw [v1, show ((c :: (w ++ 112 :: 120 :: r)).drop (Int.toNat 0)) = c :: (w ++ 112 :: 120 :: r) from rfl, dg, Int.zero_add, w64 (by simp at hl ⊢; omega), dr]
    unfold hpM
    rw [slhp_ne (by decide), if_f rfl]
  have v3 : numbV3 (c :: (w ++ 112 :: 120 :: r)) = ((c :: w).length : Int) := by
    unfold numbV3
    rw [v2, if_f (show decide ((0 : Int) > 0) = false from rfl), v1, show ((c :: (w ++ 112 :: 120 :: r)).drop (Int.toNat 0)) = c :: (w ++ 112 :: 120 :: r) from rfl, dg, Int.zero_add, w64 (by simp at hl ⊢; omega)]
  have hn2 : (numS (c :: (w ++ 112 :: 120 :: r))).2 = ((c :: w).length : Int) := by
    unfold numS
    rw [v1, show ((c :: (w ++ 112 :: 120 :: r)).drop (Int.toNat 0)) = c :: (w ++ 112 :: 120 :: r) from rfl, dg, v2, Int.add_zero, w64 (by simp at hl ⊢; omega), if_f (show (((c :: w).length : Int) == 0) = false by simp; omega), ← v3]
  have hname : nameS (112 :: 120 :: r) = ([112, 120], 2) := by
    unfold nameS
    rw [show (112 : UInt8) :: 120 :: r = [112, 120] ++ r from rfl, nm_word [112, 120] r _ (by simp) (by decide) hr]; rfl
  have hb : begM (112 :: 120 :: r) = true := by
    unfold begM
    rw [if_f (show ((112 : UInt8) :: 120 :: r == ([] : List UInt8)) = false from rfl), head0, if_f (by rfl)]
    rfl
  have hpc : hpM (112 :: 120 :: r) ([37] : List UInt8) = false := by unfold hpM; exact slhp_ne (by decide)
  rw [first_head hl hc, hn2, if_t (decide_eq_true (by simp only [List.length_cons]; omega))]
  refine ⟨(numS (c :: (w ++ 112 :: 120 :: r))).1, ?_⟩
  unfold numberM numberj5M numberV0 numberV1
  rw [dr, hpc, if_f rfl, if_f rfl, hb, if_t rfl, if_t rfl, hname]
  simp only
  rw [w64 (by simp at hl ⊢; omega), show (((c :: w).length : Int) + 2).toNat = (c :: w).length + 2 by omega, show c :: (w ++ 112 :: 120 :: r) = (c :: w ++ [112, 120]) ++ r by simp, List.take_left' (by simp)]
  rfl
end Go.Proofs.YtjehllphdpkjeaaGreatDoor.Css
