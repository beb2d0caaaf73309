/- Tokens of a selector's text: what the first token is. -/
import Derived.Test.YtcnhdkhkadiohaaGreatDoorCut
import Derived.Test.YtcnhdkhkadiohaaGreatDoorSfa
import Derived.Test.YtcnhdkhkadiohaaGreatDoorQud
import Derived.Test.YtcnhdkhkadiohaaGreatDoorStp
namespace Go.Proofs.YtcnhdkhkadiohaaGreatDoor.Css
open Go Go.Eng Bld Trm
set_option linter.unusedVariables false
theorem head0 (c : UInt8) (r : List UInt8) : (c :: r).getD (Int.toNat 0) 0 = c := rfl
theorem slhp_ne {c d : UInt8} {r p : List UInt8} (h : (c == d) = false) : slhpM (c :: r) (d :: p) = false := by
 unfold slhpM slhpj3M
 simp only [List.length_cons, Int.toNat_natCast, List.take_succ_cons]
 rw [Bool.and_eq_false_iff]
 right
 simp only [List.cons_beq_cons, h, Bool.false_and]
theorem slhp_nil {d : UInt8} {p : List UInt8} : slhpM [] (d :: p) = false := by
 unfold slhpM slhpj3M
 rw [Bool.and_eq_false_iff]
 left
 simp
theorem slhp_one {d : UInt8} {p : List UInt8} : slhpM (d :: p) [d] = true := by
 unfold slhpM slhpj3M
 rw [Bool.and_eq_true]
 refine ⟨by simp; omega, ?_⟩
 show ((d :: p).take (Int.toNat ((1 : Nat) : Int)) == [d]) = true
 simp
theorem tl_same {c : UInt8} {r cut : List UInt8} (h : cut.contains c = false) : tlS (c :: r) cut = c :: r := by
 unfold tlS
 rw [List.dropWhile_cons_of_neg (by rw [h]; simp)]
def hdB (c : UInt8) : Bool := !(([32, 9, 10, 12, 13, 47, 39, 34, 35, 64] : List UInt8).contains c)
theorem ne_int {c d : UInt8} (h : (c == d) = false) : ((c.toNat : Int) == (d.toNat : Int)) = false := by
 simp only [beq_eq_false_iff_ne, ne_eq] at h ⊢
 intro e
 exact h (UInt8.toNat_inj.1 (by omega))
theorem hd_ne {c : UInt8} (h : hdB c = true) {d : UInt8} (hd : d ∈ ([32, 9, 10, 12, 13, 47, 39, 34, 35, 64] : List UInt8)) : (c == d) = false := by
 rw [beq_eq_false_iff_ne]
 rintro rfl
 unfold hdB at h
 rw [List.contains_iff_mem.2 hd] at h
 cases h
theorem first_hd {c : UInt8} {r : List UInt8} (hc : hdB c = true) :
  firstM (c :: r) = if (decide ((numS (c :: r)).2 > 0)) = true then numberM (c :: r) (numS (c :: r)).1 (numS (c :: r)).2 else if begM (c :: r) = true then firstj72M (c :: r) else firstj88M (c :: r) c := by
 have h1 : tlS (c :: r) ([32, 9, 10, 12, 13] : List UInt8) = c :: r := tl_same (by
  simp only [List.contains_cons, List.contains_nil, Bool.or_false, hd_ne hc (d := 32) (by decide), hd_ne hc (d := 9) (by decide), hd_ne hc (d := 10) (by decide), hd_ne hc (d := 12) (by decide), hd_ne hc (d := 13) (by decide)])
 have h2 : (cpM (c :: r) ([47, 42] : List UInt8)).2 = false := by
  unfold cpM slcpM
  rw [slhp_ne (hd_ne hc (d := 47) (by decide))]; rfl
 unfold firstM
 rw [h1, show w6 (((c :: r).length : Int) - ((c :: r).length : Int)) = 0 by rw [Int.sub_self]; rfl, if_f (show decide ((0 : Int) > 0) = false from rfl), h2, if_f rfl, head0]
 have e39 : ((c.toNat : Int) == 39) = false := ne_int (hd_ne hc (d := 39) (by decide))
 have e34 : ((c.toNat : Int) == 34) = false := ne_int (hd_ne hc (d := 34) (by decide))
 have e35 : ((c.toNat : Int) == 35) = false := ne_int (hd_ne hc (d := 35) (by decide))
 have e64 : ((c.toNat : Int) == 64) = false := ne_int (hd_ne hc (d := 64) (by decide))
 rw [e39, e34, if_f (show (false || false) = false from rfl)]
 unfold firstj43M firstV1
 rw [e35, Bool.false_and, if_f rfl]
 unfold firstj49M firstV2
 rw [e64, Bool.false_and, if_f rfl]
/-! no number begins there -/
def dgB (c : UInt8) : Bool := ([48, 49, 50, 51, 52, 53, 54, 55, 56, 57] : List UInt8).contains c
def nodg : List UInt8 → Bool
 | [] => true
 | e :: _ => !(dgB e)
def dig0 : List UInt8 → Bool
 | [] => true
 | d :: u => !(dgB d) && (!(d == 46) || nodg u)
def aftS : List UInt8 → List UInt8
 | [] => []
 | c :: r => if (c == 43 || c == 45) = true then r else c :: r
theorem aft_cons (c : UInt8) (r : List UInt8) : aftS (c :: r) = if (c == 43 || c == 45) = true then r else c :: r := rfl
def numZ (s : List UInt8) : Bool := dig0 (aftS s)
theorem int_of {c d : UInt8} : ((c.toNat : Int) == (d.toNat : Int)) = (c == d) := by
 by_cases h : c = d
 ·subst h; simp
 rw [beq_eq_false_iff_ne.2 h]
 exact ne_int (beq_eq_false_iff_ne.2 h)
theorem digs0 {s : List UInt8} (h : dig0 s = true) : digitsM s = 0 := by
 unfold digitsM
 match s, h with
 | [], _ => rfl
 | d :: u, h =>
  rw [dig0, Bool.and_eq_true, Bool.not_eq_true'] at h
  rw [tl_same h.1, Int.sub_self]; rfl
theorem digs1 {e : UInt8} {u : List UInt8} (h : dgB e = false) : digitsM (e :: u) = 0 := by
 unfold digitsM
 rw [tl_same h, Int.sub_self]; rfl
theorem num_z {c : UInt8} {r : List UInt8} (h : numZ (c :: r) = true) : numS (c :: r) = (0, 0) := by
 unfold numZ at h
 have v0 : numbV0 (c :: r) = (c == 43 || c == 45) := by
  unfold numbV0
  rw [head0, show ((c.toNat : Int) == 43) = (c == 43) from int_of (d := 43), show ((c.toNat : Int) == 45) = (c == 45) from int_of (d := 45)]
  rfl
 have hd : (c :: r).drop (Int.toNat (numbV1 (c :: r))) = aftS (c :: r) := by
  unfold numbV1
  rw [v0, aft_cons]
  split <;> rfl
 have v1 : numbV1 (c :: r) = 1 ∨ numbV1 (c :: r) = 0 := by unfold numbV1; split <;> simp
 have dg := digs0 h
 have w1 : w6 (numbV1 (c :: r) + 0) = numbV1 (c :: r) := by rcases v1 with e | e <;> rw [e] <;> rfl
 have v2 : numbV2 (c :: r) = 0 := by
  unfold numbV2
  rw [hd, dg, w1, hd]
  generalize aftS (c :: r) = t at h
  match t, h with
  | [], _ => rw [show hpM ([] : List UInt8) [46] = false from slhp_nil, if_f rfl]
  | d :: u, h =>
   rw [dig0, Bool.and_eq_true] at h
   by_cases h46 : d = 46
   ·subst h46
    have h2 := h.2
    rw [show hpM ((46 : UInt8) :: u) [46] = true from slhp_one, if_t rfl]
    show digitsM u = 0
    match u, h2 with
    | [], _ => rfl
    | e :: u, h2 => exact digs1 (by simpa [nodg] using h2)
   rw [show hpM (d :: u) [46] = false from slhp_ne (by simpa using h46), if_f rfl]
 unfold numS
 rw [hd, dg, v2]
 rfl
/-- a sign -/
theorem first_sgn {c : UInt8} {r : List UInt8} (hc : hdB c = true) (hn : numZ (c :: r) = true) (hs : startsM (c.toNat : Int) = false) (h45 : (c == 45) = false) (h92 : (c == 92) = false) :
  firstM (c :: r) = (if (c.toNat = 40 ∨ c.toNat = 91 ∨ c.toNat = 123) then 10 else if (c.toNat = 41 ∨ c.toNat = 93 ∨ c.toNat = 125) then 11 else 12, [c], [], 0) := by
 have e92 : ((c.toNat : Int) == 92) = false := ne_int (d := 92) h92
 have e45 : ((c.toNat : Int) == 45) = false := ne_int (d := 45) h45
 have hb : begM (c :: r) = false := by
  unfold begM
  rw [if_f (show (c :: r == ([] : List UInt8)) = false from rfl), head0, e45, Bool.false_and, if_f rfl]
  unfold begj19M escM escj3M
  rw [hs, head0, e92]; simp
 rw [first_hd hc, num_z hn, if_f (show decide ((0 : Int) > 0) = false from rfl), hb, if_f rfl]
 unfold firstj88M firstj102M firstV5 firstV6
 rw [e92]
 have h5 : ((((c.toNat : Int) == 40) || (((c.toNat : Int) == 91) || ((c.toNat : Int) == 123))) = true) ↔ (c.toNat = 40 ∨ c.toNat = 91 ∨ c.toNat = 123) := by simp; omega
 have h6 : ((((c.toNat : Int) == 41) || (((c.toNat : Int) == 93) || ((c.toNat : Int) == 125))) = true) ↔ (c.toNat = 41 ∨ c.toNat = 93 ∨ c.toNat = 125) := by simp; omega
 by_cases a : c.toNat = 40 ∨ c.toNat = 91 ∨ c.toNat = 123
 ·rw [if_pos (h5.2 a), if_pos a]; rfl
 rw [if_neg (fun h => a (h5.1 h)), if_neg a]
 by_cases b : c.toNat = 41 ∨ c.toNat = 93 ∨ c.toNat = 125
 ·rw [if_pos (h6.2 b), if_pos b]; rfl
 rw [if_neg (fun h => b (h6.1 h)), if_neg b]; rfl
/-! names -/
def sgB (c : UInt8) : Bool := signM (c.toNat : Int)
def stB (c : UInt8) : Bool := startsM (c.toNat : Int)
theorem byte_every {p : UInt8 → Bool} (h : (List.range 256).all (fun n => p (UInt8.ofNat n)) = true) (c : UInt8) : p c = true := by
 have h1 := List.all_eq_true.1 h c.toNat (by simpa using c.toNat_lt)
 simpa using h1
theorem sg_facts (c : UInt8) : (!(sgB c) || (hdB c && !(c == 92) && !(c == 46) && !(c == 43) && !(c == 40) && !(c == 37))) = true :=
 byte_every (p := fun c => (!(sgB c) || (hdB c && !(c == 92) && !(c == 46) && !(c == 43) && !(c == 40) && !(c == 37)))) (by decide +kernel) c
theorem st_facts (c : UInt8) : (!(stB c) || (sgB c && !(dgB c) && !(c == 45))) = true :=
 byte_every (p := fun c => (!(stB c) || (sgB c && !(dgB c) && !(c == 45)))) (by decide +kernel) c
theorem sg_hd {c : UInt8} (h : sgB c = true) : hdB c = true ∧ (c == 92) = false ∧ (c == 46) = false ∧ (c == 43) = false := by
 have := sg_facts c
 rw [h] at this
 simp only [Bool.not_true, Bool.false_or, Bool.and_eq_true, Bool.not_eq_true'] at this
 exact ⟨this.1.1.1.1.1, this.1.1.1.1.2, this.1.1.1.2, this.1.1.2⟩
theorem st_sg {c : UInt8} (h : stB c = true) : sgB c = true ∧ dgB c = false ∧ (c == 45) = false := by
 have := st_facts c
 rw [h] at this
 simp only [Bool.not_true, Bool.false_or, Bool.and_eq_true, Bool.not_eq_true'] at this
 exact ⟨this.1.1, this.1.2, this.2⟩
/-- what ends a name -/
def stopN : List UInt8 → Bool
 | [] => true
 | c :: _ => !(sgB c) && !(c == 92)
def begT : List UInt8 → Bool
 | [] => false
 | d :: _ => d == 45 || stB d
def begW : List UInt8 → Bool
 | [] => false
 | c :: v => stB c || (c == 45 && begT v)
def nameW (w : List UInt8) : Bool := begW w && w.all sgB
theorem esc_no {c : UInt8} {r : List UInt8} (h : (c == 92) = false) : escM (c :: r) = false := by
 unfold escM escj3M
 rw [head0, show ((c.toNat : Int) == 92) = false from ne_int (d := 92) h]; simp
theorem nm_wordS : ∀ (w r : List UInt8) (k : Nat), w.length ≤ k → w.all sgB = true → stopN r = true → nmN k (w ++ r) = (w, w.length)
 | [], [], k, _, _, _ => by cases k <;> rfl
 | [], c :: r, 0, _, _, _ => rfl
 | [], c :: r, k + 1, _, _, h => by
  rw [stopN, Bool.and_eq_true, Bool.not_eq_true', Bool.not_eq_true'] at h
  rw [List.nil_append, nmN_cons k c r (esc_no h.2), show signM (c.toNat : Int) = false from h.1]; rfl
 | c :: w, r, 0, h, _, _ => by simp at h
 | c :: w, r, k + 1, h, hw, hr => by
  rw [List.all_cons, Bool.and_eq_true] at hw
  have ih := nm_wordS w r k (by simp at h; omega) hw.2 hr
  rw [List.cons_append, nmN_cons k c _ (esc_no (sg_hd hw.1).2.1), if_t (show signM (c.toNat : Int) = true from hw.1), ih]; rfl
theorem name_numZ {w r : List UInt8} (h : begW w = true) : numZ (w ++ r) = true := by
 match w, h with
 | c :: v, h =>
  rw [begW, Bool.or_eq_true] at h
  rcases h with h | h
  ·obtain ⟨h1, h2, h3⟩ := st_sg h
   obtain ⟨-, -, h46, h43⟩ := sg_hd h1
   show dig0 (aftS (c :: (v ++ r))) = true
   rw [aft_cons, h43, h3, if_neg (by decide), dig0, h2, h46]; rfl
  rw [Bool.and_eq_true] at h
  match v, h with
  | d :: u, h =>
   have hc : c = 45 := eq_of_beq h.1
   subst hc
   show dig0 (aftS ((45 : UInt8) :: d :: (u ++ r))) = true
   rw [aft_cons, if_pos (by decide), dig0]
   have h2 : (d == 45 || stB d) = true := h.2
   rw [Bool.or_eq_true] at h2
   rcases h2 with h2 | h2
   ·rw [eq_of_beq h2]; rfl
   obtain ⟨h1, h3, h4⟩ := st_sg h2
   rw [h3, (sg_hd h1).2.2.1]; rfl
theorem name_beg {w r : List UInt8} (h : begW w = true) : begM (w ++ r) = true := by
 match w, h with
 | c :: v, h =>
  rw [begW, Bool.or_eq_true] at h
  unfold begM
  rw [List.cons_append, if_f (show (c :: (v ++ r) == ([] : List UInt8)) = false from rfl), head0]
  rcases h with h | h
  ·have e45 : ((c.toNat : Int) == 45) = false := ne_int (d := 45) (st_sg h).2.2
   rw [e45, Bool.false_and, if_f rfl]
   unfold begj19M
   rw [show startsM (c.toNat : Int) = true from h]; rfl
  rw [Bool.and_eq_true] at h
  match v, h with
  | d :: u, h =>
   have hc : c = 45 := eq_of_beq h.1
   subst hc
   rw [if_t (by simp; omega)]
   unfold begj15M
   have h2 : (d == 45 || stB d) = true := h.2
   show (((d.toNat : Int) == 45) || (startsM (d.toNat : Int) || _)) = true
   rw [show ((d.toNat : Int) == 45) = (d == 45) from int_of (d := 45), ← Bool.or_assoc, show (d == 45 || startsM (d.toNat : Int)) = true from h2]; rfl
theorem name_hd {w r : List UInt8} (h : nameW w = true) : ∃ c v, w = c :: v ∧ hdB c = true := by
 unfold nameW at h
 rw [Bool.and_eq_true] at h
 match w, h with
 | c :: v, h =>
  have := h.2
  rw [List.all_cons, Bool.and_eq_true] at this
  exact ⟨c, v, rfl, (sg_hd this.1).1⟩
theorem first_word {w r : List UInt8} (hl : (w ++ r).length ≤ 1000) (h : nameW w = true) (hr : stopN r = true) :
  firstM (w ++ r) = if hpM r ([40] : List UInt8) = true then (2, (w ++ r).take (w.length + 1), w, 0) else (1, w, w, 0) := by
 obtain ⟨c, v, hw, hc⟩ := name_hd (r := r) h
 have hb : begW w = true := by unfold nameW at h; rw [Bool.and_eq_true] at h; exact h.1
 have ha : w.all sgB = true := by unfold nameW at h; rw [Bool.and_eq_true] at h; exact h.2
 have hl' : w.length + r.length ≤ 1000 := by rw [List.length_append] at hl; exact hl
 have hn : nameS (w ++ r) = (w, (w.length : Int)) := by
  unfold nameS
  rw [nm_wordS w r _ (by simp) ha hr]
 have hN : namedM 1 (w ++ r) 0 = (1, w, w, 0) := by
  unfold namedM
  rw [show (w ++ r).drop (Int.toNat 0) = w ++ r from rfl, hn]
  simp only
  rw [w64 (by omega), Int.zero_add, Int.toNat_natCast, List.take_left]
 have e1 : firstM (w ++ r) = firstj72M (w ++ r) := by
  have h1 := name_numZ (r := r) hb
  have h2 := name_beg (r := r) hb
  rw [hw, List.cons_append] at h1 h2 ⊢
  rw [first_hd hc, num_z h1, if_f (show decide ((0 : Int) > 0) = false from rfl), if_t h2]
 rw [e1]
 unfold firstj72M firstV3 firstV4
 rw [hN]
 simp only
 rw [Int.toNat_natCast, List.drop_left, w64 (by omega)]
 split
 ·rw [show (w.length : Int) + 1 = ((w.length + 1 : Nat) : Int) by omega, Int.toNat_natCast]
 rfl
/-- a name; a function; a hash; a blank -/
def stopB (r : List UInt8) : Bool := stopN r && (match r with | [] => true | c :: _ => !(c == 40))
theorem first_name {w r : List UInt8} (hl : (w ++ r).length ≤ 1000) (h : nameW w = true) (hr : stopB r = true) : firstM (w ++ r) = (1, w, w, 0) := by
 unfold stopB at hr
 rw [Bool.and_eq_true] at hr
 have e : hpM r ([40] : List UInt8) = false := by
  match r, hr with
  | [], _ => exact slhp_nil
  | c :: r, hr => exact slhp_ne (by simpa using hr.2)
 rw [first_word hl h hr.1, if_f e]
theorem first_func {w r : List UInt8} (hl : (w ++ 40 :: r).length ≤ 1000) (h : nameW w = true) : firstM (w ++ 40 :: r) = (2, w ++ [40], w, 0) := by
 rw [first_word hl h (by rw [stopN]; decide), if_t (show hpM ((40 : UInt8) :: r) [40] = true from slhp_one)]
 congr 2
 rw [show w ++ 40 :: r = (w ++ [40]) ++ r by simp, List.take_left' (by simp)]
theorem first_hash {w r : List UInt8} (hl : (35 :: (w ++ r)).length ≤ 1000) (hne : w ≠ []) (ha : w.all sgB = true) (hr : stopN r = true) : firstM (35 :: (w ++ r)) = (4, 35 :: w, w, 0) := by
 have hl' : w.length + r.length + 1 ≤ 1000 := by simpa using hl
 have h1 : tlS (35 :: (w ++ r)) ([32, 9, 10, 12, 13] : List UInt8) = 35 :: (w ++ r) := tl_same (by decide)
 have h2 : (cpM (35 :: (w ++ r)) ([47, 42] : List UInt8)).2 = false := by
  unfold cpM slcpM
  rw [slhp_ne (by decide)]; rfl
 unfold firstM
 rw [h1, show w6 (((35 :: (w ++ r)).length : Int) - ((35 :: (w ++ r)).length : Int)) = 0 by rw [Int.sub_self]; rfl, if_f (show decide ((0 : Int) > 0) = false from rfl), h2, if_f rfl, head0]
 rw [if_f (by decide)]
 have hv : firstV1 (35 :: (w ++ r)) 35 = true := by
  unfold firstV1
  match w, hne with
  | c :: v, _ =>
   rw [List.all_cons, Bool.and_eq_true] at ha
   rw [Bool.and_eq_true]
   refine ⟨by decide, ?_⟩
   rw [Bool.and_eq_true]
   refine ⟨by simp; omega, ?_⟩
   show (signM (c.toNat : Int) || _) = true
   rw [show signM (c.toNat : Int) = true from ha.1]; rfl
 unfold firstj43M
 rw [if_t hv]
 have hn : nameS (w ++ r) = (w, (w.length : Int)) := by
  unfold nameS
  rw [nm_wordS w r _ (by simp) ha hr]
 unfold namedM
 rw [show (35 :: (w ++ r)).drop (Int.toNat 1) = w ++ r from rfl, hn]
 simp only
 rw [w64 (by omega), show (1 : Int) + (w.length : Int) = ((w.length + 1 : Nat) : Int) by omega, Int.toNat_natCast, List.take_succ_cons, List.take_left]
theorem first_blank {r : List UInt8} (hl : (32 :: r).length ≤ 1000) (hr : tlS r ([32, 9, 10, 12, 13] : List UInt8) = r) : firstM (32 :: r) = (8, [32], [], 0) := by
 have h1 : tlS (32 :: r) ([32, 9, 10, 12, 13] : List UInt8) = r := by
  unfold tlS at hr ⊢
  rw [List.dropWhile_cons_of_pos (by decide)]; exact hr
 unfold firstM
 rw [h1, List.length_cons, show w6 (((r.length + 1 : Nat) : Int) - (r.length : Int)) = 1 by rw [w64 (by simp at hl; omega)]; omega, if_t (show decide ((1 : Int) > 0) = true from rfl)]
 rfl
end Go.Proofs.YtcnhdkhkadiohaaGreatDoor.Css
namespace Go.Proofs.YtcnhdkhkadiohaaGreatDoor.Css
open Go Go.Eng Bld Trm Rp Qu Se Tk
set_option linter.unusedVariables false
theorem nm_full : ∀ (k : Nat) (s : List UInt8), s.length ≤ k → (nmN k s).1 = s → s.all sgB = true
 | _, [], _, _ => rfl
 | 0, c :: r, h, _ => by simp at h
 | k + 1, c :: r, h, he => by
  by_cases hx : escM (c :: r) = true
  ·have h1 := esc_len hx
   match r, h1 with
   | d :: r', _ =>
    rw [nmN_esc k c d r' hx] at he
    have h2 := congrArg List.length he
    have h3 := nmN_len k r'
    simp only [List.length_cons] at h2
    omega
  have hx : escM (c :: r) = false := by simpa using hx
  rw [nmN_cons k c r hx] at he
  by_cases hs : signM (c.toNat : Int) = true
  ·rw [if_t hs] at he
   have h2 : (nmN k r).1 = r := by
    have := congrArg List.tail he
    exact this
   rw [List.all_cons, Bool.and_eq_true]
   exact ⟨hs, nm_full k r (by simp at h; omega) h2⟩
  rw [if_neg hs] at he
  cases he
theorem beg_word {w : List UInt8} (ha : w.all sgB = true) (hb : begM w = true) : begW w = true := by
 match w, ha, hb with
 | [], _, hb => cases hb
 | c :: v, ha, hb =>
  rw [List.all_cons, Bool.and_eq_true] at ha
  unfold begM at hb
  rw [if_f (show (c :: v == ([] : List UInt8)) = false from rfl), head0] at hb
  rw [begW, Bool.or_eq_true]
  by_cases h45 : c = 45
  ·subst h45
   match v, ha, hb with
   | [], _, hb => exact absurd hb (by decide)
   | d :: u, ha, hb =>
    rw [if_t (by simp; omega)] at hb
    unfold begj15M at hb
    have ha2 := ha.2
    rw [List.all_cons, Bool.and_eq_true] at ha2
    refine .inr ?_
    rw [Bool.and_eq_true]
    refine ⟨rfl, ?_⟩
    have e : escM ((45 :: d :: u : List UInt8).drop (Int.toNat 1)) = false := esc_no (sg_hd ha2.1).2.1
    rw [e, Bool.or_false] at hb
    have hb : (((d.toNat : Int) == 45) || startsM (d.toNat : Int)) = true := hb
    rw [show ((d.toNat : Int) == 45) = (d == 45) from int_of (d := 45)] at hb
    exact hb
  have e45 : ((c.toNat : Int) == 45) = false := ne_int (d := 45) (by simpa using h45)
  rw [e45, Bool.false_and, if_f rfl] at hb
  unfold begj19M at hb
  rw [esc_no (sg_hd ha.1).2.1, Bool.or_false] at hb
  exact .inl hb
theorem first_kind1 {w : List UInt8} (h : (firstM w).1 = 1) : begM w = true ∧ (firstM w).2.2.1 = (nameS w).1 := by
 unfold firstM at h ⊢
 split at h
 ·exact absurd h (by simp)
 split at h
 ·exact absurd h (by unfold firstj21M; simp)
 split at h
 ·refine absurd h ?_
  show (textS w).1 ≠ 1
  unfold textS txR
  simp only
  split <;> (try split) <;> simp
 rename_i h1 h2 h3
 rw [if_neg h1, if_neg h2, if_neg h3]
 unfold firstj43M at h ⊢
 split at h
 ·exact absurd h (by unfold namedM; simp)
 rename_i h4
 rw [if_neg h4]
 unfold firstj49M at h ⊢
 split at h
 ·exact absurd h (by unfold namedM; simp)
 rename_i h5
 rw [if_neg h5]
 split at h
 ·exact absurd h (by unfold numberM numberj5M; simp)
 rename_i h6
 rw [if_neg h6]
 split at h
 ·rename_i h7
  rw [if_pos h7]
  exact ⟨h7, rfl⟩
 refine absurd h ?_
 unfold firstj88M firstj102M
 repeat' split
 all_goals simp
theorem plain_name {w : List UInt8} (h : plainS w = true) : nameW w = true := by
 unfold plainS at h
 have key : w ≠ [] ∧ (firstM w).1 = 1 ∧ (firstM w).2.2.1 = w := by
  unfold cutS at h
  match w, h with
  | [], h => cases h
  | c :: r, h =>
   rw [show (c :: r).length = r.length + 1 from rfl, cutN, if_neg (by simp)] at h
   split at h
   ·rename_i t he
    have e1 := (List.cons.inj he).1
    rw [e1]
    simp only [Bool.and_eq_true, beq_iff_eq] at h
    exact ⟨by simp, h.1.1, h.2⟩
   cases h
 obtain ⟨h1, h2, h3⟩ := key
 obtain ⟨h4, h5⟩ := first_kind1 h2
 have ha : w.all sgB = true := nm_full w.length w (Nat.le_refl _) (by
  rw [h3] at h5
  unfold nameS at h5
  exact h5.symm)
 unfold nameW
 rw [Bool.and_eq_true]
 exact ⟨beg_word ha h4, ha⟩
/-- a text -/
theorem txN_quote : ∀ (v r : List UInt8) (k : Nat), (quoteS v).length < k → txN k 34 (quoteS v ++ 34 :: r) = (v, (quoteS v).length, 0)
 | [], r, k, h => by
  obtain ⟨k, rfl⟩ : ∃ j, k = j + 1 := ⟨k - 1, by omega⟩
  exact txN_q k 34 r
 | c :: v, r, k, h => by
  obtain ⟨k, rfl⟩ : ∃ j, k = j + 1 := ⟨k - 1, by omega⟩
  rw [quoteS, List.length_append] at h
  have ih := txN_quote v r k
  rw [quoteS, List.append_assoc]
  unfold rp1 at h ⊢
  by_cases hs : spB c = true
  ·rw [if_pos hs] at h ⊢
   simp only [List.length_cons, List.length_nil] at h
   show txN (k + 1) 34 (92 :: c :: (quoteS v ++ 34 :: r)) = _
   rw [txN_e k 34 92 c _ (by decide) (by decide) rfl, ih (by omega)]
   simp only [List.length_append, List.length_cons, List.length_nil]
   congr 2; omega
  rw [if_neg hs] at h ⊢
  simp only [List.length_cons, List.length_nil] at h
  have hs : spB c = false := by simpa using hs
  unfold spB at hs
  simp only [Bool.or_eq_false_iff, beq_eq_false_iff_ne] at hs
  show txN (k + 1) 34 (c :: (quoteS v ++ 34 :: r)) = _
  rw [txN_c k 34 c _ hs.1.2 hs.1.1 (.inl hs.2), ih (by omega)]
  simp only [List.length_append, List.length_cons, List.length_nil]
  congr 2; omega
theorem first_text {v r : List UInt8} : firstM (dqS v ++ r) = (5, dqS v, v, 0) := by
 have e : dqS v ++ r = 34 :: (quoteS v ++ 34 :: r) := by unfold dqS; simp
 rw [e]
 have h1 : tlS (34 :: (quoteS v ++ 34 :: r)) ([32, 9, 10, 12, 13] : List UInt8) = 34 :: (quoteS v ++ 34 :: r) := tl_same (by decide)
 have h2 : (cpM (34 :: (quoteS v ++ 34 :: r)) ([47, 42] : List UInt8)).2 = false := by
  unfold cpM slcpM
  rw [slhp_ne (by decide)]; rfl
 unfold firstM
 rw [h1, Int.sub_self, if_f (show decide (w6 0 > 0) = false from rfl), h2, if_f rfl, head0, if_t (by decide)]
 have ht : textS (34 :: (quoteS v ++ 34 :: r)) = (5, dqS v, v, 0) := by
  unfold textS
  rw [show ((34 :: (quoteS v ++ 34 :: r)) : List UInt8).getD 0 0 = 34 from rfl, List.drop_one, List.tail_cons, txN_quote v r _ (by simp; omega)]
  unfold txR
  rw [if_pos rfl]
  congr 2
  rw [List.take_succ_cons, show (quoteS v).length + 1 = (quoteS v ++ [34]).length by simp, show quoteS v ++ 34 :: r = (quoteS v ++ [34]) ++ r by simp, List.take_left]
  rfl
 rw [ht]
end Go.Proofs.YtcnhdkhkadiohaaGreatDoor.Css
namespace Go.Proofs.YtcnhdkhkadiohaaGreatDoor.Css
open Go Go.Eng Bld Trm Rp Qu Se Tk
set_option linter.unusedVariables false
/-! the tokens of a text -/
inductive Cuts : List UInt8 → List Tok → Prop
 | nil : Cuts [] []
 | cons {w r : List UInt8} {t : Tok} {ts : List Tok} (hw : w ≠ []) (h : firstM (w ++ r) = t) (ht : t.2.1 = w) (hr : Cuts r ts) : Cuts (w ++ r) (t :: ts)
theorem cuts_cut {s : List UInt8} {ts : List Tok} (h : Cuts s ts) : ∀ k, s.length ≤ k → cutN k s = ts := by
 induction h with
 | nil => exact fun k _ => by cases k <;> rfl
 | @cons w r t ts hw h ht hr ih =>
  have hl : 1 ≤ w.length := by
   cases w with
   | nil => exact absurd rfl hw
   | cons _ _ => simp
  intro k hk
  rw [List.length_append] at hk
  cases k with
  | zero => omega
  | succ k =>
   have ih := ih k (by omega)
   have hne : w ++ r ≠ [] := by
    cases w with
    | nil => exact absurd rfl hw
    | cons _ _ => simp
   have e : (w ++ r).drop (firstM (w ++ r)).2.1.length = r := by rw [h, ht, List.drop_left]
   rw [cutN, if_neg hne, e, ih, h]
def nthB (c : UInt8) : Bool := dgB c || c == 110 || c == 43 || c == 45
theorem nth_facts (c : UInt8) : (!(nthB c) || (hdB c && !(c == 92) && !(c == 46) && !(c == 40) && !(c == 41) && !(c == 37) && (sgB c || c == 43))) = true :=
 byte_every (p := fun c => (!(nthB c) || (hdB c && !(c == 92) && !(c == 46) && !(c == 40) && !(c == 41) && !(c == 37) && (sgB c || c == 43)))) (by decide +kernel) c
structure NthF (c : UInt8) : Prop where
 hd : hdB c = true
 n92 : (c == 92) = false
 n46 : (c == 46) = false
 n40 : (c == 40) = false
 n41 : (c == 41) = false
 n37 : (c == 37) = false
 sg : sgB c = true ∨ c = 43
theorem nth_of {c : UInt8} (h : nthB c = true) : NthF c := by
 have := nth_facts c
 rw [h] at this
 simp only [Bool.not_true, Bool.false_or, Bool.and_eq_true, Bool.not_eq_true', Bool.or_eq_true, beq_iff_eq] at this
 obtain ⟨⟨⟨⟨⟨⟨a, b⟩, c⟩, d⟩, e⟩, f⟩, g⟩ := this
 exact ⟨a, b, c, d, e, f, g⟩
theorem dw_stop {p : UInt8 → Bool} {b : UInt8} (hb : p b = false) : ∀ (x r : List UInt8), (x ++ b :: r).dropWhile p = x.dropWhile p ++ b :: r
 | [], r => by rw [List.nil_append, List.dropWhile_cons_of_neg (by rw [hb]; simp)]; rfl
 | c :: x, r => by
  rw [List.cons_append, List.dropWhile_cons, List.dropWhile_cons]
  split
  ·exact dw_stop hb x r
  rfl
theorem digs_le (x r : List UInt8) (hl : (x ++ 41 :: r).length ≤ 1000) : 0 ≤ digitsM (x ++ 41 :: r) ∧ digitsM (x ++ 41 :: r) ≤ x.length := by
 have h1 : tlS (x ++ 41 :: r) ([48, 49, 50, 51, 52, 53, 54, 55, 56, 57] : List UInt8) = x.dropWhile (fun c => ([48, 49, 50, 51, 52, 53, 54, 55, 56, 57] : List UInt8).contains c) ++ 41 :: r := dw_stop (by decide) x r
 have h2 : (x.dropWhile (fun c => ([48, 49, 50, 51, 52, 53, 54, 55, 56, 57] : List UInt8).contains c)).length ≤ x.length := (List.dropWhile_sublist _).length_le
 simp only [List.length_append, List.length_cons] at hl
 unfold digitsM
 rw [h1, w64 (by simp only [List.length_append, List.length_cons]; omega)]
 simp only [List.length_append, List.length_cons]
 omega
theorem nm_le : ∀ (x r : List UInt8) (k : Nat), (x.all fun c => !(c == 92)) = true → (nmN k (x ++ 41 :: r)).2 ≤ x.length
 | [], r, 0, _ => Nat.le_refl _
 | [], r, k + 1, _ => by
  rw [List.nil_append, nmN_cons k 41 r (esc_no (by decide)), if_neg (by decide)]; exact Nat.le_refl _
 | c :: x, r, 0, _ => Nat.zero_le _
 | c :: x, r, k + 1, h => by
  rw [List.all_cons, Bool.and_eq_true, Bool.not_eq_true'] at h
  have ih := nm_le x r k h.2
  rw [List.cons_append, nmN_cons k c _ (esc_no h.1)]
  split
  ·simp only [List.length_cons]; omega
  simp
theorem head_in {u r : List UInt8} (hu : ∀ c ∈ u, nthB c = true) (k : Nat) (hk : k ≤ u.length) : ∃ d q, (u ++ 41 :: r).drop k = d :: q ∧ (nthB d = true ∨ d = 41) := by
 rw [List.drop_append_of_le_length hk]
 cases h : u.drop k with
 | nil => exact ⟨41, r, rfl, .inr rfl⟩
 | cons d q => exact ⟨d, q ++ 41 :: r, rfl, .inl (hu d (List.mem_of_mem_drop (h ▸ List.mem_cons_self ..)))⟩
theorem head_not {d : UInt8} (h : nthB d = true ∨ d = 41) : (d == 46) = false ∧ (d == 40) = false ∧ (d == 37) = false := by
 rcases h with h | rfl
 ·have := nth_of h
  exact ⟨this.n46, this.n40, this.n37⟩
 exact ⟨by decide, by decide, by decide⟩
theorem run1 {c : UInt8} {v r : List UInt8} (hu : ∀ d ∈ c :: v, nthB d = true) (hl : ((c :: v) ++ 41 :: r).length ≤ 1000) :
  ∃ k t, 1 ≤ k ∧ k ≤ (c :: v).length ∧ firstM ((c :: v) ++ 41 :: r) = t ∧ t.2.1 = (c :: v).take k ∧ t.1 ≠ 0 := by
 have hc := nth_of (hu c (List.mem_cons_self ..))
 have h92 : ∀ k, (((c :: v).drop k).all fun c => !(c == 92)) = true := fun k => List.all_eq_true.2 fun d hd => by
  rw [(nth_of (hu d (List.mem_of_mem_drop hd))).n92]; rfl
 have hlen : (c :: v).length + (r.length + 1) ≤ 1000 := by rw [List.length_append] at hl; exact hl
 have tk : ∀ k, k ≤ (c :: v).length → ((c :: v) ++ 41 :: r).take k = (c :: v).take k := fun k hk => List.take_append_of_le_length hk
 have dr : ∀ k, k ≤ (c :: v).length → ((c :: v) ++ 41 :: r).drop k = (c :: v).drop k ++ 41 :: r := fun k hk => List.drop_append_of_le_length hk
 have hnm : ∀ k, k ≤ (c :: v).length → 0 ≤ (nameS (((c :: v) ++ 41 :: r).drop k)).2 ∧ (nameS (((c :: v) ++ 41 :: r).drop k)).2 ≤ ((c :: v).length - k : Nat) := fun k hk => by
  rw [dr k hk]
  unfold nameS
  have := nm_le ((c :: v).drop k) r ((c :: v).drop k ++ 41 :: r).length (h92 k)
  rw [List.length_drop] at this
  simp only
  omega
 have hfirst := first_hd (r := v ++ 41 :: r) hc.hd
 rw [show c :: (v ++ 41 :: r) = (c :: v) ++ 41 :: r from rfl] at hfirst
 by_cases hnum : decide ((numS ((c :: v) ++ 41 :: r)).2 > 0) = true
 ·have hn0 := of_decide_eq_true hnum
  have v1 : numbV1 ((c :: v) ++ 41 :: r) = 1 ∨ numbV1 ((c :: v) ++ 41 :: r) = 0 := by unfold numbV1; split <;> simp
  have key : ∃ k : Nat, (numS ((c :: v) ++ 41 :: r)).2 = (k : Int) ∧ k ≤ (c :: v).length := by
   have hl1 : 1 ≤ (c :: v).length := by simp
   obtain ⟨j, hj, hjl⟩ : ∃ j : Nat, numbV1 ((c :: v) ++ 41 :: r) = (j : Int) ∧ j ≤ (c :: v).length := by
    rcases v1 with e | e
    ·exact ⟨1, e, hl1⟩
    exact ⟨0, e, Nat.zero_le _⟩
   have hdg := digs_le ((c :: v).drop j) r (by rw [← dr j hjl, List.length_drop]; omega)
   rw [← dr j hjl, List.length_drop] at hdg
   obtain ⟨g, hg⟩ : ∃ g : Nat, digitsM (((c :: v) ++ 41 :: r).drop j) = (g : Int) := ⟨(digitsM (((c :: v) ++ 41 :: r).drop j)).toNat, by omega⟩
   have hw : w6 ((j : Int) + (g : Int)) = ((j + g : Nat) : Int) := by rw [w64 (by omega)]; omega
   have hV2 : numbV2 ((c :: v) ++ 41 :: r) = 0 := by
    unfold numbV2
    rw [hj, Int.toNat_natCast, hg, hw, Int.toNat_natCast]
    obtain ⟨d, q, e1, e2⟩ := head_in (r := r) hu (j + g) (by omega)
    rw [e1, if_f (show hpM (d :: q) [46] = false from slhp_ne (head_not e2).1)]
   have hV3 : numbV3 ((c :: v) ++ 41 :: r) = ((j + g : Nat) : Int) := by
    unfold numbV3
    rw [hV2, if_f (by decide), hj, Int.toNat_natCast, hg, hw]
   unfold numS
   split
   ·exact ⟨0, rfl, Nat.zero_le _⟩
   exact ⟨j + g, hV3, by omega⟩
  obtain ⟨k, hk, hkl⟩ := key
  rw [hfirst, if_pos hnum, hk]
  have hk1 : 1 ≤ k := by omega
  have h37 : hpM (((c :: v) ++ 41 :: r).drop k) ([37] : List UInt8) = false := by
   obtain ⟨d, q, e1, e2⟩ := head_in (r := r) hu k hkl
   rw [e1]
   exact slhp_ne (head_not e2).2.2
  have hm := hnm k hkl
  by_cases hb : begM (((c :: v) ++ 41 :: r).drop k) = true
  ·obtain ⟨m, hm1⟩ : ∃ m : Nat, (nameS (((c :: v) ++ 41 :: r).drop k)).2 = (m : Int) := ⟨(nameS (((c :: v) ++ 41 :: r).drop k)).2.toNat, by omega⟩
   refine ⟨k + m, _, by omega, by omega, rfl, ?_, by unfold numberM numberj5M; simp⟩
   show numberV0 _ _ = _
   unfold numberV0
   rw [Int.toNat_natCast, h37, if_f rfl, if_pos hb, hm1, w64 (by omega), show (k : Int) + (m : Int) = ((k + m : Nat) : Int) by omega, Int.toNat_natCast, tk _ (by omega)]
  refine ⟨k, _, hk1, hkl, rfl, ?_, by unfold numberM numberj5M; simp⟩
  show numberV0 _ _ = _
  unfold numberV0
  rw [Int.toNat_natCast, h37, if_f rfl, if_neg hb, tk _ hkl]
 rw [hfirst, if_neg hnum]
 by_cases hb : begM ((c :: v) ++ 41 :: r) = true
 ·rw [if_pos hb]
  have hm := hnm 0 (Nat.zero_le _)
  rw [List.drop_zero] at hm
  have hsg : sgB c = true := by
   rcases hc.sg with h | h
   ·exact h
   subst h; exact absurd hb (by
    unfold begM begj19M
    rw [show (((43 : UInt8) :: v) ++ 41 :: r).getD (Int.toNat 0) 0 = 43 from rfl, show escM (((43 : UInt8) :: v) ++ 41 :: r) = false from esc_no (by decide)]
    simp; decide)
  obtain ⟨m, hm1⟩ : ∃ m : Nat, (nameS ((c :: v) ++ 41 :: r)).2 = (m : Int) := ⟨(nameS ((c :: v) ++ 41 :: r)).2.toNat, by omega⟩
  have hm0 : 1 ≤ m := by
   have : (nameS ((c :: v) ++ 41 :: r)).2 = ((nmN ((v ++ 41 :: r).length + 1) (c :: (v ++ 41 :: r))).2 : Int) := rfl
   rw [nmN_cons _ c _ (esc_no hc.n92), if_t (show signM (c.toNat : Int) = true from hsg)] at this
   simp only at this
   omega
  have hN : (namedM 1 ((c :: v) ++ 41 :: r) 0).2.1 = (c :: v).take m := by
   unfold namedM
   simp only
   rw [show ((c :: v) ++ 41 :: r).drop (Int.toNat 0) = (c :: v) ++ 41 :: r from rfl, hm1, Int.zero_add, w64 (by omega), Int.toNat_natCast, tk _ (by omega)]
  have h40 : hpM (((c :: v) ++ 41 :: r).drop (Int.toNat (((c :: v).take m).length : Int))) ([40] : List UInt8) = false := by
   rw [Int.toNat_natCast, List.length_take, Nat.min_eq_left (by omega)]
   obtain ⟨d, q, e1, e2⟩ := head_in (r := r) hu m (by omega)
   rw [e1]
   exact slhp_ne (head_not e2).2.1
  refine ⟨m, _, hm0, by omega, rfl, ?_, ?_⟩
  ·unfold firstj72M firstV4
   simp only
   rw [hN, h40, if_f rfl]
  unfold firstj72M firstV3
  simp only
  rw [hN, h40, if_f rfl]
  unfold namedM; simp
 rw [if_neg hb]
 refine ⟨1, _, Nat.le_refl _, by simp, rfl, ?_, ?_⟩
 ·unfold firstj88M firstj102M
  repeat' split
  all_goals rfl
 unfold firstj88M firstj102M
 repeat' split
 all_goals simp
theorem run_cuts : ∀ (n : Nat) (u r : List UInt8) (rs : List Tok), u.length ≤ n → (∀ d ∈ u, nthB d = true) → (u ++ 41 :: r).length ≤ 1000 → Cuts (41 :: r) rs →
  ∃ us : List Tok, (us.map fun t => t.2.1).flatten = u ∧ (∀ t ∈ us, t.1 ≠ 0 ∧ t.2.1 ≠ [41]) ∧ Cuts (u ++ 41 :: r) (us ++ rs)
 | _, [], r, rs, _, _, _, h => ⟨[], rfl, (fun t ht => by cases ht), h⟩
 | 0, c :: v, r, rs, h, _, _, _ => by simp at h
 | n + 1, c :: v, r, rs, hn, hu, hl, h => by
  obtain ⟨k, t, h1, h2, h3, h4, h5⟩ := run1 (r := r) hu hl
  have e : (c :: v) ++ 41 :: r = (c :: v).take k ++ ((c :: v).drop k ++ 41 :: r) := by rw [← List.append_assoc, List.take_append_drop]
  obtain ⟨us, g1, g2, g3⟩ := run_cuts n ((c :: v).drop k) r rs (by rw [List.length_drop]; omega) (fun d hd => hu d (List.mem_of_mem_drop hd)) (by
   rw [List.length_append, List.length_drop]
   rw [List.length_append] at hl
   omega) h
  refine ⟨t :: us, ?_, fun y hy => ?_, ?_⟩
  ·rw [List.map_cons, List.flatten_cons, g1, h4, List.take_append_drop]
  ·rcases List.mem_cons.1 hy with rfl | hy
   ·refine ⟨h5, ?_⟩
    rw [h4]
    intro he
    have : (41 : UInt8) ∈ c :: v := List.mem_of_mem_take (he ▸ List.mem_singleton.2 rfl)
    have := (nth_of (hu 41 this)).n41
    exact absurd this (by decide)
   exact g2 y hy
  rw [e, List.cons_append]
  refine .cons ?_ (by rw [← e]; exact h3) h4 g3
  intro he
  have := congrArg List.length he
  rw [List.length_take, Nat.min_eq_left h2] at this
  simp at this
  omega
end Go.Proofs.YtcnhdkhkadiohaaGreatDoor.Css
namespace Go.Proofs.YtcnhdkhkadiohaaGreatDoor.Se
open Go Go.Eng Bld Trm Rp Qu Tk Css Me
set_option linter.unusedVariables false
abbrev bl : Tok := (8, [32], [], 0)
abbrev sg (c : UInt8) : Tok := (12, [c], [], 0)
abbrev wd (w : List UInt8) : Tok := (1, w, w, 0)
abbrev fnT (w : List UInt8) : Tok := (2, w ++ [40], w, 0)
abbrev clT : Tok := (11, [41], [], 0)
abbrev wNc : List UInt8 := [110, 116, 104, 45, 99, 104, 105, 108, 100]
abbrev wNl : List UInt8 := [110, 116, 104, 45, 108, 97, 115, 116, 45, 99, 104, 105, 108, 100]
abbrev wNot : List UInt8 := [110, 111, 116]
abbrev wIs : List UInt8 := [105, 115]
abbrev wRoot : List UInt8 := [114, 111, 111, 116]
abbrev wEmpty : List UInt8 := [101, 109, 112, 116, 121]
def RunT (u : List UInt8) (us : List Tok) : Prop := (us.map fun t => t.2.1).flatten = u ∧ ∀ t ∈ us, t.1 ≠ 0 ∧ t.2.1 ≠ [41]
def opT (z : Int) : List Tok := if (z == 61) = true then [sg 61] else [sg (byteB z), sg 61]
def jnT (z : Int) : List Tok := if (z == 32) = true then [bl] else [bl, sg (byteB z), bl]
def TkL (x : Lb) (K : List Tok → Prop) (ts : List Tok) : Prop :=
 if (x.1 == 1) = true then ts = [sg 42] else if (x.1 == 2) = true then ts = [wd x.2.1] else if (x.1 == 3) = true then ts = [(4, 35 :: x.2.1, x.2.1, 0)] else if (x.1 == 4) = true then ts = [sg 46, wd x.2.1]
 else if (x.1 == 5) = true then (if (x.2.2.1 == 0) = true then ts = [(10, [91], [], 0), wd x.2.1, (11, [93], [], 0)] else ts = (10, [91], [], 0) :: wd x.2.1 :: (opT x.2.2.1 ++ [(5, dqS x.2.2.2.1, x.2.2.2.1, 0), (11, [93], [], 0)]))
 else if (x.1 == 6) = true then ts = [sg 58, wd wRoot] else if (x.1 == 7) = true then ts = [sg 58, wd wEmpty]
 else if (x.1 == 8) = true then (∃ us, RunT (nthS x.2.2.2.2.1 x.2.2.2.2.2) us ∧ ts = sg 58 :: fnT wNc :: (us ++ [clT]))
 else if (x.1 == 9) = true then (∃ us, RunT (nthS x.2.2.2.2.1 x.2.2.2.2.2) us ∧ ts = sg 58 :: fnT wNl :: (us ++ [clT]))
 else if (x.1 == 10) = true then (∃ us, K us ∧ ts = sg 58 :: fnT wNot :: (us ++ [clT])) else (∃ us, K us ∧ ts = sg 58 :: fnT wIs :: (us ++ [clT]))
mutual
def TkT : Ts → List Tok → Prop
 | .mk x l, ts => TkL x (fun us => Tk3 l us) ts
def Tk3 : List Ph → List Tok → Prop
 | [], ts => ts = []
 | (p, js) :: l, ts => ∃ a b, Tk2 p js a ∧ Tr3 l b ∧ ts = a ++ b
def Tr3 : List Ph → List Tok → Prop
 | [], ts => ts = []
 | (p, js) :: l, ts => ∃ a b, Tk2 p js a ∧ Tr3 l b ∧ ts = sg 44 :: bl :: (a ++ b)
def Tk2 : List (List Ts) → List Int → List Tok → Prop
 | [], _, ts => ts = []
 | s :: p, js, ts => ∃ a b, Tk1 s a ∧ Tr2 p js b ∧ ts = a ++ b
def Tr2 : List (List Ts) → List Int → List Tok → Prop
 | [], _, ts => ts = []
 | s :: p, js, ts => ∃ a b, Tk1 s a ∧ Tr2 p js.tail b ∧ ts = jnT (js.headD 0) ++ (a ++ b)
def Tk1 : List Ts → List Tok → Prop
 | [], ts => ts = []
 | t :: s, ts => ∃ a b, TkT t a ∧ Tk1 s b ∧ ts = a ++ b
end
theorem TkT_eq (t : Ts) (ts : List Tok) : TkT t ts = TkL t.lab (fun us => Tk3 t.kids us) ts := by obtain ⟨x, l⟩ := t; rw [TkT]; rfl
/-! single tokens, from behind -/
theorem cut_sg {c : UInt8} {r : List UInt8} {rs : List Tok} (k : Int) (hc : hdB c = true) (hn : numZ (c :: r) = true) (hs : stB c = false) (h45 : (c == 45) = false) (h92 : (c == 92) = false) (hk : (if (c.toNat = 40 ∨ c.toNat = 91 ∨ c.toNat = 123) then (10 : Int) else if (c.toNat = 41 ∨ c.toNat = 93 ∨ c.toNat = 125) then 11 else 12) = k) (h : Cuts r rs) : Cuts (c :: r) ((k, [c], [], 0) :: rs) :=
 Cuts.cons (w := [c]) (by simp) ((first_sgn hc hn hs h45 h92).trans (by rw [hk])) rfl h
def sgnB (c : UInt8) : Bool := hdB c && !(stB c) && !(c == 45) && !(c == 92) && !(c == 43) && !(c == 46) && !(dgB c)
theorem cut_sgn {c : UInt8} {r : List UInt8} {rs : List Tok} (k : Int) (hc : sgnB c = true) (hk : (if (c.toNat = 40 ∨ c.toNat = 91 ∨ c.toNat = 123) then (10 : Int) else if (c.toNat = 41 ∨ c.toNat = 93 ∨ c.toNat = 125) then 11 else 12) = k) (h : Cuts r rs) : Cuts (c :: r) ((k, [c], [], 0) :: rs) := by
 unfold sgnB at hc
 simp only [Bool.and_eq_true, Bool.not_eq_true'] at hc
 obtain ⟨⟨⟨⟨⟨⟨a, b⟩, c1⟩, d⟩, e⟩, f⟩, g⟩ := hc
 refine cut_sg k a ?_ b c1 d hk h
 unfold numZ
 rw [aft_cons, e, c1, if_neg (by decide), dig0, g, f]; rfl
theorem cut_wd {w r : List UInt8} {rs : List Tok} (hl : (w ++ r).length ≤ 1000) (hw : nameW w = true) (hr : stopB r = true) (h : Cuts r rs) : Cuts (w ++ r) (wd w :: rs) := by
 obtain ⟨c, v, e, -⟩ := name_hd (r := r) hw
 exact Cuts.cons (by rw [e]; simp) (first_name hl hw hr) rfl h
theorem cut_fn {w r : List UInt8} {rs : List Tok} (hl : (w ++ 40 :: r).length ≤ 1000) (hw : nameW w = true) (h : Cuts r rs) : Cuts (w ++ 40 :: r) (fnT w :: rs) := by
 have e : w ++ 40 :: r = (w ++ [40]) ++ r := by simp
 have := first_func hl hw
 rw [e] at this ⊢
 exact Cuts.cons (by simp) this rfl h
theorem cut_bl {r : List UInt8} {rs : List Tok} (hl : (32 :: r).length ≤ 1000) (hr : tlS r ([32, 9, 10, 12, 13] : List UInt8) = r) (h : Cuts r rs) : Cuts (32 :: r) (bl :: rs) :=
 Cuts.cons (w := [32]) (by simp) (first_blank hl hr) rfl h
/-! what a label says -/
structure LabF (t : Ts) (i : Int) : Prop where
 lo : 1 ≤ t.lab.1
 hi : t.lab.1 ≤ 11
 at0 : t.lab.1 ≤ 2 → ¬ i > 0
 name : 2 ≤ t.lab.1 → t.lab.1 ≤ 5 → plainS t.lab.2.1 = true
 low : t.lab.1 = 2 ∨ t.lab.1 = 5 → lowerS t.lab.2.1 = t.lab.2.1
 op : t.lab.2.2.1 ≠ 0 → t.lab.1 = 5 ∧ hbyS ([61, 126, 124, 94, 36, 42] : List UInt8) t.lab.2.2.1 = true
 val : t.lab.2.2.1 = 0 → t.lab.2.2.2.1 = []
 un : ¬ (2 ≤ t.lab.1 ∧ t.lab.1 ≤ 5) → t.lab.2.1 = []
 ab : ¬ (t.lab.1 = 8 ∨ t.lab.1 = 9) → t.lab.2.2.2.2.1 = 0 ∧ t.lab.2.2.2.2.2 = 0
theorem lab_facts {t : Ts} {i : Int} (h : labS t.lab i = true) : LabF t i := by
 unfold labS at h
 simp only [Bool.and_eq_true, Bool.not_eq_true'] at h
 obtain ⟨h0, h1, h2, h3⟩ := h
 unfold l0 at h0
 unfold l1 at h1
 unfold l2 at h2
 unfold l3 at h3
 simp only [Bool.or_eq_false_iff] at h0
 obtain ⟨a1, a2, a3, a4, a5⟩ := h0
 refine ⟨by have := of_decide_eq_false a1; omega, by have := of_decide_eq_false a2; omega, fun h hi => ?_, fun h5 h6 => ?_, fun h => ?_, fun h => ?_, fun h => ?_, fun h => ?_, fun h => ?_⟩
 ·rw [decide_eq_true h, decide_eq_true hi] at a3; cases a3
 ·rw [show decide (t.lab.1 ≥ 2) = true from decide_eq_true h5, decide_eq_true h6] at a5
  simpa using a5
 ·rcases h with h | h
  ·rw [if_t (by rw [h]; rfl)] at h1
   exact (eq_of_beq (by simpa using h1)).symm
  rw [if_f (by rw [h]; rfl), show (t.lab.1 == 5) = true by rw [h]; rfl, Bool.true_and] at h1
  exact (eq_of_beq (by simpa using h1)).symm
 ·rw [if_t (by simpa using h), Bool.or_eq_false_iff, Bool.or_eq_false_iff] at h2
  exact ⟨by simpa using h2.1, by simpa using h2.2.1⟩
 ·rw [if_f (by rw [h]; rfl), show (t.lab.2.2.1 == 0) = true by rw [h]; rfl, Bool.true_and] at h2
  exact eq_of_beq (by simpa using h2)
 ·have e : (decide (t.lab.1 ≥ 2) && decide (t.lab.1 ≤ 5)) = false := by
   by_cases c1 : t.lab.1 ≥ 2
   ·rw [decide_eq_false (fun c2 => h ⟨c1, c2⟩), Bool.and_false]
   rw [decide_eq_false c1, Bool.false_and]
  rw [e] at a4
  have a4 : (!(false == !(t.lab.2.1 == ([] : List UInt8)))) = false := a4
  exact eq_of_beq (by
   cases hb : (t.lab.2.1 == ([] : List UInt8)) with
   | true => rfl
   | false => rw [hb] at a4; cases a4)
 have e : (!((t.lab.1 == 8) || (t.lab.1 == 9))) = true := by
  rw [Bool.not_eq_true', Bool.or_eq_false_iff]
  exact ⟨by simpa using fun e => h (.inl e), by simpa using fun e => h (.inr e)⟩
 rw [if_t e, Bool.or_eq_false_iff, Bool.or_eq_false_iff] at h3
 exact ⟨by simpa using h3.1, by simpa using h3.2.1⟩
/-! what a text begins with -/
def stopT : List UInt8 → Bool
 | [] => true
 | c :: _ => ([35, 46, 91, 58, 32, 41, 44] : List UInt8).contains c
def nbS : List UInt8 → Bool
 | [] => true
 | c :: _ => !(([32, 9, 10, 12, 13] : List UInt8).contains c)
theorem stop_facts (c : UInt8) : (!(([35, 46, 91, 58, 32, 41, 44] : List UInt8).contains c) || (!(sgB c) && !(c == 92) && !(c == 40))) = true :=
 byte_every (p := fun c => (!(([35, 46, 91, 58, 32, 41, 44] : List UInt8).contains c) || (!(sgB c) && !(c == 92) && !(c == 40)))) (by decide +kernel) c
theorem stop_B {r : List UInt8} (h : stopT r = true) : stopB r = true ∧ stopN r = true := by
 match r, h with
 | [], _ => exact ⟨rfl, rfl⟩
 | c :: r, h =>
  have := stop_facts c
  rw [show ([35, 46, 91, 58, 32, 41, 44] : List UInt8).contains c = true from h] at this
  simp only [Bool.not_true, Bool.false_or, Bool.and_eq_true] at this
  have e : stopN (c :: r) = true := by rw [stopN, this.1.1, this.1.2]; rfl
  refine ⟨?_, e⟩
  unfold stopB
  rw [e, Bool.true_and]
  exact this.2
theorem nb_tl {r : List UInt8} (h : nbS r = true) : tlS r ([32, 9, 10, 12, 13] : List UInt8) = r := by
 match r, h with
 | [], _ => rfl
 | c :: r, h => exact tl_same (by simpa [nbS] using h)
theorem sg_nb {c : UInt8} (h : sgB c = true) : (!(([32, 9, 10, 12, 13] : List UInt8).contains c)) = true := by
 have : (!(sgB c) || !(([32, 9, 10, 12, 13] : List UInt8).contains c)) = true := byte_every (p := fun c => (!(sgB c) || !(([32, 9, 10, 12, 13] : List UInt8).contains c))) (by decide +kernel) c
 rw [h] at this
 simpa using this
theorem plain_head {w : List UInt8} (h : plainS w = true) : ∃ c v, w = c :: v ∧ sgB c = true := by
 have := plain_name h
 unfold nameW at this
 rw [Bool.and_eq_true] at this
 match w, this with
 | c :: v, this =>
  have h2 := this.2
  rw [List.all_cons, Bool.and_eq_true] at h2
  exact ⟨c, v, rfl, h2.1⟩
theorem labT_1 {x : Lb} {s : List UInt8} (h : x.1 = 1) : labT x s = [42] := by unfold labT; rw [h]; rfl
theorem tkL_1 {x : Lb} {K : List Tok → Prop} {ts : List Tok} (h : x.1 = 1) : TkL x K ts = (ts = [sg 42]) := by unfold TkL; rw [h]; rfl
theorem labT_2 {x : Lb} {s : List UInt8} (h : x.1 = 2) : labT x s = x.2.1 := by unfold labT; rw [h]; rfl
theorem tkL_2 {x : Lb} {K : List Tok → Prop} {ts : List Tok} (h : x.1 = 2) : TkL x K ts = (ts = [wd x.2.1]) := by unfold TkL; rw [h]; rfl
theorem labT_3 {x : Lb} {s : List UInt8} (h : x.1 = 3) : labT x s = 35 :: x.2.1 := by unfold labT; rw [h]; rfl
theorem tkL_3 {x : Lb} {K : List Tok → Prop} {ts : List Tok} (h : x.1 = 3) : TkL x K ts = (ts = [(4, 35 :: x.2.1, x.2.1, 0)]) := by unfold TkL; rw [h]; rfl
theorem labT_4 {x : Lb} {s : List UInt8} (h : x.1 = 4) : labT x s = 46 :: x.2.1 := by unfold labT; rw [h]; rfl
theorem tkL_4 {x : Lb} {K : List Tok → Prop} {ts : List Tok} (h : x.1 = 4) : TkL x K ts = (ts = [sg 46, wd x.2.1]) := by unfold TkL; rw [h]; rfl
theorem labT_5 {x : Lb} {s : List UInt8} (h : x.1 = 5) : labT x s = (if (x.2.2.1 == 0) = true then 91 :: (x.2.1 ++ [93]) else 91 :: (x.2.1 ++ (opS x.2.2.1 ++ 61 :: (dqS x.2.2.2.1 ++ [93])))) := by unfold labT; rw [h]; rfl
theorem tkL_5 {x : Lb} {K : List Tok → Prop} {ts : List Tok} (h : x.1 = 5) : TkL x K ts = ((if (x.2.2.1 == 0) = true then ts = [(10, [91], [], 0), wd x.2.1, (11, [93], [], 0)] else ts = (10, [91], [], 0) :: wd x.2.1 :: (opT x.2.2.1 ++ [(5, dqS x.2.2.2.1, x.2.2.2.1, 0), (11, [93], [], 0)]))) := by unfold TkL; rw [h]; rfl
theorem labT_6 {x : Lb} {s : List UInt8} (h : x.1 = 6) : labT x s = [58, 114, 111, 111, 116] := by unfold labT; rw [h]; rfl
theorem tkL_6 {x : Lb} {K : List Tok → Prop} {ts : List Tok} (h : x.1 = 6) : TkL x K ts = (ts = [sg 58, wd wRoot]) := by unfold TkL; rw [h]; rfl
theorem labT_7 {x : Lb} {s : List UInt8} (h : x.1 = 7) : labT x s = [58, 101, 109, 112, 116, 121] := by unfold labT; rw [h]; rfl
theorem tkL_7 {x : Lb} {K : List Tok → Prop} {ts : List Tok} (h : x.1 = 7) : TkL x K ts = (ts = [sg 58, wd wEmpty]) := by unfold TkL; rw [h]; rfl
theorem labT_8 {x : Lb} {s : List UInt8} (h : x.1 = 8) : labT x s = 58 :: (wNc ++ 40 :: (nthS x.2.2.2.2.1 x.2.2.2.2.2 ++ [41])) := by unfold labT; rw [h]; rfl
theorem tkL_8 {x : Lb} {K : List Tok → Prop} {ts : List Tok} (h : x.1 = 8) : TkL x K ts = (∃ us, RunT (nthS x.2.2.2.2.1 x.2.2.2.2.2) us ∧ ts = sg 58 :: fnT wNc :: (us ++ [clT])) := by unfold TkL; rw [h]; rfl
theorem labT_9 {x : Lb} {s : List UInt8} (h : x.1 = 9) : labT x s = 58 :: (wNl ++ 40 :: (nthS x.2.2.2.2.1 x.2.2.2.2.2 ++ [41])) := by unfold labT; rw [h]; rfl
theorem tkL_9 {x : Lb} {K : List Tok → Prop} {ts : List Tok} (h : x.1 = 9) : TkL x K ts = (∃ us, RunT (nthS x.2.2.2.2.1 x.2.2.2.2.2) us ∧ ts = sg 58 :: fnT wNl :: (us ++ [clT])) := by unfold TkL; rw [h]; rfl
theorem labT_10 {x : Lb} {s : List UInt8} (h : x.1 = 10) : labT x s = 58 :: (wNot ++ 40 :: (s ++ [41])) := by unfold labT; rw [h]; rfl
theorem tkL_10 {x : Lb} {K : List Tok → Prop} {ts : List Tok} (h : x.1 = 10) : TkL x K ts = (∃ us, K us ∧ ts = sg 58 :: fnT wNot :: (us ++ [clT])) := by unfold TkL; rw [h]; rfl
theorem labT_11 {x : Lb} {s : List UInt8} (h : x.1 = 11) : labT x s = 58 :: (wIs ++ 40 :: (s ++ [41])) := by unfold labT; rw [h]; rfl
theorem tkL_11 {x : Lb} {K : List Tok → Prop} {ts : List Tok} (h : x.1 = 11) : TkL x K ts = (∃ us, K us ∧ ts = sg 58 :: fnT wIs :: (us ++ [clT])) := by unfold TkL; rw [h]; rfl
theorem kinds {t : Ts} {i : Int} (h : LabF t i) : t.lab.1 = 1 ∨ t.lab.1 = 2 ∨ t.lab.1 = 3 ∨ t.lab.1 = 4 ∨ t.lab.1 = 5 ∨ t.lab.1 = 6 ∨ t.lab.1 = 7 ∨ t.lab.1 = 8 ∨ t.lab.1 = 9 ∨ t.lab.1 = 10 ∨ t.lab.1 = 11 := by
 have := h.lo
 have := h.hi
 omega
theorem lab_head {t : Ts} {i : Int} {s : List UInt8} (h : LabF t i) : ∃ c q, labT t.lab s = c :: q ∧ (!(([32, 9, 10, 12, 13] : List UInt8).contains c)) = true ∧ (i > 0 → ([35, 46, 91, 58, 32, 41, 44] : List UInt8).contains c = true) := by
 have h12 : t.lab.1 ≤ 2 → ¬ i > 0 := h.at0
 rcases kinds h with hk | hk | hk | hk | hk | hk | hk | hk | hk | hk | hk
 ·rw [labT_1 hk]; exact ⟨42, [], rfl, by decide, fun hi => absurd hi (h12 (by omega))⟩
 ·rw [labT_2 hk]
  obtain ⟨c, v, e, hc⟩ := plain_head (h.name (by omega) (by omega))
  exact ⟨c, v, e, sg_nb hc, fun hi => absurd hi (h12 (by omega))⟩
 ·rw [labT_3 hk]; exact ⟨35, _, rfl, by decide, fun _ => by decide⟩
 ·rw [labT_4 hk]; exact ⟨46, _, rfl, by decide, fun _ => by decide⟩
 ·rw [labT_5 hk]
  by_cases h0 : (t.lab.2.2.1 == 0) = true
  ·rw [if_pos h0]; exact ⟨91, _, rfl, by decide, fun _ => by decide⟩
  rw [if_neg h0]; exact ⟨91, _, rfl, by decide, fun _ => by decide⟩
 ·rw [labT_6 hk]; exact ⟨58, _, rfl, by decide, fun _ => by decide⟩
 ·rw [labT_7 hk]; exact ⟨58, _, rfl, by decide, fun _ => by decide⟩
 ·rw [labT_8 hk]; exact ⟨58, _, rfl, by decide, fun _ => by decide⟩
 ·rw [labT_9 hk]; exact ⟨58, _, rfl, by decide, fun _ => by decide⟩
 ·rw [labT_10 hk]; exact ⟨58, _, rfl, by decide, fun _ => by decide⟩
 rw [labT_11 hk]; exact ⟨58, _, rfl, by decide, fun _ => by decide⟩
end Go.Proofs.YtcnhdkhkadiohaaGreatDoor.Se
namespace Go.Proofs.YtcnhdkhkadiohaaGreatDoor.Se
open Go Go.Eng Bld Trm Rp Qu Tk Css Me
set_option linter.unusedVariables false
theorem stopB_cons {c : UInt8} {r : List UInt8} (h : (!(sgB c) && !(c == 92) && !(c == 40)) = true) : stopB (c :: r) = true := by
 simp only [Bool.and_eq_true] at h
 unfold stopB
 rw [stopN, h.1.1, h.1.2]
 exact h.2
theorem dec_dg (u : Nat) : ∀ c ∈ Lib.decDigits u, nthB c = true := by
 induction u using Nat.strongRecOn with
 | _ u ih =>
  have dig : ∀ n : Nat, n < 10 → nthB (UInt8.ofNat (48 + n)) = true := fun n hn => by
   have : ∀ k : Fin 10, nthB (UInt8.ofNat (48 + k.val)) = true := by decide +kernel
   exact this ⟨n, hn⟩
  intro c hc
  rw [Lib.decDigits] at hc
  split at hc
  ·rw [List.mem_singleton] at hc
   subst hc
   exact dig u (by omega)
  rcases List.mem_append.1 hc with hc | hc
  ·exact ih (u / 10) (by omega) c hc
  rw [List.mem_singleton] at hc
  subst hc
  exact dig (u % 10) (by omega)
theorem itoa_nth (n : Int) : ∀ c ∈ Lib.itoa n, nthB c = true := by
 intro c hc
 unfold Lib.itoa at hc
 split at hc
 ·rcases List.mem_cons.1 hc with rfl | hc
  ·decide
  exact dec_dg _ c hc
 exact dec_dg _ c hc
theorem nthS_nth (a b : Int) : ∀ c ∈ nthS a b, nthB c = true := by
 intro c hc
 unfold nthS at hc
 split at hc
 ·rcases List.mem_append.1 hc with hc | hc
  ·exact itoa_nth a c hc
  rcases List.mem_cons.1 hc with rfl | hc
  ·decide
  exact itoa_nth b c hc
 rcases List.mem_append.1 hc with hc | hc
 ·exact itoa_nth a c hc
 rcases List.mem_cons.1 hc with rfl | hc
 ·decide
 rcases List.mem_cons.1 hc with rfl | hc
 ·decide
 exact itoa_nth b c hc
theorem cut_cl {r : List UInt8} {rs : List Tok} (h : Cuts r rs) : Cuts (41 :: r) (clT :: rs) := cut_sgn 11 (by decide) (by decide) h
theorem cut_co {r : List UInt8} {rs : List Tok} (h : Cuts r rs) : Cuts (58 :: r) (sg 58 :: rs) := cut_sgn 12 (by decide) (by decide) h
theorem cut_br {w r : List UInt8} {rs : List Tok} (hl : (58 :: (w ++ 40 :: r)).length ≤ 1000) (hw : nameW w = true) (h : Cuts r rs) : Cuts (58 :: (w ++ 40 :: r)) (sg 58 :: fnT w :: rs) :=
 cut_co (cut_fn (by simp only [List.length_cons] at hl ⊢; omega) hw h)
theorem cut_at {n r : List UInt8} {rs : List Tok} (z : Int) (hz : z = 61 ∨ z = 126 ∨ z = 124 ∨ z = 94 ∨ z = 36 ∨ z = 42) (hl : (n ++ (opS z ++ 61 :: r)).length ≤ 1000) (hw : nameW n = true) (h : Cuts r rs) : Cuts (n ++ (opS z ++ 61 :: r)) (wd n :: (opT z ++ rs)) := by
 have h61 : Cuts (61 :: r) (sg 61 :: rs) := cut_sgn 12 (by decide) (by decide) h
 rcases hz with rfl | rfl | rfl | rfl | rfl | rfl
 ·exact cut_wd hl hw (stopB_cons (by decide)) h61
 ·exact cut_wd hl hw (stopB_cons (c := 126) (by decide)) (cut_sgn (c := 126) 12 (by decide) (by decide) h61)
 ·exact cut_wd hl hw (stopB_cons (c := 124) (by decide)) (cut_sgn (c := 124) 12 (by decide) (by decide) h61)
 ·exact cut_wd hl hw (stopB_cons (c := 94) (by decide)) (cut_sgn (c := 94) 12 (by decide) (by decide) h61)
 ·exact cut_wd hl hw (stopB_cons (c := 36) (by decide)) (cut_sgn (c := 36) 12 (by decide) (by decide) h61)
 exact cut_wd hl hw (stopB_cons (c := 42) (by decide)) (cut_sgn (c := 42) 12 (by decide) (by decide) h61)
theorem op_vals {z : Int} (h : hbyS ([61, 126, 124, 94, 36, 42] : List UInt8) z = true) : z = 61 ∨ z = 126 ∨ z = 124 ∨ z = 94 ∨ z = 36 ∨ z = 42 := by
 unfold hbyS at h
 simp only [List.any_cons, List.any_nil, Bool.or_false, Bool.or_eq_true, beq_iff_eq] at h
 rcases h with h | h | h | h | h | h
 ·exact .inl h.symm
 ·exact .inr (.inl h.symm)
 ·exact .inr (.inr (.inl h.symm))
 ·exact .inr (.inr (.inr (.inl h.symm)))
 ·exact .inr (.inr (.inr (.inr (.inl h.symm))))
 exact .inr (.inr (.inr (.inr (.inr h.symm))))
theorem cut_test {t : Ts} {i : Int} (hf : LabF t i)
  (hk : t.lab.1 = 10 ∨ t.lab.1 = 11 → ∀ r rs, (tx3 t.kids ++ 41 :: r).length ≤ 1000 → Cuts (41 :: r) rs → ∃ us, Tk3 t.kids us ∧ Cuts (tx3 t.kids ++ 41 :: r) (us ++ rs)) :
  ∀ r rs, stopT r = true → (txT t ++ r).length ≤ 1000 → Cuts r rs → ∃ ts, TkT t ts ∧ Cuts (txT t ++ r) (ts ++ rs) := by
 intro r rs hr hl h
 have hB := stop_B hr
 rw [txT_eq] at hl ⊢
 have hpl : 2 ≤ t.lab.1 → t.lab.1 ≤ 5 → nameW t.lab.2.1 = true := fun a b => plain_name (hf.name a b)
 rcases kinds hf with e | e | e | e | e | e | e | e | e | e | e
 ·rw [labT_1 e] at hl ⊢
  exact ⟨[sg 42], by rw [TkT_eq, tkL_1 e], cut_sgn (c := 42) 12 (by decide) (by decide) h⟩
 ·rw [labT_2 e] at hl ⊢
  exact ⟨_, by rw [TkT_eq, tkL_2 e], cut_wd hl (hpl (by omega) (by omega)) hB.1 h⟩
 ·rw [labT_3 e] at hl ⊢
  have hw := hpl (by omega) (by omega)
  obtain ⟨c, v, ew, -⟩ := name_hd (r := r) hw
  unfold nameW at hw
  rw [Bool.and_eq_true] at hw
  exact ⟨_, by rw [TkT_eq, tkL_3 e], Cuts.cons (w := 35 :: t.lab.2.1) (by simp) (first_hash hl (by rw [ew]; simp) hw.2 hB.2) rfl h⟩
 ·rw [labT_4 e] at hl ⊢
  have hw := hpl (by omega) (by omega)
  refine ⟨_, by rw [TkT_eq, tkL_4 e], ?_⟩
  have hz : numZ (46 :: (t.lab.2.1 ++ r)) = true := by
   have hb : begW t.lab.2.1 = true := by unfold nameW at hw; rw [Bool.and_eq_true] at hw; exact hw.1
   unfold numZ
   rw [aft_cons, if_neg (by decide), dig0]
   generalize t.lab.2.1 = w at hb
   match w, hb with
   | c :: v, hb =>
    show (_ && (_ || !(dgB c))) = true
    rw [begW, Bool.or_eq_true] at hb
    rcases hb with hb | hb
    ·rw [(st_sg hb).2.1]; decide
    rw [Bool.and_eq_true] at hb
    rw [eq_of_beq hb.1]; decide
  exact cut_sg (c := 46) 12 (by decide) hz (by decide) (by decide) (by decide) (by decide) (cut_wd (by simp at hl ⊢; omega) hw hB.1 h)
 ·rw [labT_5 e] at hl ⊢
  have hw := hpl (by omega) (by omega)
  by_cases h0 : (t.lab.2.2.1 == 0) = true
  ·rw [if_pos h0] at hl ⊢
   refine ⟨_, by rw [TkT_eq, tkL_5 e, if_pos h0], ?_⟩
   have e2 : (91 :: (t.lab.2.1 ++ [93])) ++ r = 91 :: (t.lab.2.1 ++ 93 :: r) := by simp
   rw [e2] at hl ⊢
   exact cut_sgn 10 (by decide) (by decide) (cut_wd (by simp at hl ⊢; omega) hw (stopB_cons (by decide)) (cut_sgn 11 (by decide) (by decide) h))
  rw [if_neg h0] at hl ⊢
  refine ⟨_, by rw [TkT_eq, tkL_5 e, if_neg h0], ?_⟩
  have e2 : (91 :: (t.lab.2.1 ++ (opS t.lab.2.2.1 ++ 61 :: (dqS t.lab.2.2.2.1 ++ [93])))) ++ r = 91 :: (t.lab.2.1 ++ (opS t.lab.2.2.1 ++ 61 :: (dqS t.lab.2.2.2.1 ++ 93 :: r))) := by simp
  have e3 : ((10, [91], [], 0) :: wd t.lab.2.1 :: (opT t.lab.2.2.1 ++ [(5, dqS t.lab.2.2.2.1, t.lab.2.2.2.1, 0), (11, [93], [], 0)]) : List Tok) ++ rs = (10, [91], [], 0) :: wd t.lab.2.1 :: (opT t.lab.2.2.1 ++ ((5, dqS t.lab.2.2.2.1, t.lab.2.2.2.1, 0) :: (11, [93], [], 0) :: rs)) := by simp
  rw [e2] at hl ⊢
  rw [e3]
  have hz := op_vals (hf.op (by simpa using h0)).2
  have h93 : Cuts (93 :: r) ((11, [93], [], 0) :: rs) := cut_sgn 11 (by decide) (by decide) h
  have hq : Cuts (dqS t.lab.2.2.2.1 ++ 93 :: r) ((5, dqS t.lab.2.2.2.1, t.lab.2.2.2.1, 0) :: (11, [93], [], 0) :: rs) := Cuts.cons (by unfold dqS; simp) first_text rfl h93
  exact cut_sgn 10 (by decide) (by decide) (cut_at _ hz (by rw [List.length_cons] at hl; omega) hw hq)
 ·rw [labT_6 e] at hl ⊢
  refine ⟨[sg 58, wd wRoot], by rw [TkT_eq, tkL_6 e], ?_⟩
  show Cuts (58 :: (wRoot ++ r)) (sg 58 :: wd wRoot :: rs)
  exact cut_co (cut_wd (w := wRoot) (by simp at hl ⊢; omega) (by decide) hB.1 h)
 ·rw [labT_7 e] at hl ⊢
  refine ⟨[sg 58, wd wEmpty], by rw [TkT_eq, tkL_7 e], ?_⟩
  show Cuts (58 :: (wEmpty ++ r)) (sg 58 :: wd wEmpty :: rs)
  exact cut_co (cut_wd (w := wEmpty) (by simp at hl ⊢; omega) (by decide) hB.1 h)
 ·rw [labT_8 e] at hl ⊢
  have e2 : (58 :: (wNc ++ 40 :: (nthS t.lab.2.2.2.2.1 t.lab.2.2.2.2.2 ++ [41]))) ++ r = 58 :: (wNc ++ 40 :: (nthS t.lab.2.2.2.2.1 t.lab.2.2.2.2.2 ++ 41 :: r)) := by simp
  rw [e2] at hl ⊢
  obtain ⟨us, g1, g2, g3⟩ := run_cuts _ (nthS t.lab.2.2.2.2.1 t.lab.2.2.2.2.2) r (clT :: rs) (Nat.le_refl _) (nthS_nth _ _) (by simp at hl ⊢; omega) (cut_cl h)
  refine ⟨sg 58 :: fnT wNc :: (us ++ [clT]), by rw [TkT_eq, tkL_8 e]; exact ⟨us, ⟨g1, g2⟩, rfl⟩, ?_⟩
  rw [show (sg 58 :: fnT wNc :: (us ++ [clT])) ++ rs = sg 58 :: fnT wNc :: (us ++ clT :: rs) by simp]
  exact cut_br hl (by decide) g3
 ·rw [labT_9 e] at hl ⊢
  have e2 : (58 :: (wNl ++ 40 :: (nthS t.lab.2.2.2.2.1 t.lab.2.2.2.2.2 ++ [41]))) ++ r = 58 :: (wNl ++ 40 :: (nthS t.lab.2.2.2.2.1 t.lab.2.2.2.2.2 ++ 41 :: r)) := by simp
  rw [e2] at hl ⊢
  obtain ⟨us, g1, g2, g3⟩ := run_cuts _ (nthS t.lab.2.2.2.2.1 t.lab.2.2.2.2.2) r (clT :: rs) (Nat.le_refl _) (nthS_nth _ _) (by simp at hl ⊢; omega) (cut_cl h)
  refine ⟨sg 58 :: fnT wNl :: (us ++ [clT]), by rw [TkT_eq, tkL_9 e]; exact ⟨us, ⟨g1, g2⟩, rfl⟩, ?_⟩
  rw [show (sg 58 :: fnT wNl :: (us ++ [clT])) ++ rs = sg 58 :: fnT wNl :: (us ++ clT :: rs) by simp]
  exact cut_br hl (by decide) g3
 ·rw [labT_10 e] at hl ⊢
  have e2 : (58 :: (wNot ++ 40 :: (tx3 t.kids ++ [41]))) ++ r = 58 :: (wNot ++ 40 :: (tx3 t.kids ++ 41 :: r)) := by simp
  rw [e2] at hl ⊢
  obtain ⟨us, g1, g3⟩ := hk (.inl e) r (clT :: rs) (by simp at hl ⊢; omega) (cut_cl h)
  refine ⟨sg 58 :: fnT wNot :: (us ++ [clT]), by rw [TkT_eq, tkL_10 e]; exact ⟨us, g1, rfl⟩, ?_⟩
  rw [show (sg 58 :: fnT wNot :: (us ++ [clT])) ++ rs = sg 58 :: fnT wNot :: (us ++ clT :: rs) by simp]
  exact cut_br hl (by decide) g3
 rw [labT_11 e] at hl ⊢
 have e2 : (58 :: (wIs ++ 40 :: (tx3 t.kids ++ [41]))) ++ r = 58 :: (wIs ++ 40 :: (tx3 t.kids ++ 41 :: r)) := by simp
 rw [e2] at hl ⊢
 obtain ⟨us, g1, g3⟩ := hk (.inr e) r (clT :: rs) (by simp at hl ⊢; omega) (cut_cl h)
 refine ⟨sg 58 :: fnT wIs :: (us ++ [clT]), by rw [TkT_eq, tkL_11 e]; exact ⟨us, g1, rfl⟩, ?_⟩
 rw [show (sg 58 :: fnT wIs :: (us ++ [clT])) ++ rs = sg 58 :: fnT wIs :: (us ++ clT :: rs) by simp]
 exact cut_br hl (by decide) g3
theorem txT_head {t : Ts} {i : Int} (h : okT t i = true) : ∃ c q, txT t = c :: q ∧ (!(([32, 9, 10, 12, 13] : List UInt8).contains c)) = true ∧ (i > 0 → ([35, 46, 91, 58, 32, 41, 44] : List UInt8).contains c = true) := by
 rw [okT_eq, Bool.and_eq_true] at h
 rw [txT_eq]
 exact lab_head (lab_facts h.1)
def CT (t : Ts) : Prop := ∀ i, okT t i = true → okB t → ∀ r rs, stopT r = true → (txT t ++ r).length ≤ 1000 → Cuts r rs → ∃ ts, TkT t ts ∧ Cuts (txT t ++ r) (ts ++ rs)
theorem cut1 : ∀ {s : List Ts} {k : Int}, 0 ≤ k → (∀ t ∈ s, CT t) → ok1 s k = true → (∀ t ∈ s, okB t) → ∀ r rs, stopT r = true → (tx1 s ++ r).length ≤ 1000 → Cuts r rs → ∃ ts, Tk1 s ts ∧ Cuts (tx1 s ++ r) (ts ++ rs)
 | [], _, _, _, _, _, r, rs, _, _, h => ⟨[], by rw [Tk1], by rw [tx1]; exact h⟩
 | t :: s, k, hk, hC, ho, hB, r, rs, hr, hl, h => by
  rw [ok1, Bool.and_eq_true] at ho
  rw [tx1, List.append_assoc] at hl ⊢
  have hl2 : (tx1 s ++ r).length ≤ 1000 := by rw [List.length_append] at hl; omega
  obtain ⟨b, hb, hcb⟩ := cut1 (k := k + 1) (by omega) (fun y hy => hC y (List.mem_cons_of_mem _ hy)) ho.2 (fun y hy => hB y (List.mem_cons_of_mem _ hy)) r rs hr hl2 h
  have hst : stopT (tx1 s ++ r) = true := by
   match s, ho.2 with
   | [], _ => rw [tx1]; exact hr
   | y :: s, ho2 =>
    rw [ok1, Bool.and_eq_true] at ho2
    obtain ⟨c, q, e1, -, e3⟩ := txT_head ho2.1
    rw [tx1, e1]
    exact e3 (by omega)
  obtain ⟨a, ha, hca⟩ := hC t (List.mem_cons_self ..) k ho.1 (hB t (List.mem_cons_self ..)) (tx1 s ++ r) (b ++ rs) hst hl hcb
  exact ⟨a ++ b, by rw [Tk1]; exact ⟨a, b, ha, hb, rfl⟩, by rw [List.append_assoc]; exact hca⟩
theorem tx1_nb {s : List Ts} (hne : s ≠ []) {k : Int} (ho : ok1 s k = true) (r : List UInt8) : nbS (tx1 s ++ r) = true := by
 match s, hne with
 | t :: s, _ =>
  rw [ok1, Bool.and_eq_true] at ho
  obtain ⟨c, q, e1, e2, -⟩ := txT_head ho.1
  rw [tx1, e1]
  exact e2
theorem jn_vals {z : Int} (h : jnB z = true) : z = 32 ∨ z = 62 ∨ z = 43 ∨ z = 126 := by
 unfold jnB hbyS at h
 simp only [List.any_cons, List.any_nil, Bool.or_false, Bool.or_eq_true, beq_iff_eq] at h
 rcases h with h | h | h | h
 ·exact .inl h.symm
 ·exact .inr (.inl h.symm)
 ·exact .inr (.inr (.inl h.symm))
 exact .inr (.inr (.inr h.symm))
theorem cut_jn {z : Int} (hz : jnB z = true) {r : List UInt8} {rs : List Tok} (hl : (jnS z ++ r).length ≤ 1000) (hr : nbS r = true) (h : Cuts r rs) : Cuts (jnS z ++ r) (jnT z ++ rs) := by
 rcases jn_vals hz with rfl | rfl | rfl | rfl
 ·exact cut_bl hl (nb_tl hr) h
 ·have h1 : Cuts (62 :: 32 :: r) (sg 62 :: bl :: rs) := cut_sgn (c := 62) 12 (by decide) (by decide) (cut_bl (by simp [jnS] at hl ⊢; omega) (nb_tl hr) h)
  exact cut_bl hl (tl_same (by decide)) h1
 ·have h1 : Cuts (43 :: 32 :: r) (sg 43 :: bl :: rs) := cut_sg (c := 43) 12 (by decide) rfl (by decide) (by decide) (by decide) (by decide) (cut_bl (by simp [jnS] at hl ⊢; omega) (nb_tl hr) h)
  exact cut_bl hl (tl_same (by decide)) h1
 have h1 : Cuts (126 :: 32 :: r) (sg 126 :: bl :: rs) := cut_sgn (c := 126) 12 (by decide) (by decide) (cut_bl (by simp [jnS] at hl ⊢; omega) (nb_tl hr) h)
 exact cut_bl hl (tl_same (by decide)) h1
theorem jn_stop {z : Int} (r : List UInt8) : stopT (jnS z ++ r) = true := by
 unfold jnS
 split <;> rfl
theorem cutr2 : ∀ {p : List (List Ts)} {js : List Int}, (∀ s ∈ p, ∀ t ∈ s, CT t) → ok2 p = true → (∀ s ∈ p, ∀ t ∈ s, okB t) → (∀ z ∈ js, jnB z = true) → p.length ≤ js.length → ∀ r rs, stopT r = true → (tr2 p js ++ r).length ≤ 1000 → Cuts r rs → ∃ ts, Tr2 p js ts ∧ Cuts (tr2 p js ++ r) (ts ++ rs)
 | [], js, _, _, _, _, _, r, rs, _, _, h => ⟨[], by rw [Tr2], by rw [tr2]; exact h⟩
 | s :: p, js, hC, ho, hB, hj, hjl, r, rs, hr, hl, h => by
  match js, hj, hjl with
  | z :: js, hj, hjl =>
   rw [ok2, Bool.and_eq_true, Bool.and_eq_true] at ho
   obtain ⟨ho1, ho2, ho3⟩ := ho
   have hne : s ≠ [] := fun e => by rw [e] at ho2; cases ho2
   rw [tr2, List.append_assoc, List.append_assoc] at hl ⊢
   have hl2 : (tx1 s ++ (tr2 p js ++ r)).length ≤ 1000 := by rw [List.length_append] at hl; exact Nat.le_trans (Nat.le_add_left ..) hl
   have hl3 : (tr2 p js ++ r).length ≤ 1000 := by rw [List.length_append] at hl2; omega
   obtain ⟨b, hb, hcb⟩ := cutr2 (p := p) (js := js) (fun y hy => hC y (List.mem_cons_of_mem _ hy)) ho3 (fun y hy => hB y (List.mem_cons_of_mem _ hy)) (fun y hy => hj y (List.mem_cons_of_mem _ hy)) (by simpa using hjl) r rs hr hl3 h
   have hst : stopT (tr2 p js ++ r) = true := by
    match p with
    | [] => rw [tr2]; exact hr
    | y :: p => rw [tr2, List.append_assoc]; exact jn_stop _
   obtain ⟨a, ha, hca⟩ := cut1 (Int.le_refl 0) (hC s (List.mem_cons_self ..)) ho1 (hB s (List.mem_cons_self ..)) _ _ hst hl2 hcb
   refine ⟨jnT z ++ (a ++ b), by rw [Tr2]; exact ⟨a, b, ha, hb, rfl⟩, ?_⟩
   rw [List.append_assoc, List.append_assoc]
   exact cut_jn (hj z (List.mem_cons_self ..)) hl (tx1_nb hne ho1 _) hca
theorem cut2 {p : List (List Ts)} {js : List Int} (hC : ∀ s ∈ p, ∀ t ∈ s, CT t) (ho : ok2 p = true) (hB : ∀ s ∈ p, ∀ t ∈ s, okB t) (hj : ∀ z ∈ js, jnB z = true) (hjl : p.length ≤ js.length + 1) (r : List UInt8) (rs : List Tok) (hr : stopT r = true) (hl : (tx2 p js ++ r).length ≤ 1000) (h : Cuts r rs) : ∃ ts, Tk2 p js ts ∧ Cuts (tx2 p js ++ r) (ts ++ rs) := by
 match p, hC, ho, hB, hjl with
 | [], _, _, _, _ => exact ⟨[], by rw [Tk2], by rw [tx2]; exact h⟩
 | s :: p, hC, ho, hB, hjl =>
  rw [ok2, Bool.and_eq_true, Bool.and_eq_true] at ho
  obtain ⟨ho1, ho2, ho3⟩ := ho
  rw [tx2, List.append_assoc] at hl ⊢
  have hl3 : (tr2 p js ++ r).length ≤ 1000 := by rw [List.length_append] at hl; omega
  obtain ⟨b, hb, hcb⟩ := cutr2 (p := p) (js := js) (fun y hy => hC y (List.mem_cons_of_mem _ hy)) ho3 (fun y hy => hB y (List.mem_cons_of_mem _ hy)) hj (by simpa using hjl) r rs hr hl3 h
  have hst : stopT (tr2 p js ++ r) = true := by
   match p with
   | [] => rw [tr2]; exact hr
   | y :: p => rw [tr2, List.append_assoc]; exact jn_stop _
  obtain ⟨a, ha, hca⟩ := cut1 (Int.le_refl 0) (hC s (List.mem_cons_self ..)) ho1 (hB s (List.mem_cons_self ..)) _ _ hst hl hcb
  exact ⟨a ++ b, by rw [Tk2]; exact ⟨a, b, ha, hb, rfl⟩, by rw [List.append_assoc]; exact hca⟩
theorem tx2_nb {p : List (List Ts)} {js : List Int} (hne : p ≠ []) (ho : ok2 p = true) (r : List UInt8) : nbS (tx2 p js ++ r) = true := by
 match p, hne with
 | s :: p, _ =>
  rw [ok2, Bool.and_eq_true, Bool.and_eq_true] at ho
  have hs : s ≠ [] := fun e => by have := ho.2.1; rw [e] at this; cases this
  rw [tx2, List.append_assoc]
  exact tx1_nb hs ho.1 _
theorem tr3_stop {l : List Ph} {r : List UInt8} (hr : stopT r = true) : stopT (tr3 l ++ r) = true := by
 match l with
 | [] => rw [tr3]; exact hr
 | (p, js) :: l => rw [tr3]; rfl
theorem cutr3 : ∀ {l : List Ph}, (∀ q ∈ l, ∀ s ∈ q.1, ∀ t ∈ s, CT t) → ok3 l = true → (∀ q ∈ l, ∀ s ∈ q.1, ∀ t ∈ s, okB t) → ∀ r rs, stopT r = true → (tr3 l ++ r).length ≤ 1000 → Cuts r rs → ∃ ts, Tr3 l ts ∧ Cuts (tr3 l ++ r) (ts ++ rs)
 | [], _, _, _, r, rs, _, _, h => ⟨[], by rw [Tr3], by rw [tr3]; exact h⟩
 | (p, js) :: l, hC, ho, hB, r, rs, hr, hl, h => by
  obtain ⟨⟨q1, q2⟩, q3, q4⟩ := ok3_in ho (List.mem_cons_self ..)
  rw [ok3_cons, Bool.and_eq_true, Bool.and_eq_true, Bool.and_eq_true] at ho
  have e : tr3 ((p, js) :: l) ++ r = 44 :: 32 :: (tx2 p js ++ (tr3 l ++ r)) := by rw [tr3]; simp
  rw [e] at hl ⊢
  have hl1 : (32 :: (tx2 p js ++ (tr3 l ++ r))).length ≤ 1000 := by rw [List.length_cons] at hl; omega
  have hl2 : (tx2 p js ++ (tr3 l ++ r)).length ≤ 1000 := by rw [List.length_cons] at hl1; omega
  have hl3 : (tr3 l ++ r).length ≤ 1000 := by rw [List.length_append] at hl2; omega
  obtain ⟨b, hb, hcb⟩ := cutr3 (l := l) (fun y hy => hC y (List.mem_cons_of_mem _ hy)) ho.2.2.2 (fun y hy => hB y (List.mem_cons_of_mem _ hy)) r rs hr hl3 h
  obtain ⟨a, ha, hca⟩ := cut2 (hC (p, js) (List.mem_cons_self ..)) q3 (hB (p, js) (List.mem_cons_self ..)) (fun z hz => List.all_eq_true.1 q4 z hz) (Nat.le_of_eq q2.symm) _ _ (tr3_stop hr) hl2 hcb
  refine ⟨sg 44 :: bl :: (a ++ b), by rw [Tr3]; exact ⟨a, b, ha, hb, rfl⟩, ?_⟩
  have e2 : (sg 44 :: bl :: (a ++ b)) ++ rs = sg 44 :: bl :: (a ++ (b ++ rs)) := by simp
  rw [e2]
  exact cut_sgn (c := 44) 12 (by decide) (by decide) (cut_bl hl1 (nb_tl (tx2_nb q1 q3 _)) hca)
theorem cut3 {l : List Ph} (hC : ∀ q ∈ l, ∀ s ∈ q.1, ∀ t ∈ s, CT t) (ho : ok3 l = true) (hB : ∀ q ∈ l, ∀ s ∈ q.1, ∀ t ∈ s, okB t) (r : List UInt8) (rs : List Tok) (hr : stopT r = true) (hl : (tx3 l ++ r).length ≤ 1000) (h : Cuts r rs) : ∃ ts, Tk3 l ts ∧ Cuts (tx3 l ++ r) (ts ++ rs) := by
 match l, hC, ho, hB with
 | [], _, _, _ => exact ⟨[], by rw [Tk3], by rw [tx3]; exact h⟩
 | (p, js) :: l, hC, ho, hB =>
  obtain ⟨⟨q1, q2⟩, q3, q4⟩ := ok3_in ho (List.mem_cons_self ..)
  rw [ok3_cons, Bool.and_eq_true, Bool.and_eq_true, Bool.and_eq_true] at ho
  rw [tx3, List.append_assoc] at hl ⊢
  have hl3 : (tr3 l ++ r).length ≤ 1000 := by rw [List.length_append] at hl; omega
  obtain ⟨b, hb, hcb⟩ := cutr3 (l := l) (fun y hy => hC y (List.mem_cons_of_mem _ hy)) ho.2.2.2 (fun y hy => hB y (List.mem_cons_of_mem _ hy)) r rs hr hl3 h
  obtain ⟨a, ha, hca⟩ := cut2 (hC (p, js) (List.mem_cons_self ..)) q3 (hB (p, js) (List.mem_cons_self ..)) (fun z hz => List.all_eq_true.1 q4 z hz) (Nat.le_of_eq q2.symm) _ _ (tr3_stop hr) hl hcb
  exact ⟨a ++ b, by rw [Tk3]; exact ⟨a, b, ha, hb, rfl⟩, by rw [List.append_assoc]; exact hca⟩
theorem cutAll : ∀ t : Ts, CT t := Tst.ind fun x l ih i hi hB => by
 have hi' := hi
 rw [okT_eq, Bool.and_eq_true] at hi
 refine cut_test (lab_facts hi.1) (fun hk r rs hl h => ?_)
 have e : ((x.1 == 10) || (x.1 == 11)) = true := by
  rcases hk with h | h
  ·rw [show x.1 = 10 from h]; rfl
  rw [show x.1 = 11 from h]; rfl
 have h2 := hi.2
 rw [if_pos (show (((Tst.mk x l).lab.1 == 10) || ((Tst.mk x l).lab.1 == 11)) = true from e)] at h2
 simp only [ptsS, Bool.and_eq_true] at h2
 exact cut3 ih h2.1 (fun q hq s hs t ht => ((okB_kids hB).2 q hq).2 s hs t ht) (41 :: r) rs rfl hl h
/-- the tokens of a text -/
theorem text_toks {l : List Ph} (ho : ok3 l = true) (hB : okB3 l) (hl : (tx3 l).length ≤ 1000) : Tk3 l (cutS (tx3 l)) ∧ Cuts (tx3 l) (cutS (tx3 l)) := by
 obtain ⟨ts, h1, h2⟩ := cut3 (fun q _ s _ t _ => cutAll t) ho (fun q hq s hs t ht => (hB q hq).2 s hs t ht) [] [] rfl (by rw [List.append_nil]; exact hl) .nil
 rw [List.append_nil, List.append_nil] at h2
 have : cutS (tx3 l) = ts := cuts_cut h2 _ (Nat.le_refl _)
 rw [this]; exact ⟨h1, h2⟩
end Go.Proofs.YtcnhdkhkadiohaaGreatDoor.Se
