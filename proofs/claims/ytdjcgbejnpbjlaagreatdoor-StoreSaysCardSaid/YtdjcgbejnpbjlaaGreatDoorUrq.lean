/- Addresses: what the small parts compute, in plain Lean. -/
import Derived.Test.YtdjcgbejnpbjlaaGreatDoorUra
import Derived.Test.YtdjcgbejnpbjlaaGreatDoorUri
import Derived.Lib.SplitLaws
import Derived.Lib.AtoiAllCases
import Derived.Lib.TrimAscii
namespace Go.Proofs.YtdjcgbejnpbjlaaGreatDoor.Ub
open Go Go.Eng Go.RowKit Go.Shelf Go.Proofs Bld Sp Ti Uc Ua Ui
set_option linter.unusedVariables false
abbrev JU := List UInt8 × List UInt8 × Int × List (List UInt8) × List UInt8 × Bool × List UInt8 × Bool
def uownF (xscheme : List UInt8) (K : Int → Prop) : Prop :=
 (((xscheme == ([104, 116, 116, 112] : List UInt8))) = true → K 80) ∧ (((xscheme == ([104, 116, 116, 112] : List UInt8))) = false → (((xscheme == ([104, 116, 116, 112, 115] : List UInt8))) = true → K 443) ∧ (((xscheme == ([104, 116, 116, 112, 115] : List UInt8))) = false → K 0))
set_option maxHeartbeats 4000000 in
set_option maxRecDepth 100000 in
set_option linter.unusedVariables false in
theorem uown_ok {g : Ghost} (xscheme : List UInt8) (K : Int → Prop)
  (hF : uownF xscheme K) : CallsH Tryz.prog 66 #[.string ⟨⟨xscheme⟩⟩] g [] (fun g' H' v => ∃ (r0 : Int), v = .int .i64 r0 ∧ H' = [] ∧ K r0) := by
 refine CallsH.enter 8 [(0, .string ⟨⟨xscheme⟩⟩)] Tryz.func66 rfl (by kernel_rfl) (by kernel_rfl) (by kernel_rfl) fun w0 => ?_
 refine Ok.seq ?_
 refine Ok.region ?_
 refine Ok.batch 1 [(0, .string ⟨⟨xscheme⟩⟩)] (by kernel_rfl) ?_
 refine Ok.nil ?_
 refine Ok.thenN ?_
 refine Ok.seq ?_
 refine Ok.seq ?_
 refine Ok.region ?_
 refine Ok.batch 1 [(3, .string ⟨⟨xscheme⟩⟩)] (by kernel_rfl) ?_
 refine Ok.nil ?_
 refine Ok.thenN ?_
 refine Ok.block ?_
 refine Ok.seq ?_
 refine Ok.region ?_
 refine Ok.op rfl (OpOk.step (v := .bool (xscheme == ([104, 116, 116, 112] : List UInt8))) (Yields.strCmp (f := .eql) (a := xscheme) (b := ([104, 116, 116, 112] : List UInt8)) (by kernel_rfl) (by kernel_rfl) rfl) rfl rfl ?_)
 refine Ok.batch 1 [(3, .string ⟨⟨xscheme⟩⟩), (4, .bool (xscheme == ([104, 116, 116, 112] : List UInt8)))] (by kernel_rfl) ?_
 refine Ok.nil ?_
 refine Ok.thenN ?_
 refine Ok.cond (b := (xscheme == ([104, 116, 116, 112] : List UInt8))) rfl (fun hc1 => ?_) (fun hc1 => ?_)
 ·replace hF := hF.1 hc1
  refine Ok.seq ?_
  refine Ok.region ?_
  refine Ok.batch 1 [(2, .int .i64 80)] (by kernel_rfl) ?_
  refine Ok.nil ?_
  refine Ok.thenN ?_
  refine Ok.ret ?_
  refine Ok.blockR ?_
  refine Ok.thenR ?_
  exact Ok.resH (vs := [.int .i64 80]) (.inl rfl) rfl (.cons (.tmp rfl) .nil) (Gext.refl w0 g) ⟨80, rfl, rfl, hF⟩
 ·replace hF := hF.2 hc1
  refine Ok.seq ?_
  refine Ok.region ?_
  refine Ok.op rfl (OpOk.step (v := .bool (xscheme == ([104, 116, 116, 112, 115] : List UInt8))) (Yields.strCmp (f := .eql) (a := xscheme) (b := ([104, 116, 116, 112, 115] : List UInt8)) (by kernel_rfl) (by kernel_rfl) rfl) rfl rfl ?_)
  refine Ok.batch 1 [(6, .bool (xscheme == ([104, 116, 116, 112, 115] : List UInt8)))] (by kernel_rfl) ?_
  refine Ok.nil ?_
  refine Ok.thenN ?_
  refine Ok.cond (b := (xscheme == ([104, 116, 116, 112, 115] : List UInt8))) rfl (fun hc2 => ?_) (fun hc2 => ?_)
  ·replace hF := hF.1 hc2
   refine Ok.seq ?_
   refine Ok.region ?_
   refine Ok.batch 1 [(2, .int .i64 443)] (by kernel_rfl) ?_
   refine Ok.nil ?_
   refine Ok.thenN ?_
   refine Ok.ret ?_
   refine Ok.blockR ?_
   refine Ok.thenR ?_
   exact Ok.resH (vs := [.int .i64 443]) (.inl rfl) rfl (.cons (.tmp rfl) .nil) (Gext.refl w0 g) ⟨443, rfl, rfl, hF⟩
  ·replace hF := hF.2 hc2
   refine Ok.skip ?_
   refine Ok.blockN ?_
   refine Ok.thenN ?_
   refine Ok.seq ?_
   refine Ok.region ?_
   refine Ok.batch 1 [(2, .int .i64 0)] (by kernel_rfl) ?_
   refine Ok.nil ?_
   refine Ok.thenN ?_
   refine Ok.ret ?_
   exact Ok.resH (vs := [.int .i64 0]) (.inl rfl) rfl (.cons (.tmp rfl) .nil) (Gext.refl w0 g) ⟨0, rfl, rfl, hF⟩
def uownM (xscheme : List UInt8) : Int := (if (xscheme == ([104, 116, 116, 112] : List UInt8)) = true then 80 else (if (xscheme == ([104, 116, 116, 112, 115] : List UInt8)) = true then 443 else 0))
set_option linter.unusedSimpArgs false in
set_option linter.unusedVariables false in
theorem uownF_A (xscheme : List UInt8) (P : Int → Prop) (h : P (uownM xscheme)) : uownF xscheme (fun k0 => P k0) := by
 unfold uownM at h
 unfold uownF
 refine ⟨fun hc0 => ?_, fun hc0 => ?_⟩
 ·rw [if_t hc0] at h
  have hd0 := hc0; try simp only [Bool.and_eq_true, Bool.or_eq_true, Bool.and_eq_false_iff, Bool.or_eq_false_iff, Bool.not_eq_true', Bool.not_eq_false', decide_eq_true_eq, decide_eq_false_iff_not, beq_iff_eq, beq_eq_false_iff_ne, ne_eq] at hd0
  exact h
 ·rw [if_f hc0] at h
  have hd0 := hc0; try simp only [Bool.and_eq_true, Bool.or_eq_true, Bool.and_eq_false_iff, Bool.or_eq_false_iff, Bool.not_eq_true', Bool.not_eq_false', decide_eq_true_eq, decide_eq_false_iff_not, beq_iff_eq, beq_eq_false_iff_ne, ne_eq] at hd0
  refine ⟨fun hc1 => ?_, fun hc1 => ?_⟩
  ·rw [if_t hc1] at h
   have hd1 := hc1; try simp only [Bool.and_eq_true, Bool.or_eq_true, Bool.and_eq_false_iff, Bool.or_eq_false_iff, Bool.not_eq_true', Bool.not_eq_false', decide_eq_true_eq, decide_eq_false_iff_not, beq_iff_eq, beq_eq_false_iff_ne, ne_eq] at hd1
   exact h
  ·rw [if_f hc1] at h
   have hd1 := hc1; try simp only [Bool.and_eq_true, Bool.or_eq_true, Bool.and_eq_false_iff, Bool.or_eq_false_iff, Bool.not_eq_true', Bool.not_eq_false', decide_eq_true_eq, decide_eq_false_iff_not, beq_iff_eq, beq_eq_false_iff_ne, ne_eq] at hd1
   exact h
theorem uown_F (xscheme : List UInt8) : uownF xscheme (fun k0 => k0 = uownM xscheme) :=
 uownF_A xscheme (fun z => z = uownM xscheme) rfl
set_option linter.unusedVariables false in
theorem uown_c {g : Ghost} (xscheme : List UInt8)  : CallsG Tryz.prog 66 #[.string ⟨⟨xscheme⟩⟩] g (.int .i64 (uownM xscheme)) :=
 (uown_ok xscheme _ (uown_F xscheme)).gives (by rintro g' H' v _ ⟨r0, rfl, rfl, hK⟩; subst hK; rfl)
def rbetF (xn : Int) (xlow : Int) (xhigh : Int) (K : Bool → Prop) : Prop :=
 K ((decide (xlow ≤ xn)) && (decide (xn ≤ xhigh)))
set_option maxHeartbeats 4000000 in
set_option maxRecDepth 100000 in
set_option linter.unusedVariables false in
theorem rbet_ok {g : Ghost} (xn : Int) (xlow : Int) (xhigh : Int) (K : Bool → Prop)
  (hF : rbetF xn xlow xhigh K) : CallsH Tryz.prog 15 #[.int .i64 xn, .int .i64 xlow, .int .i64 xhigh] g [] (fun g' H' v => ∃ (r0 : Bool), v = .bool r0 ∧ H' = [] ∧ K r0) := by
 refine CallsH.enter 15 [(0, .int .i64 xn), (1, .int .i64 xlow), (2, .int .i64 xhigh)] Tryz.func15 rfl (by kernel_rfl) (by kernel_rfl) (by kernel_rfl) fun w0 => ?_
 refine Ok.seq ?_
 refine Ok.region ?_
 refine Ok.batch 1 [(0, .int .i64 xn), (1, .int .i64 xlow), (2, .int .i64 xhigh)] (by kernel_rfl) ?_
 refine Ok.nil ?_
 refine Ok.thenN ?_
 refine Ok.seq ?_
 refine Ok.region ?_
 refine Ok.batch 4 [(0, .int .i64 xn), (2, .int .i64 xhigh), (10, .bool (decide (xlow ≤ xn)))] (by kernel_rfl) ?_
 refine Ok.midway 4 [(14, .bool ((decide (xlow ≤ xn)) && (decide (xn ≤ xhigh))))] (fun hR1 => ?_) ?_
 ·refine Ok.boolAt 10 (decide (xlow ≤ xn)) rfl (fun hc2 => ?_) (fun hc2 => ?_)
  ·skip
   refine Ok.batch 4 [(14, .bool (decide (xn ≤ xhigh)))] (by kernel_rfl) ?_
   refine Ok.reval 14 rfl (show (.bool (decide (xn ≤ xhigh)) : Value) = .bool ((decide (xlow ≤ xn)) && (decide (xn ≤ xhigh))) from congrArg Value.bool (mand_t hc2)) ?_
   refine Ok.batch 0 [(14, .bool ((decide (xlow ≤ xn)) && (decide (xn ≤ xhigh))))] (by kernel_rfl) ?_
   exact hR1
  ·skip
   refine Ok.batch 4 [(14, .bool false)] (by kernel_rfl) ?_
   refine Ok.reval 14 rfl (show (.bool false : Value) = .bool ((decide (xlow ≤ xn)) && (decide (xn ≤ xhigh))) from congrArg Value.bool (mand_f hc2)) ?_
   refine Ok.batch 0 [(14, .bool ((decide (xlow ≤ xn)) && (decide (xn ≤ xhigh))))] (by kernel_rfl) ?_
   exact hR1
 refine Ok.batch 1 [(6, .bool ((decide (xlow ≤ xn)) && (decide (xn ≤ xhigh))))] (by kernel_rfl) ?_
 refine Ok.nil ?_
 refine Ok.thenN ?_
 refine Ok.ret ?_
 exact Ok.resH (vs := [.bool ((decide (xlow ≤ xn)) && (decide (xn ≤ xhigh)))]) (.inl rfl) rfl (.cons (.tmp rfl) .nil) (Gext.refl w0 g) ⟨((decide (xlow ≤ xn)) && (decide (xn ≤ xhigh))), rfl, rfl, hF⟩
def rbetM (xn : Int) (xlow : Int) (xhigh : Int) : Bool := ((decide (xlow ≤ xn)) && (decide (xn ≤ xhigh)))
set_option linter.unusedSimpArgs false in
set_option linter.unusedVariables false in
theorem rbetF_A (xn : Int) (xlow : Int) (xhigh : Int) (P : Bool → Prop) (h : P (rbetM xn xlow xhigh)) : rbetF xn xlow xhigh (fun k0 => P k0) := by
 unfold rbetM at h
 unfold rbetF
 exact h
theorem rbet_F (xn : Int) (xlow : Int) (xhigh : Int) : rbetF xn xlow xhigh (fun k0 => k0 = rbetM xn xlow xhigh) :=
 rbetF_A xn xlow xhigh (fun z => z = rbetM xn xlow xhigh) rfl
set_option linter.unusedVariables false in
theorem rbet_c {g : Ghost} (xn : Int) (xlow : Int) (xhigh : Int)  : CallsG Tryz.prog 15 #[.int .i64 xn, .int .i64 xlow, .int .i64 xhigh] g (.bool (rbetM xn xlow xhigh)) :=
 (rbet_ok xn xlow xhigh _ (rbet_F xn xlow xhigh)).gives (by rintro g' H' v _ ⟨r0, rfl, rfl, hK⟩; subst hK; rfl)
/-- a value that is not to be unfolded -/
theorem rigid {α : Type} (a : α) : ∃ b, b = a := ⟨a, rfl⟩
def smP (s : List UInt8) : Prop := s.length ≤ 4000
theorem smP_enc {s : List UInt8} (h : smP s) : encP s := by unfold smP at h; unfold encP; omega
/-! cut at one sign -/
def ne1 (c : UInt8) (b : UInt8) : Bool := !(b == c)
theorem idx1 (c b : UInt8) (l : List UInt8) : Lib.index (b :: l) [c] = if (b == c) = true then 0 else if (Lib.index l [c] == -1) = true then -1 else Lib.index l [c] + 1 := by
 rw [Lib.index]
 have : ([c] : List UInt8).isPrefixOf (b :: l) = (b == c) := by
  simp [List.isPrefixOf, Bool.beq_comm]
 rw [this]
theorem cut1 (c : UInt8) : ∀ s : List UInt8, Lib.cut s [c] = (s.takeWhile (ne1 c), (s.dropWhile (ne1 c)).drop 1, s.contains c)
 | [] => by simp [Lib.cut, Lib.index]
 | b :: l => by
  have ih := cut1 c l
  unfold Lib.cut at ih ⊢
  rw [idx1]
  by_cases hb : (b == c) = true
  ·rw [if_pos hb]
   have h2 : ne1 c b = false := by unfold ne1; rw [hb]; rfl
   rw [List.takeWhile_cons, List.dropWhile_cons, h2]
   have : b = c := by simpa using hb
   subst this
   simp
  ·have h2 : ne1 c b = true := by unfold ne1; simpa using hb
   rw [if_neg hb, List.takeWhile_cons, List.dropWhile_cons, h2, if_pos rfl, if_pos rfl]
   have hne : (c == b) = false := by
    rw [beq_eq_false_iff_ne]; rintro rfl; exact hb (by simp)
   rw [List.contains_cons, hne, Bool.false_or]
   have hge := Lib.index_ge l [c]
   by_cases hi : Lib.index l [c] = -1
   ·have e : (if (Lib.index l [c] == -1) = true then (-1 : Int) else Lib.index l [c] + 1) = -1 := by rw [hi]; rfl
    rw [e, if_neg (by omega)]
    rw [if_neg (by omega)] at ih
    simp only [Prod.mk.injEq] at ih ⊢
    exact ⟨by rw [← ih.1], ih.2⟩
   ·have e : (if (Lib.index l [c] == -1) = true then (-1 : Int) else Lib.index l [c] + 1) = Lib.index l [c] + 1 := if_neg (by simpa using hi)
    rw [e, if_pos (by omega)]
    rw [if_pos (by omega)] at ih
    obtain ⟨n, hn⟩ := Int.eq_ofNat_of_zero_le (show 0 ≤ Lib.index l [c] by omega)
    rw [hn] at ih ⊢
    rw [show ((n : Int) + 1).toNat = n + 1 by omega]
    rw [Int.toNat_natCast] at ih
    simp only [Prod.mk.injEq, List.length_cons, List.length_nil] at ih ⊢
    refine ⟨by rw [← ih.1]; rfl, ?_, ih.2.2⟩
    rw [← ih.2.1]
    rfl
theorem index1 (c : UInt8) : ∀ s : List UInt8, Lib.index s [c] = if s.contains c = true then ((s.takeWhile (ne1 c)).length : Int) else -1
 | [] => by simp [Lib.index]
 | b :: l => by
  have ih := index1 c l
  rw [idx1]
  by_cases hb : (b == c) = true
  ·have h2 : ne1 c b = false := by unfold ne1; rw [hb]; rfl
   have : b = c := by simpa using hb
   subst this
   rw [if_pos hb, List.takeWhile_cons, h2]
   simp
  ·have h2 : ne1 c b = true := by unfold ne1; simpa using hb
   have hne : (c == b) = false := by
    rw [beq_eq_false_iff_ne]; rintro rfl; exact hb (by simp)
   rw [if_neg hb, List.takeWhile_cons, h2, if_pos rfl, List.contains_cons, hne, Bool.false_or, ih]
   by_cases hc : l.contains c = true
   ·rw [if_pos hc, if_pos hc, if_neg (by simp), List.length_cons]
    omega
   ·rw [if_neg hc, if_neg hc]; rfl
theorem cutS1 (c : UInt8) (s : List UInt8) : cutS s [c] = (s.takeWhile (ne1 c), (s.dropWhile (ne1 c)).drop 1, s.contains c) := cut1 c s
theorem tw_len (p : UInt8 → Bool) (s : List UInt8) : (s.takeWhile p).length ≤ s.length := by
 have := congrArg List.length (List.takeWhile_append_dropWhile (p := p) (l := s))
 rw [List.length_append] at this; omega
theorem dw_len (p : UInt8 → Bool) (s : List UInt8) : (s.dropWhile p).length ≤ s.length := by
 have := congrArg List.length (List.takeWhile_append_dropWhile (p := p) (l := s))
 rw [List.length_append] at this; omega
theorem cutS_len (c : UInt8) (s : List UInt8) : (cutS s [c]).1.length ≤ s.length ∧ (cutS s [c]).2.1.length ≤ s.length := by
 rw [cutS1]
 refine ⟨tw_len _ s, ?_⟩
 show ((s.dropWhile (ne1 c)).drop 1).length ≤ s.length
 rw [List.length_drop]
 have := dw_len (ne1 c) s
 omega
/-! Split at one sign -/
def spC (c : UInt8) : List UInt8 → List (List UInt8)
 | [] => [[]]
 | b :: l => if (b == c) = true then [] :: spC c l else match spC c l with
  | [] => [[b]]
  | w :: r => (b :: w) :: r
theorem spC_ne (c : UInt8) : ∀ s, spC c s ≠ []
 | [] => by simp [spC]
 | b :: l => by
  rw [spC]
  split
  ·simp
  ·split <;> simp
theorem splitC (c : UInt8) : ∀ s : List UInt8, Lib.splitK [c] 0 (s.count c) s = spC c s
 | [] => rfl
 | b :: l => by
  have ih := splitC c l
  rw [spC]
  by_cases hc : (b == c) = true
  ·rw [if_t hc, List.count_cons, if_pos hc]
   show Lib.splitK [c] 0 (l.count c + 1) (b :: l) = _
   rw [Lib.splitK, idx1, if_t hc]
   show [] :: Lib.splitK [c] 0 (l.count c) l = _
   rw [ih]
  ·have hcf : (b == c) = false := by simpa using hc
   rw [if_f hcf, List.count_cons, if_neg hc, Nat.add_zero, ← ih]
   cases hk : l.count c with
   | zero => rfl
   | succ k =>
    rw [Lib.splitK, Lib.splitK, idx1, if_f hcf]
    have hge := Lib.index_ge l [c]
    by_cases hi : Lib.index l [c] = -1
    ·rw [hi]; rfl
    ·have hib : (Lib.index l [c] == -1) = false := by simpa using hi
     have hib2 : (Lib.index l [c] + 1 == -1) = false := by
      rw [beq_eq_false_iff_ne]; omega
     rw [hib, if_f rfl, hib2, if_neg Bool.false_ne_true, if_neg Bool.false_ne_true]
     obtain ⟨n, hn⟩ := Int.eq_ofNat_of_zero_le (show 0 ≤ Lib.index l [c] by omega)
     rw [hn, show ((n : Int) + 1).toNat = n + 1 by omega, show ((n : Int)).toNat = n from Int.toNat_natCast n]
     rfl
theorem splC (c : UInt8) (s : List UInt8) : splS s [c] = spC c s := by
 unfold splS splB
 rw [Lib.splitB_data, ← splitC c s, ← Lib.count_one c s]
theorem spC_sub (c : UInt8) : ∀ (s : List UInt8), ∀ w ∈ spC c s, w.length ≤ s.length
 | [], w, h => by rw [spC, List.mem_singleton] at h; rw [h]; exact Nat.le_refl _
 | b :: l, w, h => by
  have ih := spC_sub c l
  rw [spC] at h
  split at h
  ·rcases List.mem_cons.1 h with rfl | h
   ·simp
   ·have := ih w h; rw [List.length_cons]; omega
  ·split at h
   ·rw [List.mem_singleton] at h; rw [h]; simp
   ·rename_i heq
    rcases List.mem_cons.1 h with rfl | h
    ·have := ih _ (by rw [heq]; exact List.mem_cons_self ..)
     rw [List.length_cons, List.length_cons]; omega
    ·have := ih w (by rw [heq]; exact List.mem_cons_of_mem _ h)
     rw [List.length_cons]; omega
theorem spC_len (c : UInt8) : ∀ (s : List UInt8), (spC c s).length ≤ s.length + 1
 | [] => Nat.le_refl _
 | b :: l => by
  have ih := spC_len c l
  rw [spC]
  split
  ·rw [List.length_cons, List.length_cons]; omega
  ·split
   ·simp
   ·rename_i heq
    rw [heq] at ih
    rw [List.length_cons] at ih ⊢
    rw [List.length_cons]; omega
theorem getD_mem {α : Type} [Inhabited α] {l : List α} {i : Nat} (h : i < l.length) : l.getD i default ∈ l := by
 rw [List.getD_eq_getElem?_getD, List.getElem?_eq_getElem h]
 exact List.getElem_mem h
/-! Trim to nothing -/
theorem dropW_nil {p : UInt8 → Bool} : ∀ {l : List UInt8}, l.dropWhile p = [] ↔ l.all p = true
 | [] => by simp
 | a :: l => by
  rw [List.dropWhile_cons, List.all_cons]
  cases h : p a
  ·simp
  ·rw [if_pos rfl, Bool.true_and]; exact dropW_nil
theorem dropW_head {p : UInt8 → Bool} {a : UInt8} {r : List UInt8} : ∀ {l : List UInt8}, l.dropWhile p = a :: r → p a = false
 | [], h => by cases h
 | b :: l, h => by
  rw [List.dropWhile_cons] at h
  cases hb : p b
  ·rw [hb, if_neg Bool.false_ne_true] at h
   injection h with h1 h2
   rw [← h1]; exact hb
  ·rw [hb, if_pos rfl] at h; exact dropW_head h
theorem trim_nil (s cut : List UInt8) : (trimS s cut == []) = s.all fun x => cut.contains x := by
 rw [Bool.eq_iff_iff, beq_iff_eq]
 show Lib.trimLeftS (Lib.trimRightS s cut) cut = [] ↔ _
 unfold Lib.trimLeftS Lib.trimRightS
 rw [dropW_nil, List.all_reverse]
 constructor
 ·intro h
  cases hd : s.reverse.dropWhile (fun x => cut.contains x) with
  | nil => rw [dropW_nil, List.all_reverse] at hd; exact hd
  | cons a r =>
   rw [hd, List.all_cons, dropW_head hd] at h
   cases h
 ·intro h
  rw [dropW_nil.2 (by rw [List.all_reverse]; exact h)]; rfl
/-! small letters -/
def lowC (b : UInt8) : UInt8 := if (decide (65 ≤ b.toNat) && decide (b.toNat ≤ 90)) = true then b + 32 else b
def lowS (s : List UInt8) : List UInt8 := s.map lowC
def asc (s : List UInt8) : Bool := s.all fun b => decide (b.toNat < 128)
theorem low_byte (b : UInt8) : (b.toNat < 128 → Lib.encodeRune (lowF (b.toNat : Int)) = [lowC b]) ∧ (lowC b).toNat < 256 := by
 have := byte_all (p := fun b => (!(decide (b.toNat < 128)) || decide (Lib.encodeRune (lowF (b.toNat : Int)) = [lowC b])) && decide ((lowC b).toNat < 256)) (by decide +kernel) b
 rw [Bool.and_eq_true, Bool.or_eq_true, decide_eq_true_eq, decide_eq_true_eq] at this
 refine ⟨fun h => ?_, this.2⟩
 rcases this.1 with h1 | h1
 ·rw [decide_eq_true h] at h1; cases h1
 ·exact h1
theorem small_asc : ∀ s : List UInt8, asc s = true → smallS s = lowS s
 | [], _ => rfl
 | b :: t, ha => by
  unfold asc at ha
  rw [List.all_cons, Bool.and_eq_true, decide_eq_true_eq] at ha
  have ih := small_asc t ha.2
  unfold smallS at ih ⊢
  rw [Lib.mapD_step lowF (b :: t) (by simp), Lib.decodeL_ascii b t ha.1]
  dsimp only
  rw [if_pos (lowF_rng b.toNat (by omega)).1, (low_byte b).1 ha.1, List.drop_succ_cons, List.drop_zero, ih]
  rfl
theorem enc_high (r : Int) (h : 128 ≤ r) : ∃ b ∈ Lib.encodeRune r, asc [b] = false := by
 unfold Lib.encodeRune
 have mk : ∀ (x : Int) (l : List Int), 128 ≤ x → x ≤ 255 → ∃ b ∈ (x :: l).map (fun y => y.toNat.toUInt8), asc [b] = false := fun x l h1 h2 => by
  refine ⟨x.toNat.toUInt8, List.mem_cons_self .., ?_⟩
  have : (x.toNat.toUInt8).toNat = x.toNat := by
   show (UInt8.ofNat x.toNat).toNat = x.toNat
   rw [UInt8.toNat_ofNat']; omega
  simp only [asc, List.all_cons, List.all_nil, Bool.and_true, this, decide_eq_false_iff_not]
  omega
 by_cases h1 : r ≤ 2047
 ·rw [Lib.encodeRuneZ_two h h1]; exact mk _ _ (by omega) (by omega)
 ·by_cases h2 : 55296 ≤ r ∧ r ≤ 57343
  ·rw [Lib.encodeRuneZ_bad (.inr (.inl h2))]; exact mk _ _ (by omega) (by omega)
  ·by_cases h3 : r ≤ 65535
   ·rw [Lib.encodeRuneZ_three (by omega)]; exact mk _ _ (by omega) (by omega)
   ·by_cases h4 : r ≤ 1114111
    ·rw [Lib.encodeRuneZ_four (by omega) h4]; exact mk _ _ (by omega) (by omega)
    ·rw [Lib.encodeRuneZ_bad (.inr (.inr (by omega)))]; exact mk _ _ (by omega) (by omega)
theorem asc_app (a b : List UInt8) : asc (a ++ b) = (asc a && asc b) := by unfold asc; rw [List.all_append]
theorem asc_mem {l : List UInt8} {b : UInt8} (h : b ∈ l) (hb : asc [b] = false) : asc l = false := by
 cases h2 : asc l with
 | false => rfl
 | true =>
  have := List.all_eq_true.1 h2 b h
  simp only [asc, List.all_cons, List.all_nil, Bool.and_true] at hb
  rw [hb] at this; cases this
theorem small_hi : ∀ s : List UInt8, asc s = false → asc (smallS s) = false
 | [], h => by cases h
 | b :: t, ha => by
  unfold smallS
  rw [Lib.mapD_step lowF (b :: t) (by simp)]
  by_cases hb : b.toNat < 128
  ·have ha2 : asc t = false := by
    unfold asc at ha ⊢
    rw [List.all_cons, decide_eq_true hb, Bool.true_and] at ha
    exact ha
   have ih := small_hi t ha2
   unfold smallS at ih
   rw [Lib.decodeL_ascii b t hb]
   dsimp only
   rw [asc_app, List.drop_succ_cons, List.drop_zero, ih, Bool.and_false]
  ·have hr : 128 ≤ (Lib.decodeL (b :: t)).1 := by
    rw [Lib.decodeL_N]
    rcases Lib.decodeN_shape (b :: t).length ((b :: t).getD 0 0).toNat ((b :: t).getD 1 0).toNat ((b :: t).getD 2 0).toNat ((b :: t).getD 3 0).toNat with ⟨c, e⟩ | ⟨c1, c2, c3, cv, e⟩ | ⟨c1, c2, c3, c4, cv, cs, e⟩ | ⟨c1, c2, c3, c4, c5, cv, cw, e⟩ | e
    ·exact absurd c hb
    all_goals (rw [e]; dsimp only; omega)
   have hl : lowF ((Lib.decodeL (b :: t)).1 : Int) = ((Lib.decodeL (b :: t)).1 : Int) := by
    unfold lowF; rw [if_neg (by omega)]
   rw [hl, if_pos (by omega), asc_app]
   obtain ⟨x, hx, hx2⟩ := enc_high ((Lib.decodeL (b :: t)).1 : Int) (by omega)
   rw [asc_mem hx hx2, Bool.false_and]
theorem mapG_len (f : Int → Int) : ∀ (n : Nat) (l : List UInt8), (Lib.mapGoD f n l).length ≤ 4 * n
 | 0, l => by simp [Lib.mapGoD]
 | n + 1, l => by
  unfold Lib.mapGoD
  split
  ·simp
  ·have ih := mapG_len f n (l.drop (Lib.decodeL l).2)
   have h4 : ∀ r, (Lib.encodeRune r).length ≤ 4 := fun r => by
    unfold Lib.encodeRune; rw [List.length_map]; exact (Lib.encodeRuneZ_length r).2
   rw [List.length_append]
   split
   ·have := h4 (f (Lib.decodeL l).1); omega
   ·simp only [List.length_nil]; omega
theorem small_len (s : List UInt8) : (smallS s).length ≤ 4 * s.length := mapG_len lowF s.length s
end Go.Proofs.YtdjcgbejnpbjlaaGreatDoor.Ub
