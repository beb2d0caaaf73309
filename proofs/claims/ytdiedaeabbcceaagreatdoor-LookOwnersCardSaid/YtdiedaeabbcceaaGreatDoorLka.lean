/- look: names, regions, owners. -/
import Derived.Test.YtdiedaeabbcceaaGreatDoorTrd
import Derived.Test.YtdiedaeabbcceaaGreatDoorDob
namespace Go.Proofs.YtdiedaeabbcceaaGreatDoor.Lk
open Go Go.Eng Go.RowKit Bld Trm Css Tk Do
set_option linter.unusedVariables false
/-! plain names; the chain of parents -/
def plainS (s : List UInt8) : Bool := match cutS s with
 | [t] => t.1 == 1 && t.2.1 == s && t.2.2.1 == s
 | _ => false
theorem plain_ne {s : List UInt8} (h : plainS s = true) : (s == ([] : List UInt8)) = false := by
 cases s with
 | nil => exact absurd h (by decide)
 | cons c s => rfl
abbrev AT := List UInt8 × List UInt8
abbrev regW : List UInt8 := [114, 101, 103, 105, 111, 110]
def attS (l : List AT) (w : List UInt8) : List UInt8 × Bool := match l.find? (fun a => a.1 == w) with
 | some a => (a.2, true)
 | none => ([], false)
def regA (l : List AT) : List UInt8 := if ((attS l regW).2 && plainS (attS l regW).1) = true then (attS l regW).1 else []
def regS (x : ND) : List UInt8 := if (x.1 == 2) = true then regA x.2.2.1 else []
theorem idx_find (f : AT → Bool) : ∀ (l : List AT) (i : Nat), (idxN f l i = -1 ∧ l.find? f = none) ∨ ∃ j, idxN f l i = (i + j : Nat) ∧ j < l.length ∧ l.find? f = some (l.getD j default)
 | [], _ => .inl ⟨rfl, rfl⟩
 | x :: l, i => by
  rw [idxN, List.find?_cons]
  cases hx : f x
  ·rw [if_neg (by simp)]
   rcases idx_find f l (i + 1) with ⟨h1, h2⟩ | ⟨j, h1, h2, h3⟩
   ·exact .inl ⟨h1, h2⟩
   ·refine .inr ⟨j + 1, by rw [h1]; congr 1; omega, by rw [List.length_cons]; omega, by simpa using h3⟩
  ·rw [if_pos rfl]
   exact .inr ⟨0, rfl, by rw [List.length_cons]; omega, rfl⟩
def Ends (l : List ND) : Nat → Int → Prop
 | 0, n => n < 0
 | k + 1, n => n < 0 ∨ n < (l.length : Int) ∧ Ends l k (par l n.toNat)
theorem Ends.mono {l : List ND} : ∀ {k k' : Nat} {n : Int}, Ends l k n → k ≤ k' → Ends l k' n
 | 0, 0, _, h, _ => h
 | 0, _ + 1, _, h, _ => .inl h
 | _ + 1, 0, _, _, h => by omega
 | k + 1, k' + 1, n, h, hk => by
  rcases h with h | ⟨h1, h2⟩
  ·exact .inl h
  ·exact .inr ⟨h1, h2.mono (by omega)⟩
theorem dup_ge (l : List ND) : ∀ (k : Nat) (n m : Int), m ≤ dupN l k n m
 | 0, _, _ => Int.le_refl _
 | k + 1, n, m => by
  rw [dupN]
  split
  ·have := dup_ge l k (par l n.toNat) (m + 1); omega
  ·exact Int.le_refl _
theorem dup_ends {l : List ND} (hk : KGood l) : ∀ (k : Nat) (n m : Int), 0 ≤ n → n < (l.length : Int) → 0 ≤ m → dupN l k n m ≤ (l.length : Int) → (l.length : Int) + 2 ≤ m + k → Ends l (Int.toNat (dupN l k n m - m) + 1) n
 | 0, n, m, h0, h1, h2, h3, h4 => by rw [dupN] at h3; omega
 | k + 1, n, m, h0, h1, h2, h3, h4 => by
  rw [dupN] at h3 ⊢
  split
  ·rename_i hc
   rw [if_t hc] at h3
   rw [Bool.and_eq_true, decide_eq_true_eq, decide_eq_true_eq] at hc
   have hg := dup_ge l k (par l n.toNat) (m + 1)
   have ih := dup_ends hk k (par l n.toNat) (m + 1) hc.1 (up_in hk h0 h1 hc.1) (by omega) h3 (by omega)
   refine .inr ⟨h1, ?_⟩
   rw [show Int.toNat (dupN l k (par l n.toNat) (m + 1) - m) = Int.toNat (dupN l k (par l n.toNat) (m + 1) - (m + 1)) + 1 by omega]
   exact ih
  ·rename_i hc
   rw [if_neg hc] at h3
   have hp : par l n.toNat < 0 := by
    apply Classical.byContradiction
    intro hn
    exact hc (by rw [Bool.and_eq_true, decide_eq_true_eq, decide_eq_true_eq]; exact ⟨by omega, h3⟩)
   refine .inr ⟨h1, ?_⟩
   rw [show Int.toNat (m - m) = 0 by omega]
   exact hp
theorem ends_ok {d : DC} (h : DGood d) {n : Nat} (hn : n < d.1.length) : Ends d.1 41 n := by
 have h1 := h.deep n hn
 have h2 := h.ends n hn
 unfold dupS at h1 h2
 exact (dup_ends h.kids (d.1.length + 2) n 0 (by omega) (by omega) (by omega) h2 (by omega)).mono (by omega)
def ownN (l : List ND) : Nat → Int → List UInt8
 | 0, _ => []
 | k + 1, n => if decide (n < 0) = true then [] else if (regS (l.getD n.toNat default) == ([] : List UInt8)) = true then ownN l k (par l n.toNat) else regS (l.getD n.toNat default)
def ownS (d : DC) (n : Int) : List UInt8 := ownN d.1 42 n
theorem own_fuel {l : List ND} : ∀ (k : Nat) (n : Int), Ends l k n → ∀ j, k + 1 ≤ j → ownN l j n = ownN l (k + 1) n
 | 0, n, h, j, hj => by
  obtain ⟨j, rfl⟩ : ∃ i, j = i + 1 := ⟨j - 1, by omega⟩
  have h : n < 0 := h
  rw [ownN, ownN, if_t (decide_eq_true h), if_t (decide_eq_true h)]
 | k + 1, n, h, j, hj => by
  obtain ⟨j, rfl⟩ : ∃ i, j = i + 1 := ⟨j - 1, by omega⟩
  rw [ownN, ownN]
  rcases h with h | ⟨h1, h2⟩
  ·rw [if_t (decide_eq_true h), if_t (decide_eq_true h)]
  ·rw [own_fuel k _ h2 j (by omega)]
def lnmV0 (xs : List UInt8) : Bool :=
 ((((cutS xs).length : Int) == 1) && ((((cutS xs).getD (Int.toNat 0) default).1 == 1) && ((((cutS xs).getD (Int.toNat 0) default).2.1 == xs) && (((cutS xs).getD (Int.toNat 0) default).2.2.1 == xs))))
def lnmj5 (xs : List UInt8) (K : Bool → Prop) : Prop :=
 K (lnmV0 xs)
def lnmF (xs : List UInt8) (K : Bool → Prop) : Prop :=
 cutP xs ∧ (((((cutS xs).length : Int) == 1)) = true → (0 : Int) ≤ 0 ∧ Int.toNat 0 < (cutS xs).length ∧ (((((cutS xs).getD (Int.toNat 0) default).1 == 1)) = true → (((((cutS xs).getD (Int.toNat 0) default).2.1 == xs)) = true → lnmj5 xs K) ∧ (((((cutS xs).getD (Int.toNat 0) default).2.1 == xs)) = false → lnmj5 xs K)) ∧ (((((cutS xs).getD (Int.toNat 0) default).1 == 1)) = false → lnmj5 xs K)) ∧ (((((cutS xs).length : Int) == 1)) = false → lnmj5 xs K)
set_option maxHeartbeats 4000000 in
set_option maxRecDepth 100000 in
set_option linter.unusedVariables false in
theorem lnm_ok {g : Ghost} (xs : List UInt8) (hG2 : SomeInt g 2) (K : Bool → Prop)
  (hF : lnmF xs K) : CallsH Tryz.prog 24 #[.string ⟨⟨xs⟩⟩] g [] (fun g' H' v => ∃ (r0 : Bool), v = .bool r0 ∧ H' = [] ∧ K r0) := by
 refine CallsH.enter 32 [(0, .string ⟨⟨xs⟩⟩)] Tryz.func24 rfl (by kernel_rfl) (by kernel_rfl) (by kernel_rfl) fun w0 => ?_
 refine Ok.seq ?_
 refine Ok.region ?_
 refine Ok.batch 1 [(0, .string ⟨⟨xs⟩⟩)] (by kernel_rfl) ?_
 refine Ok.nil ?_
 refine Ok.thenN ?_
 refine Ok.seq ?_
 refine Ok.region ?_
 refine Ok.batch 1 [(0, .string ⟨⟨xs⟩⟩), (4, .string ⟨⟨xs⟩⟩)] (by kernel_rfl) ?_
 obtain ⟨hp1, hF⟩ := hF
 refine Ok.op rfl (OpOk.callH [] [] (enters (by kernel_rfl) (fun _ => by kernel_rfl)) rfl (cut_c xs hG2 hp1) rfl fun g2 _ _ hx2 hV2 => ?_)
 obtain ⟨a2_0, c2_0, rfl, hR2_0, rfl⟩ := hV2
 replace hG2 := hG2.mono hx2.1
 refine Ok.batch 1 [(0, .string ⟨⟨xs⟩⟩), (3, .slice a2_0 (cutS xs).length c2_0)] (by kernel_rfl) ?_
 refine Ok.nil ?_
 refine Ok.thenN ?_
 refine Ok.cut (fun a W => ∃ gj5 : Ghost, Gext w0 g2 gj5 ∧ StA 32 [(2, .bool (lnmV0 xs))] a ∧ StW w0 [] gj5 W ∧ lnmj5 xs K) ?_ ?_
 ·
  refine Ok.region ?_
  refine Ok.batch 4 [(0, .string ⟨⟨xs⟩⟩), (3, .slice a2_0 (cutS xs).length c2_0), (9, .bool (((cutS xs).length : Int) == 1))] (by kernel_rfl) ?_
  refine Ok.boolAt 9 ((((cutS xs).length : Int) == 1)) rfl (fun hc3 => ?_) (fun hc3 => ?_)
  ·replace hF := hF.1 hc3
   refine Ok.batch 1 [(0, .string ⟨⟨xs⟩⟩), (3, .slice a2_0 (cutS xs).length c2_0), (9, .bool true), (10, .slice a2_0 (cutS xs).length c2_0)] (by kernel_rfl) ?_
   obtain ⟨h05, h15, hF⟩ := hF
   have he5 := get_of (l := (cutS xs)) (default : Int × List UInt8 × List UInt8 × Int) h15
   generalize hg5 : ((cutS xs).getD (Int.toNat 0) default) = e5 at he5 hF ⊢
   refine Ok.opYes (j := 3) (d := 9) (want := true) (b := true) rfl (by kernel_rfl) (by kernel_rfl) rfl (OpOk.indexRo (e := .pair (.int .i64) (.pair (.str) (.pair (.str) (.int .i64)))) (i := 0) (el := e5) rfl rfl Tryz.underlying90 (by kernel_rfl) hR2_0 h05 he5 rfl fun q4 o4 cs4 _ hat4 hr4 => ?_)
   obtain ⟨_, _, rfl, rfl, ⟨_, _, rfl, rfl, ⟨_, _, rfl, rfl, rfl⟩⟩⟩ := hr4
   replace hat4 : At g2 q4 o4 [.int .i64 e5.1, .string ⟨⟨e5.2.1⟩⟩, .string ⟨⟨e5.2.2.1⟩⟩, .int .i64 e5.2.2.2] := hat4
   refine Ok.batch 1 [(0, .string ⟨⟨xs⟩⟩), (3, .slice a2_0 (cutS xs).length c2_0), (9, .bool true), (12, .pointer (some ⟨q4, o4, none⟩))] (by kernel_rfl) ?_
   refine Ok.opYes (j := 3) (d := 9) (want := true) (b := true) rfl (by kernel_rfl) (by kernel_rfl) rfl (OpOk.step (v := .int .i64 e5.1) (Yields.loadRo 0 hat4 (by kernel_rfl) Tryz.underlying3 rfl (by kernel_rfl)) rfl rfl ?_)
   refine Ok.batch 3 [(0, .string ⟨⟨xs⟩⟩), (3, .slice a2_0 (cutS xs).length c2_0), (16, .bool (e5.1 == 1))] (by kernel_rfl) ?_
   refine Ok.boolAt 16 ((e5.1 == 1)) rfl (fun hc6 => ?_) (fun hc6 => ?_)
   ·replace hF := hF.1 hc6
    refine Ok.batch 1 [(0, .string ⟨⟨xs⟩⟩), (3, .slice a2_0 (cutS xs).length c2_0), (16, .bool true), (17, .slice a2_0 (cutS xs).length c2_0)] (by kernel_rfl) ?_
    refine Ok.opYes (j := 10) (d := 16) (want := true) (b := true) rfl (by kernel_rfl) (by kernel_rfl) rfl (OpOk.indexRo (e := .pair (.int .i64) (.pair (.str) (.pair (.str) (.int .i64)))) (i := 0) (el := e5) rfl rfl Tryz.underlying90 (by kernel_rfl) hR2_0 h05 he5 rfl fun q7 o7 cs7 _ hat7 hr7 => ?_)
    obtain ⟨_, _, rfl, rfl, ⟨_, _, rfl, rfl, ⟨_, _, rfl, rfl, rfl⟩⟩⟩ := hr7
    replace hat7 : At g2 q7 o7 [.int .i64 e5.1, .string ⟨⟨e5.2.1⟩⟩, .string ⟨⟨e5.2.2.1⟩⟩, .int .i64 e5.2.2.2] := hat7
    refine Ok.batch 1 [(0, .string ⟨⟨xs⟩⟩), (3, .slice a2_0 (cutS xs).length c2_0), (16, .bool true), (19, .pointer (some ⟨q7, o7 + 1, none⟩))] (by kernel_rfl) ?_
    refine Ok.opYes (j := 10) (d := 16) (want := true) (b := true) rfl (by kernel_rfl) (by kernel_rfl) rfl (OpOk.step (v := .string ⟨⟨e5.2.1⟩⟩) (Yields.loadRo 1 hat7 (by kernel_rfl) Tryz.underlying9 rfl (by kernel_rfl)) rfl rfl ?_)
    refine Ok.batch 1 [(0, .string ⟨⟨xs⟩⟩), (3, .slice a2_0 (cutS xs).length c2_0), (16, .bool true), (20, .string ⟨⟨e5.2.1⟩⟩), (21, .string ⟨⟨xs⟩⟩)] (by kernel_rfl) ?_
    refine Ok.opYes (j := 10) (d := 16) (want := true) (b := true) rfl (by kernel_rfl) (by kernel_rfl) rfl (OpOk.step (v := .bool (e5.2.1 == xs)) (Yields.strCmp (f := .eql) (a := e5.2.1) (b := xs) (by kernel_rfl) (by kernel_rfl) rfl) rfl rfl ?_)
    refine Ok.batch 2 [(0, .string ⟨⟨xs⟩⟩), (3, .slice a2_0 (cutS xs).length c2_0), (24, .bool (e5.2.1 == xs))] (by kernel_rfl) ?_
    refine Ok.boolAt 24 ((e5.2.1 == xs)) rfl (fun hc8 => ?_) (fun hc8 => ?_)
    ·replace hF := hF.1 hc8
     refine Ok.batch 1 [(0, .string ⟨⟨xs⟩⟩), (24, .bool true), (25, .slice a2_0 (cutS xs).length c2_0)] (by kernel_rfl) ?_
     refine Ok.opYes (j := 18) (d := 24) (want := true) (b := true) rfl (by kernel_rfl) (by kernel_rfl) rfl (OpOk.indexRo (e := .pair (.int .i64) (.pair (.str) (.pair (.str) (.int .i64)))) (i := 0) (el := e5) rfl rfl Tryz.underlying90 (by kernel_rfl) hR2_0 h05 he5 rfl fun q9 o9 cs9 _ hat9 hr9 => ?_)
     obtain ⟨_, _, rfl, rfl, ⟨_, _, rfl, rfl, ⟨_, _, rfl, rfl, rfl⟩⟩⟩ := hr9
     replace hat9 : At g2 q9 o9 [.int .i64 e5.1, .string ⟨⟨e5.2.1⟩⟩, .string ⟨⟨e5.2.2.1⟩⟩, .int .i64 e5.2.2.2] := hat9
     refine Ok.batch 1 [(0, .string ⟨⟨xs⟩⟩), (24, .bool true), (27, .pointer (some ⟨q9, o9 + 2, none⟩))] (by kernel_rfl) ?_
     refine Ok.opYes (j := 18) (d := 24) (want := true) (b := true) rfl (by kernel_rfl) (by kernel_rfl) rfl (OpOk.step (v := .string ⟨⟨e5.2.2.1⟩⟩) (Yields.loadRo 2 hat9 (by kernel_rfl) Tryz.underlying9 rfl (by kernel_rfl)) rfl rfl ?_)
     refine Ok.batch 1 [(24, .bool true), (28, .string ⟨⟨e5.2.2.1⟩⟩), (29, .string ⟨⟨xs⟩⟩)] (by kernel_rfl) ?_
     refine Ok.opYes (j := 18) (d := 24) (want := true) (b := true) rfl (by kernel_rfl) (by kernel_rfl) rfl (OpOk.step (v := .bool (e5.2.2.1 == xs)) (Yields.strCmp (f := .eql) (a := e5.2.2.1) (b := xs) (by kernel_rfl) (by kernel_rfl) rfl) rfl rfl ?_)
     refine Ok.batch 2 [(2, .bool (e5.2.2.1 == xs))] (by kernel_rfl) ?_
     refine Ok.nil ?_
     refine Ok.thenN ?_
     subst hg5
     refine Ok.reval 2 rfl (show (.bool (((cutS xs).getD (Int.toNat 0) default).2.2.1 == xs) : Value) = .bool (lnmV0 xs) from congrArg (Value.bool) ((Eq.trans ((Eq.trans (mand_t hc8) (mand_t hc6))) (mand_t hc3)))) ?_
     exact fun a W hA hW => ⟨g2, (Gext.refl w0 g2), hA.sub (by kernel_rfl), hW, hF⟩
    ·replace hF := hF.2 hc8
     refine Ok.batch 8 [(2, .bool false)] (by kernel_rfl) ?_
     refine Ok.nil ?_
     refine Ok.thenN ?_
     subst hg5
     refine Ok.reval 2 rfl (show (.bool false : Value) = .bool (lnmV0 xs) from congrArg (Value.bool) ((Eq.trans ((Eq.trans (mand_f hc8) (mand_t hc6))) (mand_t hc3)))) ?_
     exact fun a W hA hW => ⟨g2, (Gext.refl w0 g2), hA.sub (by kernel_rfl), hW, hF⟩
   ·replace hF := hF.2 hc6
    refine Ok.batch 16 [(2, .bool false)] (by kernel_rfl) ?_
    refine Ok.nil ?_
    refine Ok.thenN ?_
    subst hg5
    refine Ok.reval 2 rfl (show (.bool false : Value) = .bool (lnmV0 xs) from congrArg (Value.bool) ((Eq.trans (mand_f hc6) (mand_t hc3)))) ?_
    exact fun a W hA hW => ⟨g2, (Gext.refl w0 g2), hA.sub (by kernel_rfl), hW, hF⟩
  ·replace hF := hF.2 hc3
   refine Ok.batch 23 [(2, .bool false)] (by kernel_rfl) ?_
   refine Ok.nil ?_
   refine Ok.thenN ?_
   refine Ok.reval 2 rfl (show (.bool false : Value) = .bool (lnmV0 xs) from congrArg (Value.bool) (mand_f hc3)) ?_
   exact fun a W hA hW => ⟨g2, (Gext.refl w0 g2), hA.sub (by kernel_rfl), hW, hF⟩
 ·
  clear hF
  rintro a W ⟨gj5, hxj5, hA, hW, hF⟩
  refine (?_ : Ok _ _ _ _ _ _) a W hA hW
  clear hA hW
  replace hG2 := hG2.mono hxj5.1
  refine Ok.ret ?_
  exact Ok.resH (vs := [.bool (lnmV0 xs)]) (.inl rfl) rfl (.cons (.tmp rfl) .nil) (hx2.trans hxj5) ⟨(lnmV0 xs), rfl, rfl, hF⟩
def rpnV0 (xs : List UInt8) : Bool :=
 ((((cutS xs).length : Int) == 1) && ((((cutS xs).getD (Int.toNat 0) default).1 == 1) && ((((cutS xs).getD (Int.toNat 0) default).2.2.1 == xs) && (((cutS xs).getD (Int.toNat 0) default).2.1 == xs))))
def rpnj5 (xs : List UInt8) (K : Bool → Prop) : Prop :=
 K (rpnV0 xs)
def rpnF (xs : List UInt8) (K : Bool → Prop) : Prop :=
 cutP xs ∧ (((((cutS xs).length : Int) == 1)) = true → (0 : Int) ≤ 0 ∧ Int.toNat 0 < (cutS xs).length ∧ (((((cutS xs).getD (Int.toNat 0) default).1 == 1)) = true → (((((cutS xs).getD (Int.toNat 0) default).2.2.1 == xs)) = true → rpnj5 xs K) ∧ (((((cutS xs).getD (Int.toNat 0) default).2.2.1 == xs)) = false → rpnj5 xs K)) ∧ (((((cutS xs).getD (Int.toNat 0) default).1 == 1)) = false → rpnj5 xs K)) ∧ (((((cutS xs).length : Int) == 1)) = false → rpnj5 xs K)
set_option maxHeartbeats 4000000 in
set_option maxRecDepth 100000 in
set_option linter.unusedVariables false in
theorem rpn_ok {g : Ghost} (xs : List UInt8) (K : Bool → Prop)
  (hF : rpnF xs K) : CallsH Tryz.prog 31 #[.string ⟨⟨xs⟩⟩] g [] (fun g' H' v => ∃ (r0 : Bool), v = .bool r0 ∧ H' = [] ∧ K r0) := by
 refine CallsH.enter 32 [(0, .string ⟨⟨xs⟩⟩)] Tryz.func31 rfl (by kernel_rfl) (by kernel_rfl) (by kernel_rfl) fun w0 => ?_
 refine Ok.seq ?_
 refine Ok.region ?_
 refine Ok.batch 1 [(0, .string ⟨⟨xs⟩⟩)] (by kernel_rfl) ?_
 refine Ok.nil ?_
 refine Ok.thenN ?_
 refine Ok.seq ?_
 refine Ok.region ?_
 refine Ok.batch 1 [(0, .string ⟨⟨xs⟩⟩), (4, .string ⟨⟨xs⟩⟩)] (by kernel_rfl) ?_
 obtain ⟨hp1, hF⟩ := hF
 refine Ok.op rfl (OpOk.callH [] [] (enters (by kernel_rfl) (fun _ => by kernel_rfl)) rfl (rtoks_c xs hp1) rfl fun g2 _ _ hx2 hV2 => ?_)
 obtain ⟨a2_0, c2_0, rfl, hR2_0, rfl⟩ := hV2
 refine Ok.batch 1 [(0, .string ⟨⟨xs⟩⟩), (3, .slice a2_0 (cutS xs).length c2_0)] (by kernel_rfl) ?_
 refine Ok.nil ?_
 refine Ok.thenN ?_
 refine Ok.cut (fun a W => ∃ gj5 : Ghost, Gext w0 g2 gj5 ∧ StA 32 [(2, .bool (rpnV0 xs))] a ∧ StW w0 [] gj5 W ∧ rpnj5 xs K) ?_ ?_
 ·
  refine Ok.region ?_
  refine Ok.batch 4 [(0, .string ⟨⟨xs⟩⟩), (3, .slice a2_0 (cutS xs).length c2_0), (9, .bool (((cutS xs).length : Int) == 1))] (by kernel_rfl) ?_
  refine Ok.boolAt 9 ((((cutS xs).length : Int) == 1)) rfl (fun hc3 => ?_) (fun hc3 => ?_)
  ·replace hF := hF.1 hc3
   refine Ok.batch 1 [(0, .string ⟨⟨xs⟩⟩), (3, .slice a2_0 (cutS xs).length c2_0), (9, .bool true), (10, .slice a2_0 (cutS xs).length c2_0)] (by kernel_rfl) ?_
   obtain ⟨h05, h15, hF⟩ := hF
   have he5 := get_of (l := (cutS xs)) (default : Int × List UInt8 × List UInt8 × Int) h15
   generalize hg5 : ((cutS xs).getD (Int.toNat 0) default) = e5 at he5 hF ⊢
   refine Ok.opYes (j := 3) (d := 9) (want := true) (b := true) rfl (by kernel_rfl) (by kernel_rfl) rfl (OpOk.indexRo (e := .pair (.int .i64) (.pair (.str) (.pair (.str) (.int .i64)))) (i := 0) (el := e5) rfl rfl Tryz.underlying90 (by kernel_rfl) hR2_0 h05 he5 rfl fun q4 o4 cs4 _ hat4 hr4 => ?_)
   obtain ⟨_, _, rfl, rfl, ⟨_, _, rfl, rfl, ⟨_, _, rfl, rfl, rfl⟩⟩⟩ := hr4
   replace hat4 : At g2 q4 o4 [.int .i64 e5.1, .string ⟨⟨e5.2.1⟩⟩, .string ⟨⟨e5.2.2.1⟩⟩, .int .i64 e5.2.2.2] := hat4
   refine Ok.batch 1 [(0, .string ⟨⟨xs⟩⟩), (3, .slice a2_0 (cutS xs).length c2_0), (9, .bool true), (12, .pointer (some ⟨q4, o4, none⟩))] (by kernel_rfl) ?_
   refine Ok.opYes (j := 3) (d := 9) (want := true) (b := true) rfl (by kernel_rfl) (by kernel_rfl) rfl (OpOk.step (v := .int .i64 e5.1) (Yields.loadRo 0 hat4 (by kernel_rfl) Tryz.underlying3 rfl (by kernel_rfl)) rfl rfl ?_)
   refine Ok.batch 3 [(0, .string ⟨⟨xs⟩⟩), (3, .slice a2_0 (cutS xs).length c2_0), (16, .bool (e5.1 == 1))] (by kernel_rfl) ?_
   refine Ok.boolAt 16 ((e5.1 == 1)) rfl (fun hc6 => ?_) (fun hc6 => ?_)
   ·replace hF := hF.1 hc6
    refine Ok.batch 1 [(0, .string ⟨⟨xs⟩⟩), (3, .slice a2_0 (cutS xs).length c2_0), (16, .bool true), (17, .slice a2_0 (cutS xs).length c2_0)] (by kernel_rfl) ?_
    refine Ok.opYes (j := 10) (d := 16) (want := true) (b := true) rfl (by kernel_rfl) (by kernel_rfl) rfl (OpOk.indexRo (e := .pair (.int .i64) (.pair (.str) (.pair (.str) (.int .i64)))) (i := 0) (el := e5) rfl rfl Tryz.underlying90 (by kernel_rfl) hR2_0 h05 he5 rfl fun q7 o7 cs7 _ hat7 hr7 => ?_)
    obtain ⟨_, _, rfl, rfl, ⟨_, _, rfl, rfl, ⟨_, _, rfl, rfl, rfl⟩⟩⟩ := hr7
    replace hat7 : At g2 q7 o7 [.int .i64 e5.1, .string ⟨⟨e5.2.1⟩⟩, .string ⟨⟨e5.2.2.1⟩⟩, .int .i64 e5.2.2.2] := hat7
    refine Ok.batch 1 [(0, .string ⟨⟨xs⟩⟩), (3, .slice a2_0 (cutS xs).length c2_0), (16, .bool true), (19, .pointer (some ⟨q7, o7 + 2, none⟩))] (by kernel_rfl) ?_
    refine Ok.opYes (j := 10) (d := 16) (want := true) (b := true) rfl (by kernel_rfl) (by kernel_rfl) rfl (OpOk.step (v := .string ⟨⟨e5.2.2.1⟩⟩) (Yields.loadRo 2 hat7 (by kernel_rfl) Tryz.underlying9 rfl (by kernel_rfl)) rfl rfl ?_)
    refine Ok.batch 1 [(0, .string ⟨⟨xs⟩⟩), (3, .slice a2_0 (cutS xs).length c2_0), (16, .bool true), (20, .string ⟨⟨e5.2.2.1⟩⟩), (21, .string ⟨⟨xs⟩⟩)] (by kernel_rfl) ?_
    refine Ok.opYes (j := 10) (d := 16) (want := true) (b := true) rfl (by kernel_rfl) (by kernel_rfl) rfl (OpOk.step (v := .bool (e5.2.2.1 == xs)) (Yields.strCmp (f := .eql) (a := e5.2.2.1) (b := xs) (by kernel_rfl) (by kernel_rfl) rfl) rfl rfl ?_)
    refine Ok.batch 2 [(0, .string ⟨⟨xs⟩⟩), (3, .slice a2_0 (cutS xs).length c2_0), (24, .bool (e5.2.2.1 == xs))] (by kernel_rfl) ?_
    refine Ok.boolAt 24 ((e5.2.2.1 == xs)) rfl (fun hc8 => ?_) (fun hc8 => ?_)
    ·replace hF := hF.1 hc8
     refine Ok.batch 1 [(0, .string ⟨⟨xs⟩⟩), (24, .bool true), (25, .slice a2_0 (cutS xs).length c2_0)] (by kernel_rfl) ?_
     refine Ok.opYes (j := 18) (d := 24) (want := true) (b := true) rfl (by kernel_rfl) (by kernel_rfl) rfl (OpOk.indexRo (e := .pair (.int .i64) (.pair (.str) (.pair (.str) (.int .i64)))) (i := 0) (el := e5) rfl rfl Tryz.underlying90 (by kernel_rfl) hR2_0 h05 he5 rfl fun q9 o9 cs9 _ hat9 hr9 => ?_)
     obtain ⟨_, _, rfl, rfl, ⟨_, _, rfl, rfl, ⟨_, _, rfl, rfl, rfl⟩⟩⟩ := hr9
     replace hat9 : At g2 q9 o9 [.int .i64 e5.1, .string ⟨⟨e5.2.1⟩⟩, .string ⟨⟨e5.2.2.1⟩⟩, .int .i64 e5.2.2.2] := hat9
     refine Ok.batch 1 [(0, .string ⟨⟨xs⟩⟩), (24, .bool true), (27, .pointer (some ⟨q9, o9 + 1, none⟩))] (by kernel_rfl) ?_
     refine Ok.opYes (j := 18) (d := 24) (want := true) (b := true) rfl (by kernel_rfl) (by kernel_rfl) rfl (OpOk.step (v := .string ⟨⟨e5.2.1⟩⟩) (Yields.loadRo 1 hat9 (by kernel_rfl) Tryz.underlying9 rfl (by kernel_rfl)) rfl rfl ?_)
     refine Ok.batch 1 [(24, .bool true), (28, .string ⟨⟨e5.2.1⟩⟩), (29, .string ⟨⟨xs⟩⟩)] (by kernel_rfl) ?_
     refine Ok.opYes (j := 18) (d := 24) (want := true) (b := true) rfl (by kernel_rfl) (by kernel_rfl) rfl (OpOk.step (v := .bool (e5.2.1 == xs)) (Yields.strCmp (f := .eql) (a := e5.2.1) (b := xs) (by kernel_rfl) (by kernel_rfl) rfl) rfl rfl ?_)
     refine Ok.batch 2 [(2, .bool (e5.2.1 == xs))] (by kernel_rfl) ?_
     refine Ok.nil ?_
     refine Ok.thenN ?_
     subst hg5
     refine Ok.reval 2 rfl (show (.bool (((cutS xs).getD (Int.toNat 0) default).2.1 == xs) : Value) = .bool (rpnV0 xs) from congrArg (Value.bool) ((Eq.trans ((Eq.trans (mand_t hc8) (mand_t hc6))) (mand_t hc3)))) ?_
     exact fun a W hA hW => ⟨g2, (Gext.refl w0 g2), hA.sub (by kernel_rfl), hW, hF⟩
    ·replace hF := hF.2 hc8
     refine Ok.batch 8 [(2, .bool false)] (by kernel_rfl) ?_
     refine Ok.nil ?_
     refine Ok.thenN ?_
     subst hg5
     refine Ok.reval 2 rfl (show (.bool false : Value) = .bool (rpnV0 xs) from congrArg (Value.bool) ((Eq.trans ((Eq.trans (mand_f hc8) (mand_t hc6))) (mand_t hc3)))) ?_
     exact fun a W hA hW => ⟨g2, (Gext.refl w0 g2), hA.sub (by kernel_rfl), hW, hF⟩
   ·replace hF := hF.2 hc6
    refine Ok.batch 16 [(2, .bool false)] (by kernel_rfl) ?_
    refine Ok.nil ?_
    refine Ok.thenN ?_
    subst hg5
    refine Ok.reval 2 rfl (show (.bool false : Value) = .bool (rpnV0 xs) from congrArg (Value.bool) ((Eq.trans (mand_f hc6) (mand_t hc3)))) ?_
    exact fun a W hA hW => ⟨g2, (Gext.refl w0 g2), hA.sub (by kernel_rfl), hW, hF⟩
  ·replace hF := hF.2 hc3
   refine Ok.batch 23 [(2, .bool false)] (by kernel_rfl) ?_
   refine Ok.nil ?_
   refine Ok.thenN ?_
   refine Ok.reval 2 rfl (show (.bool false : Value) = .bool (rpnV0 xs) from congrArg (Value.bool) (mand_f hc3)) ?_
   exact fun a W hA hW => ⟨g2, (Gext.refl w0 g2), hA.sub (by kernel_rfl), hW, hF⟩
 ·
  clear hF
  rintro a W ⟨gj5, hxj5, hA, hW, hF⟩
  refine (?_ : Ok _ _ _ _ _ _) a W hA hW
  clear hA hW
  refine Ok.ret ?_
  exact Ok.resH (vs := [.bool (rpnV0 xs)]) (.inl rfl) rfl (.cons (.tmp rfl) .nil) (hx2.trans hxj5) ⟨(rpnV0 xs), rfl, rfl, hF⟩
theorem lnmV_eq (xs : List UInt8) : lnmV0 xs = plainS xs := by
 unfold lnmV0 plainS
 generalize cutS xs = l
 match l with
 | [] => rfl
 | [t] => simp [Bool.and_assoc]
 | a :: b :: l =>
  have h : ((((a :: b :: l).length : Nat) : Int) == 1) = false := by simp; omega
  rw [h]; rfl
theorem rpnV_eq (xs : List UInt8) : rpnV0 xs = plainS xs := by
 rw [← lnmV_eq]
 unfold rpnV0 lnmV0
 rw [Bool.and_comm (((cutS xs).getD (Int.toNat 0) default).2.2.1 == xs)]
theorem lnm_F (s : List UInt8) (hp : cutP s) : lnmF s (fun r => r = plainS s) := by
 have j : lnmj5 s (fun r => r = plainS s) := lnmV_eq s
 refine ⟨hp, fun h => ⟨by decide, ?_, fun _ => ⟨fun _ => j, fun _ => j⟩, fun _ => j⟩, fun _ => j⟩
 have := eq_of_beq h
 show 0 < _; omega
theorem rpn_F (s : List UInt8) (hp : cutP s) : rpnF s (fun r => r = plainS s) := by
 have j : rpnj5 s (fun r => r = plainS s) := rpnV_eq s
 refine ⟨hp, fun h => ⟨by decide, ?_, fun _ => ⟨fun _ => j, fun _ => j⟩, fun _ => j⟩, fun _ => j⟩
 have := eq_of_beq h
 show 0 < _; omega
set_option linter.unusedVariables false in
theorem lnm_c {g : Ghost} (xs : List UInt8) (hG2 : SomeInt g 2)  (hp : cutP xs) : CallsG Tryz.prog 24 #[.string ⟨⟨xs⟩⟩] g (.bool (plainS xs)) :=
 (lnm_ok xs hG2 _ (lnm_F xs hp)).gives (by rintro g' H' v _ ⟨r0, rfl, rfl, hK⟩; subst hK; rfl)
set_option linter.unusedVariables false in
theorem rpn_c {g : Ghost} (xs : List UInt8)  (hp : cutP xs) : CallsG Tryz.prog 31 #[.string ⟨⟨xs⟩⟩] g (.bool (plainS xs)) :=
 (rpn_ok xs _ (rpn_F xs hp)).gives (by rintro g' H' v _ ⟨r0, rfl, rfl, hK⟩; subst hK; rfl)
def lrcF (xa : List UInt8 × List UInt8) (K : Bool → Prop) : Prop :=
 K (xa.1 == ([114, 101, 103, 105, 111, 110] : List UInt8))
set_option maxHeartbeats 4000000 in
set_option maxRecDepth 100000 in
set_option linter.unusedVariables false in
theorem lrc_ok {g : Ghost} (xa : List UInt8 × List UInt8) (K : Bool → Prop)
  (hF : lrcF xa K) : CallsH Tryz.prog 98 #[.agg #[.string ⟨⟨xa.1⟩⟩, .string ⟨⟨xa.2⟩⟩]] g [] (fun g' H' v => ∃ (r0 : Bool), v = .bool r0 ∧ H' = [] ∧ K r0) := by
 refine CallsH.enter 6 [(0, .agg #[.string ⟨⟨xa.1⟩⟩, .string ⟨⟨xa.2⟩⟩])] Tryz.func98 rfl (by kernel_rfl) (by kernel_rfl) (by kernel_rfl) fun w0 => ?_
 refine Ok.seq ?_
 refine Ok.region ?_
 refine Ok.op rfl (OpOk.box (v := .agg #[.string ⟨⟨xa.1⟩⟩, .string ⟨⟨xa.2⟩⟩]) (cs := #[.string ⟨⟨xa.1⟩⟩, .string ⟨⟨xa.2⟩⟩]) rfl (by kernel_rfl) rfl fun b1 => ?_)
 refine Ok.batch 1 [(1, .pointer (some ⟨b1, 0, none⟩))] (by kernel_rfl) ?_
 refine Ok.nil ?_
 refine Ok.thenN ?_
 refine Ok.seq ?_
 refine Ok.region ?_
 refine Ok.batch 1 [(3, .pointer (some ⟨b1, 0, none⟩))] (by kernel_rfl) ?_
 refine Ok.op rfl (OpOk.step (v := .string ⟨⟨xa.1⟩⟩) (Yields.load 0 rfl rfl Tryz.underlying9 rfl (by kernel_rfl)) rfl rfl ?_)
 refine Ok.op rfl (OpOk.step (v := .bool (xa.1 == ([114, 101, 103, 105, 111, 110] : List UInt8))) (Yields.strCmp (f := .eql) (a := xa.1) (b := ([114, 101, 103, 105, 111, 110] : List UInt8)) (by kernel_rfl) (by kernel_rfl) rfl) rfl rfl ?_)
 refine Ok.batch 1 [(2, .bool (xa.1 == ([114, 101, 103, 105, 111, 110] : List UInt8)))] (by kernel_rfl) ?_
 refine Ok.nil ?_
 refine Ok.thenN ?_
 refine Ok.ret ?_
 exact Ok.resP (vs := [.bool (xa.1 == ([114, 101, 103, 105, 111, 110] : List UInt8))]) [] [] (by decide) rfl (.inl rfl) rfl (.cons (.tmp rfl) .nil) (Gext.refl w0 g) ⟨(xa.1 == ([114, 101, 103, 105, 111, 110] : List UInt8)), rfl, rfl, hF⟩
def lrcM (xa : List UInt8 × List UInt8) : Bool := (xa.1 == ([114, 101, 103, 105, 111, 110] : List UInt8))
set_option linter.unusedSimpArgs false in
set_option linter.unusedVariables false in
theorem lrcF_A (xa : List UInt8 × List UInt8) (P : Bool → Prop) (h : P (lrcM xa)) : lrcF xa (fun k0 => P k0) := by
 unfold lrcM at h
 unfold lrcF
 exact h
theorem lrc_F (xa : List UInt8 × List UInt8) : lrcF xa (fun k0 => k0 = lrcM xa) :=
 lrcF_A xa (fun z => z = lrcM xa) rfl
set_option linter.unusedVariables false in
theorem lrc_c {g : Ghost} (xa : List UInt8 × List UInt8)  : CallsG Tryz.prog 98 #[.agg #[.string ⟨⟨xa.1⟩⟩, .string ⟨⟨xa.2⟩⟩]] g (.bool (lrcM xa)) :=
 (lrc_ok xa _ (lrc_F xa)).gives (by rintro g' H' v _ ⟨r0, rfl, rfl, hK⟩; subst hK; rfl)
def lrgV0 (xx : Int × List UInt8 × (List (List UInt8 × List UInt8)) × List UInt8 × Int × List (Int)) : Bool :=
 (((xx.1 != 2) || (decide ((difxS xx.2.2.1 (fun y0 => lrcM y0)) < 0))) || (!(plainS (xx.2.2.1.getD (Int.toNat (difxS xx.2.2.1 (fun y0 => lrcM y0))) default).2)))
def lrgj6 (xx : Int × List UInt8 × (List (List UInt8 × List UInt8)) × List UInt8 × Int × List (Int)) (K : (List UInt8) → Prop) : Prop :=
 (((lrgV0 xx)) = true → K ([] : List UInt8)) ∧ (((lrgV0 xx)) = false → (0 : Int) ≤ (difxS xx.2.2.1 (fun y0 => lrcM y0)) ∧ Int.toNat (difxS xx.2.2.1 (fun y0 => lrcM y0)) < xx.2.2.1.length ∧ K (xx.2.2.1.getD (Int.toNat (difxS xx.2.2.1 (fun y0 => lrcM y0))) default).2)
def lrgF (xx : Int × List UInt8 × (List (List UInt8 × List UInt8)) × List UInt8 × Int × List (Int)) (K : (List UInt8) → Prop) : Prop :=
 difxP xx.2.2.1 (fun y0 => lrcM y0) (fun _ => True) ∧ ((((xx.1 != 2) || (decide ((difxS xx.2.2.1 (fun y0 => lrcM y0)) < 0)))) = true → lrgj6 xx K) ∧ ((((xx.1 != 2) || (decide ((difxS xx.2.2.1 (fun y0 => lrcM y0)) < 0)))) = false → (0 : Int) ≤ (difxS xx.2.2.1 (fun y0 => lrcM y0)) ∧ Int.toNat (difxS xx.2.2.1 (fun y0 => lrcM y0)) < xx.2.2.1.length ∧ cutP (xx.2.2.1.getD (Int.toNat (difxS xx.2.2.1 (fun y0 => lrcM y0))) default).2 ∧ lrgj6 xx K)
set_option maxHeartbeats 4000000 in
set_option maxRecDepth 100000 in
set_option linter.unusedVariables false in
theorem lrg_ok {g : Ghost} {axx_0 : Option Addr} {cxx_0 : Nat} {axx_1 : Option Addr} {cxx_1 : Nat} (xx : Int × List UInt8 × (List (List UInt8 × List UInt8)) × List UInt8 × Int × List (Int)) (hRxx_0 : Rep g (.slice (.pair (.str) (.str))) [.slice axx_0 xx.2.2.1.length cxx_0] xx.2.2.1) (hRxx_1 : Rep g (.slice (.int .i64)) [.slice axx_1 xx.2.2.2.2.2.length cxx_1] xx.2.2.2.2.2) (hG2 : SomeInt g 2) (K : (List UInt8) → Prop)
  (hF : lrgF xx K) : CallsH Tryz.prog 58 #[.agg #[.int .i64 xx.1, .string ⟨⟨xx.2.1⟩⟩, .slice axx_0 xx.2.2.1.length cxx_0, .string ⟨⟨xx.2.2.2.1⟩⟩, .int .i64 xx.2.2.2.2.1, .slice axx_1 xx.2.2.2.2.2.length cxx_1]] g [] (fun g' H' v => ∃ (r0 : List UInt8), v = .string ⟨⟨r0⟩⟩ ∧ H' = [] ∧ K r0) := by
 refine CallsH.enter 30 [(0, .agg #[.int .i64 xx.1, .string ⟨⟨xx.2.1⟩⟩, .slice axx_0 xx.2.2.1.length cxx_0, .string ⟨⟨xx.2.2.2.1⟩⟩, .int .i64 xx.2.2.2.2.1, .slice axx_1 xx.2.2.2.2.2.length cxx_1])] Tryz.func58 rfl (by kernel_rfl) (by kernel_rfl) (by kernel_rfl) fun w0 => ?_
 refine Ok.seq ?_
 refine Ok.region ?_
 refine Ok.op rfl (OpOk.box (v := .agg #[.int .i64 xx.1, .string ⟨⟨xx.2.1⟩⟩, .slice axx_0 xx.2.2.1.length cxx_0, .string ⟨⟨xx.2.2.2.1⟩⟩, .int .i64 xx.2.2.2.2.1, .slice axx_1 xx.2.2.2.2.2.length cxx_1]) (cs := #[.int .i64 xx.1, .string ⟨⟨xx.2.1⟩⟩, .slice axx_0 xx.2.2.1.length cxx_0, .string ⟨⟨xx.2.2.2.1⟩⟩, .int .i64 xx.2.2.2.2.1, .slice axx_1 xx.2.2.2.2.2.length cxx_1]) rfl (by kernel_rfl) rfl fun b1 => ?_)
 refine Ok.batch 1 [(1, .pointer (some ⟨b1, 0, none⟩))] (by kernel_rfl) ?_
 refine Ok.nil ?_
 refine Ok.thenN ?_
 refine Ok.seq ?_
 refine Ok.region ?_
 refine Ok.batch 1 [(1, .pointer (some ⟨b1, 0, none⟩)), (4, .pointer (some ⟨b1, 2, none⟩))] (by kernel_rfl) ?_
 refine Ok.op rfl (OpOk.step (v := .slice axx_0 xx.2.2.1.length cxx_0) (Yields.load 0 rfl rfl Tryz.underlying72 rfl (by kernel_rfl)) rfl rfl ?_)
 obtain ⟨hp2, hF⟩ := hF
 refine Ok.op rfl (OpOk.callG (v := .int .i64 (difxS xx.2.2.1 (fun y0 => lrcM y0))) (enters (by kernel_rfl) (fun _ => by kernel_rfl)) (fun W hW => difx_c (vxf := .func (.func 98) #[] #[]) xx.2.2.1 (fun y0 => lrcM y0) (fun _ => True) (hRxx_0.mono hW.sees) (fun y0 hq => ⟨98, _, fun _ => by kernel_rfl, lrc_c y0⟩) hp2) rfl ?_)
 refine Ok.batch 1 [(1, .pointer (some ⟨b1, 0, none⟩)), (3, .int .i64 (difxS xx.2.2.1 (fun y0 => lrcM y0)))] (by kernel_rfl) ?_
 refine Ok.nil ?_
 refine Ok.thenN ?_
 refine Ok.seq ?_
 refine Ok.cut (fun a W => StA 30 [(1, .pointer (some ⟨b1, 0, none⟩)), (3, .int .i64 (difxS xx.2.2.1 (fun y0 => lrcM y0))), (23, .bool (lrgV0 xx))] a ∧ StW w0 [.blk b1 (.cells #[.int .i64 xx.1, .string ⟨⟨xx.2.1⟩⟩, .slice axx_0 xx.2.2.1.length cxx_0, .string ⟨⟨xx.2.2.2.1⟩⟩, .int .i64 xx.2.2.2.2.1, .slice axx_1 xx.2.2.2.2.2.length cxx_1] 74)] g W ∧ lrgj6 xx K) ?_ ?_
 ·
  refine Ok.region ?_
  refine Ok.batch 1 [(1, .pointer (some ⟨b1, 0, none⟩)), (3, .int .i64 (difxS xx.2.2.1 (fun y0 => lrcM y0))), (7, .pointer (some ⟨b1, 0, none⟩))] (by kernel_rfl) ?_
  refine Ok.op rfl (OpOk.step (v := .int .i64 xx.1) (Yields.load 0 rfl rfl Tryz.underlying3 rfl (by kernel_rfl)) rfl rfl ?_)
  refine Ok.batch 2 [(1, .pointer (some ⟨b1, 0, none⟩)), (3, .int .i64 (difxS xx.2.2.1 (fun y0 => lrcM y0))), (10, .bool (xx.1 != 2))] (by kernel_rfl) ?_
  refine Ok.midway 3 [(1, .pointer (some ⟨b1, 0, none⟩)), (3, .int .i64 (difxS xx.2.2.1 (fun y0 => lrcM y0))), (13, .bool ((xx.1 != 2) || (decide ((difxS xx.2.2.1 (fun y0 => lrcM y0)) < 0))))] (fun hR6 => ?_) ?_
  ·refine Ok.boolAt 10 ((xx.1 != 2)) rfl (fun hc7 => ?_) (fun hc7 => ?_)
   ·skip
    refine Ok.batch 3 [(1, .pointer (some ⟨b1, 0, none⟩)), (3, .int .i64 (difxS xx.2.2.1 (fun y0 => lrcM y0))), (13, .bool true)] (by kernel_rfl) ?_
    refine Ok.reval 13 rfl (show (.bool true : Value) = .bool ((xx.1 != 2) || (decide ((difxS xx.2.2.1 (fun y0 => lrcM y0)) < 0))) from congrArg Value.bool (mor_t hc7)) ?_
    refine Ok.batch 0 [(1, .pointer (some ⟨b1, 0, none⟩)), (3, .int .i64 (difxS xx.2.2.1 (fun y0 => lrcM y0))), (13, .bool ((xx.1 != 2) || (decide ((difxS xx.2.2.1 (fun y0 => lrcM y0)) < 0))))] (by kernel_rfl) ?_
    exact hR6
   ·skip
    refine Ok.batch 3 [(1, .pointer (some ⟨b1, 0, none⟩)), (3, .int .i64 (difxS xx.2.2.1 (fun y0 => lrcM y0))), (13, .bool (decide ((difxS xx.2.2.1 (fun y0 => lrcM y0)) < 0)))] (by kernel_rfl) ?_
    refine Ok.reval 13 rfl (show (.bool (decide ((difxS xx.2.2.1 (fun y0 => lrcM y0)) < 0)) : Value) = .bool ((xx.1 != 2) || (decide ((difxS xx.2.2.1 (fun y0 => lrcM y0)) < 0))) from congrArg Value.bool (mor_f hc7)) ?_
    refine Ok.batch 0 [(1, .pointer (some ⟨b1, 0, none⟩)), (3, .int .i64 (difxS xx.2.2.1 (fun y0 => lrcM y0))), (13, .bool ((xx.1 != 2) || (decide ((difxS xx.2.2.1 (fun y0 => lrcM y0)) < 0))))] (by kernel_rfl) ?_
    exact hR6
  refine Ok.batch 1 [(1, .pointer (some ⟨b1, 0, none⟩)), (3, .int .i64 (difxS xx.2.2.1 (fun y0 => lrcM y0))), (14, .bool ((xx.1 != 2) || (decide ((difxS xx.2.2.1 (fun y0 => lrcM y0)) < 0))))] (by kernel_rfl) ?_
  refine Ok.boolAt 14 (((xx.1 != 2) || (decide ((difxS xx.2.2.1 (fun y0 => lrcM y0)) < 0)))) rfl (fun hc8 => ?_) (fun hc8 => ?_)
  ·replace hF := hF.1 hc8
   refine Ok.batch 9 [(1, .pointer (some ⟨b1, 0, none⟩)), (3, .int .i64 (difxS xx.2.2.1 (fun y0 => lrcM y0))), (23, .bool true)] (by kernel_rfl) ?_
   refine Ok.nil ?_
   refine Ok.thenN ?_
   refine Ok.reval 23 rfl (show (.bool true : Value) = .bool (lrgV0 xx) from congrArg (Value.bool) (mor_t hc8)) ?_
   exact fun a W hA hW => ⟨hA.sub (by kernel_rfl), hW, hF⟩
  ·replace hF := hF.2 hc8
   refine Ok.batch 1 [(1, .pointer (some ⟨b1, 0, none⟩)), (3, .int .i64 (difxS xx.2.2.1 (fun y0 => lrcM y0))), (14, .bool false), (15, .pointer (some ⟨b1, 2, none⟩))] (by kernel_rfl) ?_
   refine Ok.opYes (j := 7) (d := 14) (want := false) (b := false) rfl (by kernel_rfl) (by kernel_rfl) rfl (OpOk.step (v := .slice axx_0 xx.2.2.1.length cxx_0) (Yields.load 0 rfl rfl Tryz.underlying72 rfl (by kernel_rfl)) rfl rfl ?_)
   refine Ok.batch 1 [(1, .pointer (some ⟨b1, 0, none⟩)), (3, .int .i64 (difxS xx.2.2.1 (fun y0 => lrcM y0))), (14, .bool false), (16, .slice axx_0 xx.2.2.1.length cxx_0), (17, .int .i64 (difxS xx.2.2.1 (fun y0 => lrcM y0)))] (by kernel_rfl) ?_
   obtain ⟨h010, h110, hF⟩ := hF
   have he10 := get_of (l := xx.2.2.1) (default : List UInt8 × List UInt8) h110
   generalize hg10 : (xx.2.2.1.getD (Int.toNat (difxS xx.2.2.1 (fun y0 => lrcM y0))) default) = e10 at he10 hF ⊢
   refine Ok.opYes (j := 7) (d := 14) (want := false) (b := false) rfl (by kernel_rfl) (by kernel_rfl) rfl (OpOk.indexRo (e := .pair (.str) (.str)) (i := (difxS xx.2.2.1 (fun y0 => lrcM y0))) (el := e10) rfl rfl Tryz.underlying72 (by kernel_rfl) hRxx_0 h010 he10 rfl fun q9 o9 cs9 _ hat9 hr9 => ?_)
   obtain ⟨_, _, rfl, rfl, rfl⟩ := hr9
   replace hat9 : At g q9 o9 [.string ⟨⟨e10.1⟩⟩, .string ⟨⟨e10.2⟩⟩] := hat9
   refine Ok.batch 1 [(1, .pointer (some ⟨b1, 0, none⟩)), (3, .int .i64 (difxS xx.2.2.1 (fun y0 => lrcM y0))), (14, .bool false), (19, .pointer (some ⟨q9, o9 + 1, none⟩))] (by kernel_rfl) ?_
   refine Ok.opYes (j := 7) (d := 14) (want := false) (b := false) rfl (by kernel_rfl) (by kernel_rfl) rfl (OpOk.step (v := .string ⟨⟨e10.2⟩⟩) (Yields.loadRo 1 hat9 (by kernel_rfl) Tryz.underlying9 rfl (by kernel_rfl)) rfl rfl ?_)
   obtain ⟨hp11, hF⟩ := hF
   refine Ok.opYes (j := 7) (d := 14) (want := false) (b := false) rfl (by kernel_rfl) (by kernel_rfl) rfl (OpOk.callG (v := .bool (plainS e10.2)) (enters (by kernel_rfl) (fun _ => by kernel_rfl)) (fun W hW => lnm_c e10.2 (hG2.mono hW.sees) hp11) rfl ?_)
   refine Ok.batch 2 [(1, .pointer (some ⟨b1, 0, none⟩)), (3, .int .i64 (difxS xx.2.2.1 (fun y0 => lrcM y0))), (23, .bool (!(plainS e10.2)))] (by kernel_rfl) ?_
   refine Ok.nil ?_
   refine Ok.thenN ?_
   subst hg10
   refine Ok.reval 23 rfl (show (.bool (!(plainS (xx.2.2.1.getD (Int.toNat (difxS xx.2.2.1 (fun y0 => lrcM y0))) default).2)) : Value) = .bool (lrgV0 xx) from congrArg (Value.bool) (mor_f hc8)) ?_
   exact fun a W hA hW => ⟨hA.sub (by kernel_rfl), hW, hF⟩
 ·
  clear hF
  rintro a W ⟨hA, hW, hF⟩
  refine (?_ : Ok _ _ _ _ _ _) a W hA hW
  clear hA hW
  refine Ok.cond (b := (lrgV0 xx)) rfl (fun hc3 => ?_) (fun hc3 => ?_)
  ·replace hF := hF.1 hc3
   refine Ok.seq ?_
   refine Ok.region ?_
   refine Ok.batch 1 [(2, .string ⟨⟨([] : List UInt8)⟩⟩)] (by kernel_rfl) ?_
   refine Ok.nil ?_
   refine Ok.thenN ?_
   refine Ok.ret ?_
   refine Ok.thenR ?_
   exact Ok.resP (vs := [.string ⟨⟨([] : List UInt8)⟩⟩]) [] [] (by decide) rfl (.inl rfl) rfl (.cons (.tmp rfl) .nil) (Gext.refl w0 g) ⟨([] : List UInt8), rfl, rfl, hF⟩
  ·replace hF := hF.2 hc3
   refine Ok.skip ?_
   refine Ok.thenN ?_
   refine Ok.seq ?_
   refine Ok.region ?_
   refine Ok.batch 1 [(3, .int .i64 (difxS xx.2.2.1 (fun y0 => lrcM y0))), (24, .pointer (some ⟨b1, 2, none⟩))] (by kernel_rfl) ?_
   refine Ok.op rfl (OpOk.step (v := .slice axx_0 xx.2.2.1.length cxx_0) (Yields.load 0 rfl rfl Tryz.underlying72 rfl (by kernel_rfl)) rfl rfl ?_)
   refine Ok.batch 1 [(25, .slice axx_0 xx.2.2.1.length cxx_0), (26, .int .i64 (difxS xx.2.2.1 (fun y0 => lrcM y0)))] (by kernel_rfl) ?_
   obtain ⟨h05, h15, hF⟩ := hF
   have he5 := get_of (l := xx.2.2.1) (default : List UInt8 × List UInt8) h15
   generalize hg5 : (xx.2.2.1.getD (Int.toNat (difxS xx.2.2.1 (fun y0 => lrcM y0))) default) = e5 at he5 hF ⊢
   refine Ok.op rfl (OpOk.indexRo (e := .pair (.str) (.str)) (i := (difxS xx.2.2.1 (fun y0 => lrcM y0))) (el := e5) rfl rfl Tryz.underlying72 (by kernel_rfl) hRxx_0 h05 he5 rfl fun q4 o4 cs4 _ hat4 hr4 => ?_)
   obtain ⟨_, _, rfl, rfl, rfl⟩ := hr4
   replace hat4 : At g q4 o4 [.string ⟨⟨e5.1⟩⟩, .string ⟨⟨e5.2⟩⟩] := hat4
   refine Ok.batch 1 [(28, .pointer (some ⟨q4, o4 + 1, none⟩))] (by kernel_rfl) ?_
   refine Ok.op rfl (OpOk.step (v := .string ⟨⟨e5.2⟩⟩) (Yields.loadRo 1 hat4 (by kernel_rfl) Tryz.underlying9 rfl (by kernel_rfl)) rfl rfl ?_)
   refine Ok.batch 1 [(2, .string ⟨⟨e5.2⟩⟩)] (by kernel_rfl) ?_
   refine Ok.nil ?_
   refine Ok.thenN ?_
   refine Ok.ret ?_
   exact Ok.resP (vs := [.string ⟨⟨e5.2⟩⟩]) [] [] (by decide) rfl (.inl rfl) rfl (.cons (.tmp rfl) .nil) (Gext.refl w0 g) ⟨e5.2, rfl, rfl, hF⟩
def regP (x : ND) : Prop := AGood x.2.2.1
theorem lrg_F (x : ND) (hp : regP x) : lrgF x (fun r => r = regS x) := by
 obtain ⟨h12, hv⟩ := hp
 refine ⟨⟨by omega, fun _ => trivial⟩, ?_⟩
 have hd : difxS x.2.2.1 (fun y0 => lrcM y0) = idxN (fun a : AT => a.1 == regW) x.2.2.1 0 := rfl
 rcases idx_find (fun a : AT => a.1 == regW) x.2.2.1 0 with ⟨h1, h2⟩ | ⟨j, h1, hj, h2⟩
 ·have ha : attS x.2.2.1 regW = ([], false) := by unfold attS; rw [h2]
  have hr : regS x = [] := by unfold regS regA; rw [ha]; simp
  have hv0 : lrgV0 x = true := by unfold lrgV0; rw [hd, h1]; simp
  have hj6 : lrgj6 x (fun r => r = regS x) := ⟨fun _ => hr.symm, fun h => by rw [hv0] at h; cases h⟩
  refine ⟨fun _ => hj6, fun h => ?_⟩
  rw [hd, h1] at h; simp at h
 ·have hn : difxS x.2.2.1 (fun y0 => lrcM y0) = (j : Int) := by rw [hd, h1, Nat.zero_add]
  have ha : attS x.2.2.1 regW = ((x.2.2.1.getD j default).2, true) := by unfold attS; rw [h2]
  have hlen := hv _ (mem_getD default hj)
  have e : lrgV0 x = (!(x.1 == 2) || !(plainS (x.2.2.1.getD j default).2)) := by
   unfold lrgV0
   rw [hn, decide_eq_false (show ¬ (j : Int) < 0 by omega), Bool.or_false, Int.toNat_natCast]; rfl
  have hr : regS x = if ((x.1 == 2) && plainS (x.2.2.1.getD j default).2) = true then (x.2.2.1.getD j default).2 else [] := by
   unfold regS regA
   rw [ha]
   cases (x.1 == 2) <;> simp
  have hj6 : lrgj6 x (fun r => r = regS x) := by
   unfold lrgj6
   rw [hn, e, hr, Int.toNat_natCast]
   generalize plainS (x.2.2.1.getD j default).2 = p
   generalize (x.1 == 2) = b
   refine ⟨fun h => ?_, fun h => ⟨by omega, hj, ?_⟩⟩
   ·cases b <;> cases p <;> first | rfl | cases h
   ·cases b <;> cases p <;> first | rfl | cases h
  refine ⟨fun _ => hj6, fun h => ⟨by rw [hn]; omega, by rw [hn, Int.toNat_natCast]; exact hj, ?_, hj6⟩⟩
  rw [hn, Int.toNat_natCast]
  unfold cutP; omega
set_option linter.unusedVariables false in
theorem lrg_c {g : Ghost} {axx_0 : Option Addr} {cxx_0 : Nat} {axx_1 : Option Addr} {cxx_1 : Nat} (xx : Int × List UInt8 × (List (List UInt8 × List UInt8)) × List UInt8 × Int × List (Int)) (hRxx_0 : Rep g (.slice (.pair (.str) (.str))) [.slice axx_0 xx.2.2.1.length cxx_0] xx.2.2.1) (hRxx_1 : Rep g (.slice (.int .i64)) [.slice axx_1 xx.2.2.2.2.2.length cxx_1] xx.2.2.2.2.2) (hG2 : SomeInt g 2)  (hp : regP xx) : CallsG Tryz.prog 58 #[.agg #[.int .i64 xx.1, .string ⟨⟨xx.2.1⟩⟩, .slice axx_0 xx.2.2.1.length cxx_0, .string ⟨⟨xx.2.2.2.1⟩⟩, .int .i64 xx.2.2.2.2.1, .slice axx_1 xx.2.2.2.2.2.length cxx_1]] g (.string ⟨⟨(regS xx)⟩⟩) :=
 (lrg_ok xx hRxx_0 hRxx_1 hG2 _ (lrg_F xx hp)).gives (by rintro g' H' v _ ⟨r0, rfl, rfl, hK⟩; subst hK; rfl)
def lowl5b (xd : (List (Int × List UInt8 × (List (List UInt8 × List UInt8)) × List UInt8 × Int × List (Int))) × Bool) (K : (List UInt8) → Prop) (x1l5 : Int) (C5 : Int → Prop) : Prop :=
 ((decide (x1l5 ≥ 0)) = true → (0 : Int) ≤ x1l5 ∧ Int.toNat x1l5 < xd.1.length ∧ regP (xd.1.getD (Int.toNat x1l5) default) ∧ ((!((regS (xd.1.getD (Int.toNat x1l5) default)) == ([] : List UInt8))) = true → K (regS (xd.1.getD (Int.toNat x1l5) default))) ∧ ((!((regS (xd.1.getD (Int.toNat x1l5) default)) == ([] : List UInt8))) = false → C5 ((xd.1.getD (Int.toNat x1l5) default).2.2.2.2.1))) ∧ ((decide (x1l5 ≥ 0)) = false → K ([] : List UInt8))
def lowl5 (xd : (List (Int × List UInt8 × (List (List UInt8 × List UInt8)) × List UInt8 × Int × List (Int))) × Bool) (K : (List UInt8) → Prop) : Nat → Int → Prop
 | 0, _ => False
 | k + 1, x1l5 => lowl5b xd K x1l5 (lowl5 xd K k)
def lowF (xd : (List (Int × List UInt8 × (List (List UInt8 × List UInt8)) × List UInt8 × Int × List (Int))) × Bool) (xn : Int) (K : (List UInt8) → Prop) : Prop :=
 ∃ k, lowl5 xd K k xn
set_option maxHeartbeats 4000000 in
set_option maxRecDepth 100000 in
set_option linter.unusedVariables false in
theorem low_ok {g : Ghost} {axd_0 : Option Addr} {cxd_0 : Nat} (xd : (List (Int × List UInt8 × (List (List UInt8 × List UInt8)) × List UInt8 × Int × List (Int))) × Bool) (xn : Int) (hRxd_0 : Rep g (.slice (.pair (.int .i64) (.pair (.str) (.pair (.slice (.pair (.str) (.str))) (.pair (.str) (.pair (.int .i64) (.slice (.int .i64)))))))) [.slice axd_0 xd.1.length cxd_0] xd.1) (hG2 : SomeInt g 2) (K : (List UInt8) → Prop)
  (hF : lowF xd xn K) : CallsH Tryz.prog 29 #[.agg #[.slice axd_0 xd.1.length cxd_0, .bool xd.2], .int .i64 xn] g [] (fun g' H' v => ∃ (r0 : List UInt8), v = .string ⟨⟨r0⟩⟩ ∧ H' = [] ∧ K r0) := by
 refine CallsH.enter 23 [(0, .agg #[.slice axd_0 xd.1.length cxd_0, .bool xd.2]), (1, .int .i64 xn)] Tryz.func29 rfl (by kernel_rfl) (by kernel_rfl) (by kernel_rfl) fun w0 => ?_
 refine Ok.seq ?_
 refine Ok.region ?_
 refine Ok.op rfl (OpOk.box (v := .agg #[.slice axd_0 xd.1.length cxd_0, .bool xd.2]) (cs := #[.slice axd_0 xd.1.length cxd_0, .bool xd.2]) rfl (by kernel_rfl) rfl fun b1 => ?_)
 refine Ok.batch 1 [(1, .int .i64 xn), (2, .pointer (some ⟨b1, 0, none⟩))] (by kernel_rfl) ?_
 refine Ok.nil ?_
 refine Ok.thenN ?_
 refine Ok.seq ?_
 refine Ok.block ?_
 obtain ⟨k, hF⟩ := hF
 refine Ok.loop (fun k a W => ∃ (x1l5 : Int), StA 23 [(1, .int .i64 x1l5), (2, .pointer (some ⟨b1, 0, none⟩))] a ∧ StW w0 [.blk b1 (.cells #[.slice axd_0 xd.1.length cxd_0, .bool xd.2] 24)] g W ∧ lowl5 xd K k x1l5) k ?_ ?_
 ·
  exact fun a W hA hW => ⟨xn, hA.sub (by kernel_rfl), hW, hF⟩
 ·
  clear hF
  rintro k5 a W ⟨x1l5, hA, hW, hF⟩
  cases k5 with
  | zero => exact (hF : False).elim
  | succ k5 =>
   refine (?_ : Ok _ _ _ _ _ _) a W hA hW
   clear hA hW
   refine Ok.seq ?_
   refine Ok.seq ?_
   refine Ok.region ?_
   refine Ok.batch 2 [(1, .int .i64 x1l5), (2, .pointer (some ⟨b1, 0, none⟩)), (7, .bool (decide (x1l5 ≥ 0)))] (by kernel_rfl) ?_
   refine Ok.nil ?_
   refine Ok.thenN ?_
   refine Ok.cond (b := decide (x1l5 ≥ 0)) rfl (fun hc2 => ?_) (fun hc2 => ?_)
   ·replace hF := hF.1 hc2
    refine Ok.skip ?_
    refine Ok.thenN ?_
    refine Ok.seq ?_
    refine Ok.block ?_
    refine Ok.seq ?_
    refine Ok.region ?_
    refine Ok.batch 1 [(1, .int .i64 x1l5), (2, .pointer (some ⟨b1, 0, none⟩)), (14, .pointer (some ⟨b1, 0, none⟩))] (by kernel_rfl) ?_
    refine Ok.op rfl (OpOk.step (v := .slice axd_0 xd.1.length cxd_0) (Yields.load 0 rfl rfl Tryz.underlying22 rfl (by kernel_rfl)) rfl rfl ?_)
    refine Ok.batch 1 [(1, .int .i64 x1l5), (2, .pointer (some ⟨b1, 0, none⟩)), (15, .slice axd_0 xd.1.length cxd_0), (16, .int .i64 x1l5)] (by kernel_rfl) ?_
    obtain ⟨h04, h14, hF⟩ := hF
    have he4 := get_of (l := xd.1) (default : Int × List UInt8 × (List (List UInt8 × List UInt8)) × List UInt8 × Int × List (Int)) h14
    generalize hg4 : (xd.1.getD (Int.toNat x1l5) default) = e4 at he4 hF ⊢
    refine Ok.op rfl (OpOk.indexRo (e := .pair (.int .i64) (.pair (.str) (.pair (.slice (.pair (.str) (.str))) (.pair (.str) (.pair (.int .i64) (.slice (.int .i64))))))) (i := x1l5) (el := e4) rfl rfl Tryz.underlying22 (by kernel_rfl) hRxd_0 h04 he4 rfl fun q3 o3 cs3 _ hat3 hr3 => ?_)
    obtain ⟨_, _, rfl, rfl, ⟨_, _, rfl, rfl, ⟨_, _, rfl, ⟨a3_2, c3_2, rfl, hm3_2, hr3_2⟩, ⟨_, _, rfl, rfl, ⟨_, _, rfl, rfl, ⟨a3_5, c3_5, rfl, hm3_5, hr3_5⟩⟩⟩⟩⟩⟩ := hr3
    have hR3_2 : Rep g (.slice (.pair (.str) (.str))) [.slice a3_2 e4.2.2.1.length c3_2] e4.2.2.1 := ⟨a3_2, c3_2, rfl, hm3_2, hr3_2⟩
    have hR3_5 : Rep g (.slice (.int .i64)) [.slice a3_5 e4.2.2.2.2.2.length c3_5] e4.2.2.2.2.2 := ⟨a3_5, c3_5, rfl, hm3_5, hr3_5⟩
    replace hat3 : At g q3 o3 [.int .i64 e4.1, .string ⟨⟨e4.2.1⟩⟩, .slice a3_2 e4.2.2.1.length c3_2, .string ⟨⟨e4.2.2.2.1⟩⟩, .int .i64 e4.2.2.2.2.1, .slice a3_5 e4.2.2.2.2.2.length c3_5] := hat3
    refine Ok.op rfl (OpOk.step (v := .agg #[.int .i64 e4.1, .string ⟨⟨e4.2.1⟩⟩, .slice a3_2 e4.2.2.1.length c3_2, .string ⟨⟨e4.2.2.2.1⟩⟩, .int .i64 e4.2.2.2.2.1, .slice a3_5 e4.2.2.2.2.2.length c3_5]) (Yields.loadAggRo 0 6 #[.int .i64 e4.1, .string ⟨⟨e4.2.1⟩⟩, .slice a3_2 e4.2.2.1.length c3_2, .string ⟨⟨e4.2.2.2.1⟩⟩, .int .i64 e4.2.2.2.2.1, .slice a3_5 e4.2.2.2.2.2.length c3_5] hat3 (by kernel_rfl) Tryz.underlying74 rfl (by kernel_rfl) (by kernel_rfl) (by kernel_rfl)) rfl rfl ?_)
    obtain ⟨hp5, hF⟩ := hF
    refine Ok.op rfl (OpOk.callG (v := .string ⟨⟨(regS e4)⟩⟩) (enters (by kernel_rfl) (fun _ => by kernel_rfl)) (fun W hW => lrg_c e4 (hR3_2.mono hW.sees) (hR3_5.mono hW.sees) (hG2.mono hW.sees) hp5) rfl ?_)
    refine Ok.batch 1 [(1, .int .i64 x1l5), (2, .pointer (some ⟨b1, 0, none⟩)), (5, .string ⟨⟨(regS e4)⟩⟩)] (by kernel_rfl) ?_
    refine Ok.nil ?_
    refine Ok.thenN ?_
    refine Ok.seq ?_
    refine Ok.region ?_
    refine Ok.batch 1 [(1, .int .i64 x1l5), (2, .pointer (some ⟨b1, 0, none⟩)), (5, .string ⟨⟨(regS e4)⟩⟩), (20, .string ⟨⟨(regS e4)⟩⟩)] (by kernel_rfl) ?_
    refine Ok.op rfl (OpOk.step (v := .bool (!((regS e4) == ([] : List UInt8)))) (Yields.strCmp (f := .neq) (a := (regS e4)) (b := ([] : List UInt8)) (by kernel_rfl) (by kernel_rfl) rfl) rfl rfl ?_)
    refine Ok.nil ?_
    refine Ok.thenN ?_
    refine Ok.cond (b := !((regS e4) == ([] : List UInt8))) rfl (fun hc6 => ?_) (fun hc6 => ?_)
    ·replace hF := hF.1 hc6
     refine Ok.seq ?_
     refine Ok.region ?_
     refine Ok.batch 2 [(4, .string ⟨⟨(regS e4)⟩⟩)] (by kernel_rfl) ?_
     refine Ok.nil ?_
     refine Ok.thenN ?_
     refine Ok.ret ?_
     refine Ok.blockR ?_
     refine Ok.thenR ?_
     refine Ok.thenR ?_
     refine Ok.blockR ?_
     refine Ok.thenR ?_
     exact Ok.resP (vs := [.string ⟨⟨(regS e4)⟩⟩]) [] [] (by decide) rfl (.inl rfl) rfl (.cons (.tmp rfl) .nil) (Gext.refl w0 g) ⟨(regS e4), rfl, rfl, hF⟩
    ·replace hF := hF.2 hc6
     refine Ok.skip ?_
     refine Ok.blockN ?_
     refine Ok.thenN ?_
     refine Ok.region ?_
     refine Ok.batch 1 [(1, .int .i64 x1l5), (2, .pointer (some ⟨b1, 0, none⟩)), (8, .pointer (some ⟨b1, 0, none⟩))] (by kernel_rfl) ?_
     refine Ok.op rfl (OpOk.step (v := .slice axd_0 xd.1.length cxd_0) (Yields.load 0 rfl rfl Tryz.underlying22 rfl (by kernel_rfl)) rfl rfl ?_)
     refine Ok.batch 1 [(2, .pointer (some ⟨b1, 0, none⟩)), (9, .slice axd_0 xd.1.length cxd_0), (10, .int .i64 x1l5)] (by kernel_rfl) ?_
     refine Ok.op rfl (OpOk.indexRo (e := .pair (.int .i64) (.pair (.str) (.pair (.slice (.pair (.str) (.str))) (.pair (.str) (.pair (.int .i64) (.slice (.int .i64))))))) (i := x1l5) (el := e4) rfl rfl Tryz.underlying22 (by kernel_rfl) hRxd_0 h04 he4 rfl fun q7 o7 cs7 _ hat7 hr7 => ?_)
     obtain ⟨_, _, rfl, rfl, ⟨_, _, rfl, rfl, ⟨_, _, rfl, ⟨a7_2, c7_2, rfl, hm7_2, hr7_2⟩, ⟨_, _, rfl, rfl, ⟨_, _, rfl, rfl, ⟨a7_5, c7_5, rfl, hm7_5, hr7_5⟩⟩⟩⟩⟩⟩ := hr7
     have hR7_2 : Rep g (.slice (.pair (.str) (.str))) [.slice a7_2 e4.2.2.1.length c7_2] e4.2.2.1 := ⟨a7_2, c7_2, rfl, hm7_2, hr7_2⟩
     have hR7_5 : Rep g (.slice (.int .i64)) [.slice a7_5 e4.2.2.2.2.2.length c7_5] e4.2.2.2.2.2 := ⟨a7_5, c7_5, rfl, hm7_5, hr7_5⟩
     replace hat7 : At g q7 o7 [.int .i64 e4.1, .string ⟨⟨e4.2.1⟩⟩, .slice a7_2 e4.2.2.1.length c7_2, .string ⟨⟨e4.2.2.2.1⟩⟩, .int .i64 e4.2.2.2.2.1, .slice a7_5 e4.2.2.2.2.2.length c7_5] := hat7
     refine Ok.batch 1 [(2, .pointer (some ⟨b1, 0, none⟩)), (12, .pointer (some ⟨q7, o7 + 4, none⟩))] (by kernel_rfl) ?_
     refine Ok.op rfl (OpOk.step (v := .int .i64 e4.2.2.2.2.1) (Yields.loadRo 4 hat7 (by kernel_rfl) Tryz.underlying3 rfl (by kernel_rfl)) rfl rfl ?_)
     refine Ok.batch 1 [(1, .int .i64 e4.2.2.2.2.1), (2, .pointer (some ⟨b1, 0, none⟩))] (by kernel_rfl) ?_
     refine Ok.nil ?_
     refine Ok.thenN ?_
     subst hg4
     exact fun a W hA hW => ⟨k5, Nat.lt_succ_self _, (xd.1.getD (Int.toNat x1l5) default).2.2.2.2.1, hA.sub (by kernel_rfl), hW, hF⟩
   ·replace hF := hF.2 hc2
    refine Ok.exit ?_
    refine Ok.thenE ?_
    refine Ok.thenE ?_
    refine Ok.blockHit ?_
    refine Ok.thenN ?_
    refine Ok.seq ?_
    refine Ok.region ?_
    refine Ok.batch 1 [(4, .string ⟨⟨([] : List UInt8)⟩⟩)] (by kernel_rfl) ?_
    refine Ok.nil ?_
    refine Ok.thenN ?_
    refine Ok.ret ?_
    exact Ok.resP (vs := [.string ⟨⟨([] : List UInt8)⟩⟩]) [] [] (by decide) rfl (.inl rfl) rfl (.cons (.tmp rfl) .nil) (Gext.refl w0 g) ⟨([] : List UInt8), rfl, rfl, hF⟩
def ownP (d : DC) (n : Int) : Prop := (∀ x ∈ d.1, AGood x.2.2.1) ∧ Ends d.1 41 n
theorem low_loop (d : DC) (hg : ∀ x ∈ d.1, AGood x.2.2.1) (R : List UInt8) : ∀ (k : Nat) (n : Int), Ends d.1 k n → R = ownN d.1 (k + 1) n → lowl5 d (fun r => r = R) (k + 1) n
 | 0, n, h, hR => by
  have h : n < 0 := h
  rw [ownN, if_t (decide_eq_true h)] at hR
  exact ⟨fun h2 => by have := of_decide_eq_true h2; omega, fun _ => hR.symm⟩
 | k + 1, n, h, hR => by
  rw [ownN] at hR
  by_cases h0 : n < 0
  ·rw [if_t (decide_eq_true h0)] at hR
   exact ⟨fun h2 => by have := of_decide_eq_true h2; omega, fun _ => hR.symm⟩
  ·rw [if_f (decide_eq_false h0)] at hR
   rcases h with h | ⟨h1, h2⟩
   ·exact absurd h h0
   refine ⟨fun _ => ⟨by omega, by omega, hg _ (mem_getD default (by omega)), fun hc => ?_, fun hc => ?_⟩, fun h2 => by have := of_decide_eq_false h2; omega⟩
   ·rw [if_f (by simpa using hc)] at hR; exact hR.symm
   ·rw [if_t (by simpa using hc)] at hR
    exact low_loop d hg R k _ h2 hR
theorem low_F (d : DC) (n : Int) (hp : ownP d n) : lowF d n (fun r => r = ownS d n) := ⟨42, low_loop d hp.1 _ 41 n hp.2 rfl⟩
set_option linter.unusedVariables false in
theorem low_c {g : Ghost} {axd_0 : Option Addr} {cxd_0 : Nat} (xd : (List (Int × List UInt8 × (List (List UInt8 × List UInt8)) × List UInt8 × Int × List (Int))) × Bool) (xn : Int) (hRxd_0 : Rep g (.slice (.pair (.int .i64) (.pair (.str) (.pair (.slice (.pair (.str) (.str))) (.pair (.str) (.pair (.int .i64) (.slice (.int .i64)))))))) [.slice axd_0 xd.1.length cxd_0] xd.1) (hG2 : SomeInt g 2)  (hp : ownP xd xn) : CallsG Tryz.prog 29 #[.agg #[.slice axd_0 xd.1.length cxd_0, .bool xd.2], .int .i64 xn] g (.string ⟨⟨(ownS xd xn)⟩⟩) :=
 (low_ok xd xn hRxd_0 hG2 _ (low_F xd xn hp)).gives (by rintro g' H' v _ ⟨r0, rfl, rfl, hK⟩; subst hK; rfl)
def losV2 (xd : (List (Int × List UInt8 × (List (List UInt8 × List UInt8)) × List UInt8 × Int × List (Int))) × Bool) (x20l19 : Int) (yown4_0l19 : List (List UInt8)) : List (List UInt8) :=
 (if ((xd.1.getD (Int.toNat x20l19) default).1 == 2) = true then (yown4_0l19.set (Int.toNat x20l19) (ownS xd x20l19)) else yown4_0l19)
def losj26 (xd : (List (Int × List UInt8 × (List (List UInt8 × List UInt8)) × List UInt8 × Int × List (Int))) × Bool) (x20l19 : Int) (yown4_0l19 : List (List UInt8)) (C19 : Int → (List (List UInt8)) → Prop) : Prop :=
 C19 (IntKind.wrap .i64 (x20l19 + 1)) (losV2 xd x20l19 yown4_0l19)
def losl19b (xd : (List (Int × List UInt8 × (List (List UInt8 × List UInt8)) × List UInt8 × Int × List (Int))) × Bool) (K : (List (List UInt8)) → Int → Prop) (x20l19 : Int) (yown4_0l19 : List (List UInt8)) (C19 : Int → (List (List UInt8)) → Prop) : Prop :=
 ((decide (x20l19 < (xd.1.length : Int))) = true → (0 : Int) ≤ x20l19 ∧ Int.toNat x20l19 < xd.1.length ∧ ((((xd.1.getD (Int.toNat x20l19) default).1 == 2)) = true → ownP xd x20l19 ∧ (0 : Int) ≤ x20l19 ∧ Int.toNat x20l19 < yown4_0l19.length ∧ losj26 xd x20l19 yown4_0l19 C19) ∧ ((((xd.1.getD (Int.toNat x20l19) default).1 == 2)) = false → losj26 xd x20l19 yown4_0l19 C19)) ∧ ((decide (x20l19 < (xd.1.length : Int))) = false → K yown4_0l19 0)
def losl19 (xd : (List (Int × List UInt8 × (List (List UInt8 × List UInt8)) × List UInt8 × Int × List (Int))) × Bool) (K : (List (List UInt8)) → Int → Prop) : Nat → Int → (List (List UInt8)) → Prop
 | 0, _, _ => False
 | k + 1, x20l19, yown4_0l19 => losl19b xd K x20l19 yown4_0l19 (losl19 xd K k)
def losF (xd : (List (Int × List UInt8 × (List (List UInt8 × List UInt8)) × List UInt8 × Int × List (Int))) × Bool) (K : (List (List UInt8)) → Int → Prop) : Prop :=
 dchkP xd ∧ ((((dchkS xd) != 0)) = true → K ([]) (dchkS xd)) ∧ ((((dchkS xd) != 0)) = false → (0 : Int) ≤ (xd.1.length : Int) ∧ (xd.1.length : Int) ≤ 8796093022208 ∧ ∃ k, losl19 xd K k 0 (List.replicate (Int.toNat (xd.1.length : Int)) ([] : List UInt8)))
set_option maxHeartbeats 4000000 in
set_option maxRecDepth 100000 in
set_option linter.unusedVariables false in
theorem los_ok {g : Ghost} {axd_0 : Option Addr} {cxd_0 : Nat} (xd : (List (Int × List UInt8 × (List (List UInt8 × List UInt8)) × List UInt8 × Int × List (Int))) × Bool) (hRxd_0 : Rep g (.slice (.pair (.int .i64) (.pair (.str) (.pair (.slice (.pair (.str) (.str))) (.pair (.str) (.pair (.int .i64) (.slice (.int .i64)))))))) [.slice axd_0 xd.1.length cxd_0] xd.1) (hG2 : SomeInt g 2) (K : (List (List UInt8)) → Int → Prop)
  (hF : losF xd K) : CallsH Tryz.prog 7 #[.agg #[.slice axd_0 xd.1.length cxd_0, .bool xd.2]] g [] (fun g' H' v => ∃ (r0 : List (List UInt8)), ∃ (r1 : Int), ∃ (ar0_0 : Option Addr) (cr0_0 : Nat), v = .tuple #[.slice ar0_0 r0.length cr0_0, .int .i64 r1] ∧ Rep g' (.slice (.str)) [.slice ar0_0 r0.length cr0_0] r0 ∧ H' = [] ∧ K r0 r1) := by
 refine CallsH.enter 36 [(0, .agg #[.slice axd_0 xd.1.length cxd_0, .bool xd.2])] Tryz.func7 rfl (by kernel_rfl) (by kernel_rfl) (by kernel_rfl) fun w0 => ?_
 refine Ok.seq ?_
 refine Ok.region ?_
 refine Ok.op rfl (OpOk.box (v := .agg #[.slice axd_0 xd.1.length cxd_0, .bool xd.2]) (cs := #[.slice axd_0 xd.1.length cxd_0, .bool xd.2]) rfl (by kernel_rfl) rfl fun b1 => ?_)
 refine Ok.batch 2 [(1, .pointer (some ⟨b1, 0, none⟩))] (by kernel_rfl) ?_
 refine Ok.nil ?_
 refine Ok.thenN ?_
 refine Ok.seq ?_
 refine Ok.seq ?_
 refine Ok.region ?_
 refine Ok.op rfl (OpOk.step (v := .agg #[.slice axd_0 xd.1.length cxd_0, .bool xd.2]) (Yields.loadAgg 0 2 #[.slice axd_0 xd.1.length cxd_0, .bool xd.2] rfl rfl Tryz.underlying24 rfl (by kernel_rfl) (by kernel_rfl) (by kernel_rfl)) rfl rfl ?_)
 obtain ⟨hp2, hF⟩ := hF
 refine Ok.op rfl (OpOk.callG (v := .int .i64 (dchkS xd)) (enters (by kernel_rfl) (fun _ => by kernel_rfl)) (fun W hW => dchk_c xd (hRxd_0.mono hW.sees) hp2) rfl ?_)
 refine Ok.batch 1 [(1, .pointer (some ⟨b1, 0, none⟩)), (4, .int .i64 (dchkS xd))] (by kernel_rfl) ?_
 refine Ok.nil ?_
 refine Ok.thenN ?_
 refine Ok.seq ?_
 refine Ok.region ?_
 refine Ok.batch 2 [(1, .pointer (some ⟨b1, 0, none⟩)), (4, .int .i64 (dchkS xd)), (11, .bool ((dchkS xd) != 0))] (by kernel_rfl) ?_
 refine Ok.nil ?_
 refine Ok.thenN ?_
 refine Ok.cond (b := ((dchkS xd) != 0)) rfl (fun hc3 => ?_) (fun hc3 => ?_)
 ·replace hF := hF.1 hc3
  refine Ok.seq ?_
  refine Ok.region ?_
  refine Ok.batch 3 [(2, .slice none 0 0), (3, .int .i64 (dchkS xd))] (by kernel_rfl) ?_
  refine Ok.nil ?_
  refine Ok.thenN ?_
  refine Ok.ret ?_
  refine Ok.thenR ?_
  exact Ok.resP (vs := [.slice none 0 0, .int .i64 (dchkS xd)]) [] [] (by decide) rfl (.inl rfl) rfl (.cons (.tmp rfl) (.cons (.tmp rfl) .nil)) (Gext.refl w0 g) ⟨([]), (dchkS xd), none, 0, rfl, Rep.nil, rfl, hF⟩
 ·replace hF := hF.2 hc3
  refine Ok.skip ?_
  refine Ok.thenN ?_
  refine Ok.seq ?_
  refine Ok.region ?_
  refine Ok.batch 1 [(1, .pointer (some ⟨b1, 0, none⟩)), (13, .pointer (some ⟨b1, 0, none⟩))] (by kernel_rfl) ?_
  refine Ok.op rfl (OpOk.step (v := .slice axd_0 xd.1.length cxd_0) (Yields.load 0 rfl rfl Tryz.underlying22 rfl (by kernel_rfl)) rfl rfl ?_)
  refine Ok.batch 1 [(1, .pointer (some ⟨b1, 0, none⟩)), (15, .int .i64 (xd.1.length : Int))] (by kernel_rfl) ?_
  obtain ⟨h04, h14, hF⟩ := hF
  refine Ok.op rfl (OpOk.makeZero (e := .str) (E := 9) (nn := (xd.1.length : Int)) (y := ([] : List UInt8)) (z := .string ⟨⟨([] : List UInt8)⟩⟩) 16 8796093022208 rfl rfl Tryz.underlying28 (by kernel_rfl) (by kernel_rfl) (by kernel_rfl) rfl h04 h14 rfl fun a4 c4 xs4 hL4 => ?_)
  refine Ok.batch 1 [(1, .pointer (some ⟨b1, 0, none⟩)), (5, .slice a4 (List.replicate (Int.toNat (xd.1.length : Int)) ([] : List UInt8)).length c4)] (by kernel_rfl) ?_
  refine Ok.nil ?_
  refine Ok.thenN ?_
  refine Ok.seq ?_
  refine Ok.seq ?_
  refine Ok.region ?_
  refine Ok.batch 1 [(1, .pointer (some ⟨b1, 0, none⟩)), (5, .slice a4 (List.replicate (Int.toNat (xd.1.length : Int)) ([] : List UInt8)).length c4), (17, .pointer (some ⟨b1, 0, none⟩))] (by kernel_rfl) ?_
  refine Ok.op rfl (OpOk.step (v := .slice axd_0 xd.1.length cxd_0) (Yields.load 1 rfl rfl Tryz.underlying22 rfl (by kernel_rfl)) rfl rfl ?_)
  refine Ok.batch 2 [(1, .pointer (some ⟨b1, 0, none⟩)), (5, .slice a4 (List.replicate (Int.toNat (xd.1.length : Int)) ([] : List UInt8)).length c4), (18, .slice axd_0 xd.1.length cxd_0), (19, .int .i64 (xd.1.length : Int)), (20, .int .i64 0)] (by kernel_rfl) ?_
  refine Ok.nil ?_
  refine Ok.thenN ?_
  refine Ok.block ?_
  obtain ⟨k, hF⟩ := hF
  refine Ok.loop (fun k a W => ∃ gl19 : Ghost, Gext w0 g gl19 ∧ ∃ (x20l19 : Int) (ayown4_0l19 : Option Addr) (cyown4_0l19 : Nat) (yown4_0l19 : List (List UInt8)) (xsyown4_0l19 : List Value), RepL gl19 (.str) xsyown4_0l19 yown4_0l19 ∧ StA 36 [(1, .pointer (some ⟨b1, 0, none⟩)), (5, .slice ayown4_0l19 yown4_0l19.length cyown4_0l19), (18, .slice axd_0 xd.1.length cxd_0), (19, .int .i64 (xd.1.length : Int)), (20, .int .i64 x20l19)] a ∧ StW w0 [.own (.slice ayown4_0l19 yown4_0l19.length cyown4_0l19) 9 1 yown4_0l19.length xsyown4_0l19, .blk b1 (.cells #[.slice axd_0 xd.1.length cxd_0, .bool xd.2] 24)] gl19 W ∧ losl19 xd K k x20l19 yown4_0l19) k ?_ ?_
  ·
   exact fun a W hA hW => ⟨g, (Gext.refl w0 g), 0, a4, c4, (List.replicate (Int.toNat (xd.1.length : Int)) ([] : List UInt8)), xs4, hL4, hA.sub (by kernel_rfl), hW, hF⟩
  ·
   clear hF
   rintro k19 a W ⟨gl19, hxl19, x20l19, ayown4_0l19, cyown4_0l19, yown4_0l19, xsyown4_0l19, hLyown4_0l19, hA, hW, hF⟩
   cases k19 with
   | zero => exact (hF : False).elim
   | succ k19 =>
    refine (?_ : Ok _ _ _ _ _ _) a W hA hW
    clear hA hW
    replace hRxd_0 := hRxd_0.mono hxl19.1
    replace hG2 := hG2.mono hxl19.1
    refine Ok.seq ?_
    refine Ok.region ?_
    refine Ok.batch 1 [(1, .pointer (some ⟨b1, 0, none⟩)), (5, .slice ayown4_0l19 yown4_0l19.length cyown4_0l19), (18, .slice axd_0 xd.1.length cxd_0), (19, .int .i64 (xd.1.length : Int)), (20, .int .i64 x20l19), (21, .bool (decide (x20l19 < (xd.1.length : Int))))] (by kernel_rfl) ?_
    refine Ok.nil ?_
    refine Ok.thenN ?_
    refine Ok.seq ?_
    refine Ok.cond (b := decide (x20l19 < (xd.1.length : Int))) rfl (fun hc5 => ?_) (fun hc5 => ?_)
    ·replace hF := hF.1 hc5
     refine Ok.skip ?_
     refine Ok.thenN ?_
     refine Ok.cut (fun a W => ∃ gj26 : Ghost, Gext w0 gl19 gj26 ∧ ∃ (ayown4_0j26 : Option Addr) (cyown4_0j26 : Nat) (xsyown4_0j26 : List Value), RepL gj26 (.str) xsyown4_0j26 (losV2 xd x20l19 yown4_0l19) ∧ StA 36 [(1, .pointer (some ⟨b1, 0, none⟩)), (5, .slice ayown4_0j26 (losV2 xd x20l19 yown4_0l19).length cyown4_0j26), (18, .slice axd_0 xd.1.length cxd_0), (19, .int .i64 (xd.1.length : Int)), (20, .int .i64 x20l19)] a ∧ StW w0 [.own (.slice ayown4_0j26 (losV2 xd x20l19 yown4_0l19).length cyown4_0j26) 9 1 (losV2 xd x20l19 yown4_0l19).length xsyown4_0j26, .blk b1 (.cells #[.slice axd_0 xd.1.length cxd_0, .bool xd.2] 24)] gj26 W ∧ losj26 xd x20l19 yown4_0l19 (losl19 xd K k19)) ?_ ?_
     ·
      refine Ok.block ?_
      refine Ok.seq ?_
      refine Ok.region ?_
      refine Ok.batch 1 [(1, .pointer (some ⟨b1, 0, none⟩)), (5, .slice ayown4_0l19 yown4_0l19.length cyown4_0l19), (18, .slice axd_0 xd.1.length cxd_0), (19, .int .i64 (xd.1.length : Int)), (20, .int .i64 x20l19), (22, .int .i64 x20l19)] (by kernel_rfl) ?_
      obtain ⟨h07, h17, hF⟩ := hF
      have he7 := get_of (l := xd.1) (default : Int × List UInt8 × (List (List UInt8 × List UInt8)) × List UInt8 × Int × List (Int)) h17
      generalize hg7 : (xd.1.getD (Int.toNat x20l19) default) = e7 at he7 hF ⊢
      refine Ok.op rfl (OpOk.indexRo (e := .pair (.int .i64) (.pair (.str) (.pair (.slice (.pair (.str) (.str))) (.pair (.str) (.pair (.int .i64) (.slice (.int .i64))))))) (i := x20l19) (el := e7) rfl rfl Tryz.underlying22 (by kernel_rfl) hRxd_0 h07 he7 rfl fun q6 o6 cs6 _ hat6 hr6 => ?_)
      obtain ⟨_, _, rfl, rfl, ⟨_, _, rfl, rfl, ⟨_, _, rfl, ⟨a6_2, c6_2, rfl, hm6_2, hr6_2⟩, ⟨_, _, rfl, rfl, ⟨_, _, rfl, rfl, ⟨a6_5, c6_5, rfl, hm6_5, hr6_5⟩⟩⟩⟩⟩⟩ := hr6
      have hR6_2 : Rep gl19 (.slice (.pair (.str) (.str))) [.slice a6_2 e7.2.2.1.length c6_2] e7.2.2.1 := ⟨a6_2, c6_2, rfl, hm6_2, hr6_2⟩
      have hR6_5 : Rep gl19 (.slice (.int .i64)) [.slice a6_5 e7.2.2.2.2.2.length c6_5] e7.2.2.2.2.2 := ⟨a6_5, c6_5, rfl, hm6_5, hr6_5⟩
      replace hat6 : At gl19 q6 o6 [.int .i64 e7.1, .string ⟨⟨e7.2.1⟩⟩, .slice a6_2 e7.2.2.1.length c6_2, .string ⟨⟨e7.2.2.2.1⟩⟩, .int .i64 e7.2.2.2.2.1, .slice a6_5 e7.2.2.2.2.2.length c6_5] := hat6
      refine Ok.op rfl (OpOk.step (v := .agg #[.int .i64 e7.1, .string ⟨⟨e7.2.1⟩⟩, .slice a6_2 e7.2.2.1.length c6_2, .string ⟨⟨e7.2.2.2.1⟩⟩, .int .i64 e7.2.2.2.2.1, .slice a6_5 e7.2.2.2.2.2.length c6_5]) (Yields.loadAggRo 0 6 #[.int .i64 e7.1, .string ⟨⟨e7.2.1⟩⟩, .slice a6_2 e7.2.2.1.length c6_2, .string ⟨⟨e7.2.2.2.1⟩⟩, .int .i64 e7.2.2.2.2.1, .slice a6_5 e7.2.2.2.2.2.length c6_5] hat6 (by kernel_rfl) Tryz.underlying74 rfl (by kernel_rfl) (by kernel_rfl) (by kernel_rfl)) rfl rfl ?_)
      refine Ok.op rfl (OpOk.alloc (z := .agg #[.int .i64 0, .string ⟨⟨([] : List UInt8)⟩⟩, .slice none 0 0, .string ⟨⟨([] : List UInt8)⟩⟩, .int .i64 0, .slice none 0 0]) (cs := #[.int .i64 0, .string ⟨⟨([] : List UInt8)⟩⟩, .slice none 0 0, .string ⟨⟨([] : List UInt8)⟩⟩, .int .i64 0, .slice none 0 0]) (by kernel_rfl) (by kernel_rfl) rfl fun b8 => ?_)
      refine Ok.batch 1 [(1, .pointer (some ⟨b1, 0, none⟩)), (5, .slice ayown4_0l19 yown4_0l19.length cyown4_0l19), (6, .int .i64 x20l19), (7, .pointer (some ⟨b8, 0, none⟩)), (18, .slice axd_0 xd.1.length cxd_0), (19, .int .i64 (xd.1.length : Int)), (20, .int .i64 x20l19), (24, .agg #[.int .i64 e7.1, .string ⟨⟨e7.2.1⟩⟩, .slice a6_2 e7.2.2.1.length c6_2, .string ⟨⟨e7.2.2.2.1⟩⟩, .int .i64 e7.2.2.2.2.1, .slice a6_5 e7.2.2.2.2.2.length c6_5])] (by kernel_rfl) ?_
      refine Ok.op rfl (OpOk.store (k := 6) (v := .agg #[.int .i64 e7.1, .string ⟨⟨e7.2.1⟩⟩, .slice a6_2 e7.2.2.1.length c6_2, .string ⟨⟨e7.2.2.2.1⟩⟩, .int .i64 e7.2.2.2.2.1, .slice a6_5 e7.2.2.2.2.2.length c6_5]) (H' := [.blk b8 (.cells #[.int .i64 e7.1, .string ⟨⟨e7.2.1⟩⟩, .slice a6_2 e7.2.2.1.length c6_2, .string ⟨⟨e7.2.2.2.1⟩⟩, .int .i64 e7.2.2.2.2.1, .slice a6_5 e7.2.2.2.2.2.length c6_5] 74), .own (.slice ayown4_0l19 yown4_0l19.length cyown4_0l19) 9 1 yown4_0l19.length xsyown4_0l19, .blk b1 (.cells #[.slice axd_0 xd.1.length cxd_0, .bool xd.2] 24)]) 0 rfl rfl rfl (by kernel_rfl) (by kernel_rfl) (by kernel_rfl) (by kernel_rfl) (by kernel_rfl) ?_)
      refine Ok.nil ?_
      refine Ok.thenN ?_
      refine Ok.seq ?_
      refine Ok.region ?_
      refine Ok.batch 1 [(1, .pointer (some ⟨b1, 0, none⟩)), (5, .slice ayown4_0l19 yown4_0l19.length cyown4_0l19), (6, .int .i64 x20l19), (18, .slice axd_0 xd.1.length cxd_0), (19, .int .i64 (xd.1.length : Int)), (20, .int .i64 x20l19), (25, .pointer (some ⟨b8, 0, none⟩))] (by kernel_rfl) ?_
      refine Ok.op rfl (OpOk.step (v := .int .i64 e7.1) (Yields.load 0 rfl rfl Tryz.underlying3 rfl (by kernel_rfl)) rfl rfl ?_)
      refine Ok.batch 1 [(1, .pointer (some ⟨b1, 0, none⟩)), (5, .slice ayown4_0l19 yown4_0l19.length cyown4_0l19), (6, .int .i64 x20l19), (18, .slice axd_0 xd.1.length cxd_0), (19, .int .i64 (xd.1.length : Int)), (20, .int .i64 x20l19), (27, .bool (e7.1 == 2))] (by kernel_rfl) ?_
      refine Ok.nil ?_
      refine Ok.thenN ?_
      refine Ok.cond (b := (e7.1 == 2)) rfl (fun hc9 => ?_) (fun hc9 => ?_)
      ·replace hF := hF.1 hc9
       refine Ok.region ?_
       refine Ok.batch 2 [(1, .pointer (some ⟨b1, 0, none⟩)), (5, .slice ayown4_0l19 yown4_0l19.length cyown4_0l19), (6, .int .i64 x20l19), (18, .slice axd_0 xd.1.length cxd_0), (19, .int .i64 (xd.1.length : Int)), (20, .int .i64 x20l19), (28, .slice ayown4_0l19 yown4_0l19.length cyown4_0l19), (29, .int .i64 x20l19)] (by kernel_rfl) ?_
       refine Ok.op rfl (OpOk.step (v := .agg #[.slice axd_0 xd.1.length cxd_0, .bool xd.2]) (Yields.loadAgg 2 2 #[.slice axd_0 xd.1.length cxd_0, .bool xd.2] rfl rfl Tryz.underlying24 rfl (by kernel_rfl) (by kernel_rfl) (by kernel_rfl)) rfl rfl ?_)
       refine Ok.batch 1 [(1, .pointer (some ⟨b1, 0, none⟩)), (5, .slice ayown4_0l19 yown4_0l19.length cyown4_0l19), (18, .slice axd_0 xd.1.length cxd_0), (19, .int .i64 (xd.1.length : Int)), (20, .int .i64 x20l19), (28, .slice ayown4_0l19 yown4_0l19.length cyown4_0l19), (29, .int .i64 x20l19), (30, .agg #[.slice axd_0 xd.1.length cxd_0, .bool xd.2]), (31, .int .i64 x20l19)] (by kernel_rfl) ?_
       obtain ⟨hp10, hF⟩ := hF
       refine Ok.op rfl (OpOk.callG (v := .string ⟨⟨(ownS xd x20l19)⟩⟩) (enters (by kernel_rfl) (fun _ => by kernel_rfl)) (fun W hW => low_c xd x20l19 (hRxd_0.mono hW.sees) (hG2.mono hW.sees) hp10) rfl ?_)
       obtain ⟨h012, h112, hF⟩ := hF
       have he12 := get_of (l := yown4_0l19) (default : List UInt8) h112
       generalize hg12 : (yown4_0l19.getD (Int.toNat x20l19) default) = e12 at he12 hF ⊢
       refine Ok.op rfl (OpOk.indexOwn (e := .str) (q := x20l19) (el := e12) 1 rfl hLyown4_0l19 rfl rfl Tryz.underlying28 (by kernel_rfl) (by kernel_rfl) h012 he12 rfl fun cs11 _ hr11 hc11 => ?_)
       obtain rfl := hr11
       replace hc11 : ∀ j v, ([.string ⟨⟨e12⟩⟩] : List Value)[j]? = some v → xsyown4_0l19[Int.toNat x20l19 * 1 + j]? = some v := hc11
       refine Ok.op rfl (OpOk.storeOwn (e := .str) (q := Int.toNat x20l19) (cells := [.string ⟨⟨e12⟩⟩]) (vs := [.string ⟨⟨(ownS xd x20l19)⟩⟩]) (el' := (ownS xd x20l19)) 1 0 1 rfl hLyown4_0l19 hc11 (by kernel_rfl) rfl rfl rfl (by kernel_rfl) (by kernel_rfl) (by kernel_rfl) (by kernel_rfl) (by kernel_rfl) (show Rep _ _ [.string ⟨⟨(ownS xd x20l19)⟩⟩] _ from rfl) fun xs13 hL13 => ?_)
       rw [show yown4_0l19.length = (yown4_0l19.set (Int.toNat x20l19) (ownS xd x20l19)).length from (List.length_set ..).symm]
       refine Ok.nil ?_
       refine Ok.blockN ?_
       refine Ok.thenN ?_
       subst hg12
       subst hg7
       refine Ok.reval 5 rfl (show (.slice ayown4_0l19 (yown4_0l19.set (Int.toNat x20l19) (ownS xd x20l19)).length cyown4_0l19 : Value) = .slice ayown4_0l19 (losV2 xd x20l19 yown4_0l19).length cyown4_0l19 from congrArg (fun l : List (List UInt8) => Value.slice ayown4_0l19 l.length cyown4_0l19) ((if_t hc9).symm)) ?_
       refine Ok.heapEq (H' := [.blk b8 (.cells #[.int .i64 ((xd.1.getD (Int.toNat x20l19) default).1), .string ⟨⟨(xd.1.getD (Int.toNat x20l19) default).2.1⟩⟩, .slice a6_2 ((xd.1.getD (Int.toNat x20l19) default).2.2.1).length c6_2, .string ⟨⟨(xd.1.getD (Int.toNat x20l19) default).2.2.2.1⟩⟩, .int .i64 ((xd.1.getD (Int.toNat x20l19) default).2.2.2.2.1), .slice a6_5 ((xd.1.getD (Int.toNat x20l19) default).2.2.2.2.2).length c6_5] 74), .own (.slice ayown4_0l19 (losV2 xd x20l19 yown4_0l19).length cyown4_0l19) 9 1 (losV2 xd x20l19 yown4_0l19).length xs13, .blk b1 (.cells #[.slice axd_0 xd.1.length cxd_0, .bool xd.2] 24)]) (econs (rfl) (econs (congrArg (fun l : List (List UInt8) => Ent.own (.slice ayown4_0l19 l.length cyown4_0l19) 9 1 l.length xs13) ((if_t hc9).symm)) (econs (rfl) rfl))) ?_
       exact fun a W hA hW => ⟨gl19, (Gext.refl w0 gl19), ayown4_0l19, cyown4_0l19, xs13, (Eq.mp (congrArg (fun l : List (List UInt8) => RepL gl19 (.str) xs13 l) ((if_t hc9).symm)) hL13), hA.sub (by kernel_rfl), hW.sub (.cons _ (.cons_cons _ (.cons_cons _ .slnil))), hF⟩
      ·replace hF := hF.2 hc9
       refine Ok.skip ?_
       refine Ok.blockN ?_
       refine Ok.thenN ?_
       subst hg7
       refine Ok.reval 5 rfl (show (.slice ayown4_0l19 yown4_0l19.length cyown4_0l19 : Value) = .slice ayown4_0l19 (losV2 xd x20l19 yown4_0l19).length cyown4_0l19 from congrArg (fun l : List (List UInt8) => Value.slice ayown4_0l19 l.length cyown4_0l19) ((if_f hc9).symm)) ?_
       refine Ok.heapEq (H' := [.blk b8 (.cells #[.int .i64 ((xd.1.getD (Int.toNat x20l19) default).1), .string ⟨⟨(xd.1.getD (Int.toNat x20l19) default).2.1⟩⟩, .slice a6_2 ((xd.1.getD (Int.toNat x20l19) default).2.2.1).length c6_2, .string ⟨⟨(xd.1.getD (Int.toNat x20l19) default).2.2.2.1⟩⟩, .int .i64 ((xd.1.getD (Int.toNat x20l19) default).2.2.2.2.1), .slice a6_5 ((xd.1.getD (Int.toNat x20l19) default).2.2.2.2.2).length c6_5] 74), .own (.slice ayown4_0l19 (losV2 xd x20l19 yown4_0l19).length cyown4_0l19) 9 1 (losV2 xd x20l19 yown4_0l19).length xsyown4_0l19, .blk b1 (.cells #[.slice axd_0 xd.1.length cxd_0, .bool xd.2] 24)]) (econs (rfl) (econs (congrArg (fun l : List (List UInt8) => Ent.own (.slice ayown4_0l19 l.length cyown4_0l19) 9 1 l.length xsyown4_0l19) ((if_f hc9).symm)) (econs (rfl) rfl))) ?_
       exact fun a W hA hW => ⟨gl19, (Gext.refl w0 gl19), ayown4_0l19, cyown4_0l19, xsyown4_0l19, (Eq.mp (congrArg (fun l : List (List UInt8) => RepL gl19 (.str) xsyown4_0l19 l) ((if_f hc9).symm)) hLyown4_0l19), hA.sub (by kernel_rfl), hW.sub (.cons _ (.cons_cons _ (.cons_cons _ .slnil))), hF⟩
     ·
      clear hF
      rintro a W ⟨gj26, hxj26, ayown4_0j26, cyown4_0j26, xsyown4_0j26, hLyown4_0j26, hA, hW, hF⟩
      refine (?_ : Ok _ _ _ _ _ _) a W hA hW
      clear hA hW
      replace hRxd_0 := hRxd_0.mono hxj26.1
      replace hG2 := hG2.mono hxj26.1
      refine Ok.region ?_
      refine Ok.batch 2 [(1, .pointer (some ⟨b1, 0, none⟩)), (5, .slice ayown4_0j26 (losV2 xd x20l19 yown4_0l19).length cyown4_0j26), (18, .slice axd_0 xd.1.length cxd_0), (19, .int .i64 (xd.1.length : Int)), (20, .int .i64 (IntKind.wrap .i64 (x20l19 + 1)))] (by kernel_rfl) ?_
      refine Ok.nil ?_
      refine Ok.thenN ?_
      exact fun a W hA hW => ⟨k19, Nat.lt_succ_self _, gj26, (hxl19.trans hxj26), IntKind.wrap .i64 (x20l19 + 1), ayown4_0j26, cyown4_0j26, (losV2 xd x20l19 yown4_0l19), xsyown4_0j26, hLyown4_0j26, hA.sub (by kernel_rfl), hW, hF⟩
    ·replace hF := hF.2 hc5
     refine Ok.exit ?_
     refine Ok.thenE ?_
     refine Ok.thenE ?_
     refine Ok.blockHit ?_
     refine Ok.thenN ?_
     refine Ok.seq ?_
     refine Ok.region ?_
     refine Ok.batch 3 [(2, .slice ayown4_0l19 yown4_0l19.length cyown4_0l19), (3, .int .i64 0)] (by kernel_rfl) ?_
     refine Ok.nil ?_
     refine Ok.thenN ?_
     refine Ok.ret ?_
     refine Ok.freeze (H' := [.blk b1 (.cells #[.slice axd_0 xd.1.length cxd_0, .bool xd.2] 24)]) 0 rfl hLyown4_0l19 rfl fun g14 hx14 hRf14 => ?_
     replace hRxd_0 := hRxd_0.mono hx14.1
     replace hG2 := hG2.mono hx14.1
     exact Ok.resP (vs := [.slice ayown4_0l19 yown4_0l19.length cyown4_0l19, .int .i64 0]) [] [] (by decide) rfl (.inl rfl) rfl (.cons (.tmp rfl) (.cons (.tmp rfl) .nil)) (hxl19.trans hx14) ⟨yown4_0l19, 0, ayown4_0l19, cyown4_0l19, rfl, hRf14, rfl, hF⟩
def own1 (d : DC) (i : Nat) : List UInt8 := if ((d.1.getD i default).1 == 2) = true then ownS d i else []
noncomputable def ownsS (d : DC) : List (List UInt8) × Int := if (dchkS d != 0) = true then ([], dchkS d) else ((List.range d.1.length).map (own1 d), 0)
theorem los_F (d : DC) (hp : dchkP d) : losF d (fun a b => (a, b) = ownsS d) := by
 refine ⟨hp, fun h => ?_, fun h => ?_⟩
 ·unfold ownsS; rw [if_t h]
 have hz : dchkS d = 0 := by simpa using h
 have hG := (dchk_sp d hp).2 hz
 have hlen := hG.few
 have hA : ∀ x ∈ d.1, AGood x.2.2.1 := fun x hx => by
  obtain ⟨i, hi, rfl⟩ := List.getElem_of_mem hx
  have := hG.vals i hi
  rwa [List.getD_eq_getElem?_getD, List.getElem?_eq_getElem hi, Option.getD_some] at this
 have hR : ownsS d = ((List.range d.1.length).map (own1 d), 0) := by unfold ownsS; rw [if_f h]
 refine ⟨by omega, by omega, d.1.length + 1, ?_⟩
 have loop : ∀ (k i : Nat) (acc : List (List UInt8)), i + k = d.1.length → acc = (List.range i).map (own1 d) ++ List.replicate k [] → losl19 d (fun a b => (a, b) = ownsS d) (k + 1) (i : Int) acc := by
  intro k
  induction k with
  | zero =>
   intro i acc h ha
   refine ⟨fun h2 => by have := of_decide_eq_true h2; omega, fun _ => ?_⟩
   rw [hR, ha, List.replicate_zero, List.append_nil, show i = d.1.length by omega]
  | succ k ih =>
   intro i acc h ha
   have hal : acc.length = d.1.length := by rw [ha]; simp; omega
   have j26 : losj26 d (i : Int) acc (losl19 d (fun a b => (a, b) = ownsS d) (k + 1)) := by
    unfold losj26
    rw [w64 (by omega)]
    refine ih (i + 1) _ (by omega) ?_
    have e : losV2 d (i : Int) acc = acc.set i (own1 d i) := by
     unfold losV2 own1
     rw [Int.toNat_natCast]
     by_cases hc : ((d.1.getD i default).1 == 2) = true
     ·rw [if_t hc, if_t hc]
     ·have hc' : ((d.1.getD i default).1 == 2) = false := by simpa using hc
      rw [if_f hc', if_f hc', ha, List.replicate_succ, List.set_append_right _ _ (by simp)]
      simp
    rw [e, ha, List.replicate_succ, List.set_append_right _ _ (by simp), List.range_succ, List.map_append, List.append_assoc]
    simp
   refine ⟨fun _ => ⟨by omega, by omega, fun hc => ⟨⟨hA, ends_ok hG (by omega)⟩, by omega, by omega, j26⟩, fun _ => j26⟩, fun h2 => by have := of_decide_eq_false h2; omega⟩
 exact loop d.1.length 0 _ (by omega) (by rw [Int.toNat_natCast]; rfl)
set_option linter.unusedVariables false in
theorem los_c {g : Ghost} {axd_0 : Option Addr} {cxd_0 : Nat} (xd : (List (Int × List UInt8 × (List (List UInt8 × List UInt8)) × List UInt8 × Int × List (Int))) × Bool) (hRxd_0 : Rep g (.slice (.pair (.int .i64) (.pair (.str) (.pair (.slice (.pair (.str) (.str))) (.pair (.str) (.pair (.int .i64) (.slice (.int .i64)))))))) [.slice axd_0 xd.1.length cxd_0] xd.1) (hG2 : SomeInt g 2)  (hp : dchkP xd) : CallsH Tryz.prog 7 #[.agg #[.slice axd_0 xd.1.length cxd_0, .bool xd.2]] g [] (fun g' H' v => ∃ (ar0_0 : Option Addr) (cr0_0 : Nat), v = .tuple #[.slice ar0_0 ((ownsS xd).1).length cr0_0, .int .i64 ((ownsS xd).2)] ∧ Rep g' (.slice (.str)) [.slice ar0_0 ((ownsS xd).1).length cr0_0] ((ownsS xd).1) ∧ H' = []) :=
 (los_ok xd hRxd_0 hG2 _ (los_F xd hp)).mono (by rintro g' H' v _ ⟨r0, r1, ar0_0, cr0_0, rfl, hRr0_0, rfl, hK⟩; obtain ⟨rfl, rfl⟩ : r0 = (ownsS xd).1 ∧ r1 = (ownsS xd).2 := ⟨congrArg (fun z => z.1) hK, congrArg (fun z => z.2) hK⟩; exact ⟨ar0_0, cr0_0, rfl, hRr0_0, rfl⟩)
def lwiF (xsheet : List UInt8) (xwho : List UInt8) (K : (List UInt8) → Int → Prop) : Prop :=
 cutP xwho ∧ ((!(plainS xwho)) = true → K ([] : List UInt8) 3) ∧ ((!(plainS xwho)) = false → False)
set_option maxHeartbeats 4000000 in
set_option maxRecDepth 100000 in
set_option linter.unusedVariables false in
theorem lwi_ok {g : Ghost} (xsheet : List UInt8) (xwho : List UInt8) (hG2 : SomeInt g 2) (K : (List UInt8) → Int → Prop)
  (hF : lwiF xsheet xwho K) : CallsH Tryz.prog 6 #[.string ⟨⟨xsheet⟩⟩, .string ⟨⟨xwho⟩⟩] g [] (fun g' H' v => ∃ (r0 : List UInt8), ∃ (r1 : Int), v = .tuple #[.string ⟨⟨r0⟩⟩, .int .i64 r1] ∧ H' = [] ∧ K r0 r1) := by
 refine CallsH.enter 25 [(0, .string ⟨⟨xsheet⟩⟩), (1, .string ⟨⟨xwho⟩⟩)] Tryz.func6 rfl (by kernel_rfl) (by kernel_rfl) (by kernel_rfl) fun w0 => ?_
 refine Ok.seq ?_
 refine Ok.region ?_
 refine Ok.batch 2 [(0, .string ⟨⟨xsheet⟩⟩), (1, .string ⟨⟨xwho⟩⟩)] (by kernel_rfl) ?_
 refine Ok.nil ?_
 refine Ok.thenN ?_
 refine Ok.seq ?_
 refine Ok.seq ?_
 refine Ok.region ?_
 refine Ok.batch 1 [(0, .string ⟨⟨xsheet⟩⟩), (1, .string ⟨⟨xwho⟩⟩), (8, .string ⟨⟨xwho⟩⟩)] (by kernel_rfl) ?_
 obtain ⟨hp1, hF⟩ := hF
 refine Ok.op rfl (OpOk.callG (v := .bool (plainS xwho)) (enters (by kernel_rfl) (fun _ => by kernel_rfl)) (fun W hW => lnm_c xwho (hG2.mono hW.sees) hp1) rfl ?_)
 refine Ok.batch 1 [(0, .string ⟨⟨xsheet⟩⟩), (1, .string ⟨⟨xwho⟩⟩), (10, .bool (!(plainS xwho)))] (by kernel_rfl) ?_
 refine Ok.nil ?_
 refine Ok.thenN ?_
 refine Ok.cond (b := !(plainS xwho)) rfl (fun hc2 => ?_) (fun hc2 => ?_)
 ·replace hF := hF.1 hc2
  refine Ok.seq ?_
  refine Ok.region ?_
  refine Ok.batch 2 [(4, .string ⟨⟨([] : List UInt8)⟩⟩), (5, .int .i64 3)] (by kernel_rfl) ?_
  refine Ok.nil ?_
  refine Ok.thenN ?_
  refine Ok.ret ?_
  refine Ok.thenR ?_
  exact Ok.resH (vs := [.string ⟨⟨([] : List UInt8)⟩⟩, .int .i64 3]) (.inl rfl) rfl (.cons (.tmp rfl) (.cons (.tmp rfl) .nil)) (Gext.refl w0 g) ⟨([] : List UInt8), 3, rfl, rfl, hF⟩
 ·replace hF := hF.2 hc2
  refine Ok.skip ?_
  refine Ok.thenN ?_
  refine Ok.seq ?_
  exact False.elim hF
def withS (_ _ : List UInt8) : List UInt8 × Int := ([], 3)
def withP (_ w : List UInt8) : Prop := cutP w ∧ plainS w = false
theorem lwi_F (s w : List UInt8) (hp : withP s w) : lwiF s w (fun a b => (a, b) = withS s w) := ⟨hp.1, fun _ => rfl, fun h => by rw [hp.2] at h; cases h⟩
set_option linter.unusedVariables false in
theorem lwi_c {g : Ghost} (xsheet : List UInt8) (xwho : List UInt8) (hG2 : SomeInt g 2)  (hp : withP xsheet xwho) : CallsG Tryz.prog 6 #[.string ⟨⟨xsheet⟩⟩, .string ⟨⟨xwho⟩⟩] g (.tuple #[.string ⟨⟨((withS xsheet xwho).1)⟩⟩, .int .i64 ((withS xsheet xwho).2)]) :=
 (lwi_ok xsheet xwho hG2 _ (lwi_F xsheet xwho hp)).gives (by rintro g' H' v _ ⟨r0, r1, rfl, rfl, hK⟩; obtain ⟨rfl, rfl⟩ : r0 = (withS xsheet xwho).1 ∧ r1 = (withS xsheet xwho).2 := ⟨congrArg (fun z => z.1) hK, congrArg (fun z => z.2) hK⟩; rfl)
def relP (d : DC) (n : Int) : Prop := 0 ≤ n ∧ n.toNat < d.1.length
def relF (xd : (List (Int × List UInt8 × (List (List UInt8 × List UInt8)) × List UInt8 × Int × List (Int))) × Bool) (xn : Int) (K : Bool → Prop) : Prop :=
 (0 : Int) ≤ xn ∧ Int.toNat xn < xd.1.length ∧ K ((xd.1.getD (Int.toNat xn) default).1 == 2)
set_option maxHeartbeats 4000000 in
set_option maxRecDepth 100000 in
set_option linter.unusedVariables false in
theorem rel_ok {g : Ghost} {axd_0 : Option Addr} {cxd_0 : Nat} (xd : (List (Int × List UInt8 × (List (List UInt8 × List UInt8)) × List UInt8 × Int × List (Int))) × Bool) (xn : Int) (hRxd_0 : Rep g (.slice (.pair (.int .i64) (.pair (.str) (.pair (.slice (.pair (.str) (.str))) (.pair (.str) (.pair (.int .i64) (.slice (.int .i64)))))))) [.slice axd_0 xd.1.length cxd_0] xd.1) (K : Bool → Prop)
  (hF : relF xd xn K) : CallsH Tryz.prog 8 #[.agg #[.slice axd_0 xd.1.length cxd_0, .bool xd.2], .int .i64 xn] g [] (fun g' H' v => ∃ (r0 : Bool), v = .bool r0 ∧ H' = [] ∧ K r0) := by
 refine CallsH.enter 12 [(0, .agg #[.slice axd_0 xd.1.length cxd_0, .bool xd.2]), (1, .int .i64 xn)] Tryz.func8 rfl (by kernel_rfl) (by kernel_rfl) (by kernel_rfl) fun w0 => ?_
 refine Ok.seq ?_
 refine Ok.region ?_
 refine Ok.op rfl (OpOk.box (v := .agg #[.slice axd_0 xd.1.length cxd_0, .bool xd.2]) (cs := #[.slice axd_0 xd.1.length cxd_0, .bool xd.2]) rfl (by kernel_rfl) rfl fun b1 => ?_)
 refine Ok.batch 1 [(1, .int .i64 xn), (2, .pointer (some ⟨b1, 0, none⟩))] (by kernel_rfl) ?_
 refine Ok.nil ?_
 refine Ok.thenN ?_
 refine Ok.seq ?_
 refine Ok.region ?_
 refine Ok.batch 1 [(1, .int .i64 xn), (5, .pointer (some ⟨b1, 0, none⟩))] (by kernel_rfl) ?_
 refine Ok.op rfl (OpOk.step (v := .slice axd_0 xd.1.length cxd_0) (Yields.load 0 rfl rfl Tryz.underlying22 rfl (by kernel_rfl)) rfl rfl ?_)
 refine Ok.batch 1 [(6, .slice axd_0 xd.1.length cxd_0), (7, .int .i64 xn)] (by kernel_rfl) ?_
 obtain ⟨h03, h13, hF⟩ := hF
 have he3 := get_of (l := xd.1) (default : Int × List UInt8 × (List (List UInt8 × List UInt8)) × List UInt8 × Int × List (Int)) h13
 generalize hg3 : (xd.1.getD (Int.toNat xn) default) = e3 at he3 hF ⊢
 refine Ok.op rfl (OpOk.indexRo (e := .pair (.int .i64) (.pair (.str) (.pair (.slice (.pair (.str) (.str))) (.pair (.str) (.pair (.int .i64) (.slice (.int .i64))))))) (i := xn) (el := e3) rfl rfl Tryz.underlying22 (by kernel_rfl) hRxd_0 h03 he3 rfl fun q2 o2 cs2 _ hat2 hr2 => ?_)
 obtain ⟨_, _, rfl, rfl, ⟨_, _, rfl, rfl, ⟨_, _, rfl, ⟨a2_2, c2_2, rfl, hm2_2, hr2_2⟩, ⟨_, _, rfl, rfl, ⟨_, _, rfl, rfl, ⟨a2_5, c2_5, rfl, hm2_5, hr2_5⟩⟩⟩⟩⟩⟩ := hr2
 have hR2_2 : Rep g (.slice (.pair (.str) (.str))) [.slice a2_2 e3.2.2.1.length c2_2] e3.2.2.1 := ⟨a2_2, c2_2, rfl, hm2_2, hr2_2⟩
 have hR2_5 : Rep g (.slice (.int .i64)) [.slice a2_5 e3.2.2.2.2.2.length c2_5] e3.2.2.2.2.2 := ⟨a2_5, c2_5, rfl, hm2_5, hr2_5⟩
 replace hat2 : At g q2 o2 [.int .i64 e3.1, .string ⟨⟨e3.2.1⟩⟩, .slice a2_2 e3.2.2.1.length c2_2, .string ⟨⟨e3.2.2.2.1⟩⟩, .int .i64 e3.2.2.2.2.1, .slice a2_5 e3.2.2.2.2.2.length c2_5] := hat2
 refine Ok.batch 1 [(9, .pointer (some ⟨q2, o2, none⟩))] (by kernel_rfl) ?_
 refine Ok.op rfl (OpOk.step (v := .int .i64 e3.1) (Yields.loadRo 0 hat2 (by kernel_rfl) Tryz.underlying3 rfl (by kernel_rfl)) rfl rfl ?_)
 refine Ok.batch 2 [(4, .bool (e3.1 == 2))] (by kernel_rfl) ?_
 refine Ok.nil ?_
 refine Ok.thenN ?_
 refine Ok.ret ?_
 exact Ok.resP (vs := [.bool (e3.1 == 2)]) [] [] (by decide) rfl (.inl rfl) rfl (.cons (.tmp rfl) .nil) (Gext.refl w0 g) ⟨(e3.1 == 2), rfl, rfl, hF⟩
def relM (xd : (List (Int × List UInt8 × (List (List UInt8 × List UInt8)) × List UInt8 × Int × List (Int))) × Bool) (xn : Int) : Bool := ((xd.1.getD (Int.toNat xn) default).1 == 2)
set_option linter.unusedSimpArgs false in
set_option linter.unusedVariables false in
theorem relF_A (xd : (List (Int × List UInt8 × (List (List UInt8 × List UInt8)) × List UInt8 × Int × List (Int))) × Bool) (xn : Int) (hp : relP xd xn) (P : Bool → Prop) (h : P (relM xd xn)) : relF xd xn (fun k0 => P k0) := by
 unfold relM at h
 unfold relF
 refine ⟨?_, ?_, ?_⟩
 ·first | exact hp.2 | exact hp.1 | omega | assumption | exact trivial | (have h0 := List.length_pos_iff.mpr (by assumption); omega) | (simp; omega) | (simp at *; omega)
 ·first | exact hp.2 | exact hp.1 | omega | assumption | exact trivial | (have h0 := List.length_pos_iff.mpr (by assumption); omega) | (simp; omega) | (simp at *; omega)
 exact h
theorem rel_F (xd : (List (Int × List UInt8 × (List (List UInt8 × List UInt8)) × List UInt8 × Int × List (Int))) × Bool) (xn : Int) (hp : relP xd xn) : relF xd xn (fun k0 => k0 = relM xd xn) :=
 relF_A xd xn hp (fun z => z = relM xd xn) rfl
set_option linter.unusedVariables false in
theorem rel_c {g : Ghost} {axd_0 : Option Addr} {cxd_0 : Nat} (xd : (List (Int × List UInt8 × (List (List UInt8 × List UInt8)) × List UInt8 × Int × List (Int))) × Bool) (xn : Int) (hRxd_0 : Rep g (.slice (.pair (.int .i64) (.pair (.str) (.pair (.slice (.pair (.str) (.str))) (.pair (.str) (.pair (.int .i64) (.slice (.int .i64)))))))) [.slice axd_0 xd.1.length cxd_0] xd.1)  (hp : relP xd xn) : CallsG Tryz.prog 8 #[.agg #[.slice axd_0 xd.1.length cxd_0, .bool xd.2], .int .i64 xn] g (.bool (relM xd xn)) :=
 (rel_ok xd xn hRxd_0 _ (rel_F xd xn hp)).gives (by rintro g' H' v _ ⟨r0, rfl, rfl, hK⟩; subst hK; rfl)
def rat2l9b (xname : List UInt8) (K : (List UInt8) → Bool → Prop) (e3 : Int × List UInt8 × (List (List UInt8 × List UInt8)) × List UInt8 × Int × List (Int)) (x9l9 : Int) (C9 : Int → Prop) : Prop :=
 ((decide (x9l9 < (e3.2.2.1.length : Int))) = true → (0 : Int) ≤ x9l9 ∧ Int.toNat x9l9 < e3.2.2.1.length ∧ ((((e3.2.2.1.getD (Int.toNat x9l9) default).1 == xname)) = true → K (e3.2.2.1.getD (Int.toNat x9l9) default).2 true) ∧ ((((e3.2.2.1.getD (Int.toNat x9l9) default).1 == xname)) = false → C9 (IntKind.wrap .i64 (x9l9 + 1)))) ∧ ((decide (x9l9 < (e3.2.2.1.length : Int))) = false → K ([] : List UInt8) false)
def rat2l9 (xname : List UInt8) (K : (List UInt8) → Bool → Prop) (e3 : Int × List UInt8 × (List (List UInt8 × List UInt8)) × List UInt8 × Int × List (Int)) : Nat → Int → Prop
 | 0, _ => False
 | k + 1, x9l9 => rat2l9b xname K e3 x9l9 (rat2l9 xname K e3 k)
def rat2F (xd : (List (Int × List UInt8 × (List (List UInt8 × List UInt8)) × List UInt8 × Int × List (Int))) × Bool) (xn : Int) (xname : List UInt8) (K : (List UInt8) → Bool → Prop) : Prop :=
 (0 : Int) ≤ xn ∧ Int.toNat xn < xd.1.length ∧ ∃ k, rat2l9 xname K (xd.1.getD (Int.toNat xn) default) k 0
set_option maxHeartbeats 4000000 in
set_option maxRecDepth 100000 in
set_option linter.unusedVariables false in
theorem rat2_ok {g : Ghost} {axd_0 : Option Addr} {cxd_0 : Nat} (xd : (List (Int × List UInt8 × (List (List UInt8 × List UInt8)) × List UInt8 × Int × List (Int))) × Bool) (xn : Int) (xname : List UInt8) (hRxd_0 : Rep g (.slice (.pair (.int .i64) (.pair (.str) (.pair (.slice (.pair (.str) (.str))) (.pair (.str) (.pair (.int .i64) (.slice (.int .i64)))))))) [.slice axd_0 xd.1.length cxd_0] xd.1) (K : (List UInt8) → Bool → Prop)
  (hF : rat2F xd xn xname K) : CallsH Tryz.prog 30 #[.agg #[.slice axd_0 xd.1.length cxd_0, .bool xd.2], .int .i64 xn, .string ⟨⟨xname⟩⟩] g [] (fun g' H' v => ∃ (r0 : List UInt8), ∃ (r1 : Bool), v = .tuple #[.string ⟨⟨r0⟩⟩, .bool r1] ∧ H' = [] ∧ K r0 r1) := by
 refine CallsH.enter 34 [(0, .agg #[.slice axd_0 xd.1.length cxd_0, .bool xd.2]), (1, .int .i64 xn), (2, .string ⟨⟨xname⟩⟩)] Tryz.func30 rfl (by kernel_rfl) (by kernel_rfl) (by kernel_rfl) fun w0 => ?_
 refine Ok.seq ?_
 refine Ok.region ?_
 refine Ok.op rfl (OpOk.box (v := .agg #[.slice axd_0 xd.1.length cxd_0, .bool xd.2]) (cs := #[.slice axd_0 xd.1.length cxd_0, .bool xd.2]) rfl (by kernel_rfl) rfl fun b1 => ?_)
 refine Ok.batch 2 [(1, .int .i64 xn), (2, .string ⟨⟨xname⟩⟩), (3, .pointer (some ⟨b1, 0, none⟩))] (by kernel_rfl) ?_
 refine Ok.nil ?_
 refine Ok.thenN ?_
 refine Ok.seq ?_
 refine Ok.region ?_
 refine Ok.batch 1 [(1, .int .i64 xn), (2, .string ⟨⟨xname⟩⟩), (10, .pointer (some ⟨b1, 0, none⟩))] (by kernel_rfl) ?_
 refine Ok.op rfl (OpOk.step (v := .slice axd_0 xd.1.length cxd_0) (Yields.load 0 rfl rfl Tryz.underlying22 rfl (by kernel_rfl)) rfl rfl ?_)
 refine Ok.batch 1 [(2, .string ⟨⟨xname⟩⟩), (11, .slice axd_0 xd.1.length cxd_0), (12, .int .i64 xn)] (by kernel_rfl) ?_
 obtain ⟨h03, h13, hF⟩ := hF
 have he3 := get_of (l := xd.1) (default : Int × List UInt8 × (List (List UInt8 × List UInt8)) × List UInt8 × Int × List (Int)) h13
 generalize hg3 : (xd.1.getD (Int.toNat xn) default) = e3 at he3 hF ⊢
 refine Ok.op rfl (OpOk.indexRo (e := .pair (.int .i64) (.pair (.str) (.pair (.slice (.pair (.str) (.str))) (.pair (.str) (.pair (.int .i64) (.slice (.int .i64))))))) (i := xn) (el := e3) rfl rfl Tryz.underlying22 (by kernel_rfl) hRxd_0 h03 he3 rfl fun q2 o2 cs2 _ hat2 hr2 => ?_)
 obtain ⟨_, _, rfl, rfl, ⟨_, _, rfl, rfl, ⟨_, _, rfl, ⟨a2_2, c2_2, rfl, hm2_2, hr2_2⟩, ⟨_, _, rfl, rfl, ⟨_, _, rfl, rfl, ⟨a2_5, c2_5, rfl, hm2_5, hr2_5⟩⟩⟩⟩⟩⟩ := hr2
 have hR2_2 : Rep g (.slice (.pair (.str) (.str))) [.slice a2_2 e3.2.2.1.length c2_2] e3.2.2.1 := ⟨a2_2, c2_2, rfl, hm2_2, hr2_2⟩
 have hR2_5 : Rep g (.slice (.int .i64)) [.slice a2_5 e3.2.2.2.2.2.length c2_5] e3.2.2.2.2.2 := ⟨a2_5, c2_5, rfl, hm2_5, hr2_5⟩
 replace hat2 : At g q2 o2 [.int .i64 e3.1, .string ⟨⟨e3.2.1⟩⟩, .slice a2_2 e3.2.2.1.length c2_2, .string ⟨⟨e3.2.2.2.1⟩⟩, .int .i64 e3.2.2.2.2.1, .slice a2_5 e3.2.2.2.2.2.length c2_5] := hat2
 refine Ok.batch 1 [(2, .string ⟨⟨xname⟩⟩), (14, .pointer (some ⟨q2, o2 + 2, none⟩))] (by kernel_rfl) ?_
 refine Ok.op rfl (OpOk.step (v := .slice a2_2 e3.2.2.1.length c2_2) (Yields.loadRo 2 hat2 (by kernel_rfl) Tryz.underlying72 rfl (by kernel_rfl)) rfl rfl ?_)
 refine Ok.batch 1 [(2, .string ⟨⟨xname⟩⟩), (8, .slice a2_2 e3.2.2.1.length c2_2)] (by kernel_rfl) ?_
 refine Ok.nil ?_
 refine Ok.thenN ?_
 refine Ok.seq ?_
 refine Ok.seq ?_
 refine Ok.region ?_
 refine Ok.batch 1 [(2, .string ⟨⟨xname⟩⟩), (8, .slice a2_2 e3.2.2.1.length c2_2), (9, .int .i64 0)] (by kernel_rfl) ?_
 refine Ok.nil ?_
 refine Ok.thenN ?_
 refine Ok.block ?_
 obtain ⟨k, hF⟩ := hF
 refine Ok.loop (fun k a W => ∃ (x9l9 : Int), StA 34 [(2, .string ⟨⟨xname⟩⟩), (8, .slice a2_2 e3.2.2.1.length c2_2), (9, .int .i64 x9l9)] a ∧ StW w0 [] g W ∧ rat2l9 xname K e3 k x9l9) k ?_ ?_
 ·
  exact fun a W hA hW => ⟨0, hA.sub (by kernel_rfl), hW.sub (.cons _ .slnil), hF⟩
 ·
  clear hF
  rintro k9 a W ⟨x9l9, hA, hW, hF⟩
  cases k9 with
  | zero => exact (hF : False).elim
  | succ k9 =>
   refine (?_ : Ok _ _ _ _ _ _) a W hA hW
   clear hA hW
   refine Ok.seq ?_
   refine Ok.seq ?_
   refine Ok.region ?_
   refine Ok.batch 4 [(2, .string ⟨⟨xname⟩⟩), (8, .slice a2_2 e3.2.2.1.length c2_2), (9, .int .i64 x9l9), (19, .bool (decide (x9l9 < (e3.2.2.1.length : Int))))] (by kernel_rfl) ?_
   refine Ok.nil ?_
   refine Ok.thenN ?_
   refine Ok.cond (b := decide (x9l9 < (e3.2.2.1.length : Int))) rfl (fun hc4 => ?_) (fun hc4 => ?_)
   ·replace hF := hF.1 hc4
    refine Ok.skip ?_
    refine Ok.thenN ?_
    refine Ok.seq ?_
    refine Ok.block ?_
    refine Ok.seq ?_
    refine Ok.region ?_
    refine Ok.batch 2 [(2, .string ⟨⟨xname⟩⟩), (8, .slice a2_2 e3.2.2.1.length c2_2), (9, .int .i64 x9l9), (22, .slice a2_2 e3.2.2.1.length c2_2), (23, .int .i64 x9l9)] (by kernel_rfl) ?_
    obtain ⟨h06, h16, hF⟩ := hF
    have he6 := get_of (l := e3.2.2.1) (default : List UInt8 × List UInt8) h16
    generalize hg6 : (e3.2.2.1.getD (Int.toNat x9l9) default) = e6 at he6 hF ⊢
    refine Ok.op rfl (OpOk.indexRo (e := .pair (.str) (.str)) (i := x9l9) (el := e6) rfl rfl Tryz.underlying72 (by kernel_rfl) hR2_2 h06 he6 rfl fun q5 o5 cs5 _ hat5 hr5 => ?_)
    obtain ⟨_, _, rfl, rfl, rfl⟩ := hr5
    replace hat5 : At g q5 o5 [.string ⟨⟨e6.1⟩⟩, .string ⟨⟨e6.2⟩⟩] := hat5
    refine Ok.batch 1 [(2, .string ⟨⟨xname⟩⟩), (8, .slice a2_2 e3.2.2.1.length c2_2), (9, .int .i64 x9l9), (25, .pointer (some ⟨q5, o5, none⟩))] (by kernel_rfl) ?_
    refine Ok.op rfl (OpOk.step (v := .string ⟨⟨e6.1⟩⟩) (Yields.loadRo 0 hat5 (by kernel_rfl) Tryz.underlying9 rfl (by kernel_rfl)) rfl rfl ?_)
    refine Ok.batch 1 [(2, .string ⟨⟨xname⟩⟩), (8, .slice a2_2 e3.2.2.1.length c2_2), (9, .int .i64 x9l9), (26, .string ⟨⟨e6.1⟩⟩), (27, .string ⟨⟨xname⟩⟩)] (by kernel_rfl) ?_
    refine Ok.op rfl (OpOk.step (v := .bool (e6.1 == xname)) (Yields.strCmp (f := .eql) (a := e6.1) (b := xname) (by kernel_rfl) (by kernel_rfl) rfl) rfl rfl ?_)
    refine Ok.nil ?_
    refine Ok.thenN ?_
    refine Ok.cond (b := (e6.1 == xname)) rfl (fun hc7 => ?_) (fun hc7 => ?_)
    ·replace hF := hF.1 hc7
     refine Ok.seq ?_
     refine Ok.region ?_
     refine Ok.batch 2 [(29, .slice a2_2 e3.2.2.1.length c2_2), (30, .int .i64 x9l9)] (by kernel_rfl) ?_
     refine Ok.op rfl (OpOk.indexRo (e := .pair (.str) (.str)) (i := x9l9) (el := e6) rfl rfl Tryz.underlying72 (by kernel_rfl) hR2_2 h06 he6 rfl fun q8 o8 cs8 _ hat8 hr8 => ?_)
     obtain ⟨_, _, rfl, rfl, rfl⟩ := hr8
     replace hat8 : At g q8 o8 [.string ⟨⟨e6.1⟩⟩, .string ⟨⟨e6.2⟩⟩] := hat8
     refine Ok.batch 1 [(32, .pointer (some ⟨q8, o8 + 1, none⟩))] (by kernel_rfl) ?_
     refine Ok.op rfl (OpOk.step (v := .string ⟨⟨e6.2⟩⟩) (Yields.loadRo 1 hat8 (by kernel_rfl) Tryz.underlying9 rfl (by kernel_rfl)) rfl rfl ?_)
     refine Ok.batch 2 [(6, .string ⟨⟨e6.2⟩⟩), (7, .bool true)] (by kernel_rfl) ?_
     refine Ok.nil ?_
     refine Ok.thenN ?_
     refine Ok.ret ?_
     refine Ok.blockR ?_
     refine Ok.thenR ?_
     refine Ok.thenR ?_
     refine Ok.blockR ?_
     refine Ok.thenR ?_
     exact Ok.resH (vs := [.string ⟨⟨e6.2⟩⟩, .bool true]) (.inl rfl) rfl (.cons (.tmp rfl) (.cons (.tmp rfl) .nil)) (Gext.refl w0 g) ⟨e6.2, true, rfl, rfl, hF⟩
    ·replace hF := hF.2 hc7
     refine Ok.skip ?_
     refine Ok.blockN ?_
     refine Ok.thenN ?_
     refine Ok.region ?_
     refine Ok.batch 3 [(2, .string ⟨⟨xname⟩⟩), (8, .slice a2_2 e3.2.2.1.length c2_2), (9, .int .i64 (IntKind.wrap .i64 (x9l9 + 1)))] (by kernel_rfl) ?_
     refine Ok.nil ?_
     refine Ok.thenN ?_
     subst hg6
     exact fun a W hA hW => ⟨k9, Nat.lt_succ_self _, IntKind.wrap .i64 (x9l9 + 1), hA.sub (by kernel_rfl), hW, hF⟩
   ·replace hF := hF.2 hc4
    refine Ok.exit ?_
    refine Ok.thenE ?_
    refine Ok.thenE ?_
    refine Ok.blockHit ?_
    refine Ok.thenN ?_
    refine Ok.seq ?_
    refine Ok.region ?_
    refine Ok.batch 2 [(6, .string ⟨⟨([] : List UInt8)⟩⟩), (7, .bool false)] (by kernel_rfl) ?_
    refine Ok.nil ?_
    refine Ok.thenN ?_
    refine Ok.ret ?_
    exact Ok.resH (vs := [.string ⟨⟨([] : List UInt8)⟩⟩, .bool false]) (.inl rfl) rfl (.cons (.tmp rfl) (.cons (.tmp rfl) .nil)) (Gext.refl w0 g) ⟨([] : List UInt8), false, rfl, rfl, hF⟩
def attNS (d : DC) (n : Int) (w : List UInt8) : List UInt8 × Bool := attS (d.1.getD n.toNat default).2.2.1 w
def attP (d : DC) (n : Int) (_ : List UInt8) : Prop := 0 ≤ n ∧ n.toNat < d.1.length ∧ (d.1.getD n.toNat default).2.2.1.length ≤ 1000000
theorem rat2_F (d : DC) (n : Int) (w : List UInt8) (hp : attP d n w) : rat2F d n w (fun a b => (a, b) = attNS d n w) := by
 obtain ⟨h0, h1, h2⟩ := hp
 refine ⟨h0, h1, ?_⟩
 unfold attNS
 generalize d.1.getD n.toNat default = x at h2 ⊢
 have loop : ∀ (k i : Nat), i + k = x.2.2.1.length → attS x.2.2.1 w = attS (x.2.2.1.drop i) w → rat2l9 w (fun a b => (a, b) = attS x.2.2.1 w) x (k + 1) (i : Int) := by
  intro k
  induction k with
  | zero =>
   intro i h he
   rw [List.drop_of_length_le (by omega)] at he
   exact ⟨fun h2 => by have := of_decide_eq_true h2; omega, fun _ => he.symm⟩
  | succ k ih =>
   intro i h he
   rw [drop_get (l := x.2.2.1) default (by omega)] at he
   refine ⟨fun _ => ⟨by omega, by omega, fun hc => ?_, fun hc => ?_⟩, fun h2 => by have := of_decide_eq_false h2; omega⟩
   ·rw [Int.toNat_natCast] at hc ⊢
    rw [he]; unfold attS; rw [List.find?_cons, hc]
   ·rw [Int.toNat_natCast] at hc
    rw [w64 (by omega)]
    refine ih (i + 1) (by omega) ?_
    rw [he]; unfold attS; rw [List.find?_cons, hc]
 exact ⟨_, loop x.2.2.1.length 0 (by omega) rfl⟩
set_option linter.unusedVariables false in
theorem rat2_c {g : Ghost} {axd_0 : Option Addr} {cxd_0 : Nat} (xd : (List (Int × List UInt8 × (List (List UInt8 × List UInt8)) × List UInt8 × Int × List (Int))) × Bool) (xn : Int) (xname : List UInt8) (hRxd_0 : Rep g (.slice (.pair (.int .i64) (.pair (.str) (.pair (.slice (.pair (.str) (.str))) (.pair (.str) (.pair (.int .i64) (.slice (.int .i64)))))))) [.slice axd_0 xd.1.length cxd_0] xd.1)  (hp : attP xd xn xname) : CallsG Tryz.prog 30 #[.agg #[.slice axd_0 xd.1.length cxd_0, .bool xd.2], .int .i64 xn, .string ⟨⟨xname⟩⟩] g (.tuple #[.string ⟨⟨((attNS xd xn xname).1)⟩⟩, .bool ((attNS xd xn xname).2)]) :=
 (rat2_ok xd xn xname hRxd_0 _ (rat2_F xd xn xname hp)).gives (by rintro g' H' v _ ⟨r0, r1, rfl, rfl, hK⟩; obtain ⟨rfl, rfl⟩ : r0 = (attNS xd xn xname).1 ∧ r1 = (attNS xd xn xname).2 := ⟨congrArg (fun z => z.1) hK, congrArg (fun z => z.2) hK⟩; rfl)
def rofP : Nat → DC → Int → Prop
 | 0, _, _ => False
 | N + 1, d, n => (∀ x ∈ d.1, AGood x.2.2.1) ∧ Ends d.1 N n ∧ N ≤ 41
theorem rof_0 (d : DC) (n : Int) : ¬ rofP 0 d n := fun h => h
def rof_C (N : Nat) : Prop := ∀ (g : Ghost) {axd_0 : Option Addr} {cxd_0 : Nat} (xd : (List (Int × List UInt8 × (List (List UInt8 × List UInt8)) × List UInt8 × Int × List (Int))) × Bool) (xn : Int) (hRxd_0 : Rep g (.slice (.pair (.int .i64) (.pair (.str) (.pair (.slice (.pair (.str) (.str))) (.pair (.str) (.pair (.int .i64) (.slice (.int .i64)))))))) [.slice axd_0 xd.1.length cxd_0] xd.1)  (hp : rofP N xd xn), CallsG Tryz.prog 9 #[.agg #[.slice axd_0 xd.1.length cxd_0, .bool xd.2], .int .i64 xn] g (.string ⟨⟨(ownS xd xn)⟩⟩)
def rofV0 (xd : (List (Int × List UInt8 × (List (List UInt8 × List UInt8)) × List UInt8 × Int × List (Int))) × Bool) (xn : Int) : Bool :=
 (((attNS xd xn ([114, 101, 103, 105, 111, 110] : List UInt8)).2) && (plainS ((attNS xd xn ([114, 101, 103, 105, 111, 110] : List UInt8)).1)))
def rofj11 (N : Nat) (xd : (List (Int × List UInt8 × (List (List UInt8 × List UInt8)) × List UInt8 × Int × List (Int))) × Bool) (xn : Int) (K : (List UInt8) → Prop) : Prop :=
 (0 : Int) ≤ xn ∧ Int.toNat xn < xd.1.length ∧ rofP N xd (xd.1.getD (Int.toNat xn) default).2.2.2.2.1 ∧ K (ownS xd (xd.1.getD (Int.toNat xn) default).2.2.2.2.1)
def rofj17 (N : Nat) (xd : (List (Int × List UInt8 × (List (List UInt8 × List UInt8)) × List UInt8 × Int × List (Int))) × Bool) (xn : Int) (K : (List UInt8) → Prop) : Prop :=
 (((rofV0 xd xn)) = true → K ((attNS xd xn ([114, 101, 103, 105, 111, 110] : List UInt8)).1)) ∧ (((rofV0 xd xn)) = false → rofj11 N xd xn K)
def rofF (N : Nat) (xd : (List (Int × List UInt8 × (List (List UInt8 × List UInt8)) × List UInt8 × Int × List (Int))) × Bool) (xn : Int) (K : (List UInt8) → Prop) : Prop :=
 ((decide (xn < 0)) = true → K ([] : List UInt8)) ∧ ((decide (xn < 0)) = false → relP xd xn ∧ (((relM xd xn)) = true → attP xd xn ([114, 101, 103, 105, 111, 110] : List UInt8) ∧ (((attNS xd xn ([114, 101, 103, 105, 111, 110] : List UInt8)).2) = true → cutP ((attNS xd xn ([114, 101, 103, 105, 111, 110] : List UInt8)).1) ∧ rofj17 N xd xn K) ∧ (((attNS xd xn ([114, 101, 103, 105, 111, 110] : List UInt8)).2) = false → rofj17 N xd xn K)) ∧ (((relM xd xn)) = false → rofj11 N xd xn K))
set_option maxHeartbeats 4000000 in
set_option maxRecDepth 100000 in
set_option linter.unusedVariables false in
theorem rof_ok {g : Ghost} (N : Nat) (ih_rof : rof_C N) {axd_0 : Option Addr} {cxd_0 : Nat} (xd : (List (Int × List UInt8 × (List (List UInt8 × List UInt8)) × List UInt8 × Int × List (Int))) × Bool) (xn : Int) (hRxd_0 : Rep g (.slice (.pair (.int .i64) (.pair (.str) (.pair (.slice (.pair (.str) (.str))) (.pair (.str) (.pair (.int .i64) (.slice (.int .i64)))))))) [.slice axd_0 xd.1.length cxd_0] xd.1) (K : (List UInt8) → Prop)
  (hF : rofF N xd xn K) : CallsH Tryz.prog 9 #[.agg #[.slice axd_0 xd.1.length cxd_0, .bool xd.2], .int .i64 xn] g [] (fun g' H' v => ∃ (r0 : List UInt8), v = .string ⟨⟨r0⟩⟩ ∧ H' = [] ∧ K r0) := by
 refine CallsH.enter 32 [(0, .agg #[.slice axd_0 xd.1.length cxd_0, .bool xd.2]), (1, .int .i64 xn)] Tryz.func9 rfl (by kernel_rfl) (by kernel_rfl) (by kernel_rfl) fun w0 => ?_
 refine Ok.seq ?_
 refine Ok.region ?_
 refine Ok.op rfl (OpOk.box (v := .agg #[.slice axd_0 xd.1.length cxd_0, .bool xd.2]) (cs := #[.slice axd_0 xd.1.length cxd_0, .bool xd.2]) rfl (by kernel_rfl) rfl fun b1 => ?_)
 refine Ok.batch 1 [(1, .int .i64 xn), (2, .pointer (some ⟨b1, 0, none⟩))] (by kernel_rfl) ?_
 refine Ok.nil ?_
 refine Ok.thenN ?_
 refine Ok.seq ?_
 refine Ok.seq ?_
 refine Ok.region ?_
 refine Ok.batch 2 [(1, .int .i64 xn), (2, .pointer (some ⟨b1, 0, none⟩)), (8, .bool (decide (xn < 0)))] (by kernel_rfl) ?_
 refine Ok.nil ?_
 refine Ok.thenN ?_
 refine Ok.cond (b := decide (xn < 0)) rfl (fun hc2 => ?_) (fun hc2 => ?_)
 ·replace hF := hF.1 hc2
  refine Ok.seq ?_
  refine Ok.region ?_
  refine Ok.batch 1 [(4, .string ⟨⟨([] : List UInt8)⟩⟩)] (by kernel_rfl) ?_
  refine Ok.nil ?_
  refine Ok.thenN ?_
  refine Ok.ret ?_
  refine Ok.thenR ?_
  exact Ok.resP (vs := [.string ⟨⟨([] : List UInt8)⟩⟩]) [] [] (by decide) rfl (.inl rfl) rfl (.cons (.tmp rfl) .nil) (Gext.refl w0 g) ⟨([] : List UInt8), rfl, rfl, hF⟩
 ·replace hF := hF.2 hc2
  refine Ok.skip ?_
  refine Ok.thenN ?_
  refine Ok.cut (fun a W => StA 32 [(1, .int .i64 xn), (2, .pointer (some ⟨b1, 0, none⟩))] a ∧ StW w0 [.blk b1 (.cells #[.slice axd_0 xd.1.length cxd_0, .bool xd.2] 24)] g W ∧ rofj11 N xd xn K) ?_ ?_
  ·
   refine Ok.seq ?_
   refine Ok.region ?_
   refine Ok.op rfl (OpOk.step (v := .agg #[.slice axd_0 xd.1.length cxd_0, .bool xd.2]) (Yields.loadAgg 0 2 #[.slice axd_0 xd.1.length cxd_0, .bool xd.2] rfl rfl Tryz.underlying24 rfl (by kernel_rfl) (by kernel_rfl) (by kernel_rfl)) rfl rfl ?_)
   refine Ok.batch 1 [(1, .int .i64 xn), (2, .pointer (some ⟨b1, 0, none⟩)), (9, .agg #[.slice axd_0 xd.1.length cxd_0, .bool xd.2]), (10, .int .i64 xn)] (by kernel_rfl) ?_
   obtain ⟨hp6, hF⟩ := hF
   refine Ok.op rfl (OpOk.callG (v := .bool (relM xd xn)) (enters (by kernel_rfl) (fun _ => by kernel_rfl)) (fun W hW => rel_c xd xn (hRxd_0.mono hW.sees) hp6) rfl ?_)
   refine Ok.nil ?_
   refine Ok.thenN ?_
   refine Ok.cond (b := (relM xd xn)) rfl (fun hc7 => ?_) (fun hc7 => ?_)
   ·replace hF := hF.1 hc7
    refine Ok.seq ?_
    refine Ok.region ?_
    refine Ok.op rfl (OpOk.step (v := .agg #[.slice axd_0 xd.1.length cxd_0, .bool xd.2]) (Yields.loadAgg 0 2 #[.slice axd_0 xd.1.length cxd_0, .bool xd.2] rfl rfl Tryz.underlying24 rfl (by kernel_rfl) (by kernel_rfl) (by kernel_rfl)) rfl rfl ?_)
    refine Ok.batch 1 [(1, .int .i64 xn), (2, .pointer (some ⟨b1, 0, none⟩)), (13, .agg #[.slice axd_0 xd.1.length cxd_0, .bool xd.2]), (14, .int .i64 xn)] (by kernel_rfl) ?_
    obtain ⟨hp8, hF⟩ := hF
    refine Ok.op rfl (OpOk.callG (v := .tuple #[.string ⟨⟨(attNS xd xn ([114, 101, 103, 105, 111, 110] : List UInt8)).1⟩⟩, .bool ((attNS xd xn ([114, 101, 103, 105, 111, 110] : List UInt8)).2)]) (enters (by kernel_rfl) (fun _ => by kernel_rfl)) (fun W hW => rat2_c xd xn ([114, 101, 103, 105, 111, 110] : List UInt8) (hRxd_0.mono hW.sees) hp8) rfl ?_)
    refine Ok.batch 5 [(1, .int .i64 xn), (2, .pointer (some ⟨b1, 0, none⟩)), (5, .string ⟨⟨(attNS xd xn ([114, 101, 103, 105, 111, 110] : List UInt8)).1⟩⟩), (6, .bool ((attNS xd xn ([114, 101, 103, 105, 111, 110] : List UInt8)).2))] (by kernel_rfl) ?_
    refine Ok.nil ?_
    refine Ok.thenN ?_
    refine Ok.cut (fun a W => StA 32 [(1, .int .i64 xn), (2, .pointer (some ⟨b1, 0, none⟩)), (5, .string ⟨⟨(attNS xd xn ([114, 101, 103, 105, 111, 110] : List UInt8)).1⟩⟩), (22, .bool (rofV0 xd xn))] a ∧ StW w0 [.blk b1 (.cells #[.slice axd_0 xd.1.length cxd_0, .bool xd.2] 24)] g W ∧ rofj17 N xd xn K) ?_ ?_
    ·
     refine Ok.region ?_
     refine Ok.batch 2 [(1, .int .i64 xn), (2, .pointer (some ⟨b1, 0, none⟩)), (5, .string ⟨⟨(attNS xd xn ([114, 101, 103, 105, 111, 110] : List UInt8)).1⟩⟩), (19, .bool ((attNS xd xn ([114, 101, 103, 105, 111, 110] : List UInt8)).2))] (by kernel_rfl) ?_
     refine Ok.boolAt 19 ((attNS xd xn ([114, 101, 103, 105, 111, 110] : List UInt8)).2) rfl (fun hc10 => ?_) (fun hc10 => ?_)
     ·replace hF := hF.1 hc10
      refine Ok.batch 1 [(1, .int .i64 xn), (2, .pointer (some ⟨b1, 0, none⟩)), (5, .string ⟨⟨(attNS xd xn ([114, 101, 103, 105, 111, 110] : List UInt8)).1⟩⟩), (19, .bool true), (20, .string ⟨⟨(attNS xd xn ([114, 101, 103, 105, 111, 110] : List UInt8)).1⟩⟩)] (by kernel_rfl) ?_
      obtain ⟨hp11, hF⟩ := hF
      refine Ok.opYes (j := 1) (d := 19) (want := true) (b := true) rfl (by kernel_rfl) (by kernel_rfl) rfl (OpOk.callG (v := .bool (plainS ((attNS xd xn ([114, 101, 103, 105, 111, 110] : List UInt8)).1))) (enters (by kernel_rfl) (fun _ => by kernel_rfl)) (fun W hW => rpn_c ((attNS xd xn ([114, 101, 103, 105, 111, 110] : List UInt8)).1) hp11) rfl ?_)
      refine Ok.batch 1 [(1, .int .i64 xn), (2, .pointer (some ⟨b1, 0, none⟩)), (5, .string ⟨⟨(attNS xd xn ([114, 101, 103, 105, 111, 110] : List UInt8)).1⟩⟩), (22, .bool (plainS ((attNS xd xn ([114, 101, 103, 105, 111, 110] : List UInt8)).1)))] (by kernel_rfl) ?_
      refine Ok.nil ?_
      refine Ok.thenN ?_
      refine Ok.reval 22 rfl (show (.bool (plainS ((attNS xd xn ([114, 101, 103, 105, 111, 110] : List UInt8)).1)) : Value) = .bool (rofV0 xd xn) from congrArg (Value.bool) (mand_t hc10)) ?_
      exact fun a W hA hW => ⟨hA.sub (by kernel_rfl), hW, hF⟩
     ·replace hF := hF.2 hc10
      refine Ok.batch 3 [(1, .int .i64 xn), (2, .pointer (some ⟨b1, 0, none⟩)), (5, .string ⟨⟨(attNS xd xn ([114, 101, 103, 105, 111, 110] : List UInt8)).1⟩⟩), (22, .bool false)] (by kernel_rfl) ?_
      refine Ok.nil ?_
      refine Ok.thenN ?_
      refine Ok.reval 22 rfl (show (.bool false : Value) = .bool (rofV0 xd xn) from congrArg (Value.bool) (mand_f hc10)) ?_
      exact fun a W hA hW => ⟨hA.sub (by kernel_rfl), hW, hF⟩
    ·
     clear hF
     rintro a W ⟨hA, hW, hF⟩
     refine (?_ : Ok _ _ _ _ _ _) a W hA hW
     clear hA hW
     refine Ok.cond (b := (rofV0 xd xn)) rfl (fun hc9 => ?_) (fun hc9 => ?_)
     ·replace hF := hF.1 hc9
      refine Ok.seq ?_
      refine Ok.region ?_
      refine Ok.batch 2 [(4, .string ⟨⟨(attNS xd xn ([114, 101, 103, 105, 111, 110] : List UInt8)).1⟩⟩)] (by kernel_rfl) ?_
      refine Ok.nil ?_
      refine Ok.thenN ?_
      refine Ok.ret ?_
      refine Ok.thenR ?_
      exact Ok.resP (vs := [.string ⟨⟨(attNS xd xn ([114, 101, 103, 105, 111, 110] : List UInt8)).1⟩⟩]) [] [] (by decide) rfl (.inl rfl) rfl (.cons (.tmp rfl) .nil) (Gext.refl w0 g) ⟨((attNS xd xn ([114, 101, 103, 105, 111, 110] : List UInt8)).1), rfl, rfl, hF⟩
     ·replace hF := hF.2 hc9
      refine Ok.skip ?_
      refine Ok.thenN ?_
      exact fun a W hA hW => ⟨hA.sub (by kernel_rfl), hW, hF⟩
   ·replace hF := hF.2 hc7
    refine Ok.skip ?_
    refine Ok.thenN ?_
    exact fun a W hA hW => ⟨hA.sub (by kernel_rfl), hW, hF⟩
  ·
   clear hF
   rintro a W ⟨hA, hW, hF⟩
   refine (?_ : Ok _ _ _ _ _ _) a W hA hW
   clear hA hW
   refine Ok.seq ?_
   refine Ok.quiet' (by kernel_rfl) (by kernel_rfl) ?_
   refine OkQ.op rfl (OpQ.step (v := .agg #[.slice axd_0 xd.1.length cxd_0, .bool xd.2]) (Yields.loadAgg 0 2 #[.slice axd_0 xd.1.length cxd_0, .bool xd.2] rfl rfl Tryz.underlying24 rfl (by kernel_rfl) (by kernel_rfl) (by kernel_rfl)) rfl rfl ?_)
   refine OkQ.batch 1 [(1, .int .i64 xn), (24, .agg #[.slice axd_0 xd.1.length cxd_0, .bool xd.2]), (25, .pointer (some ⟨b1, 0, none⟩))] (by kernel_rfl) ?_
   refine OkQ.op rfl (OpQ.step (v := .slice axd_0 xd.1.length cxd_0) (Yields.load 0 rfl rfl Tryz.underlying22 rfl (by kernel_rfl)) rfl rfl ?_)
   refine OkQ.batch 1 [(24, .agg #[.slice axd_0 xd.1.length cxd_0, .bool xd.2]), (26, .slice axd_0 xd.1.length cxd_0), (27, .int .i64 xn)] (by kernel_rfl) ?_
   obtain ⟨h04, h14, hF⟩ := hF
   have he4 := get_of (l := xd.1) (default : Int × List UInt8 × (List (List UInt8 × List UInt8)) × List UInt8 × Int × List (Int)) h14
   generalize hg4 : (xd.1.getD (Int.toNat xn) default) = e4 at he4 hF ⊢
   refine OkQ.op rfl (OpQ.indexRo (e := .pair (.int .i64) (.pair (.str) (.pair (.slice (.pair (.str) (.str))) (.pair (.str) (.pair (.int .i64) (.slice (.int .i64))))))) (i := xn) (el := e4) rfl rfl Tryz.underlying22 (by kernel_rfl) hRxd_0 h04 he4 rfl fun q3 o3 cs3 _ hat3 hr3 => ?_)
   obtain ⟨_, _, rfl, rfl, ⟨_, _, rfl, rfl, ⟨_, _, rfl, ⟨a3_2, c3_2, rfl, hm3_2, hr3_2⟩, ⟨_, _, rfl, rfl, ⟨_, _, rfl, rfl, ⟨a3_5, c3_5, rfl, hm3_5, hr3_5⟩⟩⟩⟩⟩⟩ := hr3
   have hR3_2 : Rep g (.slice (.pair (.str) (.str))) [.slice a3_2 e4.2.2.1.length c3_2] e4.2.2.1 := ⟨a3_2, c3_2, rfl, hm3_2, hr3_2⟩
   have hR3_5 : Rep g (.slice (.int .i64)) [.slice a3_5 e4.2.2.2.2.2.length c3_5] e4.2.2.2.2.2 := ⟨a3_5, c3_5, rfl, hm3_5, hr3_5⟩
   replace hat3 : At g q3 o3 [.int .i64 e4.1, .string ⟨⟨e4.2.1⟩⟩, .slice a3_2 e4.2.2.1.length c3_2, .string ⟨⟨e4.2.2.2.1⟩⟩, .int .i64 e4.2.2.2.2.1, .slice a3_5 e4.2.2.2.2.2.length c3_5] := hat3
   refine OkQ.batch 1 [(24, .agg #[.slice axd_0 xd.1.length cxd_0, .bool xd.2]), (29, .pointer (some ⟨q3, o3 + 4, none⟩))] (by kernel_rfl) ?_
   refine OkQ.op rfl (OpQ.step (v := .int .i64 e4.2.2.2.2.1) (Yields.loadRo 4 hat3 (by kernel_rfl) Tryz.underlying3 rfl (by kernel_rfl)) rfl rfl ?_)
   obtain ⟨hp5, hF⟩ := hF
   refine OkQ.op rfl (OpQ.callG (v := .string ⟨⟨(ownS xd e4.2.2.2.2.1)⟩⟩) (enters (by kernel_rfl) (fun _ => by kernel_rfl)) (fun W hW => ih_rof _ xd e4.2.2.2.2.1 (hRxd_0.mono hW.sees) hp5) rfl ?_)
   refine OkQ.batch 1 [(4, .string ⟨⟨(ownS xd e4.2.2.2.2.1)⟩⟩)] (by kernel_rfl) ?_
   refine OkQ.nil ?_
   refine Ok.thenN ?_
   refine Ok.ret ?_
   exact Ok.resP (vs := [.string ⟨⟨(ownS xd e4.2.2.2.2.1)⟩⟩]) [] [] (by decide) rfl (.inl rfl) rfl (.cons (.tmp rfl) .nil) (Gext.refl w0 g) ⟨(ownS xd e4.2.2.2.2.1), rfl, rfl, hF⟩
theorem rof_F (N : Nat) (d : DC) (n : Int) (hp : rofP (N + 1) d n) : rofF N d n (fun r => r = ownS d n) := by
 obtain ⟨hg, he, hN⟩ := hp
 have hw : ownS d n = ownN d.1 (N + 1) n := own_fuel N n he 42 (by omega)
 refine ⟨fun h => ?_, fun h => ?_⟩
 ·rw [hw, ownN, if_t h]
 have h0 := of_decide_eq_false h
 cases N with
 | zero => exact absurd he h0
 | succ N =>
  rcases he with he | ⟨h1, h2⟩
  ·exact absurd he h0
  have hx := hg _ (mem_getD default (show n.toNat < d.1.length by omega))
  have hup : ownS d (par d.1 n.toNat) = ownN d.1 (N + 1) (par d.1 n.toNat) := own_fuel N _ h2 42 (by omega)
  rw [ownN, if_f h] at hw
  generalize hX : d.1.getD n.toNat default = x at hx hw
  have hpar : par d.1 n.toNat = x.2.2.2.2.1 := by unfold par; rw [hX]
  have j11 : regS x = [] → rofj11 (N + 1) d n (fun r => r = ownS d n) := fun hr => by
   refine ⟨by omega, by omega, ?_, ?_⟩
   ·rw [hX, ← hpar]; exact ⟨hg, h2, by omega⟩
   ·show ownS d _ = ownS d n
    rw [hX, ← hpar, hw, hr, hup]; rfl
  have ha : attNS d n regW = attS x.2.2.1 regW := by unfold attNS; rw [hX]
  have hm : relM d n = (x.1 == 2) := by unfold relM; rw [hX]
  have j17 : (x.1 == 2) = true → rofj17 (N + 1) d n (fun r => r = ownS d n) := fun h2 => by
   have hv : rofV0 d n = ((attS x.2.2.1 regW).2 && plainS (attS x.2.2.1 regW).1) := by unfold rofV0; rw [ha]
   refine ⟨fun hc => ?_, fun hc => ?_⟩
   ·rw [hv] at hc
    have hr : regS x = (attS x.2.2.1 regW).1 := by unfold regS regA; rw [if_t h2, if_t hc]
    rw [Bool.and_eq_true] at hc
    have hne := plain_ne hc.2
    rw [ha, hw, hr, if_f hne]
   ·rw [hv] at hc
    exact j11 (by unfold regS regA; rw [if_t h2, if_f hc])
  refine ⟨⟨by omega, by omega⟩, fun hc => ?_, fun hc => ?_⟩
  ·rw [hm] at hc
   refine ⟨⟨by omega, by omega, by rw [hX]; have := hx.1; omega⟩, fun hb => ⟨?_, j17 hc⟩, fun _ => j17 hc⟩
   rw [ha] at hb ⊢
   unfold attS at hb ⊢
   split
   ·rename_i a hf
    have := hx.2 a (List.mem_of_find?_eq_some hf)
    show a.2.length < _
    omega
   ·rename_i hf; rw [hf] at hb; cases hb
  ·rw [hm] at hc
   exact j11 (by unfold regS; rw [if_f hc])
set_option linter.unusedVariables false in
theorem rof_rec : ∀ N, rof_C N
 | 0 => (by intro g axd_0 cxd_0 xd xn hRxd_0 hp; exact (rof_0 xd xn hp).elim)
 | N + 1 =>
  have ih := rof_rec N
  (by intro g axd_0 cxd_0 xd xn hRxd_0 hp; exact (rof_ok N ih xd xn hRxd_0 _ (rof_F N xd xn hp)).gives (by rintro g' H' v _ ⟨r0, rfl, rfl, hK⟩; subst hK; rfl))
def rofPE (xd : (List (Int × List UInt8 × (List (List UInt8 × List UInt8)) × List UInt8 × Int × List (Int))) × Bool) (xn : Int) : Prop := ∃ N, rofP N xd xn
set_option linter.unusedVariables false in
theorem rof_c {g : Ghost} {axd_0 : Option Addr} {cxd_0 : Nat} (xd : (List (Int × List UInt8 × (List (List UInt8 × List UInt8)) × List UInt8 × Int × List (Int))) × Bool) (xn : Int) (hRxd_0 : Rep g (.slice (.pair (.int .i64) (.pair (.str) (.pair (.slice (.pair (.str) (.str))) (.pair (.str) (.pair (.int .i64) (.slice (.int .i64)))))))) [.slice axd_0 xd.1.length cxd_0] xd.1)  (hp : rofPE xd xn) : CallsG Tryz.prog 9 #[.agg #[.slice axd_0 xd.1.length cxd_0, .bool xd.2], .int .i64 xn] g (.string ⟨⟨(ownS xd xn)⟩⟩) := by
 obtain ⟨N, hp⟩ := hp
 exact (rof_rec N) _ xd xn hRxd_0 hp
def lloV1 (xd : (List (Int × List UInt8 × (List (List UInt8 × List UInt8)) × List UInt8 × Int × List (Int))) × Bool) (x7l19 : Int) : List UInt8 :=
 (if (relM xd x7l19) = true then (ownS xd x7l19) else ([] : List UInt8))
def lloj30 (xd : (List (Int × List UInt8 × (List (List UInt8 × List UInt8)) × List UInt8 × Int × List (Int))) × Bool) (K : Bool → Prop) (x7l19 : Int) (C19 : Int → Prop) : Prop :=
 (0 : Int) ≤ x7l19 ∧ Int.toNat x7l19 < ((ownsS xd).1).length ∧ ((!((((ownsS xd).1).getD (Int.toNat x7l19) default) == (lloV1 xd x7l19))) = true → K false) ∧ ((!((((ownsS xd).1).getD (Int.toNat x7l19) default) == (lloV1 xd x7l19))) = false → C19 (IntKind.wrap .i64 (x7l19 + 1)))
def llol19b (xd : (List (Int × List UInt8 × (List (List UInt8 × List UInt8)) × List UInt8 × Int × List (Int))) × Bool) (K : Bool → Prop) (x7l19 : Int) (C19 : Int → Prop) : Prop :=
 ((decide (x7l19 < (xd.1.length : Int))) = true → relP xd x7l19 ∧ (((relM xd x7l19)) = true → rofPE xd x7l19 ∧ lloj30 xd K x7l19 C19) ∧ (((relM xd x7l19)) = false → lloj30 xd K x7l19 C19)) ∧ ((decide (x7l19 < (xd.1.length : Int))) = false → K ((((ownsS xd).1).length : Int) == (xd.1.length : Int)))
def llol19 (xd : (List (Int × List UInt8 × (List (List UInt8 × List UInt8)) × List UInt8 × Int × List (Int))) × Bool) (K : Bool → Prop) : Nat → Int → Prop
 | 0, _ => False
 | k + 1, x7l19 => llol19b xd K x7l19 (llol19 xd K k)
def lloF (xd : (List (Int × List UInt8 × (List (List UInt8 × List UInt8)) × List UInt8 × Int × List (Int))) × Bool) (K : Bool → Prop) : Prop :=
 withP ([97, 123, 125] : List UInt8) ([49] : List UInt8) ∧ dchkP xd ∧ ((((((ownsS xd).2) != 0) || (((withS ([97, 123, 125] : List UInt8) ([49] : List UInt8)).2) != 3))) = true → K ((((withS ([97, 123, 125] : List UInt8) ([49] : List UInt8)).2) == 3) && ((((ownsS xd).1).length : Int) == 0))) ∧ ((((((ownsS xd).2) != 0) || (((withS ([97, 123, 125] : List UInt8) ([49] : List UInt8)).2) != 3))) = false → ∃ k, llol19 xd K k 0)
set_option maxHeartbeats 4000000 in
set_option maxRecDepth 100000 in
set_option linter.unusedVariables false in
theorem llo_ok {g : Ghost} {axd_0 : Option Addr} {cxd_0 : Nat} (xd : (List (Int × List UInt8 × (List (List UInt8 × List UInt8)) × List UInt8 × Int × List (Int))) × Bool) (hRxd_0 : Rep g (.slice (.pair (.int .i64) (.pair (.str) (.pair (.slice (.pair (.str) (.str))) (.pair (.str) (.pair (.int .i64) (.slice (.int .i64)))))))) [.slice axd_0 xd.1.length cxd_0] xd.1) (hG2 : SomeInt g 2) (K : Bool → Prop)
  (hF : lloF xd K) : CallsH Tryz.prog 3 #[.agg #[.slice axd_0 xd.1.length cxd_0, .bool xd.2]] g [] (fun g' H' v => ∃ (r0 : Bool), v = .bool r0 ∧ H' = [] ∧ K r0) := by
 refine CallsH.enter 56 [(0, .agg #[.slice axd_0 xd.1.length cxd_0, .bool xd.2])] Tryz.func3 rfl (by kernel_rfl) (by kernel_rfl) (by kernel_rfl) fun w0 => ?_
 refine Ok.seq ?_
 refine Ok.region ?_
 refine Ok.op rfl (OpOk.box (v := .agg #[.slice axd_0 xd.1.length cxd_0, .bool xd.2]) (cs := #[.slice axd_0 xd.1.length cxd_0, .bool xd.2]) rfl (by kernel_rfl) rfl fun b1 => ?_)
 refine Ok.batch 1 [(1, .pointer (some ⟨b1, 0, none⟩))] (by kernel_rfl) ?_
 refine Ok.nil ?_
 refine Ok.thenN ?_
 refine Ok.seq ?_
 refine Ok.region ?_
 obtain ⟨hp2, hF⟩ := hF
 refine Ok.op rfl (OpOk.callG (v := .tuple #[.string ⟨⟨(withS ([97, 123, 125] : List UInt8) ([49] : List UInt8)).1⟩⟩, .int .i64 ((withS ([97, 123, 125] : List UInt8) ([49] : List UInt8)).2)]) (enters (by kernel_rfl) (fun _ => by kernel_rfl)) (fun W hW => lwi_c ([97, 123, 125] : List UInt8) ([49] : List UInt8) (hG2.mono hW.sees) hp2) rfl ?_)
 refine Ok.batch 5 [(1, .pointer (some ⟨b1, 0, none⟩)), (4, .int .i64 ((withS ([97, 123, 125] : List UInt8) ([49] : List UInt8)).2))] (by kernel_rfl) ?_
 refine Ok.nil ?_
 refine Ok.thenN ?_
 refine Ok.seq ?_
 refine Ok.region ?_
 refine Ok.op rfl (OpOk.step (v := .agg #[.slice axd_0 xd.1.length cxd_0, .bool xd.2]) (Yields.loadAgg 0 2 #[.slice axd_0 xd.1.length cxd_0, .bool xd.2] rfl rfl Tryz.underlying24 rfl (by kernel_rfl) (by kernel_rfl) (by kernel_rfl)) rfl rfl ?_)
 obtain ⟨hp3, hF⟩ := hF
 refine Ok.op rfl (OpOk.callH [] [.blk b1 (.cells #[.slice axd_0 xd.1.length cxd_0, .bool xd.2] 24)] (enters (by kernel_rfl) (fun _ => by kernel_rfl)) rfl (los_c xd hRxd_0 hG2 hp3) rfl fun g4 _ _ hx4 hV4 => ?_)
 obtain ⟨a4_0, c4_0, rfl, hR4_0, rfl⟩ := hV4
 replace hRxd_0 := hRxd_0.mono hx4.1
 replace hG2 := hG2.mono hx4.1
 refine Ok.batch 5 [(1, .pointer (some ⟨b1, 0, none⟩)), (4, .int .i64 ((withS ([97, 123, 125] : List UInt8) ([49] : List UInt8)).2)), (5, .slice a4_0 ((ownsS xd).1).length c4_0), (6, .int .i64 ((ownsS xd).2))] (by kernel_rfl) ?_
 refine Ok.nil ?_
 refine Ok.thenN ?_
 refine Ok.seq ?_
 refine Ok.seq ?_
 refine Ok.region ?_
 refine Ok.batch 3 [(1, .pointer (some ⟨b1, 0, none⟩)), (4, .int .i64 ((withS ([97, 123, 125] : List UInt8) ([49] : List UInt8)).2)), (5, .slice a4_0 ((ownsS xd).1).length c4_0), (20, .bool (((ownsS xd).2) != 0))] (by kernel_rfl) ?_
 refine Ok.midway 3 [(1, .pointer (some ⟨b1, 0, none⟩)), (4, .int .i64 ((withS ([97, 123, 125] : List UInt8) ([49] : List UInt8)).2)), (5, .slice a4_0 ((ownsS xd).1).length c4_0), (23, .bool ((((ownsS xd).2) != 0) || (((withS ([97, 123, 125] : List UInt8) ([49] : List UInt8)).2) != 3)))] (fun hR5 => ?_) ?_
 ·refine Ok.boolAt 20 ((((ownsS xd).2) != 0)) rfl (fun hc6 => ?_) (fun hc6 => ?_)
  ·skip
   refine Ok.batch 3 [(1, .pointer (some ⟨b1, 0, none⟩)), (4, .int .i64 ((withS ([97, 123, 125] : List UInt8) ([49] : List UInt8)).2)), (5, .slice a4_0 ((ownsS xd).1).length c4_0), (23, .bool true)] (by kernel_rfl) ?_
   refine Ok.reval 23 rfl (show (.bool true : Value) = .bool ((((ownsS xd).2) != 0) || (((withS ([97, 123, 125] : List UInt8) ([49] : List UInt8)).2) != 3)) from congrArg Value.bool (mor_t hc6)) ?_
   refine Ok.batch 0 [(1, .pointer (some ⟨b1, 0, none⟩)), (4, .int .i64 ((withS ([97, 123, 125] : List UInt8) ([49] : List UInt8)).2)), (5, .slice a4_0 ((ownsS xd).1).length c4_0), (23, .bool ((((ownsS xd).2) != 0) || (((withS ([97, 123, 125] : List UInt8) ([49] : List UInt8)).2) != 3)))] (by kernel_rfl) ?_
   exact hR5
  ·skip
   refine Ok.batch 3 [(1, .pointer (some ⟨b1, 0, none⟩)), (4, .int .i64 ((withS ([97, 123, 125] : List UInt8) ([49] : List UInt8)).2)), (5, .slice a4_0 ((ownsS xd).1).length c4_0), (23, .bool (((withS ([97, 123, 125] : List UInt8) ([49] : List UInt8)).2) != 3))] (by kernel_rfl) ?_
   refine Ok.reval 23 rfl (show (.bool (((withS ([97, 123, 125] : List UInt8) ([49] : List UInt8)).2) != 3) : Value) = .bool ((((ownsS xd).2) != 0) || (((withS ([97, 123, 125] : List UInt8) ([49] : List UInt8)).2) != 3)) from congrArg Value.bool (mor_f hc6)) ?_
   refine Ok.batch 0 [(1, .pointer (some ⟨b1, 0, none⟩)), (4, .int .i64 ((withS ([97, 123, 125] : List UInt8) ([49] : List UInt8)).2)), (5, .slice a4_0 ((ownsS xd).1).length c4_0), (23, .bool ((((ownsS xd).2) != 0) || (((withS ([97, 123, 125] : List UInt8) ([49] : List UInt8)).2) != 3)))] (by kernel_rfl) ?_
   exact hR5
 refine Ok.nil ?_
 refine Ok.thenN ?_
 refine Ok.cond (b := ((((ownsS xd).2) != 0) || (((withS ([97, 123, 125] : List UInt8) ([49] : List UInt8)).2) != 3))) rfl (fun hc7 => ?_) (fun hc7 => ?_)
 ·replace hF := hF.1 hc7
  refine Ok.seq ?_
  refine Ok.region ?_
  refine Ok.batch 3 [(5, .slice a4_0 ((ownsS xd).1).length c4_0), (26, .bool (((withS ([97, 123, 125] : List UInt8) ([49] : List UInt8)).2) == 3))] (by kernel_rfl) ?_
  refine Ok.midway 4 [(30, .bool ((((withS ([97, 123, 125] : List UInt8) ([49] : List UInt8)).2) == 3) && ((((ownsS xd).1).length : Int) == 0)))] (fun hR8 => ?_) ?_
  ·refine Ok.boolAt 26 ((((withS ([97, 123, 125] : List UInt8) ([49] : List UInt8)).2) == 3)) rfl (fun hc9 => ?_) (fun hc9 => ?_)
   ·skip
    refine Ok.batch 4 [(30, .bool ((((ownsS xd).1).length : Int) == 0))] (by kernel_rfl) ?_
    refine Ok.reval 30 rfl (show (.bool ((((ownsS xd).1).length : Int) == 0) : Value) = .bool ((((withS ([97, 123, 125] : List UInt8) ([49] : List UInt8)).2) == 3) && ((((ownsS xd).1).length : Int) == 0)) from congrArg Value.bool (mand_t hc9)) ?_
    refine Ok.batch 0 [(30, .bool ((((withS ([97, 123, 125] : List UInt8) ([49] : List UInt8)).2) == 3) && ((((ownsS xd).1).length : Int) == 0)))] (by kernel_rfl) ?_
    exact hR8
   ·skip
    refine Ok.batch 4 [(30, .bool false)] (by kernel_rfl) ?_
    refine Ok.reval 30 rfl (show (.bool false : Value) = .bool ((((withS ([97, 123, 125] : List UInt8) ([49] : List UInt8)).2) == 3) && ((((ownsS xd).1).length : Int) == 0)) from congrArg Value.bool (mand_f hc9)) ?_
    refine Ok.batch 0 [(30, .bool ((((withS ([97, 123, 125] : List UInt8) ([49] : List UInt8)).2) == 3) && ((((ownsS xd).1).length : Int) == 0)))] (by kernel_rfl) ?_
    exact hR8
  refine Ok.batch 1 [(2, .bool ((((withS ([97, 123, 125] : List UInt8) ([49] : List UInt8)).2) == 3) && ((((ownsS xd).1).length : Int) == 0)))] (by kernel_rfl) ?_
  refine Ok.nil ?_
  refine Ok.thenN ?_
  refine Ok.ret ?_
  refine Ok.thenR ?_
  exact Ok.resP (vs := [.bool ((((withS ([97, 123, 125] : List UInt8) ([49] : List UInt8)).2) == 3) && ((((ownsS xd).1).length : Int) == 0))]) [] [] (by decide) rfl (.inl rfl) rfl (.cons (.tmp rfl) .nil) hx4 ⟨((((withS ([97, 123, 125] : List UInt8) ([49] : List UInt8)).2) == 3) && ((((ownsS xd).1).length : Int) == 0)), rfl, rfl, hF⟩
 ·replace hF := hF.2 hc7
  refine Ok.skip ?_
  refine Ok.thenN ?_
  refine Ok.seq ?_
  refine Ok.seq ?_
  refine Ok.region ?_
  refine Ok.batch 1 [(1, .pointer (some ⟨b1, 0, none⟩)), (5, .slice a4_0 ((ownsS xd).1).length c4_0), (7, .int .i64 0)] (by kernel_rfl) ?_
  refine Ok.nil ?_
  refine Ok.thenN ?_
  refine Ok.block ?_
  obtain ⟨k, hF⟩ := hF
  refine Ok.loop (fun k a W => ∃ gl19 : Ghost, Gext w0 g4 gl19 ∧ ∃ (x7l19 : Int), StA 56 [(1, .pointer (some ⟨b1, 0, none⟩)), (5, .slice a4_0 ((ownsS xd).1).length c4_0), (7, .int .i64 x7l19)] a ∧ StW w0 [.blk b1 (.cells #[.slice axd_0 xd.1.length cxd_0, .bool xd.2] 24)] gl19 W ∧ llol19 xd K k x7l19) k ?_ ?_
  ·
   exact fun a W hA hW => ⟨g4, (Gext.refl w0 g4), 0, hA.sub (by kernel_rfl), hW, hF⟩
  ·
   clear hF
   rintro k19 a W ⟨gl19, hxl19, x7l19, hA, hW, hF⟩
   cases k19 with
   | zero => exact (hF : False).elim
   | succ k19 =>
    refine (?_ : Ok _ _ _ _ _ _) a W hA hW
    clear hA hW
    replace hR4_0 := hR4_0.mono hxl19.1
    replace hRxd_0 := hRxd_0.mono hxl19.1
    replace hG2 := hG2.mono hxl19.1
    refine Ok.seq ?_
    refine Ok.seq ?_
    refine Ok.region ?_
    refine Ok.batch 2 [(1, .pointer (some ⟨b1, 0, none⟩)), (5, .slice a4_0 ((ownsS xd).1).length c4_0), (7, .int .i64 x7l19), (31, .int .i64 x7l19), (32, .pointer (some ⟨b1, 0, none⟩))] (by kernel_rfl) ?_
    refine Ok.op rfl (OpOk.step (v := .slice axd_0 xd.1.length cxd_0) (Yields.load 0 rfl rfl Tryz.underlying22 rfl (by kernel_rfl)) rfl rfl ?_)
    refine Ok.batch 2 [(1, .pointer (some ⟨b1, 0, none⟩)), (5, .slice a4_0 ((ownsS xd).1).length c4_0), (7, .int .i64 x7l19), (35, .bool (decide (x7l19 < (xd.1.length : Int))))] (by kernel_rfl) ?_
    refine Ok.nil ?_
    refine Ok.thenN ?_
    refine Ok.cond (b := decide (x7l19 < (xd.1.length : Int))) rfl (fun hc10 => ?_) (fun hc10 => ?_)
    ·replace hF := hF.1 hc10
     refine Ok.skip ?_
     refine Ok.thenN ?_
     refine Ok.seq ?_
     refine Ok.block ?_
     refine Ok.seq ?_
     refine Ok.region ?_
     refine Ok.batch 1 [(1, .pointer (some ⟨b1, 0, none⟩)), (5, .slice a4_0 ((ownsS xd).1).length c4_0), (7, .int .i64 x7l19), (8, .string ⟨⟨([] : List UInt8)⟩⟩)] (by kernel_rfl) ?_
     refine Ok.nil ?_
     refine Ok.thenN ?_
     refine Ok.cut (fun a W => ∃ gj30 : Ghost, Gext w0 gl19 gj30 ∧ StA 56 [(1, .pointer (some ⟨b1, 0, none⟩)), (5, .slice a4_0 ((ownsS xd).1).length c4_0), (7, .int .i64 x7l19), (8, .string ⟨⟨(lloV1 xd x7l19)⟩⟩)] a ∧ StW w0 [.blk b1 (.cells #[.slice axd_0 xd.1.length cxd_0, .bool xd.2] 24)] gj30 W ∧ lloj30 xd K x7l19 (llol19 xd K k19)) ?_ ?_
     ·
      refine Ok.seq ?_
      refine Ok.region ?_
      refine Ok.op rfl (OpOk.step (v := .agg #[.slice axd_0 xd.1.length cxd_0, .bool xd.2]) (Yields.loadAgg 0 2 #[.slice axd_0 xd.1.length cxd_0, .bool xd.2] rfl rfl Tryz.underlying24 rfl (by kernel_rfl) (by kernel_rfl) (by kernel_rfl)) rfl rfl ?_)
      refine Ok.batch 1 [(1, .pointer (some ⟨b1, 0, none⟩)), (5, .slice a4_0 ((ownsS xd).1).length c4_0), (7, .int .i64 x7l19), (8, .string ⟨⟨([] : List UInt8)⟩⟩), (38, .agg #[.slice axd_0 xd.1.length cxd_0, .bool xd.2]), (39, .int .i64 x7l19)] (by kernel_rfl) ?_
      obtain ⟨hp14, hF⟩ := hF
      refine Ok.op rfl (OpOk.callG (v := .bool (relM xd x7l19)) (enters (by kernel_rfl) (fun _ => by kernel_rfl)) (fun W hW => rel_c xd x7l19 (hRxd_0.mono hW.sees) hp14) rfl ?_)
      refine Ok.nil ?_
      refine Ok.thenN ?_
      refine Ok.cond (b := (relM xd x7l19)) rfl (fun hc15 => ?_) (fun hc15 => ?_)
      ·replace hF := hF.1 hc15
       refine Ok.region ?_
       refine Ok.op rfl (OpOk.step (v := .agg #[.slice axd_0 xd.1.length cxd_0, .bool xd.2]) (Yields.loadAgg 0 2 #[.slice axd_0 xd.1.length cxd_0, .bool xd.2] rfl rfl Tryz.underlying24 rfl (by kernel_rfl) (by kernel_rfl) (by kernel_rfl)) rfl rfl ?_)
       refine Ok.batch 1 [(1, .pointer (some ⟨b1, 0, none⟩)), (5, .slice a4_0 ((ownsS xd).1).length c4_0), (7, .int .i64 x7l19), (41, .agg #[.slice axd_0 xd.1.length cxd_0, .bool xd.2]), (42, .int .i64 x7l19)] (by kernel_rfl) ?_
       obtain ⟨hp16, hF⟩ := hF
       refine Ok.op rfl (OpOk.callG (v := .string ⟨⟨(ownS xd x7l19)⟩⟩) (enters (by kernel_rfl) (fun _ => by kernel_rfl)) (fun W hW => rof_c xd x7l19 (hRxd_0.mono hW.sees) hp16) rfl ?_)
       refine Ok.batch 1 [(1, .pointer (some ⟨b1, 0, none⟩)), (5, .slice a4_0 ((ownsS xd).1).length c4_0), (7, .int .i64 x7l19), (8, .string ⟨⟨(ownS xd x7l19)⟩⟩)] (by kernel_rfl) ?_
       refine Ok.nil ?_
       refine Ok.thenN ?_
       refine Ok.reval 8 rfl (show (.string ⟨⟨(ownS xd x7l19)⟩⟩ : Value) = .string ⟨⟨(lloV1 xd x7l19)⟩⟩ from congrArg ((fun s : List UInt8 => Value.string ⟨⟨s⟩⟩)) ((if_t hc15).symm)) ?_
       exact fun a W hA hW => ⟨gl19, (Gext.refl w0 gl19), hA.sub (by kernel_rfl), hW, hF⟩
      ·replace hF := hF.2 hc15
       refine Ok.skip ?_
       refine Ok.thenN ?_
       refine Ok.reval 8 rfl (show (.string ⟨⟨([] : List UInt8)⟩⟩ : Value) = .string ⟨⟨(lloV1 xd x7l19)⟩⟩ from congrArg ((fun s : List UInt8 => Value.string ⟨⟨s⟩⟩)) ((if_f hc15).symm)) ?_
       exact fun a W hA hW => ⟨gl19, (Gext.refl w0 gl19), hA.sub (by kernel_rfl), hW, hF⟩
     ·
      clear hF
      rintro a W ⟨gj30, hxj30, hA, hW, hF⟩
      refine (?_ : Ok _ _ _ _ _ _) a W hA hW
      clear hA hW
      replace hR4_0 := hR4_0.mono hxj30.1
      replace hRxd_0 := hRxd_0.mono hxj30.1
      replace hG2 := hG2.mono hxj30.1
      refine Ok.seq ?_
      refine Ok.region ?_
      refine Ok.batch 2 [(1, .pointer (some ⟨b1, 0, none⟩)), (5, .slice a4_0 ((ownsS xd).1).length c4_0), (7, .int .i64 x7l19), (8, .string ⟨⟨(lloV1 xd x7l19)⟩⟩), (44, .slice a4_0 ((ownsS xd).1).length c4_0), (45, .int .i64 x7l19)] (by kernel_rfl) ?_
      obtain ⟨h012, h112, hF⟩ := hF
      have he12 := get_of (l := (ownsS xd).1) (default : List UInt8) h112
      generalize hg12 : (((ownsS xd).1).getD (Int.toNat x7l19) default) = e12 at he12 hF ⊢
      refine Ok.op rfl (OpOk.indexRo (e := .str) (i := x7l19) (el := e12) rfl rfl Tryz.underlying28 (by kernel_rfl) hR4_0 h012 he12 rfl fun q11 o11 cs11 _ hat11 hr11 => ?_)
      obtain rfl := hr11
      replace hat11 : At gj30 q11 o11 [.string ⟨⟨e12⟩⟩] := hat11
      refine Ok.op rfl (OpOk.step (v := .string ⟨⟨e12⟩⟩) (Yields.loadRo 0 hat11 (by kernel_rfl) Tryz.underlying9 rfl (by kernel_rfl)) rfl rfl ?_)
      refine Ok.batch 1 [(1, .pointer (some ⟨b1, 0, none⟩)), (5, .slice a4_0 ((ownsS xd).1).length c4_0), (7, .int .i64 x7l19), (47, .string ⟨⟨e12⟩⟩), (48, .string ⟨⟨(lloV1 xd x7l19)⟩⟩)] (by kernel_rfl) ?_
      refine Ok.op rfl (OpOk.step (v := .bool (!(e12 == (lloV1 xd x7l19)))) (Yields.strCmp (f := .neq) (a := e12) (b := (lloV1 xd x7l19)) (by kernel_rfl) (by kernel_rfl) rfl) rfl rfl ?_)
      refine Ok.nil ?_
      refine Ok.thenN ?_
      refine Ok.cond (b := !(e12 == (lloV1 xd x7l19))) rfl (fun hc13 => ?_) (fun hc13 => ?_)
      ·replace hF := hF.1 hc13
       refine Ok.seq ?_
       refine Ok.region ?_
       refine Ok.batch 1 [(2, .bool false)] (by kernel_rfl) ?_
       refine Ok.nil ?_
       refine Ok.thenN ?_
       refine Ok.ret ?_
       refine Ok.blockR ?_
       refine Ok.thenR ?_
       refine Ok.thenR ?_
       refine Ok.blockR ?_
       refine Ok.thenR ?_
       exact Ok.resP (vs := [.bool false]) [] [] (by decide) rfl (.inl rfl) rfl (.cons (.tmp rfl) .nil) ((hx4.trans hxl19).trans hxj30) ⟨false, rfl, rfl, hF⟩
      ·replace hF := hF.2 hc13
       refine Ok.skip ?_
       refine Ok.blockN ?_
       refine Ok.thenN ?_
       refine Ok.region ?_
       refine Ok.batch 3 [(1, .pointer (some ⟨b1, 0, none⟩)), (5, .slice a4_0 ((ownsS xd).1).length c4_0), (7, .int .i64 (IntKind.wrap .i64 (x7l19 + 1)))] (by kernel_rfl) ?_
       refine Ok.nil ?_
       refine Ok.thenN ?_
       subst hg12
       exact fun a W hA hW => ⟨k19, Nat.lt_succ_self _, gj30, (hxl19.trans hxj30), IntKind.wrap .i64 (x7l19 + 1), hA.sub (by kernel_rfl), hW, hF⟩
    ·replace hF := hF.2 hc10
     refine Ok.exit ?_
     refine Ok.thenE ?_
     refine Ok.thenE ?_
     refine Ok.blockHit ?_
     refine Ok.thenN ?_
     refine Ok.seq ?_
     refine Ok.region ?_
     refine Ok.batch 3 [(51, .int .i64 (((ownsS xd).1).length : Int)), (52, .pointer (some ⟨b1, 0, none⟩))] (by kernel_rfl) ?_
     refine Ok.op rfl (OpOk.step (v := .slice axd_0 xd.1.length cxd_0) (Yields.load 0 rfl rfl Tryz.underlying22 rfl (by kernel_rfl)) rfl rfl ?_)
     refine Ok.batch 3 [(2, .bool ((((ownsS xd).1).length : Int) == (xd.1.length : Int)))] (by kernel_rfl) ?_
     refine Ok.nil ?_
     refine Ok.thenN ?_
     refine Ok.ret ?_
     exact Ok.resP (vs := [.bool ((((ownsS xd).1).length : Int) == (xd.1.length : Int))]) [] [] (by decide) rfl (.inl rfl) rfl (.cons (.tmp rfl) .nil) (hx4.trans hxl19) ⟨((((ownsS xd).1).length : Int) == (xd.1.length : Int)), rfl, rfl, hF⟩
def lloP (d : DC) : Prop := DomS ((.pair (.slice (.pair (.int .i64) (.pair (.str) (.pair (.slice (.pair (.str) (.str))) (.pair (.str) (.pair (.int .i64) (.slice (.int .i64)))))))) (.bool))) d
theorem llo_F (d : DC) (hp : lloP d) : lloF d (fun r => r = true) := by
 have hd : dchkP d := fun x hx => (hp.1.1.2 x hx).2.2.2.2.2.1
 refine ⟨⟨by unfold cutP; decide, by decide +kernel⟩, hd, fun h => ?_, fun h => ?_⟩
 ·unfold ownsS at h ⊢
  by_cases hz : (dchkS d != 0) = true
  ·rw [if_t hz]; rfl
  ·exfalso
   rw [if_f (by simpa using hz)] at h
   cases h
 have hz : (dchkS d != 0) = false := by
  cases hc : (dchkS d != 0)
  ·rfl
  ·unfold ownsS at h
   rw [if_t hc, Bool.or_eq_false_iff] at h
   rw [hc] at h; exact h.1
 have hz0 : dchkS d = 0 := by simpa using hz
 have hG := (dchk_sp d hd).2 hz0
 have hlen := hG.few
 have hA : ∀ x ∈ d.1, AGood x.2.2.1 := fun x hx => by
  obtain ⟨i, hi, rfl⟩ := List.getElem_of_mem hx
  have := hG.vals i hi
  rwa [List.getD_eq_getElem?_getD, List.getElem?_eq_getElem hi, Option.getD_some] at this
 have hR : ownsS d = ((List.range d.1.length).map (own1 d), 0) := by unfold ownsS; rw [if_f hz]
 have loop : ∀ (k i : Nat), i + k = d.1.length → llol19 d (fun r => r = true) (k + 1) (i : Int) := by
  intro k
  induction k with
  | zero =>
   intro i h
   refine ⟨fun h2 => by have := of_decide_eq_true h2; omega, fun _ => ?_⟩
   rw [hR]; simp
  | succ k ih =>
   intro i h
   have j30 : lloj30 d (fun r => r = true) (i : Int) (llol19 d (fun r => r = true) (k + 1)) := by
    have e : ((ownsS d).1.getD i default) = lloV1 d (i : Int) := by
     rw [hR]
     show ((List.range d.1.length).map (own1 d)).getD i default = _
     rw [List.getD_eq_getElem?_getD, List.getElem?_map, List.getElem?_range (by omega)]
     show own1 d i = _
     unfold own1 lloV1 relM
     rw [Int.toNat_natCast]
    refine ⟨by omega, by rw [hR, Int.toNat_natCast]; simp; omega, fun hc => ?_, fun _ => ?_⟩
    ·rw [Int.toNat_natCast, e] at hc; simp at hc
    ·rw [w64 (by omega)]; exact ih (i + 1) (by omega)
   refine ⟨fun _ => ⟨⟨by omega, by omega⟩, fun _ => ⟨⟨42, hA, ends_ok hG (by omega), Nat.le_refl _⟩, j30⟩, fun _ => j30⟩, fun h2 => by have := of_decide_eq_false h2; omega⟩
 exact ⟨_, loop d.1.length 0 (by omega)⟩
set_option linter.unusedVariables false in
theorem llo_c {g : Ghost} {axd_0 : Option Addr} {cxd_0 : Nat} (xd : (List (Int × List UInt8 × (List (List UInt8 × List UInt8)) × List UInt8 × Int × List (Int))) × Bool) (hRxd_0 : Rep g (.slice (.pair (.int .i64) (.pair (.str) (.pair (.slice (.pair (.str) (.str))) (.pair (.str) (.pair (.int .i64) (.slice (.int .i64)))))))) [.slice axd_0 xd.1.length cxd_0] xd.1) (hG2 : SomeInt g 2)  (hp : lloP xd) : CallsG Tryz.prog 3 #[.agg #[.slice axd_0 xd.1.length cxd_0, .bool xd.2]] g (.bool ((fun _ => true) xd)) :=
 (llo_ok xd hRxd_0 hG2 _ (llo_F xd hp)).gives (by rintro g' H' v _ ⟨r0, rfl, rfl, hK⟩; subst hK; rfl)
end Go.Proofs.YtdiedaeabbcceaaGreatDoor.Lk
