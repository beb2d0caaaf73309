/- strings.IndexRune, strings.IndexAny of "/?#" at any text. -/
import Derived.Shelf.Strings.IndexAny
import Derived.Shelf.Small.Utf8
import Derived.Lib.OthersKept
import Derived.Deep.LoopGhost
import Derived.Laws.Runes
import Derived.WalkMore
set_option linter.unusedVariables false
set_option linter.unusedSimpArgs false
namespace Go.Proofs
open Go.Shelf Go.RowKit Go.Lib
variable {P : Program} {ρ : Ren}
def marks3 : ByteArray := ⟨#[47, 63, 35]⟩
theorem high_shape (r : Int) (h0 : 128 ≤ r) (hv : Lib.validRune r = true) : ∃ a b : UInt8, 128 ≤ a.toNat ∧ 128 ≤ b.toNat ∧
  (Utf8.encode r = ⟨#[a, b]⟩ ∨ (∃ c, Utf8.encode r = ⟨#[a, c, b]⟩) ∨ ∃ c d, Utf8.encode r = ⟨#[a, c, d, b]⟩) := by
 have hv2 : Utf8.valid r = true := by
  unfold Lib.validRune at hv
  have := of_decide_eq_true hv
  unfold Utf8.valid
  simp only [Bool.or_eq_true, Bool.and_eq_true, decide_eq_true_eq]
  omega
 have hb : r ≤ 1114111 := by
  have := of_decide_eq_true hv
  omega
 unfold Utf8.encode
 simp only [hv2, if_true]
 rw [if_neg (by omega)]
 by_cases h1 : r.toNat < 2048
 ·rw [if_pos h1]
  exact ⟨_, _, by rw [UInt8.toNat_ofNat']; omega, by rw [UInt8.toNat_ofNat']; omega, .inl rfl⟩
 ·rw [if_neg h1]
  by_cases h2 : r.toNat < 65536
  ·rw [if_pos h2]
   exact ⟨_, _, by rw [UInt8.toNat_ofNat']; omega, by rw [UInt8.toNat_ofNat']; omega, .inr (.inl ⟨_, rfl⟩)⟩
  ·rw [if_neg h2]
   exact ⟨_, _, by rw [UInt8.toNat_ofNat']; omega, by rw [UInt8.toNat_ofNat']; omega, .inr (.inr ⟨_, _, rfl⟩)⟩
theorem high_miss (l : List UInt8) (hl : ∀ x ∈ l, x.toNat < 128) (b : UInt8) (hb : 128 ≤ b.toNat) : Lib.indexByte l b = -1 := by
 induction l with
 | nil => rfl
 | cons x l ih =>
  have hx := hl x (List.mem_cons_self ..)
  have hne : x ≠ b := fun h => by subst h; omega
  unfold Lib.indexByte
  rw [ih fun y hy => hl y (List.mem_cons_of_mem _ hy)]
  simp [hne]
set_option maxHeartbeats 4000000 in
set_option maxRecDepth 1000000 in
theorem Any.strings_IndexRune_high (L : Lays.n152 P ρ) (r : Int) (w : World) (h0 : 128 ≤ r) (hv : Lib.validRune r = true) :
  Calls P (ρ.f 152) #[.string marks3, .int .i32 r] w fun e w' => e = .returned (.int .i64 (-1)) ∧ Below w.heap.size w w' := by
 have t0 := L.t0; have a0 := L.a0; have z0 := L.z0; have v0 := L.v0
 have t3 := L.t3; have a3 := L.a3; have z3 := L.z3; have v3 := L.v3
 have t4 := L.t4; have a4 := L.a4; have z4 := L.z4; have v4 := L.v4
 have t5 := L.t5; have a5 := L.a5; have z5 := L.z5; have v5 := L.v5
 have t9 := L.t9; have a9 := L.a9; have z9 := L.z9; have v9 := L.v9
 have t21 := L.t21; have a21 := L.a21; have z21 := L.z21; have v21 := L.v21
 have t46 := L.t46; have a46 := L.a46; have z46 := L.z46; have v46 := L.v46
 have mixed := L.mixed
 have e137 : ∀ args w, (callFunc (ρ.f 137) args).run P w = .ok (.enter (ρ.f 137) args) w := enters_of L.f137 (by kernel_rfl) rfl
 have e119 : ∀ args w, (callFunc (ρ.f 119) args).run P w = .ok (.enter (ρ.f 119) args) w := enters_of L.f119 (by kernel_rfl) rfl
 have h128 : ¬ (r < 128) := by omega
 have hsz : (marks3.size : Int) = 3 := rfl
 by_cases hr : r = 65533
 ·subst hr
  go_enter L.f152, Body.n152_ntmps ρ
  go_wp2
  go_loopg [] 3 (fun g wx => ∃ i : Nat, i + g = 3 ∧ wx = w.iter marks3 i)
  case atStart => exact ⟨0, rfl, rfl⟩
  case round =>
   obtain ⟨i, hig, rfl⟩ := hrel
   cases gk with
   | zero =>
    obtain rfl : i = 3 := by omega
    have hnx := fun ty => run_next_end (P := P) w marks3 3 ty (by decide)
    go_wp2
    go_ret
    exact ⟨rfl, (Below.refl _ w).alloc (Nat.le_refl _) _⟩
   | succ g =>
    have hi : i < marks3.size := by show i < 3; omega
    obtain ⟨x, hx⟩ : ∃ x : UInt8, marks3[i]'hi = x := ⟨_, rfl⟩
    have hx128 : x.toNat < 128 := by
     rw [← hx]
     rcases (show i = 0 ∨ i = 1 ∨ i = 2 by omega) with rfl | rfl | rfl <;> (show (_ : Nat) < 128; first | exact (by decide : (47 : UInt8).toNat < 128) | exact (by decide : (63 : UInt8).toNat < 128) | exact (by decide : (35 : UInt8).toNat < 128))
    have hne : ((x.toNat : Int) == 65533) = false := beq_eq_false_iff_ne.2 (by omega)
    have hnx := fun ty => run_next_ascii (P := P) w marks3 i ty hi (by rw [hx]; exact hx128)
    rw [hx] at hnx
    go_wp2
    go_roundg g
    case measure => omega
    case rel => exact ⟨i + 1, by omega, rfl⟩
 ·have hrb : (r == 65533) = false := by simp [hr]
  obtain ⟨a, b, ha, hb, hc⟩ := high_shape r h0 hv
  rcases hc with hc | ⟨c, hc⟩ | ⟨c, d, hc⟩
  ·have hs21 : (P.underlying (ρ.t 21)).isSome = true := by rw [t21]; rfl
   have hcv := fun w => run_convert_int_string (P := P) w (ρ.t 21) (ρ.t 9) .i32 r hs21 t9
   rw [hc] at hcv
   go_enter L.f152, Body.n152_ntmps ρ
   go_wp2_with (go_at_fn (ρ.f 119); refine (Any.utf8_ValidRune { L with } _ _).mono ?_; rintro e w' ⟨rfl, hw⟩; rw [hw, hv])
   have hd : (((marks3[1]'(by decide)).toNat : Int) != (((⟨#[a, b]⟩ : ByteArray)[1]'(show 1 < 2 by omega)).toNat : Int)) = true := by
    show ((63 : Int) != (b.toNat : Int)) = true
    rw [bne_iff_ne]; omega
   have cI : ∀ W, Calls P (ρ.f 137) #[.string (marks3.extract 2 marks3.size), .int .u8 (((⟨#[a, b]⟩ : ByteArray)[1]'(show 1 < 2 by omega)).toNat : Int)] W fun e w' => e = .returned (.int .i64 (-1)) ∧ w' = W := fun W => by
    have := Any.strings_IndexByte (P := P) (ρ := ρ) { L with } (marks3.extract 2 marks3.size) (((⟨#[a, b]⟩ : ByteArray)[1]'(show 1 < 2 by omega)).toNat : Int) W
    rw [show ((((⟨#[a, b]⟩ : ByteArray)[1]'(show 1 < 2 by omega)).toNat : Int)).toNat.toUInt8 = b by show ((b.toNat : Int)).toNat.toUInt8 = b; simp, high_miss _ (by decide) b hb] at this
    exact this
   apply wp_scope_straight
   clear hc ha hv hr hrb hw e119
   go_wp2
   go_loopg [9] 1 (fun g s9 wx => s9 = .int .i64 1 ∧ wx = w)
   case atStart => exact ⟨rfl, rfl⟩
   case round =>
    obtain ⟨rfl, rfl⟩ := hrel
    go_wp2
    go_step3
    go_wp2
    go_region_o
    go_wp2
    go_region_with_o (refine (cI _).mono ?_; rintro e w' ⟨rfl, hw⟩; rw [hw])
    all_goals (
     go_wp2
     simp only [Exit.noGoto_ret, Exit.inBlock, Exit.then]
     go_ret
     exact ⟨rfl, Below.drew (Below.drew (Below.refl _ _))⟩)
  ·have hs21 : (P.underlying (ρ.t 21)).isSome = true := by rw [t21]; rfl
   have hcv := fun w => run_convert_int_string (P := P) w (ρ.t 21) (ρ.t 9) .i32 r hs21 t9
   rw [hc] at hcv
   go_enter L.f152, Body.n152_ntmps ρ
   go_wp2_with (go_at_fn (ρ.f 119); refine (Any.utf8_ValidRune { L with } _ _).mono ?_; rintro e w' ⟨rfl, hw⟩; rw [hw, hv])
   have hd : (((marks3[2]'(by decide)).toNat : Int) != (((⟨#[a, c, b]⟩ : ByteArray)[2]'(show 2 < 3 by omega)).toNat : Int)) = true := by
    show ((35 : Int) != (b.toNat : Int)) = true
    rw [bne_iff_ne]; omega
   have cI : ∀ W, Calls P (ρ.f 137) #[.string (marks3.extract 3 marks3.size), .int .u8 (((⟨#[a, c, b]⟩ : ByteArray)[2]'(show 2 < 3 by omega)).toNat : Int)] W fun e w' => e = .returned (.int .i64 (-1)) ∧ w' = W := fun W => by
    have := Any.strings_IndexByte (P := P) (ρ := ρ) { L with } (marks3.extract 3 marks3.size) (((⟨#[a, c, b]⟩ : ByteArray)[2]'(show 2 < 3 by omega)).toNat : Int) W
    rw [show ((((⟨#[a, c, b]⟩ : ByteArray)[2]'(show 2 < 3 by omega)).toNat : Int)).toNat.toUInt8 = b by show ((b.toNat : Int)).toNat.toUInt8 = b; simp, high_miss _ (by decide) b hb] at this
    exact this
   apply wp_scope_straight
   clear hc ha hv hr hrb hw e119
   go_wp2
   go_loopg [9] 1 (fun g s9 wx => s9 = .int .i64 2 ∧ wx = w)
   case atStart => exact ⟨rfl, rfl⟩
   case round =>
    obtain ⟨rfl, rfl⟩ := hrel
    go_wp2
    go_step3
    go_wp2
    go_region_o
    go_wp2
    go_region_with_o (refine (cI _).mono ?_; rintro e w' ⟨rfl, hw⟩; rw [hw])
    all_goals (
     go_wp2
     simp only [Exit.noGoto_ret, Exit.inBlock, Exit.then]
     go_ret
     exact ⟨rfl, Below.drew (Below.drew (Below.refl _ _))⟩)
  ·have hs21 : (P.underlying (ρ.t 21)).isSome = true := by rw [t21]; rfl
   have hcv := fun w => run_convert_int_string (P := P) w (ρ.t 21) (ρ.t 9) .i32 r hs21 t9
   rw [hc] at hcv
   go_enter L.f152, Body.n152_ntmps ρ
   go_wp2_with (go_at_fn (ρ.f 119); refine (Any.utf8_ValidRune { L with } _ _).mono ?_; rintro e w' ⟨rfl, hw⟩; rw [hw, hv])
   apply wp_scope_straight
   clear hc ha hv hr hrb hw e119
   go_wp2
   go_loopg [9] 1 (fun g s9 wx => s9 = .int .i64 3 ∧ wx = w)
   case atStart => exact ⟨rfl, rfl⟩
   case round =>
    obtain ⟨rfl, rfl⟩ := hrel
    go_wp2
    simp only [Exit.noGoto_ret, Exit.inBlock, Exit.then]
    go_ret
    exact ⟨rfl, Below.refl _ _⟩

theorem decode_two (s : ByteArray) (i : Nat) (hi : i < s.size) : ((Utf8.decode s i).1 = (s.get! i).toNat ∧ (s.get! i).toNat < 128 ∧ (Utf8.decode s i).2 = 1) ∨
  (128 ≤ (Utf8.decode s i).1 ∧ Lib.validRune ((Utf8.decode s i).1 : Int) = true ∧ 1 ≤ (Utf8.decode s i).2 ∧ i + (Utf8.decode s i).2 ≤ s.size ∧ ∀ k, k < (Utf8.decode s i).2 → 128 ≤ (s.get! (i + k)).toNat) := by
 have hb0 := (s.get! (i + 0)).toNat_lt
 have hbad : 128 ≤ (s.get! (i + 0)).toNat → 128 ≤ Utf8.runeError ∧ Lib.validRune (Utf8.runeError : Int) = true ∧ 1 ≤ 1 ∧ i + 1 ≤ s.size ∧ ∀ k, k < 1 → 128 ≤ (s.get! (i + k)).toNat := fun h => by
  refine ⟨by decide, by decide, by omega, by omega, fun k hk => ?_⟩
  obtain rfl : k = 0 := by omega
  exact h
 unfold Utf8.decode
 simp only
 split
 ·rename_i h
  exact .inl ⟨rfl, h, rfl⟩
 ·rename_i h
  right
  split
  ·rename_i h1
   simp only [Bool.and_eq_true, decide_eq_true_eq, beq_iff_eq] at h1
   split
   ·rename_i h2
    refine ⟨by omega, ?_, by omega, by omega, fun k hk => ?_⟩
    ·unfold Lib.validRune; rw [decide_eq_true_eq]; omega
    ·rcases (show k = 0 ∨ k = 1 by omega) with rfl | rfl <;> omega
   ·exact hbad (by omega)
  ·split
   ·rename_i h1
    simp only [Bool.and_eq_true, decide_eq_true_eq, beq_iff_eq] at h1
    split
    ·rename_i h2
     unfold Utf8.valid at h2
     simp only [Bool.and_eq_true, Bool.or_eq_true, decide_eq_true_eq] at h2
     refine ⟨by omega, ?_, by omega, by omega, fun k hk => ?_⟩
     ·unfold Lib.validRune; rw [decide_eq_true_eq]; omega
     ·rcases (show k = 0 ∨ k = 1 ∨ k = 2 by omega) with rfl | rfl | rfl <;> omega
    ·exact hbad (by omega)
   ·split
    ·rename_i h1
     simp only [Bool.and_eq_true, decide_eq_true_eq, beq_iff_eq] at h1
     split
     ·rename_i h2
      unfold Utf8.valid at h2
      simp only [Bool.and_eq_true, Bool.or_eq_true, decide_eq_true_eq] at h2
      refine ⟨by omega, ?_, by omega, by omega, fun k hk => ?_⟩
      ·unfold Lib.validRune; rw [decide_eq_true_eq]; omega
      ·rcases (show k = 0 ∨ k = 1 ∨ k = 2 ∨ k = 3 by omega) with rfl | rfl | rfl | rfl <;> omega
     ·exact hbad (by omega)
    ·exact hbad (by omega)
theorem getB (s : ByteArray) (i : Nat) (hi : i < s.size) : s.data.toList[i]? = some (s.get! i) := by
 rw [Lib.data_getElem? s i hi]
 congr 1
 show s.data[i]'hi = s.data[i]!
 rw [getElem!_pos]
theorem noAny_high {s : ByteArray} {i K : Nat} (hn : Lib.NoAny s.data.toList marks3.data.toList i) (hK : i + K ≤ s.size) (h : ∀ k, k < K → 128 ≤ (s.get! (i + k)).toNat) : Lib.NoAny s.data.toList marks3.data.toList (i + K) := by
 induction K with
 | zero => exact hn
 | succ K ih =>
  have h1 := ih (by omega) fun k hk => h k (by omega)
  have hx := h K (by omega)
  refine h1.succ (getB s (i + K) (by omega)) ?_
  generalize s.get! (i + K) = x at hx
  have e : ∀ y : UInt8, y.toNat < 128 → (x == y) = false := fun y hy => by rw [beq_eq_false_iff_ne]; rintro rfl; omega
  show List.contains [47, 63, 35] x = false
  rw [List.contains_cons, List.contains_cons, List.contains_cons, e 47 (by decide), e 63 (by decide), e 35 (by decide)]
  rfl
set_option maxHeartbeats 4000000 in
set_option maxRecDepth 1000000 in
theorem Any.strings_IndexAny_marks_short (L : Lays.n153 P ρ) (s : ByteArray) (w : World) (h8 : s.size ≤ 8) :
  Calls P (ρ.f 153) #[.string s, .string marks3] w fun e w' => e = .returned (.int .i64 (Lib.indexAny s.data.toList marks3.data.toList)) ∧ Below w.heap.size w w' := by
 have h8z : decide ((8 : Int) < (s.size : Int)) = false := decide_eq_false (by omega)
 have t3 := L.t3; have a3 := L.a3; have z3 := L.z3; have v3 := L.v3
 have t4 := L.t4; have a4 := L.a4; have z4 := L.z4; have v4 := L.v4
 have t5 := L.t5; have a5 := L.a5; have z5 := L.z5; have v5 := L.v5
 have t9 := L.t9; have a9 := L.a9; have z9 := L.z9; have v9 := L.v9
 have t21 := L.t21; have a21 := L.a21; have z21 := L.z21; have v21 := L.v21
 have mixed := L.mixed
 have hemp : marks3.toList.isEmpty = false := by
  rw [Lib.toList_data]; rfl
 have hn1 : ((marks3.size : Int) == 1) = false := rfl
 have e152 : ∀ args w, (callFunc (ρ.f 152) args).run P w = .ok (.enter (ρ.f 152) args) w := enters_of L.f152 (by kernel_rfl) rfl
 have e226 : ∀ args w, (callFunc (ρ.f 226) args).run P w = .ok (.enter (ρ.f 226) args) w := enters_of L.f226 (by kernel_rfl) rfl
 go_enter L.f153, Body.n153_ntmps ρ
 go_wp2_with (go_at_fn (ρ.f 226); refine (Any.strings_shouldUseASCIISet { L with } _ _).mono ?_; rintro e w' ⟨rfl, hw⟩; rw [hw, h8z])
 go_loopg [9, 10] s.size (fun g _ _ wx => ∃ i : Nat, s.size ≤ i + g ∧ i ≤ s.size ∧ wx.heap[w.heap.size]? = some (.stringIter s i) ∧ Below w.heap.size w wx ∧ Lib.NoAny s.data.toList marks3.data.toList i)
 case atStart => exact ⟨0, by omega, by omega, World.iter_heap w s 0, (Below.refl _ w).alloc (Nat.le_refl _) _, Lib.NoAny.zero _ _⟩
 case round =>
  obtain ⟨i, hig, hile, hit, hbw, hno⟩ := hrel
  have HN : Aside (Lib.NoAny s.data.toList marks3.data.toList i) := hno
  clear hno
  by_cases hi : i < s.size
  ·obtain ⟨g, rfl⟩ : ∃ g, gk = g + 1 := ⟨gk - 1, by omega⟩
   have hnx : ∀ ty, (Instr.next (.pointer (some ⟨w.heap.size, 0, none⟩)) true ty).run P wr = _ := fun ty => Lib.run_next_any_at wr w.heap.size s i ty hit hi
   have hit2 := fun p => Lib.iterAt_heap wr w.heap.size s i p hit
   have hbw2 := fun p => Lib.below_iterAt hbw (k := w.heap.size) (Nat.le_refl _) s p
   have hd := decode_two s i hi
   obtain ⟨R, hR⟩ : ∃ R, (Utf8.decode s i).1 = R := ⟨_, rfl⟩
   obtain ⟨K, hK⟩ : ∃ K, (Utf8.decode s i).2 = K := ⟨_, rfl⟩
   rw [hR, hK] at hnx hd
   obtain ⟨W, hWd⟩ : ∃ W, wr.iterAt w.heap.size s (i + K) = W := ⟨_, rfl⟩
   have hit3 := hit2 (i + K); have hbw3 := hbw2 (i + K)
   rw [hWd] at hnx hit3 hbw3
   clear hit2 hbw2 hit hbw hWd hR hK
   rcases hd with ⟨hd1, hd2, rfl⟩ | ⟨hd1, hd2, hd3, hd4, hd5⟩
   ·have hxl := getB s i hi
    obtain ⟨x, hx⟩ : ∃ x : UInt8, s.get! i = x := ⟨_, rfl⟩
    rw [hx] at hxl hd1 hd2
    subst hd1
    have Hx : Aside (s.data.toList[i]? = some x) := hxl
    clear hxl hx
    have hcon := Lib.contains_iff_indexByte marks3.data.toList x
    have hback : ((x.toNat : Int)).toNat.toUInt8 = x := by simp
    cases hin : marks3.data.toList.contains x
    ·rw [hin] at hcon
     have hlt : ¬ ((0 : Int) ≤ Lib.indexByte marks3.data.toList x) := of_decide_eq_false hcon.symm
     clear hcon
     go_wp2_with (go_at_fn (ρ.f 152); refine (Any.strings_IndexRune_ascii { L with } _ _ _ (by omega) (by omega)).mono ?_; rintro e w' ⟨rfl, hw⟩; rw [hw, hback])
     go_roundg g
     case measure => omega
     case rel => exact ⟨i + 1, by omega, by omega, hit3, hbw3, HN.out.succ Hx.out hin⟩
    ·rw [hin] at hcon
     have hge : (0 : Int) ≤ Lib.indexByte marks3.data.toList x := of_decide_eq_true hcon.symm
     clear hcon
     go_wp2_with (go_at_fn (ρ.f 152); refine (Any.strings_IndexRune_ascii { L with } _ _ _ (by omega) (by omega)).mono ?_; rintro e w' ⟨rfl, hw⟩; rw [hw, hback])
     go_ret
     exact ⟨by rw [Lib.indexAny_hit HN.out Hx.out hin]; rfl, hbw3⟩
   ·have HK : Aside (∀ k, k < K → 128 ≤ (s.get! (i + k)).toNat) := hd5
    clear hd5
    have cH := Any.strings_IndexRune_high (P := P) (ρ := ρ) { L with } (R : Int) W (by omega) hd2
    have hWs : w.heap.size < W.heap.size := (Array.getElem?_eq_some_iff.1 hit3).1
    go_wp2_with (go_at_fn (ρ.f 152); refine cH.mono ?_; rintro e w' ⟨rfl, hbH⟩)
    go_roundg g
    case measure => omega
    case rel => exact ⟨i + K, by omega, by omega, (hbH.block _ hWs).trans hit3, hbw3.trans (hbH.mono (by omega)), noAny_high HN.out (by omega) HK.out⟩
  ·obtain rfl : i = s.size := by omega
   have hnx := fun ty => Lib.run_next_end_at (P := P) wr w.heap.size s s.size ty hit (by omega)
   go_wp2
   go_ret
   exact ⟨by rw [Lib.indexAny_none (by rw [← Lib.size_eq]; exact HN.out)]; rfl, hbw⟩
end Go.Proofs
