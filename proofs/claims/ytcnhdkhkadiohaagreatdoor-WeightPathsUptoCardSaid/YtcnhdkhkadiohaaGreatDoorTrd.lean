/- The tokens of a text: both cut it alike; the Raws of tokens. -/
import Derived.Test.YtcnhdkhkadiohaaGreatDoorTrc
namespace Go.Proofs.YtcnhdkhkadiohaaGreatDoor.Tk
open Go Go.Eng Bld Trm Css
set_option maxHeartbeats 4000000
set_option maxRecDepth 100000
set_option linter.unusedSimpArgs false
set_option linter.unusedVariables false
abbrev Tok := Int × Bs × Bs × Int
theorem beg_some {s : Bs} (h : begM s = true) : 1 ≤ (nmN s.length s).2 := by
 match s with
 | [] => cases h
 | c :: r =>
  cases he : escM (c :: r)
  ·have hs : signM (c.toNat : Int) = true := by
    rw [beg_cons] at h
    split at h
    ·rename_i hc
     rw [Bool.and_eq_true] at hc
     have : c = 45 := by simpa using hc.1
     subst this
     decide +kernel
    ·rw [he, Bool.or_false] at h
     unfold signM signj3M
     rw [h]; rfl
   show 1 ≤ (nmN (r.length + 1) (c :: r)).2
   rw [nmN_cons _ c r he, if_t hs]
   simp
  ·have hl := esc_len he
   match r, he, hl with
   | d :: r, he, _ =>
    show 1 ≤ (nmN (r.length + 1 + 1) (c :: d :: r)).2
    rw [nmN_esc _ c d r he]
    simp
theorem take_len {s : Bs} {n : Nat} (h : 1 ≤ n) (hs : 1 ≤ s.length) : 1 ≤ (s.take n).length ∧ (s.take n).length ≤ s.length := by
 rw [List.length_take]; omega
theorem first_raw {s : Bs} (hp : firstP s) : 1 ≤ (firstM s).2.1.length ∧ (firstM s).2.1.length ≤ s.length := by
 obtain ⟨h, hne, hlt⟩ := hp
 have hs : 1 ≤ s.length := List.length_pos_iff.mpr hne
 have hw := sp_wrap h
 have hall : 1 ≤ s.length ∧ s.length ≤ s.length := ⟨hs, Nat.le_refl _⟩
 have nm : ∀ (q : Int) (i : Nat), i ≤ s.length → (1 ≤ i ∨ begM s = true ∧ i = 0) → 1 ≤ (namedM q s (i : Int)).2.1.length ∧ (namedM q s (i : Int)).2.1.length ≤ s.length := fun q i hi ho => by
  rw [named_eq h q hi]
  refine take_len ?_ hs
  have h1 := nameS_len (nameP_drop h i)
  unfold rsaidS
  rw [Int.toNat_natCast]
  rcases ho with ho | ⟨ho, rfl⟩
  ·simp only; omega
  ·have := beg_some ho
   simp only [List.drop_zero]
   unfold nameS
   simp only
   omega
 have f88 : ∀ c, 1 ≤ (firstj88M s c).2.1.length ∧ (firstj88M s c).2.1.length ≤ s.length := fun c => by
  rw [tail_eq]; exact take_len (by decide) hs
 have n0 := nm 1 0 (Nat.zero_le _)
 have n4 := nm 4 1 hs (.inl (Nat.le_refl _))
 have n3 := nm 3 1 hs (.inl (Nat.le_refl _))
 unfold firstM
 rw [hw]
 split
 ·rename_i hc
  have := of_decide_eq_true hc
  exact take_len (by omega) hs
 ·split
  ·rename_i hc
   have e := note_eq h hc
   have : (firstj21M s).2.1 = (rnoteS s).2.1 := by rw [e]; rfl
   rw [this]
   unfold rnoteS
   simp only
   split
   ·exact take_len (by omega) hs
   ·exact hall
  ·split
   ·show 1 ≤ (textS s).2.1.length ∧ _
    unfold textS txR
    simp only
    split
    ·exact take_len (by omega) hs
    ·split
     ·exact take_len (by omega) hs
     ·exact hall
   ·unfold firstj43M firstj49M
    split
    ·exact n4
    ·split
     ·exact n3
     ·split
      ·rename_i hc
       have hc := of_decide_eq_true hc
       have := numS_ok h
       show 1 ≤ (numberM s (numS s).1 (numS s).2).2.1.length ∧ _
       obtain ⟨i, hi⟩ : ∃ k : Nat, (numS s).2 = (k : Int) := ⟨(numS s).2.toNat, by omega⟩
       rw [hi] at hc this ⊢
       have h1 := nameS_len (nameP_drop h i)
       rw [List.length_drop] at h1
       have h2 := h
       unfold nameP at h2
       unfold numberM numberj5M numberV0
       simp only
       rw [w64 (x := (i : Int) + 1) (by omega), Int.toNat_natCast, w64 (by omega)]
       split
       ·exact take_len (by omega) hs
       ·split <;> exact take_len (by omega) hs
      ·split
       ·rename_i hB
        have := n0 (.inr ⟨hB, rfl⟩)
        have hn0 : (((0 : Nat) : Int)) = 0 := rfl
        rw [hn0] at this
        show 1 ≤ (firstV4 s).length ∧ (firstV4 s).length ≤ s.length
        unfold firstV4
        split
        ·have h2 := h
         unfold nameP at h2
         rw [w64 (by omega)]
         exact take_len (by omega) hs
        ·exact this
       ·exact f88 _
/-- a text cut into tokens -/
def cutN : Nat → Bs → List Tok
 | 0, _ => []
 | k + 1, s => if s = [] then [] else firstM s :: cutN k (s.drop (firstM s).2.1.length)
def cutS (s : Bs) : List Tok := cutN s.length s
def cutP (s : Bs) : Prop := s.length < 4294967281
theorem cut_first {s : Bs} (h : cutP s) (hne : s ≠ []) : firstP s := ⟨by unfold cutP at h; unfold nameP; omega, hne, h⟩
theorem cut_loop (K : List Tok → Prop) : ∀ (k : Nat) (s : Bs) (out : List Tok), s.length ≤ k → out.length + s.length < 4294967281 → K (out ++ cutN k s) → cutl7 K (k + 1) s out := by
 intro k
 induction k with
 | zero =>
  intro s out h1 h2 hK
  obtain rfl : s = [] := List.eq_nil_of_length_eq_zero (by omega)
  refine ⟨(fun h => by cases h), fun _ => ?_⟩
  simpa [cutN] using hK
 | succ k ih =>
  intro s out h1 h2 hK
  by_cases hs : s = []
  ·subst hs
   refine ⟨(fun h => by cases h), fun _ => ?_⟩
   simpa [cutN] using hK
  ·have hf := cut_first (s := s) (by unfold cutP; omega) hs
   have hr := first_raw hf
   refine ⟨fun _ => ⟨hf, by simp; omega, by omega, by omega, by omega, ?_⟩, fun h => absurd (by simpa using h) hs⟩
   rw [Int.toNat_natCast]
   refine ih _ _ (by rw [List.length_drop]; omega) (by rw [List.length_drop]; simp; omega) ?_
   have e : cutN (k + 1) s = firstM s :: cutN k (s.drop (firstM s).2.1.length) := if_neg hs
   rw [e] at hK
   rw [List.append_assoc]
   exact hK
theorem cut_F (s : Bs) (hp : cutP s) : cutF s (fun r => r = cutS s) :=
 ⟨_, cut_loop _ s.length s [] (Nat.le_refl _) (by unfold cutP at hp; simpa using hp) (by simp [cutS])⟩
theorem cut_c {g : Ghost} (xs : Bs) (hG0 : SomeInt g 0)  (hp : cutP xs) : CallsH Tryz.prog 27 #[sv xs] g [] (fun g' H' v => ∃ (ar0_0 : Option Addr) (cr0_0 : Nat), v = .slice ar0_0 (cutS xs).length cr0_0 ∧ Rep g' (.slice (.pair (.int .i64) (.pair (.str) (.pair (.str) (.int .i64))))) [.slice ar0_0 (cutS xs).length cr0_0] (cutS xs) ∧ H' = []) :=
 (cut_ok xs hG0 _ (cut_F xs hp)).mono (by rintro g' H' v _ ⟨r0, ar0_0, cr0_0, rfl, hRr0_0, rfl, hK⟩; subst hK; exact ⟨ar0_0, cr0_0, rfl, hRr0_0, rfl⟩)
def rtoksl7b (K : (List (Int × Bs × Bs × Int)) → Prop) (x0l7 : Bs) (yown1_0l7 : List (Int × Bs × Bs × Int)) (C7 : Bs → (List (Int × Bs × Bs × Int)) → Prop) : Prop :=
 ((decide ((x0l7.length : Int) > 0)) = true → firstP x0l7 ∧ (yown1_0l7 ++ ([((firstM x0l7).1, (firstM x0l7).2.1, (firstM x0l7).2.2.1, (firstM x0l7).2.2.2)] : List (Int × Bs × Bs × Int))).length ≤ 2932031007402 ∧ (0 : Int) ≤ (((firstM x0l7).2.1).length : Int) ∧ ((((firstM x0l7).2.1).length : Int) : Int) ≤ (x0l7.length : Int) ∧ (x0l7.length : Int) ≤ (x0l7.length : Int) ∧ C7 (x0l7.drop (Int.toNat (((firstM x0l7).2.1).length : Int))) (yown1_0l7 ++ ([((firstM x0l7).1, (firstM x0l7).2.1, (firstM x0l7).2.2.1, (firstM x0l7).2.2.2)] : List (Int × Bs × Bs × Int)))) ∧ ((decide ((x0l7.length : Int) > 0)) = false → K yown1_0l7)
def rtoksl7 (K : (List (Int × Bs × Bs × Int)) → Prop) : Nat → Bs → (List (Int × Bs × Bs × Int)) → Prop
 | 0, _, _ => False
 | k + 1, x0l7, yown1_0l7 => rtoksl7b K x0l7 yown1_0l7 (rtoksl7 K k)
def rtoksF (xs : Bs) (K : (List (Int × Bs × Bs × Int)) → Prop) : Prop :=
 ∃ k, rtoksl7 K k xs ([] : List (Int × Bs × Bs × Int))
theorem rtoks_ok {g : Ghost} (xs : Bs) (K : (List (Int × Bs × Bs × Int)) → Prop)
  (hF : rtoksF xs K) : CallsH Tryz.prog 75 #[sv xs] g [] (fun g' H' v => ∃ (r0 : List (Int × Bs × Bs × Int)), ∃ (ar0_0 : Option Addr) (cr0_0 : Nat), v = .slice ar0_0 r0.length cr0_0 ∧ Rep g' (.slice (.pair (.int .i64) (.pair (.str) (.pair (.str) (.int .i64))))) [.slice ar0_0 r0.length cr0_0] r0 ∧ H' = [] ∧ K r0) := by
 refine CallsH.enter 20 [(0, sv xs)] Tryz.func75 rfl (by kernel_rfl) (by kernel_rfl) (by kernel_rfl) fun w0 => ?_
 refine Ok.seq (Ok.region (Ok.batch 1 [(0, sv xs)] (by kernel_rfl) (Ok.nil (Ok.thenN (Ok.seq (Ok.region (Ok.bat 1 [0] [(3, .slice none 0 0)] ?_)))))))
 have hL1 : RepL g (.pair (.int .i64) (.pair (.str) (.pair (.str) (.int .i64)))) [] [] := rfl
 refine Ok.ownNil 78 4 (Ok.nil (Ok.thenN (Ok.seq (Ok.block ?_))))
 obtain ⟨k, hF⟩ := hF
 refine Ok.loop (fun k a W => ∃ gl7 : Ghost, Gext w0 g gl7 ∧ ∃ (x0l7 : Bs) (ayown1_0l7 : Option Addr) (cyown1_0l7 : Nat) (yown1_0l7 : List (Int × Bs × Bs × Int)) (xsyown1_0l7 : List Value), RepL gl7 (.pair (.int .i64) (.pair (.str) (.pair (.str) (.int .i64)))) xsyown1_0l7 yown1_0l7 ∧ StA 20 [(0, sv x0l7), (3, .slice ayown1_0l7 yown1_0l7.length cyown1_0l7)] a ∧ StW w0 [.own (.slice ayown1_0l7 yown1_0l7.length cyown1_0l7) 78 4 yown1_0l7.length xsyown1_0l7] gl7 W ∧ rtoksl7 K k x0l7 yown1_0l7) k ?_ ?_
 ·
  exact fun a W hA hW => ⟨g, (Gext.refl w0 g), xs, none, 0, ([] : List (Int × Bs × Bs × Int)), [], hL1, hA.sub (by kernel_rfl), hW, hF⟩
 ·
  clear hF
  rintro k7 a W ⟨gl7, hxl7, x0l7, ayown1_0l7, cyown1_0l7, yown1_0l7, xsyown1_0l7, hLyown1_0l7, hA, hW, hF⟩
  cases k7 with
  | zero => exact (hF : False).elim
  | succ k7 =>
   refine (?_ : Ok _ _ _ _ _ _) a W hA hW
   clear hA hW
   refine Ok.seq (Ok.seq (Ok.region (Ok.bat 3 [0, 3] [(7, .bool (decide ((x0l7.length : Int) > 0)))] ?_)))
   refine Ok.nil (Ok.thenN (Ok.cond (b := decide ((x0l7.length : Int) > 0)) rfl (fun hc2 => ?_) (fun hc2 => ?_)))
   ·replace hF := hF.1 hc2
    refine Ok.skip (Ok.thenN (Ok.block (Ok.seq (Ok.region (Ok.bat 1 [0, 3] [(8, sv x0l7)] ?_)))))
    obtain ⟨hp3, hF⟩ := hF
    refine Ok.op rfl (OpOk.callG (v := .agg #[.int .i64 (firstM x0l7).1, sv ((firstM x0l7).2.1), sv ((firstM x0l7).2.2.1), .int .i64 (firstM x0l7).2.2.2]) enr (fun W hW => rtok_c x0l7 hp3) rfl ?_)
    refine Ok.op rfl (OpOk.alloc (z := .agg #[.int .i64 0, sv ([] : Bs), sv ([] : Bs), .int .i64 0]) (cs := #[.int .i64 0, sv ([] : Bs), sv ([] : Bs), .int .i64 0]) (by kernel_rfl) (by kernel_rfl) rfl fun bs4 => ?_)
    refine Ok.op rfl (OpOk.sto (k := 4) (v := .agg #[.int .i64 (firstM x0l7).1, sv ((firstM x0l7).2.1), sv ((firstM x0l7).2.2.1), .int .i64 (firstM x0l7).2.2.2]) 0 #[.int .i64 (firstM x0l7).1, sv ((firstM x0l7).2.1), sv ((firstM x0l7).2.2.1), .int .i64 (firstM x0l7).2.2.2] rfl rfl rfl ?_)
    refine Ok.nil (Ok.thenN (Ok.seq (Ok.region (Ok.bat 1 [0] [(4, pv bs4 0), (10, .slice ayown1_0l7 yown1_0l7.length cyown1_0l7)] ?_))))
    refine Ok.op rfl (OpOk.step (v := .agg #[.int .i64 (firstM x0l7).1, sv ((firstM x0l7).2.1), sv ((firstM x0l7).2.2.1), .int .i64 (firstM x0l7).2.2.2]) (Yields.loadAgg 0 4 #[.int .i64 (firstM x0l7).1, sv ((firstM x0l7).2.1), sv ((firstM x0l7).2.2.1), .int .i64 (firstM x0l7).2.2.2] rfl rfl Tryz.underlying78 rfl (by kernel_rfl) (by kernel_rfl) (by kernel_rfl)) rfl rfl ?_)
    have hL5 : RepL gl7 (.pair (.int .i64) (.pair (.str) (.pair (.str) (.int .i64)))) ([.int .i64 (firstM x0l7).1, sv ((firstM x0l7).2.1), sv ((firstM x0l7).2.2.1), .int .i64 (firstM x0l7).2.2.2] : List Value) ([((firstM x0l7).1, (firstM x0l7).2.1, (firstM x0l7).2.2.1, (firstM x0l7).2.2.2)] : List (Int × Bs × Bs × Int)) := (RepL.consN (c := [.int .i64 (firstM x0l7).1, sv ((firstM x0l7).2.1), sv ((firstM x0l7).2.2.1), .int .i64 (firstM x0l7).2.2.2]) ⟨[.int .i64 (firstM x0l7).1], [sv ((firstM x0l7).2.1), sv ((firstM x0l7).2.2.1), .int .i64 (firstM x0l7).2.2.2], rfl, rfl, ⟨[sv ((firstM x0l7).2.1)], [sv ((firstM x0l7).2.2.1), .int .i64 (firstM x0l7).2.2.2], rfl, rfl, ⟨[sv ((firstM x0l7).2.2.1)], [.int .i64 (firstM x0l7).2.2.2], rfl, rfl, rfl⟩⟩⟩ rfl)
    refine Ok.op rfl (OpOk.lit (E := 78) (.pair (.int .i64) (.pair (.str) (.pair (.str) (.int .i64)))) ([((firstM x0l7).1, (firstM x0l7).2.1, (firstM x0l7).2.2.1, (firstM x0l7).2.2.2)] : List (Int × Bs × Bs × Int)) ([.int .i64 (firstM x0l7).1, sv ((firstM x0l7).2.1), sv ((firstM x0l7).2.2.1), .int .i64 (firstM x0l7).2.2.2] : List Value) (by kernel_rfl) (by kernel_rfl) rfl (by kernel_rfl) hL5 rfl fun b5 => ?_)
    obtain ⟨hb6, hF⟩ := hF
    refine Ok.op rfl (OpOk.append' (e := .pair (.int .i64) (.pair (.str) (.pair (.str) (.int .i64)))) 48 2932031007402 2 0 rfl rfl rfl rfl hLyown1_0l7 hL5 Tryz.underlying56 (by kernel_rfl) (by kernel_rfl) (by kernel_rfl) hb6 rfl fun a6 c6 xs6 hL6 => ?_)
    refine Ok.bat 1 [0, 4] [(3, .slice a6 (yown1_0l7 ++ ([((firstM x0l7).1, (firstM x0l7).2.1, (firstM x0l7).2.2.1, (firstM x0l7).2.2.2)] : List (Int × Bs × Bs × Int))).length c6)] ?_
    refine Ok.nil (Ok.thenN (Ok.region (Ok.bat 2 [3] [(14, sv x0l7), (15, pv bs4 1)] ?_)))
    refine Ok.op rfl (OpOk.step (v := sv ((firstM x0l7).2.1)) (Yields.load 1 rfl rfl Tryz.underlying9 rfl (by kernel_rfl)) rfl rfl (Ok.bat 1 [3, 14] [(17, .int .i64 (((firstM x0l7).2.1).length : Int))] ?_))
    obtain ⟨h07, h17, h27, hF⟩ := hF
    refine Ok.op rfl (OpOk.step (v := sv (x0l7.drop (Int.toNat (((firstM x0l7).2.1).length : Int)))) (Yields.sliceStr (s := x0l7) (l := (((firstM x0l7).2.1).length : Int)) (h := (x0l7.length : Int)) (by kernel_rfl) Tryz.underlying9 (.inl ⟨_, _, rfl, rfl⟩) (.inr ⟨rfl, rfl⟩) h07 h17 h27 (x0l7.drop (Int.toNat (((firstM x0l7).2.1).length : Int))) (by rw [show ((x0l7.length : Int)).toNat = x0l7.length from Int.toNat_natCast _, List.take_length])) rfl rfl (Ok.bat 1 [3] [(0, sv (x0l7.drop (Int.toNat (((firstM x0l7).2.1).length : Int))))] ?_))
    refine Ok.nil (Ok.blockN (Ok.thenN ?_))
    exact fun a W hA hW => ⟨k7, Nat.lt_succ_self _, gl7, hxl7, x0l7.drop (Int.toNat (((firstM x0l7).2.1).length : Int)), a6, c6, (yown1_0l7 ++ ([((firstM x0l7).1, (firstM x0l7).2.1, (firstM x0l7).2.2.1, (firstM x0l7).2.2.2)] : List (Int × Bs × Bs × Int))), xs6, hL6, hA.sub (by kernel_rfl), hW.sub (.cons _ (.cons _ (.cons_cons _ .slnil))), hF⟩
   ·replace hF := hF.2 hc2
    refine Ok.exit (Ok.thenE (Ok.thenE (Ok.blockHit (Ok.thenN (Ok.seq (Ok.region (Ok.batch 2 [(2, .slice ayown1_0l7 yown1_0l7.length cyown1_0l7)] (by kernel_rfl) (Ok.nil (Ok.thenN (Ok.ret (Ok.frz 0 rfl hLyown1_0l7 fun g8 hx8 hRf8 => ?_)))))))))))
    exact Ok.resH (vs := [.slice ayown1_0l7 yown1_0l7.length cyown1_0l7]) (.inl rfl) rfl (.cons (.tmp rfl) .nil) (hxl7.trans hx8) ⟨yown1_0l7, ayown1_0l7, cyown1_0l7, rfl, hRf8, rfl, hF⟩
theorem rtoks_loop (K : List Tok → Prop) : ∀ (k : Nat) (s : Bs) (out : List Tok), s.length ≤ k → out.length + s.length < 4294967281 → K (out ++ cutN k s) → rtoksl7 K (k + 1) s out := by
 intro k
 induction k with
 | zero =>
  intro s out h1 h2 hK
  obtain rfl : s = [] := List.eq_nil_of_length_eq_zero (by omega)
  refine ⟨(fun h => by cases h), fun _ => ?_⟩
  simpa [cutN] using hK
 | succ k ih =>
  intro s out h1 h2 hK
  by_cases hs : s = []
  ·subst hs
   refine ⟨(fun h => by cases h), fun _ => ?_⟩
   simpa [cutN] using hK
  ·have hf := cut_first (s := s) (by unfold cutP; omega) hs
   have hr := first_raw hf
   refine ⟨fun _ => ⟨hf, by simp; omega, by omega, by omega, by omega, ?_⟩, fun h => ?_⟩
   ·rw [Int.toNat_natCast]
    refine ih _ _ (by rw [List.length_drop]; omega) (by rw [List.length_drop]; simp; omega) ?_
    have e : cutN (k + 1) s = firstM s :: cutN k (s.drop (firstM s).2.1.length) := if_neg hs
    rw [e] at hK
    rw [List.append_assoc]
    exact hK
   ·have := of_decide_eq_false h
    omega
theorem rtoks_F (s : Bs) (hp : cutP s) : rtoksF s (fun r => r = cutS s) :=
 ⟨_, rtoks_loop _ s.length s [] (Nat.le_refl _) (by unfold cutP at hp; simpa using hp) (by simp [cutS])⟩
theorem rtoks_c {g : Ghost} (xs : Bs)  (hp : cutP xs) : CallsH Tryz.prog 75 #[sv xs] g [] (fun g' H' v => ∃ (ar0_0 : Option Addr) (cr0_0 : Nat), v = .slice ar0_0 (cutS xs).length cr0_0 ∧ Rep g' (.slice (.pair (.int .i64) (.pair (.str) (.pair (.str) (.int .i64))))) [.slice ar0_0 (cutS xs).length cr0_0] (cutS xs) ∧ H' = []) :=
 (rtoks_ok xs _ (rtoks_F xs hp)).mono (by rintro g' H' v _ ⟨r0, ar0_0, cr0_0, rfl, hRr0_0, rfl, hK⟩; subst hK; exact ⟨ar0_0, cr0_0, rfl, hRr0_0, rfl⟩)
/-- the Raws of tokens -/
def rawS (l : List Tok) : Bs := (l.map fun t => t.2.1).flatten
def rawP (l : List Tok) : Prop := (rawS l).length ≤ 140737488351232 ∧ l.length ≤ 140737488351232
end Go.Proofs.YtcnhdkhkadiohaaGreatDoor.Tk
