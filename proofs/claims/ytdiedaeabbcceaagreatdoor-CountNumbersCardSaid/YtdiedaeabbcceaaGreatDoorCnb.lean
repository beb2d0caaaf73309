/- Numbers of list items: the reference, and the law. -/
import Derived.Test.YtdiedaeabbcceaaGreatDoorCna
namespace Go.Proofs.YtdiedaeabbcceaaGreatDoor.Cq
open Go Go.Eng Go.RowKit Cn Ui Do Sf
set_option maxHeartbeats 4000000
set_option maxRecDepth 100000
set_option linter.unusedSimpArgs false
set_option linter.unusedVariables false
noncomputable section
/-! decimal digits and back -/
def digB (c : UInt8) : Bool := decide ((c.toNat : Int) ≥ 48) && decide ((c.toNat : Int) ≤ 57)
def vA (a : Int) (c : UInt8) : Int := if digB c = true then 10 * a + ((c.toNat : Int) - 48) else a
def vS (s : Bs) : Int := s.foldl vA 0
theorem dig_of {n : Nat} (h : n < 10) : digB (UInt8.ofNat (48 + n)) = true ∧ (UInt8.ofNat (48 + n)).toNat = 48 + n := by
 have : (UInt8.ofNat (48 + n)).toNat = 48 + n := by rw [UInt8.toNat_ofNat']; omega
 unfold digB
 rw [this, Bool.and_eq_true, decide_eq_true_eq, decide_eq_true_eq]
 exact ⟨⟨by omega, by omega⟩, rfl⟩
theorem dec_dig (u : Nat) : ∀ c ∈ Lib.decDigits u, digB c = true := by
 induction u using Nat.strongRecOn with
 | _ u ih =>
  intro c hc
  rw [Lib.decDigits] at hc
  split at hc
  ·rw [List.mem_singleton] at hc; subst hc; exact (dig_of (by omega)).1
  ·rcases List.mem_append.1 hc with h | h
   ·exact ih (u / 10) (by omega) c h
   ·rw [List.mem_singleton] at h; subst h; exact (dig_of (by omega)).1
theorem dec_val (u : Nat) : vS (Lib.decDigits u) = (u : Int) := by
 induction u using Nat.strongRecOn with
 | _ u ih =>
  rw [Lib.decDigits]
  split
  ·rename_i h
   unfold vS vA
   rw [List.foldl_cons, List.foldl_nil, if_t (dig_of h).1, (dig_of h).2]; omega
  ·have h := dig_of (n := u % 10) (by omega)
   have ih := ih (u / 10) (by omega)
   unfold vS at ih ⊢
   rw [List.foldl_append, ih, List.foldl_cons, List.foldl_nil]
   unfold vA
   rw [if_t h.1, h.2]; omega
theorem dec_ne (u : Nat) : ∃ c r, Lib.decDigits u = c :: r := by
 cases h : Lib.decDigits u with
 | nil =>
  rw [Lib.decDigits] at h
  split at h
  ·cases h
  ·simp at h
 | cons c r => exact ⟨c, r, rfl⟩
theorem dec_len7 : ∀ (k u : Nat), u < 10 ^ (k + 1) → (Lib.decDigits u).length ≤ k + 1
 | 0, u, h => by rw [Lib.decDigits, dif_pos (by omega)]; simp
 | k + 1, u, h => by
  rw [Lib.decDigits]
  split
  ·simp
  ·have := dec_len7 k (u / 10) (by rw [Nat.pow_succ] at h; omega)
   rw [List.length_append]; simp; omega
theorem itoa_len8 {n : Int} (h : -1000000 ≤ n ∧ n ≤ 1000000) : (Lib.itoa n).length ≤ 8 := by
 unfold Lib.itoa
 split
 ·have := dec_len7 6 n.natAbs (by omega)
  rw [List.length_cons]; omega
 ·have := dec_len7 6 n.toNat (by omega)
  omega
theorem vA_ge {s : Bs} : ∀ {a : Int}, 0 ≤ a → (∀ c ∈ s, digB c = true) → a ≤ s.foldl vA a := by
 induction s with
 | nil => intro a _ _; exact Int.le_refl _
 | cons c s ih =>
  intro a h0 h
  have hc := h c (List.mem_cons_self ..)
  have hd := hc
  unfold digB at hd
  rw [Bool.and_eq_true, decide_eq_true_eq, decide_eq_true_eq] at hd
  rw [List.foldl_cons]
  have h1 : a ≤ vA a c := by unfold vA; rw [if_t hc]; omega
  exact Int.le_trans h1 (ih (by omega) fun c hc => h c (List.mem_cons_of_mem _ hc))
theorem parse_val (s : Bs) : ∀ (a B : Nat), B ≤ 1000000000000000000 → (∀ c ∈ s, digB c = true) → s.foldl vA (a : Int) < (B : Int) → ∃ u : Nat, Lib.parseUint10 a s = .ok u ∧ (u : Int) = s.foldl vA (a : Int) := by
 induction s with
 | nil => intro a B _ _ _; exact ⟨a, by simp only [Lib.parseUint10], by simp only [List.foldl_nil]⟩
 | cons c s ih =>
  intro a B hB h hl
  have hc := h c (List.mem_cons_self ..)
  have hd := hc
  unfold digB at hd
  rw [Bool.and_eq_true, decide_eq_true_eq, decide_eq_true_eq] at hd
  rw [List.foldl_cons] at hl ⊢
  have e : vA (a : Int) c = ((a * 10 + (c.toNat - 48) : Nat) : Int) := by unfold vA; rw [if_t hc]; omega
  rw [e] at hl ⊢
  have hg := vA_ge (s := s) (a := ((a * 10 + (c.toNat - 48) : Nat) : Int)) (by omega) fun c hc => h c (List.mem_cons_of_mem _ hc)
  obtain ⟨u, h1, h2⟩ := ih (a * 10 + (c.toNat - 48)) B hB (fun c hc => h c (List.mem_cons_of_mem _ hc)) hl
  refine ⟨u, ?_, h2⟩
  simp only [Lib.parseUint10]
  rw [if_pos (by omega), if_neg (by omega), if_neg (by omega)]
  exact h1
theorem mag_val (u : Nat) (h : u < 1000000000000000000) : Lib.parseMag (Lib.decDigits u) = .ok u := by
 obtain ⟨c, r, e⟩ := dec_ne u
 have hv := dec_val u
 unfold vS at hv
 obtain ⟨v, h1, h2⟩ := parse_val (Lib.decDigits u) 0 1000000000000000000 (Nat.le_refl _) (dec_dig u) (by show List.foldl vA 0 _ < _; rw [hv]; omega)
 have h2 : (v : Int) = List.foldl vA 0 (Lib.decDigits u) := h2
 rw [hv] at h2
 unfold Lib.parseMag
 rw [if_neg (by rw [e]; simp), h1]
 congr 1; omega
theorem atoi_itoa {n : Int} (h : -1000000 ≤ n ∧ n ≤ 1000000) : atoiS (Lib.itoa n) = (n, true) := by
 have key : Lib.atoiAll (Lib.itoa n) = .ok n := by
  unfold Lib.itoa
  split
  ·rw [Lib.atoiAll_minus, mag_val _ (by omega)]
   simp only [Lib.signed]
   rw [if_neg (by omega)]
   congr 1; omega
  ·obtain ⟨c, r, e⟩ := dec_ne n.toNat
   have hc := dec_dig n.toNat c (by rw [e]; exact List.mem_cons_self ..)
   unfold digB at hc
   rw [Bool.and_eq_true, decide_eq_true_eq, decide_eq_true_eq] at hc
   have hm := mag_val n.toNat (by omega)
   rw [e] at hm ⊢
   rw [Lib.atoiAll_plain c r (by omega) (by omega), hm]
   simp only [Lib.signless]
   rw [if_neg (by omega)]
   congr 1; omega
 unfold atoiS
 rw [key]
/-- what the reference reads -/
def negB (s : Bs) : Bool := decide ((s.length : Int) > 0) && (((s.getD (Int.toNat 0) 0).toNat : Int) == 45)
def refV (s : Bs) (k : Int) : Int := if negB s = true then w6 (0 - k) else k
theorem ref_itoa {n : Int} (h : -1000000 ≤ n ∧ n ≤ 1000000) : refV (Lib.itoa n) (vS (Lib.itoa n)) = n := by
 unfold Lib.itoa
 split
 ·have hv : vS (45 :: Lib.decDigits n.natAbs) = (n.natAbs : Int) := by
   rw [← dec_val n.natAbs]; rfl
  have hb : negB (45 :: Lib.decDigits n.natAbs) = true := by
   unfold negB
   rw [Bool.and_eq_true, decide_eq_true_eq]
   exact ⟨by rw [List.length_cons]; omega, rfl⟩
  unfold refV
  rw [if_t hb, hv, w64 (by omega)]; omega
 ·obtain ⟨c, r, e⟩ := dec_ne n.toNat
  have hc := dec_dig n.toNat c (by rw [e]; exact List.mem_cons_self ..)
  unfold digB at hc
  rw [Bool.and_eq_true, decide_eq_true_eq, decide_eq_true_eq] at hc
  have hb : negB (Lib.decDigits n.toNat) = false := by
   unfold negB
   rw [e, Bool.and_eq_false_iff]
   refine .inr ?_
   show ((c.toNat : Int) == 45) = false
   rw [beq_eq_false_iff_ne]; omega
  unfold refV
  rw [if_f hb, dec_val]; omega
theorem itoa_chars {n : Int} : ∀ i, i < (Lib.itoa n).length → digB ((Lib.itoa n).getD i 0) = true ∨ i = 0 ∧ (Lib.itoa n).getD i 0 = 45 := by
 intro i hi
 have hm := mem_getD (0 : UInt8) hi
 unfold Lib.itoa at hm hi ⊢
 split
 ·rename_i h
  cases i with
  | zero => exact .inr ⟨rfl, rfl⟩
  | succ i =>
   rw [if_pos h, List.length_cons] at hi
   rw [List.getD_cons_succ]
   exact .inl (dec_dig _ _ (mem_getD (0 : UInt8) (by omega)))
 ·rename_i h
  rw [if_neg h] at hm
  exact .inl (dec_dig _ _ hm)
/-- the program reads a number: what it is -/
theorem rdn_ok {s : Bs} (h : cbkV0 s = false) : s = Lib.itoa (atoiS s).1 ∧ -1000000 ≤ (atoiS s).1 ∧ (atoiS s).1 ≤ 1000000 := by
 unfold cbkV0 at h
 rw [Bool.or_eq_false_iff] at h
 have h1 := mark_in (k := 2) h.1
 have h2 : (cmarkM 2 (atoiS s).1 == s) = true := by simpa using h.2
 rw [mark2] at h2
 exact ⟨(eq_of_beq h2).symm, h1.1, h1.2⟩
theorem rdn_of {n : Int} (h : -1000000 ≤ n ∧ n ≤ 1000000) : cbkV0 (Lib.itoa n) = false := by
 unfold cbkV0
 rw [atoi_itoa h, mark2]
 have : cinM n (-1000000) 1000000 = true := by unfold cinM; simp; omega
 rw [this]; simp
/-! nodes -/
def relP (d : DC) (n : Int) : Prop := 0 ≤ n ∧ n.toNat < d.1.length
def relF (xd : DC) (xn : Int) (K : Bool → Prop) : Prop :=
 (0 : Int) ≤ xn ∧ Int.toNat xn < xd.1.length ∧ K ((xd.1.getD (Int.toNat xn) default).1 == 2)
theorem rel_ok {g : Ghost} {axd_0 : Option Addr} {cxd_0 : Nat} (xd : DC) (xn : Int) (hRxd_0 : Rep g (.slice (.pair (.int .i64) (.pair (.str) (.pair (.slice (.pair (.str) (.str))) (.pair (.str) (.pair (.int .i64) (.slice (.int .i64)))))))) [.slice axd_0 xd.1.length cxd_0] xd.1) (K : Bool → Prop)
  (hF : relF xd xn K) : CallsH Tryz.prog 8 #[.agg #[.slice axd_0 xd.1.length cxd_0, .bool xd.2], .int .i64 xn] g [] (fun g' H' v => ∃ (r0 : Bool), v = .bool r0 ∧ H' = [] ∧ K r0) := by
 refine CallsH.enter 12 [(0, .agg #[.slice axd_0 xd.1.length cxd_0, .bool xd.2]), (1, .int .i64 xn)] Tryz.func8 rfl (by kernel_rfl) (by kernel_rfl) (by kernel_rfl) fun w0 => ?_
 refine Ok.seq (Ok.region (Ok.op rfl (OpOk.box (v := .agg #[.slice axd_0 xd.1.length cxd_0, .bool xd.2]) (cs := #[.slice axd_0 xd.1.length cxd_0, .bool xd.2]) rfl (by kernel_rfl) rfl fun b1 => ?_)))
 refine Ok.batch 1 [(1, .int .i64 xn), (2, pv b1 0)] (by kernel_rfl) (Ok.nil (Ok.thenN (Ok.seq (Ok.region (Ok.bat 1 [1] [(5, pv b1 0)] ?_)))))
 refine Ok.op rfl (OpOk.step (v := .slice axd_0 xd.1.length cxd_0) (Yields.load 0 rfl rfl Tryz.underlying22 rfl (by kernel_rfl)) rfl rfl (Ok.batch 1 [(6, .slice axd_0 xd.1.length cxd_0), (7, .int .i64 xn)] (by kernel_rfl) ?_))
 obtain ⟨h03, h13, hF⟩ := hF
 have he3 := get_of (l := xd.1) (default : ND) h13
 generalize hg3 : (xd.1.getD (Int.toNat xn) default) = e3 at he3 hF ⊢
 refine Ok.op rfl (OpOk.indexRo (e := .pair (.int .i64) (.pair (.str) (.pair (.slice (.pair (.str) (.str))) (.pair (.str) (.pair (.int .i64) (.slice (.int .i64))))))) (i := xn) (el := e3) rfl rfl Tryz.underlying22 (by kernel_rfl) hRxd_0 h03 he3 rfl fun q2 o2 cs2 _ hat2 hr2 => ?_)
 obtain ⟨_, _, rfl, rfl, ⟨_, _, rfl, rfl, ⟨_, _, rfl, ⟨a2_2, c2_2, rfl, hm2_2, hr2_2⟩, ⟨_, _, rfl, rfl, ⟨_, _, rfl, rfl, ⟨a2_5, c2_5, rfl, hm2_5, hr2_5⟩⟩⟩⟩⟩⟩ := hr2
 have hR2_2 : Rep g (.slice (.pair (.str) (.str))) [.slice a2_2 e3.2.2.1.length c2_2] e3.2.2.1 := ⟨a2_2, c2_2, rfl, hm2_2, hr2_2⟩
 have hR2_5 : Rep g (.slice (.int .i64)) [.slice a2_5 e3.2.2.2.2.2.length c2_5] e3.2.2.2.2.2 := ⟨a2_5, c2_5, rfl, hm2_5, hr2_5⟩
 replace hat2 : At g q2 o2 [.int .i64 e3.1, sv e3.2.1, .slice a2_2 e3.2.2.1.length c2_2, sv e3.2.2.2.1, .int .i64 e3.2.2.2.2.1, .slice a2_5 e3.2.2.2.2.2.length c2_5] := hat2
 refine Ok.batch 1 [(9, pv q2 o2)] (by kernel_rfl) (Ok.op rfl (OpOk.step (v := .int .i64 e3.1) (Yields.loadRo 0 hat2 (by kernel_rfl) Tryz.underlying3 rfl (by kernel_rfl)) rfl rfl (Ok.batch 2 [(4, .bool (e3.1 == 2))] (by kernel_rfl) (Ok.nil (Ok.thenN (Ok.ret ?_))))))
 exact Ok.resP (vs := [.bool (e3.1 == 2)]) [] [] (by decide) rfl (.inl rfl) rfl (.cons (.tmp rfl) .nil) (Gext.refl w0 g) ⟨(e3.1 == 2), rfl, rfl, hF⟩
def relM (xd : (List (Int × Bs × (List (Bs × Bs)) × Bs × Int × List (Int))) × Bool) (xn : Int) : Bool := ((xd.1.getD (Int.toNat xn) default).1 == 2)
theorem relF_A (xd : (List (Int × Bs × (List (Bs × Bs)) × Bs × Int × List (Int))) × Bool) (xn : Int) (hp : relP xd xn) (P : Bool → Prop) (h : P (relM xd xn)) : relF xd xn (fun k0 => P k0) := by
 unfold relM at h
 unfold relF
 refine ⟨?_, ?_, ?_⟩
 ·first | exact hp.2 | exact hp.1 | omega | assumption | exact trivial | (have h0 := List.length_pos_iff.mpr (by assumption); omega) | (simp; omega) | (simp at *; omega)
 ·first | exact hp.2 | exact hp.1 | omega | assumption | exact trivial | (have h0 := List.length_pos_iff.mpr (by assumption); omega) | (simp; omega) | (simp at *; omega)
 exact h
theorem rel_F (xd : (List (Int × Bs × (List (Bs × Bs)) × Bs × Int × List (Int))) × Bool) (xn : Int) (hp : relP xd xn) : relF xd xn (fun k0 => k0 = relM xd xn) :=
 relF_A xd xn hp (fun z => z = relM xd xn) rfl
theorem rel_c {g : Ghost} {axd_0 : Option Addr} {cxd_0 : Nat} (xd : (List (Int × Bs × (List (Bs × Bs)) × Bs × Int × List (Int))) × Bool) (xn : Int) (hRxd_0 : Rep g (.slice (.pair (.int .i64) (.pair (.str) (.pair (.slice (.pair (.str) (.str))) (.pair (.str) (.pair (.int .i64) (.slice (.int .i64)))))))) [.slice axd_0 xd.1.length cxd_0] xd.1)  (hp : relP xd xn) : CallsG Tryz.prog 8 #[.agg #[.slice axd_0 xd.1.length cxd_0, .bool xd.2], .int .i64 xn] g (.bool (relM xd xn)) :=
 (rel_ok xd xn hRxd_0 _ (rel_F xd xn hp)).gives (by rintro g' H' v _ ⟨r0, rfl, rfl, hK⟩; subst hK; rfl)
def rat2l9b (xname : Bs) (K : Bs → Bool → Prop) (e3 : ND) (x9l9 : Int) (C9 : Int → Prop) : Prop :=
 ((decide (x9l9 < (e3.2.2.1.length : Int))) = true → (0 : Int) ≤ x9l9 ∧ Int.toNat x9l9 < e3.2.2.1.length ∧ ((((e3.2.2.1.getD (Int.toNat x9l9) default).1 == xname)) = true → K (e3.2.2.1.getD (Int.toNat x9l9) default).2 true) ∧ ((((e3.2.2.1.getD (Int.toNat x9l9) default).1 == xname)) = false → C9 (w6 (x9l9 + 1)))) ∧ ((decide (x9l9 < (e3.2.2.1.length : Int))) = false → K ([] : Bs) false)
def rat2l9 (xname : Bs) (K : Bs → Bool → Prop) (e3 : ND) : Nat → Int → Prop
 | 0, _ => False
 | k + 1, x9l9 => rat2l9b xname K e3 x9l9 (rat2l9 xname K e3 k)
def rat2F (xd : DC) (xn : Int) (xname : Bs) (K : Bs → Bool → Prop) : Prop :=
 (0 : Int) ≤ xn ∧ Int.toNat xn < xd.1.length ∧ ∃ k, rat2l9 xname K (xd.1.getD (Int.toNat xn) default) k 0
theorem rat2_ok {g : Ghost} {axd_0 : Option Addr} {cxd_0 : Nat} (xd : DC) (xn : Int) (xname : Bs) (hRxd_0 : Rep g (.slice (.pair (.int .i64) (.pair (.str) (.pair (.slice (.pair (.str) (.str))) (.pair (.str) (.pair (.int .i64) (.slice (.int .i64)))))))) [.slice axd_0 xd.1.length cxd_0] xd.1) (K : Bs → Bool → Prop)
  (hF : rat2F xd xn xname K) : CallsH Tryz.prog 30 #[.agg #[.slice axd_0 xd.1.length cxd_0, .bool xd.2], .int .i64 xn, sv xname] g [] (fun g' H' v => ∃ (r0 : Bs), ∃ (r1 : Bool), v = .tuple #[sv r0, .bool r1] ∧ H' = [] ∧ K r0 r1) := by
 refine CallsH.enter 34 [(0, .agg #[.slice axd_0 xd.1.length cxd_0, .bool xd.2]), (1, .int .i64 xn), (2, sv xname)] Tryz.func30 rfl (by kernel_rfl) (by kernel_rfl) (by kernel_rfl) fun w0 => ?_
 refine Ok.seq (Ok.region (Ok.op rfl (OpOk.box (v := .agg #[.slice axd_0 xd.1.length cxd_0, .bool xd.2]) (cs := #[.slice axd_0 xd.1.length cxd_0, .bool xd.2]) rfl (by kernel_rfl) rfl fun b1 => ?_)))
 refine Ok.batch 2 [(1, .int .i64 xn), (2, sv xname), (3, pv b1 0)] (by kernel_rfl) (Ok.nil (Ok.thenN (Ok.seq (Ok.region (Ok.bat 1 [1, 2] [(10, pv b1 0)] ?_)))))
 refine Ok.op rfl (OpOk.step (v := .slice axd_0 xd.1.length cxd_0) (Yields.load 0 rfl rfl Tryz.underlying22 rfl (by kernel_rfl)) rfl rfl (Ok.bat 1 [2] [(11, .slice axd_0 xd.1.length cxd_0), (12, .int .i64 xn)] ?_))
 obtain ⟨h03, h13, hF⟩ := hF
 have he3 := get_of (l := xd.1) (default : ND) h13
 generalize hg3 : (xd.1.getD (Int.toNat xn) default) = e3 at he3 hF ⊢
 refine Ok.op rfl (OpOk.indexRo (e := .pair (.int .i64) (.pair (.str) (.pair (.slice (.pair (.str) (.str))) (.pair (.str) (.pair (.int .i64) (.slice (.int .i64))))))) (i := xn) (el := e3) rfl rfl Tryz.underlying22 (by kernel_rfl) hRxd_0 h03 he3 rfl fun q2 o2 cs2 _ hat2 hr2 => ?_)
 obtain ⟨_, _, rfl, rfl, ⟨_, _, rfl, rfl, ⟨_, _, rfl, ⟨a2_2, c2_2, rfl, hm2_2, hr2_2⟩, ⟨_, _, rfl, rfl, ⟨_, _, rfl, rfl, ⟨a2_5, c2_5, rfl, hm2_5, hr2_5⟩⟩⟩⟩⟩⟩ := hr2
 have hR2_2 : Rep g (.slice (.pair (.str) (.str))) [.slice a2_2 e3.2.2.1.length c2_2] e3.2.2.1 := ⟨a2_2, c2_2, rfl, hm2_2, hr2_2⟩
 have hR2_5 : Rep g (.slice (.int .i64)) [.slice a2_5 e3.2.2.2.2.2.length c2_5] e3.2.2.2.2.2 := ⟨a2_5, c2_5, rfl, hm2_5, hr2_5⟩
 replace hat2 : At g q2 o2 [.int .i64 e3.1, sv e3.2.1, .slice a2_2 e3.2.2.1.length c2_2, sv e3.2.2.2.1, .int .i64 e3.2.2.2.2.1, .slice a2_5 e3.2.2.2.2.2.length c2_5] := hat2
 refine Ok.bat 1 [2] [(14, .pointer (some ⟨q2, o2 + 2, none⟩))] ?_
 refine Ok.op rfl (OpOk.step (v := .slice a2_2 e3.2.2.1.length c2_2) (Yields.loadRo 2 hat2 (by kernel_rfl) Tryz.underlying72 rfl (by kernel_rfl)) rfl rfl (Ok.bat 1 [2] [(8, .slice a2_2 e3.2.2.1.length c2_2)] ?_))
 refine Ok.nil (Ok.thenN (Ok.seq (Ok.seq (Ok.region (Ok.bat 1 [2, 8] [(9, .int .i64 0)] ?_)))))
 refine Ok.nil (Ok.thenN (Ok.block ?_))
 obtain ⟨k, hF⟩ := hF
 refine Ok.loop (fun k a W => ∃ (x9l9 : Int), StA 34 [(2, sv xname), (8, .slice a2_2 e3.2.2.1.length c2_2), (9, .int .i64 x9l9)] a ∧ StW w0 [] g W ∧ rat2l9 xname K e3 k x9l9) k ?_ ?_
 ·
  exact fun a W hA hW => ⟨0, hA.sub (by kernel_rfl), hW.sub (.cons _ .slnil), hF⟩
 ·
  clear hF
  rintro k9 a W ⟨x9l9, hA, hW, hF⟩
  cases k9 with
  | zero => exact (hF : False).elim
  | succ k9 =>
   refine (?_ : Ok _ _ _ _ _ _) a W hA hW
   clear hA hW
   refine Ok.seq (Ok.seq (Ok.region (Ok.bat 4 [2, 8, 9] [(19, .bool (decide (x9l9 < (e3.2.2.1.length : Int))))] ?_)))
   refine Ok.nil (Ok.thenN (Ok.cond (b := decide (x9l9 < (e3.2.2.1.length : Int))) rfl (fun hc4 => ?_) (fun hc4 => ?_)))
   ·replace hF := hF.1 hc4
    refine Ok.skip (Ok.thenN (Ok.seq (Ok.block (Ok.seq (Ok.region (Ok.bat 2 [2, 8, 9] [(22, .slice a2_2 e3.2.2.1.length c2_2), (23, .int .i64 x9l9)] ?_))))))
    obtain ⟨h06, h16, hF⟩ := hF
    have he6 := get_of (l := e3.2.2.1) (default : Bs × Bs) h16
    generalize hg6 : (e3.2.2.1.getD (Int.toNat x9l9) default) = e6 at he6 hF ⊢
    refine Ok.op rfl (OpOk.indexRo (e := .pair (.str) (.str)) (i := x9l9) (el := e6) rfl rfl Tryz.underlying72 (by kernel_rfl) hR2_2 h06 he6 rfl fun q5 o5 cs5 _ hat5 hr5 => ?_)
    obtain ⟨_, _, rfl, rfl, rfl⟩ := hr5
    replace hat5 : At g q5 o5 [sv e6.1, sv e6.2] := hat5
    refine Ok.bat 1 [2, 8, 9] [(25, pv q5 o5)] ?_
    refine Ok.op rfl (OpOk.step (v := sv e6.1) (Yields.loadRo 0 hat5 (by kernel_rfl) Tryz.underlying9 rfl (by kernel_rfl)) rfl rfl (Ok.bat 1 [2, 8, 9] [(26, sv e6.1), (27, sv xname)] ?_))
    refine Ok.op rfl (OpOk.step (v := .bool (e6.1 == xname)) (Yields.strCmp (f := .eql) (a := e6.1) (b := xname) (by kernel_rfl) (by kernel_rfl) rfl) rfl rfl (Ok.nil (Ok.thenN (Ok.cond (b := (e6.1 == xname)) rfl (fun hc7 => ?_) (fun hc7 => ?_)))))
    ·replace hF := hF.1 hc7
     refine Ok.seq (Ok.region (Ok.batch 2 [(29, .slice a2_2 e3.2.2.1.length c2_2), (30, .int .i64 x9l9)] (by kernel_rfl) (Ok.op rfl (OpOk.indexRo (e := .pair (.str) (.str)) (i := x9l9) (el := e6) rfl rfl Tryz.underlying72 (by kernel_rfl) hR2_2 h06 he6 rfl fun q8 o8 cs8 _ hat8 hr8 => ?_))))
     obtain ⟨_, _, rfl, rfl, rfl⟩ := hr8
     replace hat8 : At g q8 o8 [sv e6.1, sv e6.2] := hat8
     refine Ok.batch 1 [(32, .pointer (some ⟨q8, o8 + 1, none⟩))] (by kernel_rfl) (Ok.op rfl (OpOk.step (v := sv e6.2) (Yields.loadRo 1 hat8 (by kernel_rfl) Tryz.underlying9 rfl (by kernel_rfl)) rfl rfl (Ok.batch 2 [(6, sv e6.2), (7, .bool true)] (by kernel_rfl) (Ok.nil (Ok.thenN (Ok.ret (Ok.blockR (Ok.thenR (Ok.thenR (Ok.blockR (Ok.thenR ?_)))))))))))
     exact Ok.resH (vs := [sv e6.2, .bool true]) (.inl rfl) rfl (.cons (.tmp rfl) (.cons (.tmp rfl) .nil)) (Gext.refl w0 g) ⟨e6.2, true, rfl, rfl, hF⟩
    ·replace hF := hF.2 hc7
     refine Ok.skip (Ok.blockN (Ok.thenN (Ok.region (Ok.bat 3 [2, 8] [(9, .int .i64 (w6 (x9l9 + 1)))] ?_))))
     refine Ok.nil (Ok.thenN ?_)
     subst hg6
     exact fun a W hA hW => ⟨k9, Nat.lt_succ_self _, w6 (x9l9 + 1), hA.sub (by kernel_rfl), hW, hF⟩
   ·replace hF := hF.2 hc4
    refine Ok.exit (Ok.thenE (Ok.thenE (Ok.blockHit (Ok.thenN (Ok.seq (Ok.region (Ok.batch 2 [(6, sv ([] : Bs)), (7, .bool false)] (by kernel_rfl) (Ok.nil (Ok.thenN (Ok.ret ?_))))))))))
    exact Ok.resH (vs := [sv ([] : Bs), .bool false]) (.inl rfl) rfl (.cons (.tmp rfl) (.cons (.tmp rfl) .nil)) (Gext.refl w0 g) ⟨([] : Bs), false, rfl, rfl, hF⟩
def attS (l : List (Bs × Bs)) (w : Bs) : Bs × Bool := match l.find? (fun a => a.1 == w) with
 | some a => (a.2, true)
 | none => ([], false)
def attNS (d : DC) (n : Int) (w : Bs) : Bs × Bool := attS (d.1.getD n.toNat default).2.2.1 w
def attP (d : DC) (n : Int) (_ : Bs) : Prop := 0 ≤ n ∧ n.toNat < d.1.length ∧ (d.1.getD n.toNat default).2.2.1.length ≤ 1000000
theorem rat2_F (d : DC) (n : Int) (w : Bs) (hp : attP d n w) : rat2F d n w (fun a b => (a, b) = attNS d n w) := by
 obtain ⟨h0, h1, h2⟩ := hp
 refine ⟨h0, h1, ?_⟩
 unfold attNS
 generalize d.1.getD n.toNat default = x at h2 ⊢
 have loop : ∀ (k i : Nat), i + k = x.2.2.1.length → attS x.2.2.1 w = attS (x.2.2.1.drop i) w → rat2l9 w (fun a b => (a, b) = attS x.2.2.1 w) x (k + 1) (i : Int) := by
  intro k
  induction k with
  | zero =>
   intro i h he
   rw [List.drop_of_length_le (by omega)] at he
   exact ⟨fun h2 => by have := of_decide_eq_true h2; omega, fun _ => he.symm⟩
  | succ k ih =>
   intro i h he
   rw [drop_get (l := x.2.2.1) default (by omega)] at he
   refine ⟨fun _ => ⟨by omega, by omega, fun hc => ?_, fun hc => ?_⟩, fun h2 => by have := of_decide_eq_false h2; omega⟩
   ·rw [Int.toNat_natCast] at hc ⊢
    rw [he]; unfold attS; rw [List.find?_cons, hc]
   ·rw [Int.toNat_natCast] at hc
    rw [w64 (by omega)]
    refine ih (i + 1) (by omega) ?_
    rw [he]; unfold attS; rw [List.find?_cons, hc]
 exact ⟨_, loop x.2.2.1.length 0 (by omega) rfl⟩
theorem rat2_c {g : Ghost} {axd_0 : Option Addr} {cxd_0 : Nat} (xd : (List (Int × Bs × (List (Bs × Bs)) × Bs × Int × List (Int))) × Bool) (xn : Int) (xname : Bs) (hRxd_0 : Rep g (.slice (.pair (.int .i64) (.pair (.str) (.pair (.slice (.pair (.str) (.str))) (.pair (.str) (.pair (.int .i64) (.slice (.int .i64)))))))) [.slice axd_0 xd.1.length cxd_0] xd.1)  (hp : attP xd xn xname) : CallsG Tryz.prog 30 #[.agg #[.slice axd_0 xd.1.length cxd_0, .bool xd.2], .int .i64 xn, sv xname] g (.tuple #[sv ((attNS xd xn xname).1), .bool (attNS xd xn xname).2]) :=
 (rat2_ok xd xn xname hRxd_0 _ (rat2_F xd xn xname hp)).gives (by rintro g' H' v _ ⟨r0, r1, rfl, rfl, hK⟩; obtain ⟨rfl, rfl⟩ : r0 = (attNS xd xn xname).1 ∧ r1 = (attNS xd xn xname).2 := ⟨congrArg (fun z => z.1) hK, congrArg (fun z => z.2) hK⟩; rfl)
def rdgF (xc : Int) (K : Bool → Prop) : Prop :=
 K ((decide (xc ≥ 48)) && (decide (xc ≤ 57)))
theorem rdg_ok {g : Ghost} (xc : Int) (K : Bool → Prop)
  (hF : rdgF xc K) : CallsH Tryz.prog 72 #[.int .u8 xc] g [] (fun g' H' v => ∃ (r0 : Bool), v = .bool r0 ∧ H' = [] ∧ K r0) := by
 refine CallsH.enter 9 [(0, .int .u8 xc)] Tryz.func72 rfl (by kernel_rfl) (by kernel_rfl) (by kernel_rfl) fun w0 => ?_
 refine Ok.seq (Ok.region (Ok.batch 1 [(0, .int .u8 xc)] (by kernel_rfl) (Ok.nil (Ok.thenN (Ok.seq (Ok.region (Ok.bat 3 [0] [(5, .bool (decide (xc ≥ 48)))] ?_)))))))
 refine Ok.midway 3 [(8, .bool ((decide (xc ≥ 48)) && (decide (xc ≤ 57))))] (fun hR1 => ?_) ?_
 ·refine Ok.boolAt 5 (decide (xc ≥ 48)) rfl (fun hc2 => ?_) (fun hc2 => ?_)
  ·skip
   refine Ok.batch 3 [(8, .bool (decide (xc ≤ 57)))] (by kernel_rfl) (Ok.reval 8 rfl (show (.bool (decide (xc ≤ 57)) : Value) = .bool ((decide (xc ≥ 48)) && (decide (xc ≤ 57))) from congrArg Value.bool (mand_t hc2)) (Ok.batch 0 [(8, .bool ((decide (xc ≥ 48)) && (decide (xc ≤ 57))))] (by kernel_rfl) ?_))
   exact hR1
  ·skip
   refine Ok.batch 3 [(8, .bool false)] (by kernel_rfl) (Ok.reval 8 rfl (show (.bool false : Value) = .bool ((decide (xc ≥ 48)) && (decide (xc ≤ 57))) from congrArg Value.bool (mand_f hc2)) (Ok.batch 0 [(8, .bool ((decide (xc ≥ 48)) && (decide (xc ≤ 57))))] (by kernel_rfl) ?_))
   exact hR1
 refine Ok.batch 1 [(2, .bool ((decide (xc ≥ 48)) && (decide (xc ≤ 57))))] (by kernel_rfl) (Ok.nil (Ok.thenN (Ok.ret ?_)))
 exact Ok.resH (vs := [.bool ((decide (xc ≥ 48)) && (decide (xc ≤ 57)))]) (.inl rfl) rfl (.cons (.tmp rfl) .nil) (Gext.refl w0 g) ⟨((decide (xc ≥ 48)) && (decide (xc ≤ 57))), rfl, rfl, hF⟩
def rdgM (xc : Int) : Bool := ((decide (xc ≥ 48)) && (decide (xc ≤ 57)))
theorem rdgF_A (xc : Int) (P : Bool → Prop) (h : P (rdgM xc)) : rdgF xc (fun k0 => P k0) := by
 unfold rdgM at h
 unfold rdgF
 exact h
theorem rdg_F (xc : Int) : rdgF xc (fun k0 => k0 = rdgM xc) :=
 rdgF_A xc (fun z => z = rdgM xc) rfl
theorem rdg_c {g : Ghost} (xc : Int)  : CallsG Tryz.prog 72 #[.int .u8 xc] g (.bool (rdgM xc)) :=
 (rdg_ok xc _ (rdg_F xc)).gives (by rintro g' H' v _ ⟨r0, rfl, rfl, hK⟩; subst hK; rfl)
def rniV3 (xd : DC) (xn : Int) (xname : Bs) : Bool :=
 ((decide ((((attNS xd xn xname).1).length : Int) > 0)) && (((((attNS xd xn xname).1).getD (Int.toNat 0) 0).toNat : Int) == 45))
def rniV4 (xd : DC) (xn : Int) (xname : Bs) (x11l40 : Int) : Int :=
 (if (rniV3 xd xn xname) = true then w6 (0 - x11l40) else x11l40)
def rniV5 (xd : DC) (xn : Int) (xname : Bs) (x10l17 : Int) : Bool :=
 ((!(rdgM ((((attNS xd xn xname).1).getD (Int.toNat x10l17) 0).toNat : Int))) && ((decide (x10l17 > 0)) || (((((attNS xd xn xname).1).getD (Int.toNat x10l17) 0).toNat : Int) != 45)))
def rniV8 (xd : DC) (xn : Int) (xname : Bs) (x11l40 : Int) (x12l40 : Int) : Int :=
 (if (rdgM ((((attNS xd xn xname).1).getD (Int.toNat x12l40) 0).toNat : Int)) = true then w6 ((w6 (10 * x11l40)) + (w6 (IntKind.wrap .u8 (((((attNS xd xn xname).1).getD (Int.toNat x12l40) 0).toNat : Int) - 48)))) else x11l40)
def rnij26 (xd : DC) (xn : Int) (xname : Bs) (K : Int → Bool → Prop) (x10l17 : Int) (C17 : Int → Prop) : Prop :=
 (((rniV5 xd xn xname x10l17)) = true → K 0 false) ∧ (((rniV5 xd xn xname x10l17)) = false → C17 (w6 (x10l17 + 1)))
def rnij47 (xd : DC) (xn : Int) (xname : Bs) (x11l40 : Int) (x12l40 : Int) (C40 : Int → Int → Prop) : Prop :=
 C40 (rniV8 xd xn xname x11l40 x12l40) (w6 (x12l40 + 1))
def rnij55 (xd : DC) (xn : Int) (xname : Bs) (K : Int → Bool → Prop) (x11l40 : Int) : Prop :=
 sgnPE (rniV4 xd xn xname x11l40) ∧ K (rniV4 xd xn xname x11l40) ((((Lib.itoa (rniV4 xd xn xname x11l40)) == (attNS xd xn xname).1) && (decide ((rniV4 xd xn xname x11l40) ≥ (-1000000)))) && (decide ((rniV4 xd xn xname x11l40) ≤ 1000000)))
def rnij56 (xd : DC) (xn : Int) (xname : Bs) (K : Int → Bool → Prop) (x11l40 : Int) : Prop :=
 (((rniV3 xd xn xname)) = true → rnij55 xd xn xname K x11l40) ∧ (((rniV3 xd xn xname)) = false → rnij55 xd xn xname K x11l40)
def rnil40b (xd : DC) (xn : Int) (xname : Bs) (K : Int → Bool → Prop) (x11l40 : Int) (x12l40 : Int) (C40 : Int → Int → Prop) : Prop :=
 ((decide (x12l40 < (((attNS xd xn xname).1).length : Int))) = true → (0 : Int) ≤ x12l40 ∧ Int.toNat x12l40 < ((attNS xd xn xname).1).length ∧ (((rdgM ((((attNS xd xn xname).1).getD (Int.toNat x12l40) 0).toNat : Int))) = true → rnij47 xd xn xname x11l40 x12l40 C40) ∧ (((rdgM ((((attNS xd xn xname).1).getD (Int.toNat x12l40) 0).toNat : Int))) = false → rnij47 xd xn xname x11l40 x12l40 C40)) ∧ ((decide (x12l40 < (((attNS xd xn xname).1).length : Int))) = false → ((decide ((((attNS xd xn xname).1).length : Int) > 0)) = true → (0 : Int) ≤ 0 ∧ Int.toNat 0 < ((attNS xd xn xname).1).length ∧ rnij56 xd xn xname K x11l40) ∧ ((decide ((((attNS xd xn xname).1).length : Int) > 0)) = false → rnij56 xd xn xname K x11l40))
def rnil40 (xd : DC) (xn : Int) (xname : Bs) (K : Int → Bool → Prop) : Nat → Int → Int → Prop
 | 0, _, _ => False
 | k + 1, x11l40, x12l40 => rnil40b xd xn xname K x11l40 x12l40 (rnil40 xd xn xname K k)
def rnil17b (xd : DC) (xn : Int) (xname : Bs) (K : Int → Bool → Prop) (x10l17 : Int) (C17 : Int → Prop) : Prop :=
 ((decide (x10l17 < (((attNS xd xn xname).1).length : Int))) = true → (0 : Int) ≤ x10l17 ∧ Int.toNat x10l17 < ((attNS xd xn xname).1).length ∧ ((!(rdgM ((((attNS xd xn xname).1).getD (Int.toNat x10l17) 0).toNat : Int))) = true → ((decide (x10l17 > 0)) = true → rnij26 xd xn xname K x10l17 C17) ∧ ((decide (x10l17 > 0)) = false → rnij26 xd xn xname K x10l17 C17)) ∧ ((!(rdgM ((((attNS xd xn xname).1).getD (Int.toNat x10l17) 0).toNat : Int))) = false → rnij26 xd xn xname K x10l17 C17)) ∧ ((decide (x10l17 < (((attNS xd xn xname).1).length : Int))) = false → ∃ k, rnil40 xd xn xname K k 0 0)
def rnil17 (xd : DC) (xn : Int) (xname : Bs) (K : Int → Bool → Prop) : Nat → Int → Prop
 | 0, _ => False
 | k + 1, x10l17 => rnil17b xd xn xname K x10l17 (rnil17 xd xn xname K k)
def rniF (xd : DC) (xn : Int) (xname : Bs) (K : Int → Bool → Prop) : Prop :=
 attP xd xn xname ∧ ((((!((attNS xd xn xname).2)) || (decide ((((attNS xd xn xname).1).length : Int) > 8)))) = true → K 0 false) ∧ ((((!((attNS xd xn xname).2)) || (decide ((((attNS xd xn xname).1).length : Int) > 8)))) = false → ∃ k, rnil17 xd xn xname K k 0)
theorem rni_ok {g : Ghost} {axd_0 : Option Addr} {cxd_0 : Nat} (xd : DC) (xn : Int) (xname : Bs) (hRxd_0 : Rep g (.slice (.pair (.int .i64) (.pair (.str) (.pair (.slice (.pair (.str) (.str))) (.pair (.str) (.pair (.int .i64) (.slice (.int .i64)))))))) [.slice axd_0 xd.1.length cxd_0] xd.1) (K : Int → Bool → Prop)
  (hF : rniF xd xn xname K) : CallsH Tryz.prog 37 #[.agg #[.slice axd_0 xd.1.length cxd_0, .bool xd.2], .int .i64 xn, sv xname] g [] (fun g' H' v => ∃ (r0 : Int), ∃ (r1 : Bool), v = .tuple #[.int .i64 r0, .bool r1] ∧ H' = [] ∧ K r0 r1) := by
 refine CallsH.enter 89 [(0, .agg #[.slice axd_0 xd.1.length cxd_0, .bool xd.2]), (1, .int .i64 xn), (2, sv xname)] Tryz.func37 rfl (by kernel_rfl) (by kernel_rfl) (by kernel_rfl) fun w0 => ?_
 refine Ok.seq (Ok.region (Ok.op rfl (OpOk.box (v := .agg #[.slice axd_0 xd.1.length cxd_0, .bool xd.2]) (cs := #[.slice axd_0 xd.1.length cxd_0, .bool xd.2]) rfl (by kernel_rfl) rfl fun b1 => ?_)))
 refine Ok.batch 2 [(1, .int .i64 xn), (2, sv xname), (3, pv b1 0)] (by kernel_rfl) (Ok.nil (Ok.thenN (Ok.seq (Ok.region (Ok.op rfl (OpOk.step (v := .agg #[.slice axd_0 xd.1.length cxd_0, .bool xd.2]) (Yields.loadAgg 0 2 #[.slice axd_0 xd.1.length cxd_0, .bool xd.2] rfl rfl Tryz.underlying24 rfl (by kernel_rfl) (by kernel_rfl) (by kernel_rfl)) rfl rfl (Ok.batch 2 [(14, .agg #[.slice axd_0 xd.1.length cxd_0, .bool xd.2]), (15, .int .i64 xn), (16, sv xname)] (by kernel_rfl) ?_)))))))
 obtain ⟨hp2, hF⟩ := hF
 refine Ok.op rfl (OpOk.callG (v := .tuple #[sv ((attNS xd xn xname).1), .bool (attNS xd xn xname).2]) enr (fun W hW => rat2_c xd xn xname (hRxd_0.mono hW.sees) hp2) rfl ?_)
 refine Ok.batch 5 [(8, sv ((attNS xd xn xname).1)), (9, .bool (attNS xd xn xname).2)] (by kernel_rfl) (Ok.nil (Ok.thenN (Ok.seq (Ok.seq (Ok.region (Ok.bat 3 [8] [(22, .bool (!((attNS xd xn xname).2)))] ?_))))))
 refine Ok.midway 4 [(8, sv ((attNS xd xn xname).1)), (26, .bool ((!((attNS xd xn xname).2)) || (decide ((((attNS xd xn xname).1).length : Int) > 8))))] (fun hR3 => ?_) ?_
 ·refine Ok.boolAt 22 (!((attNS xd xn xname).2)) rfl (fun hc4 => ?_) (fun hc4 => ?_)
  ·skip
   refine Ok.bat 4 [8] [(26, .bool true)] ?_
   refine Ok.reval 26 rfl (show (.bool true : Value) = .bool ((!((attNS xd xn xname).2)) || (decide ((((attNS xd xn xname).1).length : Int) > 8))) from congrArg Value.bool (mor_t hc4)) (Ok.bat 0 [8] [(26, .bool ((!((attNS xd xn xname).2)) || (decide ((((attNS xd xn xname).1).length : Int) > 8))))] ?_)
   exact hR3
  ·skip
   refine Ok.bat 4 [8] [(26, .bool (decide ((((attNS xd xn xname).1).length : Int) > 8)))] ?_
   refine Ok.reval 26 rfl (show (.bool (decide ((((attNS xd xn xname).1).length : Int) > 8)) : Value) = .bool ((!((attNS xd xn xname).2)) || (decide ((((attNS xd xn xname).1).length : Int) > 8))) from congrArg Value.bool (mor_f hc4)) (Ok.bat 0 [8] [(26, .bool ((!((attNS xd xn xname).2)) || (decide ((((attNS xd xn xname).1).length : Int) > 8))))] ?_)
   exact hR3
 refine Ok.nil (Ok.thenN (Ok.cond (b := ((!((attNS xd xn xname).2)) || (decide ((((attNS xd xn xname).1).length : Int) > 8)))) rfl (fun hc5 => ?_) (fun hc5 => ?_)))
 ·replace hF := hF.1 hc5
  refine Ok.seq (Ok.region (Ok.batch 2 [(6, .int .i64 0), (7, .bool false)] (by kernel_rfl) (Ok.nil (Ok.thenN (Ok.ret (Ok.thenR ?_))))))
  exact Ok.resP (vs := [.int .i64 0, .bool false]) [] [] (by decide) rfl (.inl rfl) rfl (.cons (.tmp rfl) (.cons (.tmp rfl) .nil)) (Gext.refl w0 g) ⟨0, false, rfl, rfl, hF⟩
 ·replace hF := hF.2 hc5
  refine Ok.skip (Ok.thenN (Ok.seq (Ok.seq (Ok.region (Ok.bat 1 [8] [(10, .int .i64 0)] ?_)))))
  refine Ok.nil (Ok.thenN (Ok.block ?_))
  obtain ⟨k, hF⟩ := hF
  refine Ok.loop (fun k a W => ∃ gl17 : Ghost, Gext w0 g gl17 ∧ ∃ (x10l17 : Int), StA 89 [(8, sv ((attNS xd xn xname).1)), (10, .int .i64 x10l17)] a ∧ StW w0 [] gl17 W ∧ rnil17 xd xn xname K k x10l17) k ?_ ?_
  ·
   exact fun a W hA hW => ⟨g, (Gext.refl w0 g), 0, hA.sub (by kernel_rfl), hW.sub (.cons _ .slnil), hF⟩
  ·
   clear hF
   rintro k17 a W ⟨gl17, hxl17, x10l17, hA, hW, hF⟩
   cases k17 with
   | zero => exact (hF : False).elim
   | succ k17 =>
    refine (?_ : Ok _ _ _ _ _ _) a W hA hW
    clear hA hW
    refine Ok.seq (Ok.seq (Ok.region (Ok.bat 4 [8, 10] [(30, .bool (decide (x10l17 < (((attNS xd xn xname).1).length : Int))))] ?_)))
    refine Ok.nil (Ok.thenN (Ok.cond (b := decide (x10l17 < (((attNS xd xn xname).1).length : Int))) rfl (fun hc6 => ?_) (fun hc6 => ?_)))
    ·replace hF := hF.1 hc6
     refine Ok.skip (Ok.thenN (Ok.seq (Ok.block (Ok.cut (fun a W => ∃ gj26 : Ghost, Gext w0 gl17 gj26 ∧ StA 89 [(8, sv ((attNS xd xn xname).1)), (10, .int .i64 x10l17), (47, .bool (rniV5 xd xn xname x10l17))] a ∧ StW w0 [] gj26 W ∧ rnij26 xd xn xname K x10l17 (rnil17 xd xn xname K k17)) ?_ ?_))))
     ·
      refine Ok.region (Ok.bat 2 [8, 10] [(33, sv ((attNS xd xn xname).1)), (34, .int .i64 x10l17)] ?_)
      obtain ⟨h08, h18, hF⟩ := hF
      have he8 := get_of (l := (attNS xd xn xname).1) (0 : UInt8) h18
      generalize hg8 : (((attNS xd xn xname).1).getD (Int.toNat x10l17) 0) = e8 at he8 hF ⊢
      refine Ok.op rfl (OpOk.step (v := .int .u8 (e8.toNat : Int)) (Yields.indexStr (k := .i64) (i := x10l17) (s := (attNS xd xn xname).1) (b := e8) (by kernel_rfl) (by kernel_rfl) Tryz.underlying9 h08 he8) rfl rfl (Ok.op rfl (OpOk.callG (v := .bool (rdgM (e8.toNat : Int))) enr (fun W hW => rdg_c (e8.toNat : Int)) rfl ?_)))
      refine Ok.bat 2 [8, 10] [(38, .bool (!(rdgM (e8.toNat : Int))))] ?_
      refine Ok.boolAt 38 (!(rdgM (e8.toNat : Int))) rfl (fun hc9 => ?_) (fun hc9 => ?_)
      ·replace hF := hF.1 hc9
       refine Ok.bat 3 [8, 10] [(38, .bool true), (41, .bool (decide (x10l17 > 0)))] ?_
       refine Ok.boolAt 41 (decide (x10l17 > 0)) rfl (fun hc10 => ?_) (fun hc10 => ?_)
       ·replace hF := hF.1 hc10
        refine Ok.bat 6 [8, 10] [(47, .bool true)] ?_
        refine Ok.nil (Ok.thenN ?_)
        subst hg8
        refine Ok.reval 47 rfl (show (.bool true : Value) = .bool (rniV5 xd xn xname x10l17) from congrArg (Value.bool) ((Eq.trans (mor_t hc10) (mand_t hc9)))) ?_
        exact fun a W hA hW => ⟨gl17, (Gext.refl w0 gl17), hA.sub (by kernel_rfl), hW, hF⟩
       ·replace hF := hF.2 hc10
        refine Ok.bat 2 [8, 10, 38] [(41, .bool false), (42, sv ((attNS xd xn xname).1)), (43, .int .i64 x10l17)] ?_
        refine Ok.opYes (j := 8) (d := 41) (want := false) (b := false) rfl (by kernel_rfl) (by kernel_rfl) rfl (OpOk.step (v := .int .u8 (e8.toNat : Int)) (Yields.indexStr (k := .i64) (i := x10l17) (s := (attNS xd xn xname).1) (b := e8) (by kernel_rfl) (by kernel_rfl) Tryz.underlying9 h08 he8) rfl rfl (Ok.bat 3 [8, 10] [(47, .bool ((e8.toNat : Int) != 45))] ?_))
        refine Ok.nil (Ok.thenN ?_)
        subst hg8
        refine Ok.reval 47 rfl (show (.bool (((((attNS xd xn xname).1).getD (Int.toNat x10l17) 0).toNat : Int) != 45) : Value) = .bool (rniV5 xd xn xname x10l17) from congrArg (Value.bool) ((Eq.trans (mor_f hc10) (mand_t hc9)))) ?_
        exact fun a W hA hW => ⟨gl17, (Gext.refl w0 gl17), hA.sub (by kernel_rfl), hW, hF⟩
      ·replace hF := hF.2 hc9
       refine Ok.bat 9 [8, 10] [(47, .bool false)] ?_
       refine Ok.nil (Ok.thenN ?_)
       subst hg8
       refine Ok.reval 47 rfl (show (.bool false : Value) = .bool (rniV5 xd xn xname x10l17) from congrArg (Value.bool) (mand_f hc9)) ?_
       exact fun a W hA hW => ⟨gl17, (Gext.refl w0 gl17), hA.sub (by kernel_rfl), hW, hF⟩
     ·
      clear hF
      rintro a W ⟨gj26, hxj26, hA, hW, hF⟩
      refine (?_ : Ok _ _ _ _ _ _) a W hA hW
      clear hA hW
      refine Ok.cond (b := (rniV5 xd xn xname x10l17)) rfl (fun hc7 => ?_) (fun hc7 => ?_)
      ·replace hF := hF.1 hc7
       refine Ok.seq (Ok.region (Ok.batch 2 [(6, .int .i64 0), (7, .bool false)] (by kernel_rfl) (Ok.nil (Ok.thenN (Ok.ret (Ok.blockR (Ok.thenR (Ok.thenR (Ok.blockR (Ok.thenR ?_))))))))))
       exact Ok.resH (vs := [.int .i64 0, .bool false]) (.inl rfl) rfl (.cons (.tmp rfl) (.cons (.tmp rfl) .nil)) (hxl17.trans hxj26) ⟨0, false, rfl, rfl, hF⟩
      ·replace hF := hF.2 hc7
       refine Ok.skip (Ok.blockN (Ok.thenN (Ok.region (Ok.bat 3 [8] [(10, .int .i64 (w6 (x10l17 + 1)))] ?_))))
       refine Ok.nil (Ok.thenN ?_)
       exact fun a W hA hW => ⟨k17, Nat.lt_succ_self _, gj26, (hxl17.trans hxj26), w6 (x10l17 + 1), hA.sub (by kernel_rfl), hW, hF⟩
    ·replace hF := hF.2 hc6
     refine Ok.exit (Ok.thenE (Ok.thenE (Ok.blockHit (Ok.thenN (Ok.seq (Ok.region (Ok.bat 1 [8] [(11, .int .i64 0)] ?_)))))))
     refine Ok.nil (Ok.thenN (Ok.seq (Ok.seq (Ok.region (Ok.bat 1 [8, 11] [(12, .int .i64 0)] ?_)))))
     refine Ok.nil (Ok.thenN (Ok.block ?_))
     obtain ⟨k, hF⟩ := hF
     refine Ok.loop (fun k a W => ∃ gl40 : Ghost, Gext w0 gl17 gl40 ∧ ∃ (x11l40 : Int) (x12l40 : Int), StA 89 [(8, sv ((attNS xd xn xname).1)), (11, .int .i64 x11l40), (12, .int .i64 x12l40)] a ∧ StW w0 [] gl40 W ∧ rnil40 xd xn xname K k x11l40 x12l40) k ?_ ?_
     ·
      exact fun a W hA hW => ⟨gl17, (Gext.refl w0 gl17), 0, 0, hA.sub (by kernel_rfl), hW, hF⟩
     ·
      clear hF
      rintro k40 a W ⟨gl40, hxl40, x11l40, x12l40, hA, hW, hF⟩
      cases k40 with
      | zero => exact (hF : False).elim
      | succ k40 =>
       refine (?_ : Ok _ _ _ _ _ _) a W hA hW
       clear hA hW
       refine Ok.seq (Ok.seq (Ok.region (Ok.bat 4 [8, 11, 12] [(51, .bool (decide (x12l40 < (((attNS xd xn xname).1).length : Int))))] ?_)))
       refine Ok.nil (Ok.thenN (Ok.cond (b := decide (x12l40 < (((attNS xd xn xname).1).length : Int))) rfl (fun hc11 => ?_) (fun hc11 => ?_)))
       ·replace hF := hF.1 hc11
        refine Ok.skip (Ok.thenN (Ok.cut (fun a W => ∃ gj47 : Ghost, Gext w0 gl40 gj47 ∧ StA 89 [(8, sv ((attNS xd xn xname).1)), (11, .int .i64 (rniV8 xd xn xname x11l40 x12l40)), (12, .int .i64 x12l40)] a ∧ StW w0 [] gj47 W ∧ rnij47 xd xn xname x11l40 x12l40 (rnil40 xd xn xname K k40)) ?_ ?_))
        ·
         refine Ok.block (Ok.seq (Ok.region (Ok.bat 2 [8, 11, 12] [(54, sv ((attNS xd xn xname).1)), (55, .int .i64 x12l40)] ?_)))
         obtain ⟨h012, h112, hF⟩ := hF
         have he12 := get_of (l := (attNS xd xn xname).1) (0 : UInt8) h112
         generalize hg12 : (((attNS xd xn xname).1).getD (Int.toNat x12l40) 0) = e12 at he12 hF ⊢
         refine Ok.op rfl (OpOk.step (v := .int .u8 (e12.toNat : Int)) (Yields.indexStr (k := .i64) (i := x12l40) (s := (attNS xd xn xname).1) (b := e12) (by kernel_rfl) (by kernel_rfl) Tryz.underlying9 h012 he12) rfl rfl (Ok.op rfl (OpOk.callG (v := .bool (rdgM (e12.toNat : Int))) enr (fun W hW => rdg_c (e12.toNat : Int)) rfl ?_)))
         refine Ok.nil (Ok.thenN (Ok.cond (b := (rdgM (e12.toNat : Int))) rfl (fun hc13 => ?_) (fun hc13 => ?_)))
         ·replace hF := hF.1 hc13
          refine Ok.region (Ok.bat 4 [8, 12] [(59, .int .i64 (w6 (10 * x11l40))), (60, sv ((attNS xd xn xname).1)), (61, .int .i64 x12l40)] ?_)
          refine Ok.op rfl (OpOk.step (v := .int .u8 (e12.toNat : Int)) (Yields.indexStr (k := .i64) (i := x12l40) (s := (attNS xd xn xname).1) (b := e12) (by kernel_rfl) (by kernel_rfl) Tryz.underlying9 h012 he12) rfl rfl (Ok.bat 4 [8, 12] [(11, .int .i64 (w6 ((w6 (10 * x11l40)) + (w6 (IntKind.wrap .u8 ((e12.toNat : Int) - 48))))))] ?_))
          refine Ok.nil (Ok.blockN (Ok.thenN ?_))
          subst hg12
          refine Ok.reval 11 rfl (show (.int .i64 (w6 ((w6 (10 * x11l40)) + (w6 (IntKind.wrap .u8 (((((attNS xd xn xname).1).getD (Int.toNat x12l40) 0).toNat : Int) - 48))))) : Value) = .int .i64 (rniV8 xd xn xname x11l40 x12l40) from congrArg (Value.int .i64) ((if_t hc13).symm)) ?_
          exact fun a W hA hW => ⟨gl40, (Gext.refl w0 gl40), hA.sub (by kernel_rfl), hW, hF⟩
         ·replace hF := hF.2 hc13
          refine Ok.skip (Ok.blockN (Ok.thenN ?_))
          subst hg12
          refine Ok.reval 11 rfl (show (.int .i64 x11l40 : Value) = .int .i64 (rniV8 xd xn xname x11l40 x12l40) from congrArg (Value.int .i64) ((if_f hc13).symm)) ?_
          exact fun a W hA hW => ⟨gl40, (Gext.refl w0 gl40), hA.sub (by kernel_rfl), hW, hF⟩
        ·
         clear hF
         rintro a W ⟨gj47, hxj47, hA, hW, hF⟩
         refine (?_ : Ok _ _ _ _ _ _) a W hA hW
         clear hA hW
         refine Ok.region (Ok.bat 3 [8, 11] [(12, .int .i64 (w6 (x12l40 + 1)))] ?_)
         refine Ok.nil (Ok.thenN ?_)
         exact fun a W hA hW => ⟨k40, Nat.lt_succ_self _, gj47, (hxl40.trans hxj47), (rniV8 xd xn xname x11l40 x12l40), w6 (x12l40 + 1), hA.sub (by kernel_rfl), hW, hF⟩
       ·replace hF := hF.2 hc11
        refine Ok.exit (Ok.thenE (Ok.thenE (Ok.blockHit (Ok.thenN (Ok.cut (fun a W => ∃ gj55 : Ghost, Gext w0 gl40 gj55 ∧ StA 89 [(8, sv ((attNS xd xn xname).1)), (11, .int .i64 (rniV4 xd xn xname x11l40))] a ∧ StW w0 [] gj55 W ∧ rnij55 xd xn xname K x11l40) ?_ ?_)))))
        ·
         refine Ok.cut (fun a W => ∃ gj56 : Ghost, Gext w0 gl40 gj56 ∧ StA 89 [(8, sv ((attNS xd xn xname).1)), (11, .int .i64 x11l40), (73, .bool (rniV3 xd xn xname))] a ∧ StW w0 [] gj56 W ∧ rnij56 xd xn xname K x11l40) ?_ ?_
         ·
          refine Ok.region (Ok.bat 4 [8, 11] [(69, .bool (decide ((((attNS xd xn xname).1).length : Int) > 0)))] ?_)
          refine Ok.boolAt 69 (decide ((((attNS xd xn xname).1).length : Int) > 0)) rfl (fun hc20 => ?_) (fun hc20 => ?_)
          ·replace hF := hF.1 hc20
           refine Ok.bat 1 [8, 11] [(69, .bool true), (70, sv ((attNS xd xn xname).1))] ?_
           obtain ⟨h021, h121, hF⟩ := hF
           have he21 := get_of (l := (attNS xd xn xname).1) (0 : UInt8) h121
           generalize hg21 : (((attNS xd xn xname).1).getD (Int.toNat 0) 0) = e21 at he21 hF ⊢
           refine Ok.opYes (j := 3) (d := 69) (want := true) (b := true) rfl (by kernel_rfl) (by kernel_rfl) rfl (OpOk.step (v := .int .u8 (e21.toNat : Int)) (Yields.indexStr (k := .i64) (i := 0) (s := (attNS xd xn xname).1) (b := e21) (by kernel_rfl) (by kernel_rfl) Tryz.underlying9 h021 he21) rfl rfl (Ok.bat 2 [8, 11] [(73, .bool ((e21.toNat : Int) == 45))] ?_))
           refine Ok.nil (Ok.thenN ?_)
           subst hg21
           refine Ok.reval 73 rfl (show (.bool (((((attNS xd xn xname).1).getD (Int.toNat 0) 0).toNat : Int) == 45) : Value) = .bool (rniV3 xd xn xname) from congrArg (Value.bool) (mand_t hc20)) ?_
           exact fun a W hA hW => ⟨gl40, (Gext.refl w0 gl40), hA.sub (by kernel_rfl), hW, hF⟩
          ·replace hF := hF.2 hc20
           refine Ok.bat 4 [8, 11] [(73, .bool false)] ?_
           refine Ok.nil (Ok.thenN (Ok.reval 73 rfl (show (.bool false : Value) = .bool (rniV3 xd xn xname) from congrArg (Value.bool) (mand_f hc20)) ?_))
           exact fun a W hA hW => ⟨gl40, (Gext.refl w0 gl40), hA.sub (by kernel_rfl), hW, hF⟩
         ·
          clear hF
          rintro a W ⟨gj56, hxj56, hA, hW, hF⟩
          refine (?_ : Ok _ _ _ _ _ _) a W hA hW
          clear hA hW
          refine Ok.cond (b := (rniV3 xd xn xname)) rfl (fun hc19 => ?_) (fun hc19 => ?_)
          ·replace hF := hF.1 hc19
           refine Ok.region (Ok.bat 3 [8] [(11, .int .i64 (w6 (0 - x11l40)))] ?_)
           refine Ok.nil (Ok.thenN (Ok.reval 11 rfl (show (.int .i64 (w6 (0 - x11l40)) : Value) = .int .i64 (rniV4 xd xn xname x11l40) from congrArg (Value.int .i64) ((if_t hc19).symm)) ?_))
           exact fun a W hA hW => ⟨gj56, hxj56, hA.sub (by kernel_rfl), hW, hF⟩
          ·replace hF := hF.2 hc19
           refine Ok.skip (Ok.thenN (Ok.reval 11 rfl (show (.int .i64 x11l40 : Value) = .int .i64 (rniV4 xd xn xname x11l40) from congrArg (Value.int .i64) ((if_f hc19).symm)) ?_))
           exact fun a W hA hW => ⟨gj56, hxj56, hA.sub (by kernel_rfl), hW, hF⟩
        ·
         clear hF
         rintro a W ⟨gj55, hxj55, hA, hW, hF⟩
         refine (?_ : Ok _ _ _ _ _ _) a W hA hW
         clear hA hW
         refine Ok.seq (Ok.region (Ok.bat 2 [8, 11] [(76, .int .i64 (rniV4 xd xn xname x11l40)), (77, .int .i64 (rniV4 xd xn xname x11l40))] ?_))
         obtain ⟨hp14, hF⟩ := hF
         refine Ok.op rfl (OpOk.callG (v := sv (Lib.itoa (rniV4 xd xn xname x11l40))) enr (fun W hW => sgn_c (rniV4 xd xn xname x11l40) hp14) rfl ?_)
         refine Ok.bat 1 [11, 76] [(78, sv (Lib.itoa (rniV4 xd xn xname x11l40))), (79, sv ((attNS xd xn xname).1))] ?_
         refine Ok.op rfl (OpOk.step (v := .bool ((Lib.itoa (rniV4 xd xn xname x11l40)) == (attNS xd xn xname).1)) (Yields.strCmp (f := .eql) (a := (Lib.itoa (rniV4 xd xn xname x11l40))) (b := (attNS xd xn xname).1) (by kernel_rfl) (by kernel_rfl) rfl) rfl rfl (Ok.bat 1 [11, 76] [(81, .bool ((Lib.itoa (rniV4 xd xn xname x11l40)) == (attNS xd xn xname).1))] ?_))
         refine Ok.midway 3 [(11, .int .i64 (rniV4 xd xn xname x11l40)), (76, .int .i64 (rniV4 xd xn xname x11l40)), (84, .bool (((Lib.itoa (rniV4 xd xn xname x11l40)) == (attNS xd xn xname).1) && (decide ((rniV4 xd xn xname x11l40) ≥ (-1000000)))))] (fun hR15 => ?_) ?_
         ·refine Ok.boolAt 81 (((Lib.itoa (rniV4 xd xn xname x11l40)) == (attNS xd xn xname).1)) rfl (fun hc16 => ?_) (fun hc16 => ?_)
          ·skip
           refine Ok.bat 3 [11, 76] [(84, .bool (decide ((rniV4 xd xn xname x11l40) ≥ (-1000000))))] ?_
           refine Ok.reval 84 rfl (show (.bool (decide ((rniV4 xd xn xname x11l40) ≥ (-1000000))) : Value) = .bool (((Lib.itoa (rniV4 xd xn xname x11l40)) == (attNS xd xn xname).1) && (decide ((rniV4 xd xn xname x11l40) ≥ (-1000000)))) from congrArg Value.bool (mand_t hc16)) (Ok.bat 0 [11, 76] [(84, .bool (((Lib.itoa (rniV4 xd xn xname x11l40)) == (attNS xd xn xname).1) && (decide ((rniV4 xd xn xname x11l40) ≥ (-1000000)))))] ?_)
           exact hR15
          ·skip
           refine Ok.bat 3 [11, 76] [(84, .bool false)] ?_
           refine Ok.reval 84 rfl (show (.bool false : Value) = .bool (((Lib.itoa (rniV4 xd xn xname x11l40)) == (attNS xd xn xname).1) && (decide ((rniV4 xd xn xname x11l40) ≥ (-1000000)))) from congrArg Value.bool (mand_f hc16)) (Ok.bat 0 [11, 76] [(84, .bool (((Lib.itoa (rniV4 xd xn xname x11l40)) == (attNS xd xn xname).1) && (decide ((rniV4 xd xn xname x11l40) ≥ (-1000000)))))] ?_)
           exact hR15
         refine Ok.bat 1 [11, 76] [(85, .bool (((Lib.itoa (rniV4 xd xn xname x11l40)) == (attNS xd xn xname).1) && (decide ((rniV4 xd xn xname x11l40) ≥ (-1000000)))))] ?_
         refine Ok.midway 3 [(76, .int .i64 (rniV4 xd xn xname x11l40)), (88, .bool ((((Lib.itoa (rniV4 xd xn xname x11l40)) == (attNS xd xn xname).1) && (decide ((rniV4 xd xn xname x11l40) ≥ (-1000000)))) && (decide ((rniV4 xd xn xname x11l40) ≤ 1000000))))] (fun hR17 => ?_) ?_
         ·refine Ok.boolAt 85 ((((Lib.itoa (rniV4 xd xn xname x11l40)) == (attNS xd xn xname).1) && (decide ((rniV4 xd xn xname x11l40) ≥ (-1000000))))) rfl (fun hc18 => ?_) (fun hc18 => ?_)
          ·skip
           refine Ok.bat 3 [76] [(88, .bool (decide ((rniV4 xd xn xname x11l40) ≤ 1000000)))] ?_
           refine Ok.reval 88 rfl (show (.bool (decide ((rniV4 xd xn xname x11l40) ≤ 1000000)) : Value) = .bool ((((Lib.itoa (rniV4 xd xn xname x11l40)) == (attNS xd xn xname).1) && (decide ((rniV4 xd xn xname x11l40) ≥ (-1000000)))) && (decide ((rniV4 xd xn xname x11l40) ≤ 1000000))) from congrArg Value.bool (mand_t hc18)) (Ok.bat 0 [76] [(88, .bool ((((Lib.itoa (rniV4 xd xn xname x11l40)) == (attNS xd xn xname).1) && (decide ((rniV4 xd xn xname x11l40) ≥ (-1000000)))) && (decide ((rniV4 xd xn xname x11l40) ≤ 1000000))))] ?_)
           exact hR17
          ·skip
           refine Ok.bat 3 [76] [(88, .bool false)] ?_
           refine Ok.reval 88 rfl (show (.bool false : Value) = .bool ((((Lib.itoa (rniV4 xd xn xname x11l40)) == (attNS xd xn xname).1) && (decide ((rniV4 xd xn xname x11l40) ≥ (-1000000)))) && (decide ((rniV4 xd xn xname x11l40) ≤ 1000000))) from congrArg Value.bool (mand_f hc18)) (Ok.bat 0 [76] [(88, .bool ((((Lib.itoa (rniV4 xd xn xname x11l40)) == (attNS xd xn xname).1) && (decide ((rniV4 xd xn xname x11l40) ≥ (-1000000)))) && (decide ((rniV4 xd xn xname x11l40) ≤ 1000000))))] ?_)
           exact hR17
         refine Ok.batch 2 [(6, .int .i64 (rniV4 xd xn xname x11l40)), (7, .bool ((((Lib.itoa (rniV4 xd xn xname x11l40)) == (attNS xd xn xname).1) && (decide ((rniV4 xd xn xname x11l40) ≥ (-1000000)))) && (decide ((rniV4 xd xn xname x11l40) ≤ 1000000))))] (by kernel_rfl) (Ok.nil (Ok.thenN (Ok.ret ?_)))
         exact Ok.resH (vs := [.int .i64 (rniV4 xd xn xname x11l40), .bool ((((Lib.itoa (rniV4 xd xn xname x11l40)) == (attNS xd xn xname).1) && (decide ((rniV4 xd xn xname x11l40) ≥ (-1000000)))) && (decide ((rniV4 xd xn xname x11l40) ≤ 1000000)))]) (.inl rfl) rfl (.cons (.tmp rfl) (.cons (.tmp rfl) .nil)) ((hxl17.trans hxl40).trans hxj55) ⟨(rniV4 xd xn xname x11l40), ((((Lib.itoa (rniV4 xd xn xname x11l40)) == (attNS xd xn xname).1) && (decide ((rniV4 xd xn xname x11l40) ≥ (-1000000)))) && (decide ((rniV4 xd xn xname x11l40) ≤ 1000000))), rfl, rfl, hF⟩
def rniP (d : DC) (n : Int) (_ : Bs) : Prop := 0 ≤ n ∧ n.toNat < d.1.length ∧ AGood (d.1.getD n.toNat default).2.2.1
/-- both read the same number, if there is one -/
def Alike (t e : Int × Bool) : Prop := e.2 = t.2 ∧ (e.2 = true → e.1 = t.1)
theorem told_att (x : ND) (w : Bs) : ctlS x w = if (attS x.2.2.1 w).2 = true then (if cbkV0 (attS x.2.2.1 w).1 = true then (0, false) else ((atoiS (attS x.2.2.1 w).1).1, true)) else (0, false) := by
 unfold ctlS attS toldA
 cases h : x.2.2.1.find? (fun a => a.1 == w) with
 | none => rfl
 | some a =>
  show ((cbkS a.2).1, (cbkS a.2).2 == 0) = if cbkV0 a.2 = true then _ else _
  unfold cbkS
  split <;> rfl
theorem rni_ex (d : DC) (n : Int) (w : Bs) (hp : rniP d n w) : ∃ e : Int × Bool, rniF d n w (fun a b => (a, b) = e) ∧ Alike (ctlS (d.1.getD n.toNat default) w) e := by
 obtain ⟨h0, h1, h12, hv⟩ := hp
 have hA : attNS d n w = attS (d.1.getD n.toNat default).2.2.1 w := rfl
 rw [told_att, ← hA]
 have hlen : (attNS d n w).1.length ≤ 400 := by
  rw [hA]; unfold attS
  split
  ·rename_i a hf
   exact hv a (List.mem_of_find?_eq_some hf)
  ·exact Nat.zero_le _
 generalize hs : (attNS d n w).1 = s at hlen
 generalize hh : (attNS d n w).2 = b
 refine ex_need ⟨h0, h1, by omega⟩ (ex_if (fun hc => ⟨(0, false), rfl, ?_⟩) (fun hc => ?_))
 ·rw [hs, hh, Bool.or_eq_true] at hc
  cases b with
  | false => exact ⟨rfl, fun h => rfl⟩
  | true =>
   have hc : (s.length : Int) > 8 := by
    rcases hc with h | h
    ·cases h
    ·exact of_decide_eq_true h
   cases hq : cbkV0 s with
   | true => exact ⟨rfl, fun h => rfl⟩
   | false =>
    obtain ⟨e1, e2⟩ := rdn_ok hq
    have := itoa_len8 e2
    rw [← e1] at this; omega
 rw [hs, hh, Bool.or_eq_false_iff] at hc
 have hb : b = true := by simpa using hc.1
 have h8 := of_decide_eq_false hc.2
 subst hb
 rw [if_t rfl]
 -- the number
 have sum : ∀ (k i : Nat), i + k = s.length → ∃ e : Int × Bool, rnil40 d n w (fun a b => (a, b) = e) (k + 1) ((s.take i).foldl vA 0) (i : Int) ∧ Alike (if cbkV0 s = true then (0, false) else ((atoiS s).1, true)) e := by
  have bound : ∀ i, i ≤ s.length → 0 ≤ (s.take i).foldl vA 0 ∧ (s.take i).foldl vA 0 < ((10 ^ i : Nat) : Int) := by
   intro i
   induction i with
   | zero => intro _; rw [List.take_zero]; exact ⟨Int.le_refl _, by decide⟩
   | succ i ih =>
    intro hi
    have ih := ih (by omega)
    rw [take_get (l := s) (0 : UInt8) (by omega), List.foldl_append, List.foldl_cons, List.foldl_nil]
    generalize (s.take i).foldl vA 0 = a at ih
    unfold vA digB
    rw [Nat.pow_succ]
    split
    ·rename_i hd
     rw [Bool.and_eq_true, decide_eq_true_eq, decide_eq_true_eq] at hd
     omega
    ·omega
  have big : ∀ i, i ≤ s.length → (s.take i).foldl vA 0 < 100000000 := fun i hi => by
   have h1 := (bound i hi).2
   have h2 : 10 ^ i ≤ 10 ^ 8 := Nat.pow_le_pow_right (by decide) (by omega)
   have h3 : (10 : Nat) ^ 8 = 100000000 := by decide
   omega
  intro k
  induction k with
  | zero =>
   intro i h
   have hi : i = s.length := by omega
   rw [hi, List.take_of_length_le (Nat.le_refl _)]
   have hbn := bound s.length (Nat.le_refl _)
   have hbg := big s.length (Nat.le_refl _)
   rw [List.take_of_length_le (Nat.le_refl _)] at hbn hbg
   have hv : rniV4 d n w (s.foldl vA 0) = refV s (vS s) := by unfold rniV4 rniV3; rw [hs]; rfl
   have hr : -100000000 < refV s (vS s) ∧ refV s (vS s) < 100000000 := by
    unfold refV vS
    split
    ·rw [w64 (by omega)]; omega
    ·omega
   let e : Int × Bool := (refV s (vS s), ((Lib.itoa (refV s (vS s)) == s) && decide (refV s (vS s) ≥ (-1000000))) && decide (refV s (vS s) ≤ 1000000))
   have j55 : rnij55 d n w (fun a b => (a, b) = e) (s.foldl vA 0) := by
    unfold rnij55
    rw [hv, hs]
    exact ⟨⟨(refV s (vS s)).natAbs + 1, by omega, by omega, by omega⟩, rfl⟩
   have j56 : rnij56 d n w (fun a b => (a, b) = e) (s.foldl vA 0) := ⟨fun _ => j55, fun _ => j55⟩
   refine ⟨e, ⟨fun h2 => by rw [hs] at h2; have := of_decide_eq_true h2; omega, fun _ => ⟨fun hz => ⟨by decide, by rw [hs] at hz ⊢; have := of_decide_eq_true hz; show 0 < _; omega, j56⟩, fun _ => j56⟩⟩, ?_⟩
   cases hq : cbkV0 s with
   | true =>
    have hf : e.2 = false := by
     cases hz : e.2
     ·rfl
     ·exfalso
      have hz : (((Lib.itoa (refV s (vS s)) == s) && decide (refV s (vS s) ≥ (-1000000))) && decide (refV s (vS s) ≤ 1000000)) = true := hz
      rw [Bool.and_eq_true, Bool.and_eq_true, decide_eq_true_eq, decide_eq_true_eq] at hz
      have := rdn_of (n := refV s (vS s)) ⟨by omega, by omega⟩
      rw [eq_of_beq hz.1.1, hq] at this
      cases this
    exact ⟨hf, fun h => by rw [hf] at h; cases h⟩
   | false =>
    obtain ⟨e1, e2⟩ := rdn_ok hq
    have hrv : refV s (vS s) = (atoiS s).1 := by
     have := ref_itoa e2
     rw [← e1] at this; exact this
    refine ⟨?_, fun _ => hrv⟩
    show (((Lib.itoa (refV s (vS s)) == s) && decide (refV s (vS s) ≥ (-1000000))) && decide (refV s (vS s) ≤ 1000000)) = true
    rw [hrv, ← e1, decide_eq_true (show (atoiS s).1 ≥ -1000000 by omega), decide_eq_true e2.2]
    simp
  | succ k ih =>
   intro i h
   obtain ⟨e, he, hq⟩ := ih (i + 1) (by omega)
   have hbn := bound i (by omega)
   have hbg := big i (by omega)
   have hg : (intsOf s).length = s.length := by simp [intsOf]
   have j47 : rnij47 d n w ((s.take i).foldl vA 0) (i : Int) (rnil40 d n w (fun a b => (a, b) = e) (k + 1)) := by
    unfold rnij47
    rw [w64 (by omega)]
    have hV : rniV8 d n w ((s.take i).foldl vA 0) (i : Int) = (s.take (i + 1)).foldl vA 0 := by
     rw [take_get (l := s) (0 : UInt8) (by omega), List.foldl_append, List.foldl_cons, List.foldl_nil]
     unfold rniV8
     rw [hs, Int.toNat_natCast]
     generalize (s.take i).foldl vA 0 = a at hbn hbg
     generalize s.getD i 0 = c
     show (if digB c = true then _ else a) = vA a c
     unfold vA
     cases hd : digB c
     ·rfl
     ·rw [if_t rfl, if_t rfl]
      unfold digB at hd
      rw [Bool.and_eq_true, decide_eq_true_eq, decide_eq_true_eq] at hd
      rw [IntWalk.u8_in _ (by omega), w64 (x := 10 * a) (by omega), w64 (x := (c.toNat : Int) - 48) (by omega), w64 (by omega)]
    rw [hV]; exact he
   exact ⟨e, ⟨fun _ => ⟨by omega, by rw [hs]; omega, fun _ => j47, fun _ => j47⟩, fun h2 => by rw [hs] at h2; have := of_decide_eq_false h2; omega⟩, hq⟩
 -- the signs
 have signs : ∀ (k i : Nat), i + k = s.length → ∃ e : Int × Bool, rnil17 d n w (fun a b => (a, b) = e) (k + 1) (i : Int) ∧ Alike (if cbkV0 s = true then (0, false) else ((atoiS s).1, true)) e := by
  intro k
  induction k with
  | zero =>
   intro i h
   obtain ⟨e, he, hq⟩ := sum s.length 0 (by omega)
   exact ⟨e, ⟨fun h2 => by rw [hs] at h2; have := of_decide_eq_true h2; omega, fun _ => ⟨_, he⟩⟩, hq⟩
  | succ k ih =>
   intro i h
   have hV : rniV5 d n w (i : Int) = ((!(digB (s.getD i 0))) && (decide ((i : Int) > 0) || (((s.getD i 0).toNat : Int) != 45))) := by
    unfold rniV5; rw [hs, Int.toNat_natCast]; rfl
   cases hbad : rniV5 d n w (i : Int) with
   | true =>
    have j26 : rnij26 d n w (fun a b => (a, b) = ((0, false) : Int × Bool)) (i : Int) (rnil17 d n w (fun a b => (a, b) = ((0, false) : Int × Bool)) (k + 1)) := ⟨fun _ => rfl, fun h => by rw [hbad] at h; cases h⟩
    refine ⟨(0, false), ⟨fun _ => ⟨by omega, by rw [hs]; omega, fun _ => ⟨fun _ => j26, fun _ => j26⟩, fun _ => j26⟩, fun h2 => by rw [hs] at h2; have := of_decide_eq_false h2; omega⟩, ?_⟩
    cases hq : cbkV0 s with
    | true => exact ⟨rfl, fun h => rfl⟩
    | false =>
     exfalso
     obtain ⟨e1, e2⟩ := rdn_ok hq
     have := itoa_chars (n := (atoiS s).1) i (by rw [← e1]; omega)
     rw [← e1] at this
     rw [hV, Bool.and_eq_true] at hbad
     rcases this with h | ⟨h, h'⟩
     ·rw [h] at hbad; cases hbad.1
     ·rw [h'] at hbad
      subst h
      cases hbad.2
   | false =>
    obtain ⟨e, he, hq⟩ := ih (i + 1) (by omega)
    have j26 : rnij26 d n w (fun a b => (a, b) = e) (i : Int) (rnil17 d n w (fun a b => (a, b) = e) (k + 1)) := ⟨fun h => by rw [hbad] at h; (cases h), fun _ => by rw [w64 (by omega)]; exact he⟩
    exact ⟨e, ⟨fun _ => ⟨by omega, by rw [hs]; omega, fun _ => ⟨fun _ => j26, fun _ => j26⟩, fun _ => j26⟩, fun h2 => by rw [hs] at h2; have := of_decide_eq_false h2; omega⟩, hq⟩
 obtain ⟨e, he, hq⟩ := signs s.length 0 (by omega)
 exact ⟨e, ⟨_, he⟩, hq⟩
noncomputable def rniS (d : DC) (n : Int) (w : Bs) : Int × Bool := pickE fun e => rniF d n w (fun a b => (a, b) = e) ∧ Alike (ctlS (d.1.getD n.toNat default) w) e
theorem rni_sp (d : DC) (n : Int) (w : Bs) (hp : rniP d n w) : rniF d n w (fun a b => (a, b) = rniS d n w) ∧ Alike (ctlS (d.1.getD n.toNat default) w) (rniS d n w) :=
 pickE_ok (A := fun e => rniF d n w (fun a b => (a, b) = e) ∧ Alike (ctlS (d.1.getD n.toNat default) w) e) (rni_ex d n w hp)
theorem rni_F (d : DC) (n : Int) (w : Bs) (hp : rniP d n w) : rniF d n w (fun a b => (a, b) = rniS d n w) := (rni_sp d n w hp).1
theorem rni_c {g : Ghost} {axd_0 : Option Addr} {cxd_0 : Nat} (xd : (List (Int × Bs × (List (Bs × Bs)) × Bs × Int × List (Int))) × Bool) (xn : Int) (xname : Bs) (hRxd_0 : Rep g (.slice (.pair (.int .i64) (.pair (.str) (.pair (.slice (.pair (.str) (.str))) (.pair (.str) (.pair (.int .i64) (.slice (.int .i64)))))))) [.slice axd_0 xd.1.length cxd_0] xd.1)  (hp : rniP xd xn xname) : CallsG Tryz.prog 37 #[.agg #[.slice axd_0 xd.1.length cxd_0, .bool xd.2], .int .i64 xn, sv xname] g (.tuple #[.int .i64 (rniS xd xn xname).1, .bool (rniS xd xn xname).2]) :=
 (rni_ok xd xn xname hRxd_0 _ (rni_F xd xn xname hp)).gives (by rintro g' H' v _ ⟨r0, r1, rfl, rfl, hK⟩; obtain ⟨rfl, rfl⟩ : r0 = (rniS xd xn xname).1 ∧ r1 = (rniS xd xn xname).2 := ⟨congrArg (fun z => z.1) hK, congrArg (fun z => z.2) hK⟩; rfl)
def ritV0 (xd : DC) (xl : List (STE)) (xn : Int) : Bool :=
 ((relM xd xn) && ([((xl.getD (Int.toNat xn) default).1.1 == 1), ((xl.getD (Int.toNat xn) default).1.2 == 8)].all id))
def ritj3 (xd : DC) (xl : List (STE)) (xn : Int) (K : Bool → Prop) : Prop :=
 K (ritV0 xd xl xn)
def ritF (xd : DC) (xl : List (STE)) (xn : Int) (K : Bool → Prop) : Prop :=
 relP xd xn ∧ (((relM xd xn)) = true → (0 : Int) ≤ xn ∧ Int.toNat xn < xl.length ∧ ritj3 xd xl xn K) ∧ (((relM xd xn)) = false → ritj3 xd xl xn K)
theorem rit_ok {g : Ghost} {axd_0 : Option Addr} {cxd_0 : Nat} (xd : DC) {axl_0 : Option Addr} {cxl_0 : Nat} (xl : List (STE)) (xn : Int) (hRxd_0 : Rep g (.slice (.pair (.int .i64) (.pair (.str) (.pair (.slice (.pair (.str) (.str))) (.pair (.str) (.pair (.int .i64) (.slice (.int .i64)))))))) [.slice axd_0 xd.1.length cxd_0] xd.1) (hRxl_0 : Rep g (.slice (.pair (.pair (.int .i64) (.int .i64)) (.pair (.pair (.int .i64) (.int .i64)) (.pair (.pair (.int .i64) (.int .i64)) (.pair (.pair (.int .i64) (.int .i64)) (.pair (.pair (.int .i64) (.int .i64)) (.pair (.pair (.int .i64) (.int .i64)) (.pair (.pair (.int .i64) (.int .i64)) (.pair (.pair (.int .i64) (.int .i64)) (.pair (.pair (.int .i64) (.int .i64)) (.pair (.pair (.int .i64) (.int .i64)) (.pair (.pair (.int .i64) (.int .i64)) (.pair (.pair (.int .i64) (.int .i64)) (.pair (.pair (.int .i64) (.int .i64)) (.pair (.pair (.int .i64) (.int .i64)) (.pair (.pair (.int .i64) (.int .i64)) (.pair (.pair (.int .i64) (.int .i64)) (.pair (.pair (.int .i64) (.int .i64)) (.pair (.pair (.int .i64) (.int .i64)) (.pair (.pair (.int .i64) (.int .i64)) (.pair (.pair (.int .i64) (.int .i64)) (.pair (.pair (.int .i64) (.int .i64)) (.pair (.pair (.int .i64) (.int .i64)) (.pair (.pair (.int .i64) (.int .i64)) (.pair (.pair (.int .i64) (.int .i64)) (.pair (.pair (.int .i64) (.int .i64)) (.pair (.pair (.int .i64) (.int .i64)) (.pair (.pair (.int .i64) (.int .i64)) (.pair (.pair (.int .i64) (.int .i64)) (.pair (.pair (.int .i64) (.int .i64)) (.pair (.pair (.int .i64) (.int .i64)) (.pair (.pair (.int .i64) (.int .i64)) (.pair (.pair (.int .i64) (.int .i64)) (.pair (.pair (.int .i64) (.int .i64)) (.pair (.pair (.int .i64) (.int .i64)) (.pair (.pair (.int .i64) (.int .i64)) (.pair (.pair (.int .i64) (.int .i64)) (.pair (.pair (.int .i64) (.int .i64)) (.pair (.pair (.int .i64) (.int .i64)) (.pair (.pair (.int .i64) (.int .i64)) (.pair (.pair (.int .i64) (.int .i64)) (.pair (.pair (.int .i64) (.int .i64)) (.pair (.pair (.int .i64) (.int .i64)) (.pair (.pair (.int .i64) (.int .i64)) (.pair (.pair (.int .i64) (.int .i64)) (.pair (.pair (.int .i64) (.int .i64)) (.pair (.pair (.int .i64) (.int .i64)) (.pair (.pair (.int .i64) (.int .i64)) (.pair (.pair (.int .i64) (.int .i64)) (.pair (.pair (.int .i64) (.int .i64)) (.pair (.pair (.int .i64) (.int .i64)) (.pair (.pair (.int .i64) (.int .i64)) (.pair (.pair (.int .i64) (.int .i64)) (.pair (.pair (.int .i64) (.int .i64)) (.pair (.pair (.int .i64) (.int .i64)) (.pair (.pair (.int .i64) (.int .i64)) (.pair (.pair (.int .i64) (.int .i64)) (.pair (.pair (.int .i64) (.int .i64)) (.pair (.pair (.int .i64) (.int .i64)) (.pair (.int .i64) (.int .i64))))))))))))))))))))))))))))))))))))))))))))))))))))))))))))) [.slice axl_0 xl.length cxl_0] xl) (K : Bool → Prop)
  (hF : ritF xd xl xn K) : CallsH Tryz.prog 15 #[.agg #[.slice axd_0 xd.1.length cxd_0, .bool xd.2], .slice axl_0 xl.length cxl_0, .int .i64 xn] g [] (fun g' H' v => ∃ (r0 : Bool), v = .bool r0 ∧ H' = [] ∧ K r0) := by
 refine CallsH.enter 19 [(0, .agg #[.slice axd_0 xd.1.length cxd_0, .bool xd.2]), (1, .slice axl_0 xl.length cxl_0), (2, .int .i64 xn)] Tryz.func15 rfl (by kernel_rfl) (by kernel_rfl) (by kernel_rfl) fun w0 => ?_
 refine Ok.seq (Ok.region (Ok.op rfl (OpOk.box (v := .agg #[.slice axd_0 xd.1.length cxd_0, .bool xd.2]) (cs := #[.slice axd_0 xd.1.length cxd_0, .bool xd.2]) rfl (by kernel_rfl) rfl fun b1 => ?_)))
 refine Ok.batch 1 [(1, .slice axl_0 xl.length cxl_0), (2, .int .i64 xn), (3, pv b1 0)] (by kernel_rfl) (Ok.nil (Ok.thenN (Ok.cut (fun a W => StA 19 [(6, .bool (ritV0 xd xl xn))] a ∧ StW w0 [] g W ∧ ritj3 xd xl xn K) ?_ ?_)))
 ·
  refine Ok.region (Ok.op rfl (OpOk.step (v := .agg #[.slice axd_0 xd.1.length cxd_0, .bool xd.2]) (Yields.loadAgg 0 2 #[.slice axd_0 xd.1.length cxd_0, .bool xd.2] rfl rfl Tryz.underlying24 rfl (by kernel_rfl) (by kernel_rfl) (by kernel_rfl)) rfl rfl (Ok.bat 1 [1, 2] [(7, .agg #[.slice axd_0 xd.1.length cxd_0, .bool xd.2]), (8, .int .i64 xn)] ?_)))
  obtain ⟨hp2, hF⟩ := hF
  refine Ok.op rfl (OpOk.callG (v := .bool (relM xd xn)) enr (fun W hW => rel_c xd xn (hRxd_0.mono hW.sees) hp2) rfl ?_)
  refine Ok.bat 1 [1, 2] [(10, .bool (relM xd xn))] ?_
  refine Ok.boolAt 10 ((relM xd xn)) rfl (fun hc3 => ?_) (fun hc3 => ?_)
  ·replace hF := hF.1 hc3
   refine Ok.batch 2 [(10, .bool true), (11, .slice axl_0 xl.length cxl_0), (12, .int .i64 xn)] (by kernel_rfl) ?_
   obtain ⟨h05, h15, hF⟩ := hF
   have he5 := get_of (l := xl) (default : STE) h15
   generalize hg5 : (xl.getD (Int.toNat xn) default) = e5 at he5 hF ⊢
   refine Ok.opYes (j := 3) (d := 10) (want := true) (b := true) rfl (by kernel_rfl) (by kernel_rfl) rfl (OpOk.indexRo (e := .pair (.pair (.int .i64) (.int .i64)) (.pair (.pair (.int .i64) (.int .i64)) (.pair (.pair (.int .i64) (.int .i64)) (.pair (.pair (.int .i64) (.int .i64)) (.pair (.pair (.int .i64) (.int .i64)) (.pair (.pair (.int .i64) (.int .i64)) (.pair (.pair (.int .i64) (.int .i64)) (.pair (.pair (.int .i64) (.int .i64)) (.pair (.pair (.int .i64) (.int .i64)) (.pair (.pair (.int .i64) (.int .i64)) (.pair (.pair (.int .i64) (.int .i64)) (.pair (.pair (.int .i64) (.int .i64)) (.pair (.pair (.int .i64) (.int .i64)) (.pair (.pair (.int .i64) (.int .i64)) (.pair (.pair (.int .i64) (.int .i64)) (.pair (.pair (.int .i64) (.int .i64)) (.pair (.pair (.int .i64) (.int .i64)) (.pair (.pair (.int .i64) (.int .i64)) (.pair (.pair (.int .i64) (.int .i64)) (.pair (.pair (.int .i64) (.int .i64)) (.pair (.pair (.int .i64) (.int .i64)) (.pair (.pair (.int .i64) (.int .i64)) (.pair (.pair (.int .i64) (.int .i64)) (.pair (.pair (.int .i64) (.int .i64)) (.pair (.pair (.int .i64) (.int .i64)) (.pair (.pair (.int .i64) (.int .i64)) (.pair (.pair (.int .i64) (.int .i64)) (.pair (.pair (.int .i64) (.int .i64)) (.pair (.pair (.int .i64) (.int .i64)) (.pair (.pair (.int .i64) (.int .i64)) (.pair (.pair (.int .i64) (.int .i64)) (.pair (.pair (.int .i64) (.int .i64)) (.pair (.pair (.int .i64) (.int .i64)) (.pair (.pair (.int .i64) (.int .i64)) (.pair (.pair (.int .i64) (.int .i64)) (.pair (.pair (.int .i64) (.int .i64)) (.pair (.pair (.int .i64) (.int .i64)) (.pair (.pair (.int .i64) (.int .i64)) (.pair (.pair (.int .i64) (.int .i64)) (.pair (.pair (.int .i64) (.int .i64)) (.pair (.pair (.int .i64) (.int .i64)) (.pair (.pair (.int .i64) (.int .i64)) (.pair (.pair (.int .i64) (.int .i64)) (.pair (.pair (.int .i64) (.int .i64)) (.pair (.pair (.int .i64) (.int .i64)) (.pair (.pair (.int .i64) (.int .i64)) (.pair (.pair (.int .i64) (.int .i64)) (.pair (.pair (.int .i64) (.int .i64)) (.pair (.pair (.int .i64) (.int .i64)) (.pair (.pair (.int .i64) (.int .i64)) (.pair (.pair (.int .i64) (.int .i64)) (.pair (.pair (.int .i64) (.int .i64)) (.pair (.pair (.int .i64) (.int .i64)) (.pair (.pair (.int .i64) (.int .i64)) (.pair (.pair (.int .i64) (.int .i64)) (.pair (.pair (.int .i64) (.int .i64)) (.pair (.pair (.int .i64) (.int .i64)) (.pair (.pair (.int .i64) (.int .i64)) (.pair (.int .i64) (.int .i64)))))))))))))))))))))))))))))))))))))))))))))))))))))))))))) (i := xn) (el := e5) rfl rfl Tryz.underlying34 (by kernel_rfl) hRxl_0 h05 he5 rfl fun q4 o4 cs4 _ hat4 hr4 => ?_)
   obtain rfl : cs4 = (cel46 e5) := Rep.flatEq (by kernel_rfl) hr4 (by kernel_rfl)
   replace hat4 : At g q4 o4 (cel46 e5) := hat4
   refine Ok.bat 1 [10] [(14, pv q4 o4)] ?_
   refine Ok.opYes (j := 3) (d := 10) (want := true) (b := true) rfl (by kernel_rfl) (by kernel_rfl) rfl (OpOk.step (v := .agg #[.int .i64 e5.1.1, .int .i64 e5.1.2]) (Yields.loadAggRo 0 2 #[.int .i64 e5.1.1, .int .i64 e5.1.2] hat4 (by kernel_rfl) Tryz.underlying44 rfl (by kernel_rfl) (by kernel_rfl) (by kernel_rfl)) rfl rfl (Ok.bat 1 [10] [(15, .agg #[.int .i64 e5.1.1, .int .i64 e5.1.2]), (16, .agg #[.int .i64 1, .int .i64 8])] ?_))
   refine Ok.opYes (j := 3) (d := 10) (want := true) (b := true) rfl (by kernel_rfl) (by kernel_rfl) rfl (OpOk.step (v := .bool ([(e5.1.1 == 1), (e5.1.2 == 8)].all id)) (Yields.eqAgg (k := 2) rfl rfl (.struct (k := 1) Tryz.underlying44 (by kernel_rfl) ⟨by decide, ⟨.int .i64 e5.1.1, .int .i64 1, fun _ => by kernel_rfl, fun _ => by kernel_rfl, EqR.mono (k := 1) (.int Tryz.underlying3) (by decide)⟩, ⟨by decide, ⟨.int .i64 e5.1.2, .int .i64 8, fun _ => by kernel_rfl, fun _ => by kernel_rfl, EqR.mono (k := 1) (.int Tryz.underlying3) (by decide)⟩, trivial⟩⟩) rfl (by kernel_rfl)) rfl rfl ?_)
   refine Ok.batch 2 [(6, .bool ([(e5.1.1 == 1), (e5.1.2 == 8)].all id))] (by kernel_rfl) (Ok.nil (Ok.thenN ?_))
   subst hg5
   refine Ok.reval 6 rfl (show (.bool ([((xl.getD (Int.toNat xn) default).1.1 == 1), ((xl.getD (Int.toNat xn) default).1.2 == 8)].all id) : Value) = .bool (ritV0 xd xl xn) from congrArg (Value.bool) (mand_t hc3)) ?_
   exact fun a W hA hW => ⟨hA.sub (by kernel_rfl), hW.sub (.cons _ .slnil), hF⟩
  ·replace hF := hF.2 hc3
   refine Ok.batch 9 [(6, .bool false)] (by kernel_rfl) (Ok.nil (Ok.thenN (Ok.reval 6 rfl (show (.bool false : Value) = .bool (ritV0 xd xl xn) from congrArg (Value.bool) (mand_f hc3)) ?_)))
   exact fun a W hA hW => ⟨hA.sub (by kernel_rfl), hW.sub (.cons _ .slnil), hF⟩
 ·
  clear hF
  rintro a W ⟨hA, hW, hF⟩
  refine (?_ : Ok _ _ _ _ _ _) a W hA hW
  clear hA hW
  refine Ok.ret ?_
  exact Ok.resH (vs := [.bool (ritV0 xd xl xn)]) (.inl rfl) rfl (.cons (.tmp rfl) .nil) (Gext.refl w0 g) ⟨(ritV0 xd xl xn), rfl, rfl, hF⟩
theorem rit_F (d : DC) (l : STL) (n : Int) (hp : citP d l n) : ritF d l n (fun r => r = citS d l n) := by
 obtain ⟨h0, h1, h2⟩ := hp
 exact ⟨⟨h0, h1⟩, fun _ => ⟨h0, by omega, rfl⟩, fun _ => rfl⟩
theorem rit_c {g : Ghost} {axd_0 : Option Addr} {cxd_0 : Nat} (xd : (List (Int × Bs × (List (Bs × Bs)) × Bs × Int × List (Int))) × Bool) {axl_0 : Option Addr} {cxl_0 : Nat} (xl : List ((Int × Int) × (Int × Int) × (Int × Int) × (Int × Int) × (Int × Int) × (Int × Int) × (Int × Int) × (Int × Int) × (Int × Int) × (Int × Int) × (Int × Int) × (Int × Int) × (Int × Int) × (Int × Int) × (Int × Int) × (Int × Int) × (Int × Int) × (Int × Int) × (Int × Int) × (Int × Int) × (Int × Int) × (Int × Int) × (Int × Int) × (Int × Int) × (Int × Int) × (Int × Int) × (Int × Int) × (Int × Int) × (Int × Int) × (Int × Int) × (Int × Int) × (Int × Int) × (Int × Int) × (Int × Int) × (Int × Int) × (Int × Int) × (Int × Int) × (Int × Int) × (Int × Int) × (Int × Int) × (Int × Int) × (Int × Int) × (Int × Int) × (Int × Int) × (Int × Int) × (Int × Int) × (Int × Int) × (Int × Int) × (Int × Int) × (Int × Int) × (Int × Int) × (Int × Int) × (Int × Int) × (Int × Int) × (Int × Int) × (Int × Int) × (Int × Int) × (Int × Int) × Int × Int)) (xn : Int) (hRxd_0 : Rep g (.slice (.pair (.int .i64) (.pair (.str) (.pair (.slice (.pair (.str) (.str))) (.pair (.str) (.pair (.int .i64) (.slice (.int .i64)))))))) [.slice axd_0 xd.1.length cxd_0] xd.1) (hRxl_0 : Rep g (.slice (.pair (.pair (.int .i64) (.int .i64)) (.pair (.pair (.int .i64) (.int .i64)) (.pair (.pair (.int .i64) (.int .i64)) (.pair (.pair (.int .i64) (.int .i64)) (.pair (.pair (.int .i64) (.int .i64)) (.pair (.pair (.int .i64) (.int .i64)) (.pair (.pair (.int .i64) (.int .i64)) (.pair (.pair (.int .i64) (.int .i64)) (.pair (.pair (.int .i64) (.int .i64)) (.pair (.pair (.int .i64) (.int .i64)) (.pair (.pair (.int .i64) (.int .i64)) (.pair (.pair (.int .i64) (.int .i64)) (.pair (.pair (.int .i64) (.int .i64)) (.pair (.pair (.int .i64) (.int .i64)) (.pair (.pair (.int .i64) (.int .i64)) (.pair (.pair (.int .i64) (.int .i64)) (.pair (.pair (.int .i64) (.int .i64)) (.pair (.pair (.int .i64) (.int .i64)) (.pair (.pair (.int .i64) (.int .i64)) (.pair (.pair (.int .i64) (.int .i64)) (.pair (.pair (.int .i64) (.int .i64)) (.pair (.pair (.int .i64) (.int .i64)) (.pair (.pair (.int .i64) (.int .i64)) (.pair (.pair (.int .i64) (.int .i64)) (.pair (.pair (.int .i64) (.int .i64)) (.pair (.pair (.int .i64) (.int .i64)) (.pair (.pair (.int .i64) (.int .i64)) (.pair (.pair (.int .i64) (.int .i64)) (.pair (.pair (.int .i64) (.int .i64)) (.pair (.pair (.int .i64) (.int .i64)) (.pair (.pair (.int .i64) (.int .i64)) (.pair (.pair (.int .i64) (.int .i64)) (.pair (.pair (.int .i64) (.int .i64)) (.pair (.pair (.int .i64) (.int .i64)) (.pair (.pair (.int .i64) (.int .i64)) (.pair (.pair (.int .i64) (.int .i64)) (.pair (.pair (.int .i64) (.int .i64)) (.pair (.pair (.int .i64) (.int .i64)) (.pair (.pair (.int .i64) (.int .i64)) (.pair (.pair (.int .i64) (.int .i64)) (.pair (.pair (.int .i64) (.int .i64)) (.pair (.pair (.int .i64) (.int .i64)) (.pair (.pair (.int .i64) (.int .i64)) (.pair (.pair (.int .i64) (.int .i64)) (.pair (.pair (.int .i64) (.int .i64)) (.pair (.pair (.int .i64) (.int .i64)) (.pair (.pair (.int .i64) (.int .i64)) (.pair (.pair (.int .i64) (.int .i64)) (.pair (.pair (.int .i64) (.int .i64)) (.pair (.pair (.int .i64) (.int .i64)) (.pair (.pair (.int .i64) (.int .i64)) (.pair (.pair (.int .i64) (.int .i64)) (.pair (.pair (.int .i64) (.int .i64)) (.pair (.pair (.int .i64) (.int .i64)) (.pair (.pair (.int .i64) (.int .i64)) (.pair (.pair (.int .i64) (.int .i64)) (.pair (.pair (.int .i64) (.int .i64)) (.pair (.pair (.int .i64) (.int .i64)) (.pair (.int .i64) (.int .i64))))))))))))))))))))))))))))))))))))))))))))))))))))))))))))) [.slice axl_0 xl.length cxl_0] xl)  (hp : citP xd xl xn) : CallsG Tryz.prog 15 #[.agg #[.slice axd_0 xd.1.length cxd_0, .bool xd.2], .slice axl_0 xl.length cxl_0, .int .i64 xn] g (.bool (citS xd xl xn)) :=
 (rit_ok xd xl xn hRxd_0 hRxl_0 _ (rit_F xd xl xn hp)).gives (by rintro g' H' v _ ⟨r0, rfl, rfl, hK⟩; subst hK; rfl)
/-! the reference's number -/
def rnoS (d : DC) (l : STL) (n : Int) : Int := numF d l n.toNat
/-- the place among the kids of its parent -/
def plac (d : DC) (n : Nat) : Nat := if par d.1 n < 0 then 0 else (kidsOf d.1 (par d.1 n).toNat).idxOf (n : Int)
def rnoP (N : Nat) (d : DC) (l : STL) (n : Int) : Prop := cnuP d l ∧ 0 ≤ n ∧ n.toNat < d.1.length ∧ plac d n.toNat < N
theorem rno_0 (d : DC) (l : STL) (n : Int) : ¬ rnoP 0 d l n := fun h => absurd h.2.2.2 (Nat.not_lt_zero _)
def rno_C (N : Nat) : Prop := ∀ (g : Ghost) {axd_0 : Option Addr} {cxd_0 : Nat} (xd : (List (Int × Bs × (List (Bs × Bs)) × Bs × Int × List (Int))) × Bool) {axl_0 : Option Addr} {cxl_0 : Nat} (xl : List ((Int × Int) × (Int × Int) × (Int × Int) × (Int × Int) × (Int × Int) × (Int × Int) × (Int × Int) × (Int × Int) × (Int × Int) × (Int × Int) × (Int × Int) × (Int × Int) × (Int × Int) × (Int × Int) × (Int × Int) × (Int × Int) × (Int × Int) × (Int × Int) × (Int × Int) × (Int × Int) × (Int × Int) × (Int × Int) × (Int × Int) × (Int × Int) × (Int × Int) × (Int × Int) × (Int × Int) × (Int × Int) × (Int × Int) × (Int × Int) × (Int × Int) × (Int × Int) × (Int × Int) × (Int × Int) × (Int × Int) × (Int × Int) × (Int × Int) × (Int × Int) × (Int × Int) × (Int × Int) × (Int × Int) × (Int × Int) × (Int × Int) × (Int × Int) × (Int × Int) × (Int × Int) × (Int × Int) × (Int × Int) × (Int × Int) × (Int × Int) × (Int × Int) × (Int × Int) × (Int × Int) × (Int × Int) × (Int × Int) × (Int × Int) × (Int × Int) × (Int × Int) × Int × Int)) (xn : Int) (hRxd_0 : Rep g (.slice (.pair (.int .i64) (.pair (.str) (.pair (.slice (.pair (.str) (.str))) (.pair (.str) (.pair (.int .i64) (.slice (.int .i64)))))))) [.slice axd_0 xd.1.length cxd_0] xd.1) (hRxl_0 : Rep g (.slice (.pair (.pair (.int .i64) (.int .i64)) (.pair (.pair (.int .i64) (.int .i64)) (.pair (.pair (.int .i64) (.int .i64)) (.pair (.pair (.int .i64) (.int .i64)) (.pair (.pair (.int .i64) (.int .i64)) (.pair (.pair (.int .i64) (.int .i64)) (.pair (.pair (.int .i64) (.int .i64)) (.pair (.pair (.int .i64) (.int .i64)) (.pair (.pair (.int .i64) (.int .i64)) (.pair (.pair (.int .i64) (.int .i64)) (.pair (.pair (.int .i64) (.int .i64)) (.pair (.pair (.int .i64) (.int .i64)) (.pair (.pair (.int .i64) (.int .i64)) (.pair (.pair (.int .i64) (.int .i64)) (.pair (.pair (.int .i64) (.int .i64)) (.pair (.pair (.int .i64) (.int .i64)) (.pair (.pair (.int .i64) (.int .i64)) (.pair (.pair (.int .i64) (.int .i64)) (.pair (.pair (.int .i64) (.int .i64)) (.pair (.pair (.int .i64) (.int .i64)) (.pair (.pair (.int .i64) (.int .i64)) (.pair (.pair (.int .i64) (.int .i64)) (.pair (.pair (.int .i64) (.int .i64)) (.pair (.pair (.int .i64) (.int .i64)) (.pair (.pair (.int .i64) (.int .i64)) (.pair (.pair (.int .i64) (.int .i64)) (.pair (.pair (.int .i64) (.int .i64)) (.pair (.pair (.int .i64) (.int .i64)) (.pair (.pair (.int .i64) (.int .i64)) (.pair (.pair (.int .i64) (.int .i64)) (.pair (.pair (.int .i64) (.int .i64)) (.pair (.pair (.int .i64) (.int .i64)) (.pair (.pair (.int .i64) (.int .i64)) (.pair (.pair (.int .i64) (.int .i64)) (.pair (.pair (.int .i64) (.int .i64)) (.pair (.pair (.int .i64) (.int .i64)) (.pair (.pair (.int .i64) (.int .i64)) (.pair (.pair (.int .i64) (.int .i64)) (.pair (.pair (.int .i64) (.int .i64)) (.pair (.pair (.int .i64) (.int .i64)) (.pair (.pair (.int .i64) (.int .i64)) (.pair (.pair (.int .i64) (.int .i64)) (.pair (.pair (.int .i64) (.int .i64)) (.pair (.pair (.int .i64) (.int .i64)) (.pair (.pair (.int .i64) (.int .i64)) (.pair (.pair (.int .i64) (.int .i64)) (.pair (.pair (.int .i64) (.int .i64)) (.pair (.pair (.int .i64) (.int .i64)) (.pair (.pair (.int .i64) (.int .i64)) (.pair (.pair (.int .i64) (.int .i64)) (.pair (.pair (.int .i64) (.int .i64)) (.pair (.pair (.int .i64) (.int .i64)) (.pair (.pair (.int .i64) (.int .i64)) (.pair (.pair (.int .i64) (.int .i64)) (.pair (.pair (.int .i64) (.int .i64)) (.pair (.pair (.int .i64) (.int .i64)) (.pair (.pair (.int .i64) (.int .i64)) (.pair (.pair (.int .i64) (.int .i64)) (.pair (.int .i64) (.int .i64))))))))))))))))))))))))))))))))))))))))))))))))))))))))))))) [.slice axl_0 xl.length cxl_0] xl)  (hp : rnoP N xd xl xn), CallsG Tryz.prog 14 #[.agg #[.slice axd_0 xd.1.length cxd_0, .bool xd.2], .slice axl_0 xl.length cxl_0, .int .i64 xn] g (.int .i64 (rnoS xd xl xn))
def rnoV2 (xd : DC) (xn : Int) (e7 : ND) (x11l37 : Int) : Bool :=
 ((decide (x11l37 < ((xd.1.getD (Int.toNat e7.2.2.2.2.1) default).2.2.2.2.2.length : Int))) && (((xd.1.getD (Int.toNat e7.2.2.2.2.1) default).2.2.2.2.2.getD (Int.toNat x11l37) default) != xn))
def rnoV3 (xd : DC) (xl : List (STE)) (e7 : ND) (x10l37 : Int) (x11l37 : Int) : Int :=
 (if (citS xd xl ((xd.1.getD (Int.toNat e7.2.2.2.2.1) default).2.2.2.2.2.getD (Int.toNat x11l37) default)) = true then ((xd.1.getD (Int.toNat e7.2.2.2.2.1) default).2.2.2.2.2.getD (Int.toNat x11l37) default) else x10l37)
def rnoj44 (xd : DC) (xl : List (STE)) (e7 : ND) (x10l37 : Int) (x11l37 : Int) (C37 : Int → Int → Prop) : Prop :=
 C37 (rnoV3 xd xl e7 x10l37 x11l37) (w6 (x11l37 + 1))
def rnoj39 (N : Nat) (xd : DC) (xl : List (STE)) (xn : Int) (K : Int → Prop) (e7 : ND) (x10l37 : Int) (x11l37 : Int) (C37 : Int → Int → Prop) : Prop :=
 (((rnoV2 xd xn e7 x11l37)) = true → (0 : Int) ≤ e7.2.2.2.2.1 ∧ Int.toNat e7.2.2.2.2.1 < xd.1.length ∧ (0 : Int) ≤ x11l37 ∧ Int.toNat x11l37 < (xd.1.getD (Int.toNat e7.2.2.2.2.1) default).2.2.2.2.2.length ∧ citP xd xl ((xd.1.getD (Int.toNat e7.2.2.2.2.1) default).2.2.2.2.2.getD (Int.toNat x11l37) default) ∧ (((citS xd xl ((xd.1.getD (Int.toNat e7.2.2.2.2.1) default).2.2.2.2.2.getD (Int.toNat x11l37) default))) = true → rnoj44 xd xl e7 x10l37 x11l37 C37) ∧ (((citS xd xl ((xd.1.getD (Int.toNat e7.2.2.2.2.1) default).2.2.2.2.2.getD (Int.toNat x11l37) default))) = false → rnoj44 xd xl e7 x10l37 x11l37 C37)) ∧ (((rnoV2 xd xn e7 x11l37)) = false → ((decide (x10l37 ≥ 0)) = true → rnoP N xd xl x10l37 ∧ K (if 1000000 < (w6 ((rnoS xd xl x10l37) + 1)) then 1000000 else (w6 ((rnoS xd xl x10l37) + 1)))) ∧ ((decide (x10l37 ≥ 0)) = false → rniP xd e7.2.2.2.2.1 ([115, 116, 97, 114, 116] : Bs) ∧ ((rniS xd e7.2.2.2.2.1 ([115, 116, 97, 114, 116] : Bs)).2 = true → K (rniS xd e7.2.2.2.2.1 ([115, 116, 97, 114, 116] : Bs)).1) ∧ ((rniS xd e7.2.2.2.2.1 ([115, 116, 97, 114, 116] : Bs)).2 = false → K 1)))
def rnol37b (N : Nat) (xd : DC) (xl : List (STE)) (xn : Int) (K : Int → Prop) (e7 : ND) (x10l37 : Int) (x11l37 : Int) (C37 : Int → Int → Prop) : Prop :=
 (0 : Int) ≤ e7.2.2.2.2.1 ∧ Int.toNat e7.2.2.2.2.1 < xd.1.length ∧ ((decide (x11l37 < ((xd.1.getD (Int.toNat e7.2.2.2.2.1) default).2.2.2.2.2.length : Int))) = true → (0 : Int) ≤ x11l37 ∧ Int.toNat x11l37 < (xd.1.getD (Int.toNat e7.2.2.2.2.1) default).2.2.2.2.2.length ∧ rnoj39 N xd xl xn K e7 x10l37 x11l37 C37) ∧ ((decide (x11l37 < ((xd.1.getD (Int.toNat e7.2.2.2.2.1) default).2.2.2.2.2.length : Int))) = false → rnoj39 N xd xl xn K e7 x10l37 x11l37 C37)
def rnol37 (N : Nat) (xd : DC) (xl : List (STE)) (xn : Int) (K : Int → Prop) (e7 : ND) : Nat → Int → Int → Prop
 | 0, _, _ => False
 | k + 1, x10l37, x11l37 => rnol37b N xd xl xn K e7 x10l37 x11l37 (rnol37 N xd xl xn K e7 k)
def rnoF (N : Nat) (xd : DC) (xl : List (STE)) (xn : Int) (K : Int → Prop) : Prop :=
 citP xd xl xn ∧ ((!(citS xd xl xn)) = true → K 0) ∧ ((!(citS xd xl xn)) = false → rniP xd xn ([118, 97, 108, 117, 101] : Bs) ∧ ((rniS xd xn ([118, 97, 108, 117, 101] : Bs)).2 = true → K (rniS xd xn ([118, 97, 108, 117, 101] : Bs)).1) ∧ ((rniS xd xn ([118, 97, 108, 117, 101] : Bs)).2 = false → (0 : Int) ≤ xn ∧ Int.toNat xn < xd.1.length ∧ ((decide ((xd.1.getD (Int.toNat xn) default).2.2.2.2.1 < 0)) = true → K 1) ∧ ((decide ((xd.1.getD (Int.toNat xn) default).2.2.2.2.1 < 0)) = false → ∃ k, rnol37 N xd xl xn K (xd.1.getD (Int.toNat xn) default) k (-1) 0)))
theorem rno_ok {g : Ghost} (N : Nat) (ih_rno : rno_C N) {axd_0 : Option Addr} {cxd_0 : Nat} (xd : DC) {axl_0 : Option Addr} {cxl_0 : Nat} (xl : List (STE)) (xn : Int) (hRxd_0 : Rep g (.slice (.pair (.int .i64) (.pair (.str) (.pair (.slice (.pair (.str) (.str))) (.pair (.str) (.pair (.int .i64) (.slice (.int .i64)))))))) [.slice axd_0 xd.1.length cxd_0] xd.1) (hRxl_0 : Rep g (.slice (.pair (.pair (.int .i64) (.int .i64)) (.pair (.pair (.int .i64) (.int .i64)) (.pair (.pair (.int .i64) (.int .i64)) (.pair (.pair (.int .i64) (.int .i64)) (.pair (.pair (.int .i64) (.int .i64)) (.pair (.pair (.int .i64) (.int .i64)) (.pair (.pair (.int .i64) (.int .i64)) (.pair (.pair (.int .i64) (.int .i64)) (.pair (.pair (.int .i64) (.int .i64)) (.pair (.pair (.int .i64) (.int .i64)) (.pair (.pair (.int .i64) (.int .i64)) (.pair (.pair (.int .i64) (.int .i64)) (.pair (.pair (.int .i64) (.int .i64)) (.pair (.pair (.int .i64) (.int .i64)) (.pair (.pair (.int .i64) (.int .i64)) (.pair (.pair (.int .i64) (.int .i64)) (.pair (.pair (.int .i64) (.int .i64)) (.pair (.pair (.int .i64) (.int .i64)) (.pair (.pair (.int .i64) (.int .i64)) (.pair (.pair (.int .i64) (.int .i64)) (.pair (.pair (.int .i64) (.int .i64)) (.pair (.pair (.int .i64) (.int .i64)) (.pair (.pair (.int .i64) (.int .i64)) (.pair (.pair (.int .i64) (.int .i64)) (.pair (.pair (.int .i64) (.int .i64)) (.pair (.pair (.int .i64) (.int .i64)) (.pair (.pair (.int .i64) (.int .i64)) (.pair (.pair (.int .i64) (.int .i64)) (.pair (.pair (.int .i64) (.int .i64)) (.pair (.pair (.int .i64) (.int .i64)) (.pair (.pair (.int .i64) (.int .i64)) (.pair (.pair (.int .i64) (.int .i64)) (.pair (.pair (.int .i64) (.int .i64)) (.pair (.pair (.int .i64) (.int .i64)) (.pair (.pair (.int .i64) (.int .i64)) (.pair (.pair (.int .i64) (.int .i64)) (.pair (.pair (.int .i64) (.int .i64)) (.pair (.pair (.int .i64) (.int .i64)) (.pair (.pair (.int .i64) (.int .i64)) (.pair (.pair (.int .i64) (.int .i64)) (.pair (.pair (.int .i64) (.int .i64)) (.pair (.pair (.int .i64) (.int .i64)) (.pair (.pair (.int .i64) (.int .i64)) (.pair (.pair (.int .i64) (.int .i64)) (.pair (.pair (.int .i64) (.int .i64)) (.pair (.pair (.int .i64) (.int .i64)) (.pair (.pair (.int .i64) (.int .i64)) (.pair (.pair (.int .i64) (.int .i64)) (.pair (.pair (.int .i64) (.int .i64)) (.pair (.pair (.int .i64) (.int .i64)) (.pair (.pair (.int .i64) (.int .i64)) (.pair (.pair (.int .i64) (.int .i64)) (.pair (.pair (.int .i64) (.int .i64)) (.pair (.pair (.int .i64) (.int .i64)) (.pair (.pair (.int .i64) (.int .i64)) (.pair (.pair (.int .i64) (.int .i64)) (.pair (.pair (.int .i64) (.int .i64)) (.pair (.pair (.int .i64) (.int .i64)) (.pair (.int .i64) (.int .i64))))))))))))))))))))))))))))))))))))))))))))))))))))))))))))) [.slice axl_0 xl.length cxl_0] xl) (K : Int → Prop)
  (hF : rnoF N xd xl xn K) : CallsH Tryz.prog 14 #[.agg #[.slice axd_0 xd.1.length cxd_0, .bool xd.2], .slice axl_0 xl.length cxl_0, .int .i64 xn] g [] (fun g' H' v => ∃ (r0 : Int), v = .int .i64 r0 ∧ H' = [] ∧ K r0) := by
 refine CallsH.enter 94 [(0, .agg #[.slice axd_0 xd.1.length cxd_0, .bool xd.2]), (1, .slice axl_0 xl.length cxl_0), (2, .int .i64 xn)] Tryz.func14 rfl (by kernel_rfl) (by kernel_rfl) (by kernel_rfl) fun w0 => ?_
 refine Ok.seq (Ok.region (Ok.op rfl (OpOk.box (v := .agg #[.slice axd_0 xd.1.length cxd_0, .bool xd.2]) (cs := #[.slice axd_0 xd.1.length cxd_0, .bool xd.2]) rfl (by kernel_rfl) rfl fun b1 => ?_)))
 refine Ok.batch 1 [(1, .slice axl_0 xl.length cxl_0), (2, .int .i64 xn), (3, pv b1 0)] (by kernel_rfl) (Ok.nil (Ok.thenN (Ok.seq (Ok.seq (Ok.region (Ok.op rfl (OpOk.step (v := .agg #[.slice axd_0 xd.1.length cxd_0, .bool xd.2]) (Yields.loadAgg 0 2 #[.slice axd_0 xd.1.length cxd_0, .bool xd.2] rfl rfl Tryz.underlying24 rfl (by kernel_rfl) (by kernel_rfl) (by kernel_rfl)) rfl rfl (Ok.bat 2 [1, 2, 3] [(12, .agg #[.slice axd_0 xd.1.length cxd_0, .bool xd.2]), (13, .slice axl_0 xl.length cxl_0), (14, .int .i64 xn)] ?_))))))))
 obtain ⟨hp2, hF⟩ := hF
 refine Ok.op rfl (OpOk.callG (v := .bool (citS xd xl xn)) enr (fun W hW => rit_c xd xl xn (hRxd_0.mono hW.sees) (hRxl_0.mono hW.sees) hp2) rfl ?_)
 refine Ok.bat 1 [1, 2, 3] [(16, .bool (!(citS xd xl xn)))] ?_
 refine Ok.nil (Ok.thenN (Ok.cond (b := !(citS xd xl xn)) rfl (fun hc3 => ?_) (fun hc3 => ?_)))
 ·replace hF := hF.1 hc3
  refine Ok.seq (Ok.region (Ok.batch 1 [(6, .int .i64 0)] (by kernel_rfl) (Ok.nil (Ok.thenN (Ok.ret (Ok.thenR ?_))))))
  exact Ok.resP (vs := [.int .i64 0]) [] [] (by decide) rfl (.inl rfl) rfl (.cons (.tmp rfl) .nil) (Gext.refl w0 g) ⟨0, rfl, rfl, hF⟩
 ·replace hF := hF.2 hc3
  refine Ok.skip (Ok.thenN (Ok.seq (Ok.region (Ok.op rfl (OpOk.step (v := .agg #[.slice axd_0 xd.1.length cxd_0, .bool xd.2]) (Yields.loadAgg 0 2 #[.slice axd_0 xd.1.length cxd_0, .bool xd.2] rfl rfl Tryz.underlying24 rfl (by kernel_rfl) (by kernel_rfl) (by kernel_rfl)) rfl rfl (Ok.bat 1 [1, 2, 3] [(18, .agg #[.slice axd_0 xd.1.length cxd_0, .bool xd.2]), (19, .int .i64 xn)] ?_))))))
  obtain ⟨hp4, hF⟩ := hF
  refine Ok.op rfl (OpOk.callG (v := .tuple #[.int .i64 (rniS xd xn ([118, 97, 108, 117, 101] : Bs)).1, .bool (rniS xd xn ([118, 97, 108, 117, 101] : Bs)).2]) enr (fun W hW => rni_c xd xn ([118, 97, 108, 117, 101] : Bs) (hRxd_0.mono hW.sees) hp4) rfl ?_)
  refine Ok.bat 5 [1, 2, 3] [(7, .int .i64 (rniS xd xn ([118, 97, 108, 117, 101] : Bs)).1), (8, .bool (rniS xd xn ([118, 97, 108, 117, 101] : Bs)).2)] ?_
  refine Ok.nil (Ok.thenN (Ok.seq (Ok.seq (Ok.region (Ok.bat 1 [1, 2, 3, 7] [(23, .bool (rniS xd xn ([118, 97, 108, 117, 101] : Bs)).2)] ?_)))))
  refine Ok.nil (Ok.thenN (Ok.cond (b := (rniS xd xn ([118, 97, 108, 117, 101] : Bs)).2) rfl (fun hc5 => ?_) (fun hc5 => ?_)))
  ·replace hF := hF.1 hc5
   refine Ok.seq (Ok.region (Ok.batch 2 [(6, .int .i64 (rniS xd xn ([118, 97, 108, 117, 101] : Bs)).1)] (by kernel_rfl) (Ok.nil (Ok.thenN (Ok.ret (Ok.thenR ?_))))))
   exact Ok.resP (vs := [.int .i64 (rniS xd xn ([118, 97, 108, 117, 101] : Bs)).1]) [] [] (by decide) rfl (.inl rfl) rfl (.cons (.tmp rfl) .nil) (Gext.refl w0 g) ⟨(rniS xd xn ([118, 97, 108, 117, 101] : Bs)).1, rfl, rfl, hF⟩
  ·replace hF := hF.2 hc5
   refine Ok.skip (Ok.thenN (Ok.seq (Ok.region (Ok.bat 1 [1, 2, 3] [(25, pv b1 0)] ?_))))
   refine Ok.op rfl (OpOk.step (v := .slice axd_0 xd.1.length cxd_0) (Yields.load 0 rfl rfl Tryz.underlying22 rfl (by kernel_rfl)) rfl rfl (Ok.bat 1 [1, 2, 3] [(26, .slice axd_0 xd.1.length cxd_0), (27, .int .i64 xn)] ?_))
   obtain ⟨h07, h17, hF⟩ := hF
   have he7 := get_of (l := xd.1) (default : ND) h17
   generalize hg7 : (xd.1.getD (Int.toNat xn) default) = e7 at he7 hF ⊢
   refine Ok.op rfl (OpOk.indexRo (e := .pair (.int .i64) (.pair (.str) (.pair (.slice (.pair (.str) (.str))) (.pair (.str) (.pair (.int .i64) (.slice (.int .i64))))))) (i := xn) (el := e7) rfl rfl Tryz.underlying22 (by kernel_rfl) hRxd_0 h07 he7 rfl fun q6 o6 cs6 _ hat6 hr6 => ?_)
   obtain ⟨_, _, rfl, rfl, ⟨_, _, rfl, rfl, ⟨_, _, rfl, ⟨a6_2, c6_2, rfl, hm6_2, hr6_2⟩, ⟨_, _, rfl, rfl, ⟨_, _, rfl, rfl, ⟨a6_5, c6_5, rfl, hm6_5, hr6_5⟩⟩⟩⟩⟩⟩ := hr6
   have hR6_2 : Rep g (.slice (.pair (.str) (.str))) [.slice a6_2 e7.2.2.1.length c6_2] e7.2.2.1 := ⟨a6_2, c6_2, rfl, hm6_2, hr6_2⟩
   have hR6_5 : Rep g (.slice (.int .i64)) [.slice a6_5 e7.2.2.2.2.2.length c6_5] e7.2.2.2.2.2 := ⟨a6_5, c6_5, rfl, hm6_5, hr6_5⟩
   replace hat6 : At g q6 o6 [.int .i64 e7.1, sv e7.2.1, .slice a6_2 e7.2.2.1.length c6_2, sv e7.2.2.2.1, .int .i64 e7.2.2.2.2.1, .slice a6_5 e7.2.2.2.2.2.length c6_5] := hat6
   refine Ok.bat 1 [1, 2, 3] [(29, .pointer (some ⟨q6, o6 + 4, none⟩))] ?_
   refine Ok.op rfl (OpOk.step (v := .int .i64 e7.2.2.2.2.1) (Yields.loadRo 4 hat6 (by kernel_rfl) Tryz.underlying3 rfl (by kernel_rfl)) rfl rfl (Ok.bat 1 [1, 2, 3] [(9, .int .i64 e7.2.2.2.2.1)] ?_))
   refine Ok.nil (Ok.thenN (Ok.seq (Ok.seq (Ok.region (Ok.bat 2 [1, 2, 3, 9] [(32, .bool (decide (e7.2.2.2.2.1 < 0)))] ?_)))))
   refine Ok.nil (Ok.thenN (Ok.cond (b := decide (e7.2.2.2.2.1 < 0)) rfl (fun hc8 => ?_) (fun hc8 => ?_)))
   ·replace hF := hF.1 hc8
    refine Ok.seq (Ok.region (Ok.batch 1 [(6, .int .i64 1)] (by kernel_rfl) (Ok.nil (Ok.thenN (Ok.ret (Ok.thenR ?_))))))
    exact Ok.resP (vs := [.int .i64 1]) [] [] (by decide) rfl (.inl rfl) rfl (.cons (.tmp rfl) .nil) (Gext.refl w0 g) ⟨1, rfl, rfl, hF⟩
   ·replace hF := hF.2 hc8
    refine Ok.skip (Ok.thenN (Ok.seq (Ok.region (Ok.bat 1 [1, 2, 3, 9] [(10, .int .i64 (-1))] ?_))))
    refine Ok.nil (Ok.thenN (Ok.seq (Ok.seq (Ok.region (Ok.bat 1 [1, 2, 3, 9, 10] [(11, .int .i64 0)] ?_)))))
    refine Ok.nil (Ok.thenN (Ok.block ?_))
    obtain ⟨k, hF⟩ := hF
    refine Ok.loop (fun k a W => ∃ (x10l37 : Int) (x11l37 : Int), StA 94 [(1, .slice axl_0 xl.length cxl_0), (2, .int .i64 xn), (3, pv b1 0), (9, .int .i64 e7.2.2.2.2.1), (10, .int .i64 x10l37), (11, .int .i64 x11l37)] a ∧ StW w0 [.blk b1 (.cells #[.slice axd_0 xd.1.length cxd_0, .bool xd.2] 24)] g W ∧ rnol37 N xd xl xn K e7 k x10l37 x11l37) k ?_ ?_
    ·
     exact fun a W hA hW => ⟨-1, 0, hA.sub (by kernel_rfl), hW, hF⟩
    ·
     clear hF
     rintro k37 a W ⟨x10l37, x11l37, hA, hW, hF⟩
     cases k37 with
     | zero => exact (hF : False).elim
     | succ k37 =>
      refine (?_ : Ok _ _ _ _ _ _) a W hA hW
      clear hA hW
      refine Ok.seq (Ok.cut (fun a W => StA 94 [(1, .slice axl_0 xl.length cxl_0), (2, .int .i64 xn), (3, pv b1 0), (9, .int .i64 e7.2.2.2.2.1), (10, .int .i64 x10l37), (11, .int .i64 x11l37), (54, .bool (rnoV2 xd xn e7 x11l37))] a ∧ StW w0 [.blk b1 (.cells #[.slice axd_0 xd.1.length cxd_0, .bool xd.2] 24)] g W ∧ rnoj39 N xd xl xn K e7 x10l37 x11l37 (rnol37 N xd xl xn K e7 k37)) ?_ ?_)
      ·
       refine Ok.region (Ok.bat 2 [1, 2, 3, 9, 10, 11] [(33, .int .i64 x11l37), (34, pv b1 0)] ?_)
       refine Ok.op rfl (OpOk.step (v := .slice axd_0 xd.1.length cxd_0) (Yields.load 0 rfl rfl Tryz.underlying22 rfl (by kernel_rfl)) rfl rfl (Ok.bat 1 [1, 2, 3, 9, 10, 11, 33] [(35, .slice axd_0 xd.1.length cxd_0), (36, .int .i64 e7.2.2.2.2.1)] ?_))
       obtain ⟨h023, h123, hF⟩ := hF
       have he23 := get_of (l := xd.1) (default : ND) h123
       generalize hg23 : (xd.1.getD (Int.toNat e7.2.2.2.2.1) default) = e23 at he23 hF ⊢
       refine Ok.op rfl (OpOk.indexRo (e := .pair (.int .i64) (.pair (.str) (.pair (.slice (.pair (.str) (.str))) (.pair (.str) (.pair (.int .i64) (.slice (.int .i64))))))) (i := e7.2.2.2.2.1) (el := e23) rfl rfl Tryz.underlying22 (by kernel_rfl) hRxd_0 h023 he23 rfl fun q22 o22 cs22 _ hat22 hr22 => ?_)
       obtain ⟨_, _, rfl, rfl, ⟨_, _, rfl, rfl, ⟨_, _, rfl, ⟨a22_2, c22_2, rfl, hm22_2, hr22_2⟩, ⟨_, _, rfl, rfl, ⟨_, _, rfl, rfl, ⟨a22_5, c22_5, rfl, hm22_5, hr22_5⟩⟩⟩⟩⟩⟩ := hr22
       have hR22_2 : Rep g (.slice (.pair (.str) (.str))) [.slice a22_2 e23.2.2.1.length c22_2] e23.2.2.1 := ⟨a22_2, c22_2, rfl, hm22_2, hr22_2⟩
       have hR22_5 : Rep g (.slice (.int .i64)) [.slice a22_5 e23.2.2.2.2.2.length c22_5] e23.2.2.2.2.2 := ⟨a22_5, c22_5, rfl, hm22_5, hr22_5⟩
       replace hat22 : At g q22 o22 [.int .i64 e23.1, sv e23.2.1, .slice a22_2 e23.2.2.1.length c22_2, sv e23.2.2.2.1, .int .i64 e23.2.2.2.2.1, .slice a22_5 e23.2.2.2.2.2.length c22_5] := hat22
       refine Ok.bat 1 [1, 2, 3, 9, 10, 11, 33] [(38, .pointer (some ⟨q22, o22 + 5, none⟩))] ?_
       refine Ok.op rfl (OpOk.step (v := .slice a22_5 e23.2.2.2.2.2.length c22_5) (Yields.loadRo 5 hat22 (by kernel_rfl) Tryz.underlying36 rfl (by kernel_rfl)) rfl rfl (Ok.bat 3 [1, 2, 3, 9, 10, 11] [(42, .bool (decide (x11l37 < (e23.2.2.2.2.2.length : Int))))] ?_))
       refine Ok.boolAt 42 (decide (x11l37 < (e23.2.2.2.2.2.length : Int))) rfl (fun hc24 => ?_) (fun hc24 => ?_)
       ·replace hF := hF.1 hc24
        refine Ok.bat 1 [1, 2, 3, 9, 10, 11] [(42, .bool true), (43, pv b1 0)] ?_
        refine Ok.opYes (j := 9) (d := 42) (want := true) (b := true) rfl (by kernel_rfl) (by kernel_rfl) rfl (OpOk.step (v := .slice axd_0 xd.1.length cxd_0) (Yields.load 0 rfl rfl Tryz.underlying22 rfl (by kernel_rfl)) rfl rfl (Ok.bat 1 [1, 2, 3, 9, 10, 11, 42] [(44, .slice axd_0 xd.1.length cxd_0), (45, .int .i64 e7.2.2.2.2.1)] ?_))
        refine Ok.opYes (j := 9) (d := 42) (want := true) (b := true) rfl (by kernel_rfl) (by kernel_rfl) rfl (OpOk.indexRo (e := .pair (.int .i64) (.pair (.str) (.pair (.slice (.pair (.str) (.str))) (.pair (.str) (.pair (.int .i64) (.slice (.int .i64))))))) (i := e7.2.2.2.2.1) (el := e23) rfl rfl Tryz.underlying22 (by kernel_rfl) hRxd_0 h023 he23 rfl fun q25 o25 cs25 _ hat25 hr25 => ?_)
        obtain ⟨_, _, rfl, rfl, ⟨_, _, rfl, rfl, ⟨_, _, rfl, ⟨a25_2, c25_2, rfl, hm25_2, hr25_2⟩, ⟨_, _, rfl, rfl, ⟨_, _, rfl, rfl, ⟨a25_5, c25_5, rfl, hm25_5, hr25_5⟩⟩⟩⟩⟩⟩ := hr25
        have hR25_2 : Rep g (.slice (.pair (.str) (.str))) [.slice a25_2 e23.2.2.1.length c25_2] e23.2.2.1 := ⟨a25_2, c25_2, rfl, hm25_2, hr25_2⟩
        have hR25_5 : Rep g (.slice (.int .i64)) [.slice a25_5 e23.2.2.2.2.2.length c25_5] e23.2.2.2.2.2 := ⟨a25_5, c25_5, rfl, hm25_5, hr25_5⟩
        replace hat25 : At g q25 o25 [.int .i64 e23.1, sv e23.2.1, .slice a25_2 e23.2.2.1.length c25_2, sv e23.2.2.2.1, .int .i64 e23.2.2.2.2.1, .slice a25_5 e23.2.2.2.2.2.length c25_5] := hat25
        refine Ok.bat 1 [1, 2, 3, 9, 10, 11, 42] [(47, .pointer (some ⟨q25, o25 + 5, none⟩))] ?_
        refine Ok.opYes (j := 9) (d := 42) (want := true) (b := true) rfl (by kernel_rfl) (by kernel_rfl) rfl (OpOk.step (v := .slice a25_5 e23.2.2.2.2.2.length c25_5) (Yields.loadRo 5 hat25 (by kernel_rfl) Tryz.underlying36 rfl (by kernel_rfl)) rfl rfl (Ok.bat 1 [1, 2, 3, 9, 10, 11, 42] [(48, .slice a25_5 e23.2.2.2.2.2.length c25_5), (49, .int .i64 x11l37)] ?_))
        obtain ⟨h027, h127, hF⟩ := hF
        have he27 := get_of (l := e23.2.2.2.2.2) (default : Int) h127
        generalize hg27 : (e23.2.2.2.2.2.getD (Int.toNat x11l37) default) = e27 at he27 hF ⊢
        refine Ok.opYes (j := 9) (d := 42) (want := true) (b := true) rfl (by kernel_rfl) (by kernel_rfl) rfl (OpOk.indexRo (e := .int .i64) (i := x11l37) (el := e27) rfl rfl Tryz.underlying36 (by kernel_rfl) hR25_5 h027 he27 rfl fun q26 o26 cs26 _ hat26 hr26 => ?_)
        obtain rfl := hr26
        replace hat26 : At g q26 o26 [.int .i64 e27] := hat26
        refine Ok.opYes (j := 9) (d := 42) (want := true) (b := true) rfl (by kernel_rfl) (by kernel_rfl) rfl (OpOk.step (v := .int .i64 e27) (Yields.loadRo 0 hat26 (by kernel_rfl) Tryz.underlying3 rfl (by kernel_rfl)) rfl rfl (Ok.bat 3 [1, 2, 3, 9, 10, 11] [(54, .bool (e27 != xn))] ?_))
        refine Ok.nil (Ok.thenN ?_)
        subst hg27
        subst hg23
        refine Ok.reval 54 rfl (show (.bool (((xd.1.getD (Int.toNat e7.2.2.2.2.1) default).2.2.2.2.2.getD (Int.toNat x11l37) default) != xn) : Value) = .bool (rnoV2 xd xn e7 x11l37) from congrArg (Value.bool) (mand_t hc24)) ?_
        exact fun a W hA hW => ⟨hA.sub (by kernel_rfl), hW, hF⟩
       ·replace hF := hF.2 hc24
        refine Ok.bat 12 [1, 2, 3, 9, 10, 11] [(54, .bool false)] ?_
        refine Ok.nil (Ok.thenN ?_)
        subst hg23
        refine Ok.reval 54 rfl (show (.bool false : Value) = .bool (rnoV2 xd xn e7 x11l37) from congrArg (Value.bool) (mand_f hc24)) ?_
        exact fun a W hA hW => ⟨hA.sub (by kernel_rfl), hW, hF⟩
      ·
       clear hF
       rintro a W ⟨hA, hW, hF⟩
       refine (?_ : Ok _ _ _ _ _ _) a W hA hW
       clear hA hW
       refine Ok.cond (b := (rnoV2 xd xn e7 x11l37)) rfl (fun hc9 => ?_) (fun hc9 => ?_)
       ·replace hF := hF.1 hc9
        refine Ok.skip (Ok.thenN (Ok.cut (fun a W => StA 94 [(1, .slice axl_0 xl.length cxl_0), (2, .int .i64 xn), (3, pv b1 0), (9, .int .i64 e7.2.2.2.2.1), (10, .int .i64 (rnoV3 xd xl e7 x10l37 x11l37)), (11, .int .i64 x11l37)] a ∧ StW w0 [.blk b1 (.cells #[.slice axd_0 xd.1.length cxd_0, .bool xd.2] 24)] g W ∧ rnoj44 xd xl e7 x10l37 x11l37 (rnol37 N xd xl xn K e7 k37)) ?_ ?_))
        ·
         refine Ok.block (Ok.seq (Ok.quiet' (by kernel_rfl) (by kernel_rfl) (OkQ.op rfl (OpQ.step (v := .agg #[.slice axd_0 xd.1.length cxd_0, .bool xd.2]) (Yields.loadAgg 0 2 #[.slice axd_0 xd.1.length cxd_0, .bool xd.2] rfl rfl Tryz.underlying24 rfl (by kernel_rfl) (by kernel_rfl) (by kernel_rfl)) rfl rfl (OkQ.bat 2 [1, 2, 3, 9, 10, 11] [(57, .agg #[.slice axd_0 xd.1.length cxd_0, .bool xd.2]), (58, .slice axl_0 xl.length cxl_0), (59, pv b1 0)] ?_)))))
         refine OkQ.op rfl (OpQ.step (v := .slice axd_0 xd.1.length cxd_0) (Yields.load 0 rfl rfl Tryz.underlying22 rfl (by kernel_rfl)) rfl rfl (OkQ.bat 1 [1, 2, 3, 9, 10, 11, 57, 58] [(60, .slice axd_0 xd.1.length cxd_0), (61, .int .i64 e7.2.2.2.2.1)] ?_))
         obtain ⟨h011, h111, hF⟩ := hF
         have he11 := get_of (l := xd.1) (default : ND) h111
         generalize hg11 : (xd.1.getD (Int.toNat e7.2.2.2.2.1) default) = e11 at he11 hF ⊢
         refine OkQ.op rfl (OpQ.indexRo (e := .pair (.int .i64) (.pair (.str) (.pair (.slice (.pair (.str) (.str))) (.pair (.str) (.pair (.int .i64) (.slice (.int .i64))))))) (i := e7.2.2.2.2.1) (el := e11) rfl rfl Tryz.underlying22 (by kernel_rfl) hRxd_0 h011 he11 rfl fun q10 o10 cs10 _ hat10 hr10 => ?_)
         obtain ⟨_, _, rfl, rfl, ⟨_, _, rfl, rfl, ⟨_, _, rfl, ⟨a10_2, c10_2, rfl, hm10_2, hr10_2⟩, ⟨_, _, rfl, rfl, ⟨_, _, rfl, rfl, ⟨a10_5, c10_5, rfl, hm10_5, hr10_5⟩⟩⟩⟩⟩⟩ := hr10
         have hR10_2 : Rep g (.slice (.pair (.str) (.str))) [.slice a10_2 e11.2.2.1.length c10_2] e11.2.2.1 := ⟨a10_2, c10_2, rfl, hm10_2, hr10_2⟩
         have hR10_5 : Rep g (.slice (.int .i64)) [.slice a10_5 e11.2.2.2.2.2.length c10_5] e11.2.2.2.2.2 := ⟨a10_5, c10_5, rfl, hm10_5, hr10_5⟩
         replace hat10 : At g q10 o10 [.int .i64 e11.1, sv e11.2.1, .slice a10_2 e11.2.2.1.length c10_2, sv e11.2.2.2.1, .int .i64 e11.2.2.2.2.1, .slice a10_5 e11.2.2.2.2.2.length c10_5] := hat10
         refine OkQ.bat 1 [1, 2, 3, 9, 10, 11, 57, 58] [(63, .pointer (some ⟨q10, o10 + 5, none⟩))] ?_
         refine OkQ.op rfl (OpQ.step (v := .slice a10_5 e11.2.2.2.2.2.length c10_5) (Yields.loadRo 5 hat10 (by kernel_rfl) Tryz.underlying36 rfl (by kernel_rfl)) rfl rfl (OkQ.bat 1 [1, 2, 3, 9, 10, 11, 57, 58] [(64, .slice a10_5 e11.2.2.2.2.2.length c10_5), (65, .int .i64 x11l37)] ?_))
         obtain ⟨h013, h113, hF⟩ := hF
         have he13 := get_of (l := e11.2.2.2.2.2) (default : Int) h113
         generalize hg13 : (e11.2.2.2.2.2.getD (Int.toNat x11l37) default) = e13 at he13 hF ⊢
         refine OkQ.op rfl (OpQ.indexRo (e := .int .i64) (i := x11l37) (el := e13) rfl rfl Tryz.underlying36 (by kernel_rfl) hR10_5 h013 he13 rfl fun q12 o12 cs12 _ hat12 hr12 => ?_)
         obtain rfl := hr12
         replace hat12 : At g q12 o12 [.int .i64 e13] := hat12
         refine OkQ.op rfl (OpQ.step (v := .int .i64 e13) (Yields.loadRo 0 hat12 (by kernel_rfl) Tryz.underlying3 rfl (by kernel_rfl)) rfl rfl ?_)
         obtain ⟨hp14, hF⟩ := hF
         refine OkQ.op rfl (OpQ.callG (v := .bool (citS xd xl e13)) enr (fun W hW => rit_c xd xl e13 (hRxd_0.mono hW.sees) (hRxl_0.mono hW.sees) hp14) rfl ?_)
         refine OkQ.nil (Ok.thenN (Ok.cond (b := (citS xd xl e13)) rfl (fun hc15 => ?_) (fun hc15 => ?_)))
         ·replace hF := hF.1 hc15
          refine Ok.region (Ok.bat 1 [1, 2, 3, 9, 11] [(69, pv b1 0)] ?_)
          refine Ok.op rfl (OpOk.step (v := .slice axd_0 xd.1.length cxd_0) (Yields.load 0 rfl rfl Tryz.underlying22 rfl (by kernel_rfl)) rfl rfl (Ok.bat 1 [1, 2, 3, 9, 11] [(70, .slice axd_0 xd.1.length cxd_0), (71, .int .i64 e7.2.2.2.2.1)] ?_))
          refine Ok.op rfl (OpOk.indexRo (e := .pair (.int .i64) (.pair (.str) (.pair (.slice (.pair (.str) (.str))) (.pair (.str) (.pair (.int .i64) (.slice (.int .i64))))))) (i := e7.2.2.2.2.1) (el := e11) rfl rfl Tryz.underlying22 (by kernel_rfl) hRxd_0 h011 he11 rfl fun q16 o16 cs16 _ hat16 hr16 => ?_)
          obtain ⟨_, _, rfl, rfl, ⟨_, _, rfl, rfl, ⟨_, _, rfl, ⟨a16_2, c16_2, rfl, hm16_2, hr16_2⟩, ⟨_, _, rfl, rfl, ⟨_, _, rfl, rfl, ⟨a16_5, c16_5, rfl, hm16_5, hr16_5⟩⟩⟩⟩⟩⟩ := hr16
          have hR16_2 : Rep g (.slice (.pair (.str) (.str))) [.slice a16_2 e11.2.2.1.length c16_2] e11.2.2.1 := ⟨a16_2, c16_2, rfl, hm16_2, hr16_2⟩
          have hR16_5 : Rep g (.slice (.int .i64)) [.slice a16_5 e11.2.2.2.2.2.length c16_5] e11.2.2.2.2.2 := ⟨a16_5, c16_5, rfl, hm16_5, hr16_5⟩
          replace hat16 : At g q16 o16 [.int .i64 e11.1, sv e11.2.1, .slice a16_2 e11.2.2.1.length c16_2, sv e11.2.2.2.1, .int .i64 e11.2.2.2.2.1, .slice a16_5 e11.2.2.2.2.2.length c16_5] := hat16
          refine Ok.bat 1 [1, 2, 3, 9, 11] [(73, .pointer (some ⟨q16, o16 + 5, none⟩))] ?_
          refine Ok.op rfl (OpOk.step (v := .slice a16_5 e11.2.2.2.2.2.length c16_5) (Yields.loadRo 5 hat16 (by kernel_rfl) Tryz.underlying36 rfl (by kernel_rfl)) rfl rfl (Ok.bat 1 [1, 2, 3, 9, 11] [(74, .slice a16_5 e11.2.2.2.2.2.length c16_5), (75, .int .i64 x11l37)] ?_))
          refine Ok.op rfl (OpOk.indexRo (e := .int .i64) (i := x11l37) (el := e13) rfl rfl Tryz.underlying36 (by kernel_rfl) hR16_5 h013 he13 rfl fun q17 o17 cs17 _ hat17 hr17 => ?_)
          obtain rfl := hr17
          replace hat17 : At g q17 o17 [.int .i64 e13] := hat17
          refine Ok.op rfl (OpOk.step (v := .int .i64 e13) (Yields.loadRo 0 hat17 (by kernel_rfl) Tryz.underlying3 rfl (by kernel_rfl)) rfl rfl (Ok.bat 1 [1, 2, 3, 9, 11] [(10, .int .i64 e13)] ?_))
          refine Ok.nil (Ok.blockN (Ok.thenN ?_))
          subst hg13
          subst hg11
          refine Ok.reval 10 rfl (show (.int .i64 ((xd.1.getD (Int.toNat e7.2.2.2.2.1) default).2.2.2.2.2.getD (Int.toNat x11l37) default) : Value) = .int .i64 (rnoV3 xd xl e7 x10l37 x11l37) from congrArg (Value.int .i64) ((if_t hc15).symm)) ?_
          exact fun a W hA hW => ⟨hA.sub (by kernel_rfl), hW, hF⟩
         ·replace hF := hF.2 hc15
          refine Ok.skip (Ok.blockN (Ok.thenN ?_))
          subst hg13
          subst hg11
          refine Ok.reval 10 rfl (show (.int .i64 x10l37 : Value) = .int .i64 (rnoV3 xd xl e7 x10l37 x11l37) from congrArg (Value.int .i64) ((if_f hc15).symm)) ?_
          exact fun a W hA hW => ⟨hA.sub (by kernel_rfl), hW, hF⟩
        ·
         clear hF
         rintro a W ⟨hA, hW, hF⟩
         refine (?_ : Ok _ _ _ _ _ _) a W hA hW
         clear hA hW
         refine Ok.region (Ok.bat 3 [1, 2, 3, 9, 10] [(11, .int .i64 (w6 (x11l37 + 1)))] ?_)
         refine Ok.nil (Ok.thenN ?_)
         exact fun a W hA hW => ⟨k37, Nat.lt_succ_self _, (rnoV3 xd xl e7 x10l37 x11l37), w6 (x11l37 + 1), hA.sub (by kernel_rfl), hW, hF⟩
       ·replace hF := hF.2 hc9
        refine Ok.exit (Ok.thenE (Ok.thenE (Ok.blockHit (Ok.thenN (Ok.seq (Ok.seq (Ok.region (Ok.bat 2 [1, 3, 9, 10] [(79, .bool (decide (x10l37 ≥ 0)))] ?_))))))))
        refine Ok.nil (Ok.thenN (Ok.cond (b := decide (x10l37 ≥ 0)) rfl (fun hc18 => ?_) (fun hc18 => ?_)))
        ·replace hF := hF.1 hc18
         refine Ok.seq (Ok.region (Ok.op rfl (OpOk.step (v := .agg #[.slice axd_0 xd.1.length cxd_0, .bool xd.2]) (Yields.loadAgg 0 2 #[.slice axd_0 xd.1.length cxd_0, .bool xd.2] rfl rfl Tryz.underlying24 rfl (by kernel_rfl) (by kernel_rfl) (by kernel_rfl)) rfl rfl (Ok.batch 2 [(80, .agg #[.slice axd_0 xd.1.length cxd_0, .bool xd.2]), (81, .slice axl_0 xl.length cxl_0), (82, .int .i64 x10l37)] (by kernel_rfl) ?_))))
         obtain ⟨hp19, hF⟩ := hF
         refine Ok.op rfl (OpOk.callG (v := .int .i64 (rnoS xd xl x10l37)) enr (fun W hW => ih_rno _ xd xl x10l37 (hRxd_0.mono hW.sees) (hRxl_0.mono hW.sees) hp19) rfl ?_)
         refine Ok.batch 3 [(6, .int .i64 (if 1000000 < (w6 ((rnoS xd xl x10l37) + 1)) then 1000000 else (w6 ((rnoS xd xl x10l37) + 1))))] (by kernel_rfl) (Ok.nil (Ok.thenN (Ok.ret (Ok.thenR ?_))))
         exact Ok.resP (vs := [.int .i64 (if 1000000 < (w6 ((rnoS xd xl x10l37) + 1)) then 1000000 else (w6 ((rnoS xd xl x10l37) + 1)))]) [] [] (by decide) rfl (.inl rfl) rfl (.cons (.tmp rfl) .nil) (Gext.refl w0 g) ⟨(if 1000000 < (w6 ((rnoS xd xl x10l37) + 1)) then 1000000 else (w6 ((rnoS xd xl x10l37) + 1))), rfl, rfl, hF⟩
        ·replace hF := hF.2 hc18
         refine Ok.skip (Ok.thenN (Ok.seq (Ok.region (Ok.op rfl (OpOk.step (v := .agg #[.slice axd_0 xd.1.length cxd_0, .bool xd.2]) (Yields.loadAgg 0 2 #[.slice axd_0 xd.1.length cxd_0, .bool xd.2] rfl rfl Tryz.underlying24 rfl (by kernel_rfl) (by kernel_rfl) (by kernel_rfl)) rfl rfl (Ok.batch 1 [(87, .agg #[.slice axd_0 xd.1.length cxd_0, .bool xd.2]), (88, .int .i64 e7.2.2.2.2.1)] (by kernel_rfl) ?_))))))
         obtain ⟨hp20, hF⟩ := hF
         refine Ok.op rfl (OpOk.callG (v := .tuple #[.int .i64 (rniS xd e7.2.2.2.2.1 ([115, 116, 97, 114, 116] : Bs)).1, .bool (rniS xd e7.2.2.2.2.1 ([115, 116, 97, 114, 116] : Bs)).2]) enr (fun W hW => rni_c xd e7.2.2.2.2.1 ([115, 116, 97, 114, 116] : Bs) (hRxd_0.mono hW.sees) hp20) rfl ?_)
         refine Ok.batch 5 [(7, .int .i64 (rniS xd e7.2.2.2.2.1 ([115, 116, 97, 114, 116] : Bs)).1), (8, .bool (rniS xd e7.2.2.2.2.1 ([115, 116, 97, 114, 116] : Bs)).2)] (by kernel_rfl) (Ok.nil (Ok.thenN (Ok.seq (Ok.seq (Ok.region (Ok.bat 1 [7] [(92, .bool (rniS xd e7.2.2.2.2.1 ([115, 116, 97, 114, 116] : Bs)).2)] ?_))))))
         refine Ok.nil (Ok.thenN (Ok.cond (b := (rniS xd e7.2.2.2.2.1 ([115, 116, 97, 114, 116] : Bs)).2) rfl (fun hc21 => ?_) (fun hc21 => ?_)))
         ·replace hF := hF.1 hc21
          refine Ok.seq (Ok.region (Ok.batch 2 [(6, .int .i64 (rniS xd e7.2.2.2.2.1 ([115, 116, 97, 114, 116] : Bs)).1)] (by kernel_rfl) (Ok.nil (Ok.thenN (Ok.ret (Ok.thenR ?_))))))
          exact Ok.resP (vs := [.int .i64 (rniS xd e7.2.2.2.2.1 ([115, 116, 97, 114, 116] : Bs)).1]) [] [] (by decide) rfl (.inl rfl) rfl (.cons (.tmp rfl) .nil) (Gext.refl w0 g) ⟨(rniS xd e7.2.2.2.2.1 ([115, 116, 97, 114, 116] : Bs)).1, rfl, rfl, hF⟩
         ·replace hF := hF.2 hc21
          refine Ok.skip (Ok.thenN (Ok.seq (Ok.region (Ok.batch 1 [(6, .int .i64 1)] (by kernel_rfl) (Ok.nil (Ok.thenN (Ok.ret ?_)))))))
          exact Ok.resP (vs := [.int .i64 1]) [] [] (by decide) rfl (.inl rfl) rfl (.cons (.tmp rfl) .nil) (Gext.refl w0 g) ⟨1, rfl, rfl, hF⟩
theorem nx_num {d : DC} {l : STL} (hG : DGood d) {p j : Nat} (hp : p < d.1.length) (hj : j < (kidsOf d.1 p).length) :
  nx d l p (j + 1) = if citS d l ((kidsOf d.1 p).getD j default) = true then min1 (numF d l ((kidsOf d.1 p).getD j default).toNat) else nx d l p j := by
 obtain ⟨n, e, hn, hpar, hx⟩ := kid_in hG hp hj
 rw [nx]
 split
 ·rename_i hc
  rw [e, Int.toNat_natCast]
  rw [e] at hc
  unfold numF
  rw [if_pos hc, if_neg (by omega), hpar, Int.toNat_natCast, hx]
 ·rfl
theorem rno_F (N : Nat) (d : DC) (l : STL) (n : Int) (hp : rnoP (N + 1) d l n) : rnoF N d l n (fun r => r = rnoS d l n) := by
 obtain ⟨hC, h0, h1, hN⟩ := hp
 obtain ⟨hG, hl, hkd⟩ := hC
 obtain ⟨m, rfl⟩ : ∃ m : Nat, n = (m : Int) := ⟨n.toNat, by omega⟩
 rw [Int.toNat_natCast] at h1 hN
 have hR : rnoS d l (m : Int) = numF d l m := by unfold rnoS; rw [Int.toNat_natCast]
 have hval := rni_sp d (m : Int) valW ⟨h0, by omega, by rw [Int.toNat_natCast]; exact good_att hG h1⟩
 rw [Int.toNat_natCast] at hval
 have hval := hval.2
 rw [hR]
 refine ⟨⟨h0, by omega, hl⟩, fun hc => ?_, fun hc => ⟨⟨h0, by omega, by rw [Int.toNat_natCast]; exact good_att hG h1⟩, fun hv => ?_, fun hv => ⟨h0, by omega, fun hq => ?_, fun hq => ?_⟩⟩⟩
 ·have hc : citS d l (m : Int) = false := by simpa using hc
  unfold numF
  rw [if_f hc]
 ·have hc : citS d l (m : Int) = true := by simpa using hc
  have hv2 : (ctlS (nodeN d m) valW).2 = true := by rw [← hv]; exact hval.1.symm
  unfold numF own12
  rw [if_t hc, if_t hv2, if_t hv2, ite_self]
  exact hval.2 hv
 ·have hc : citS d l (m : Int) = true := by simpa using hc
  have hv2 : (ctlS (nodeN d m) valW).2 = false := by rw [← hv]; exact hval.1.symm
  rw [Int.toNat_natCast] at hq
  unfold numF own12
  rw [if_t hc, if_pos (show par d.1 m < 0 from of_decide_eq_true hq), if_f hv2]
 ·have hc : citS d l (m : Int) = true := by simpa using hc
  have hv2 : (ctlS (nodeN d m) valW).2 = false := by rw [← hv]; exact hval.1.symm
  rw [Int.toNat_natCast] at hq ⊢
  have hq : ¬ par d.1 m < 0 := of_decide_eq_false hq
  obtain ⟨hpl, hix⟩ := kid_mem hG h1 hq
  have hnum : numF d l m = nx d l (par d.1 m).toNat ((kidsOf d.1 (par d.1 m).toNat).idxOf (m : Int)) := by
   unfold numF own12
   rw [if_t hc, if_neg hq, if_f hv2]
  have hplac : plac d m = (kidsOf d.1 (par d.1 m).toNat).idxOf (m : Int) := by unfold plac; rw [if_neg hq]
  rw [hplac] at hN
  have hpe : (nodeN d m).2.2.2.2.1 = ((par d.1 m).toNat : Int) := by show par d.1 m = _; omega
  show ∃ k, rnol37 N d l (m : Int) (fun r => r = numF d l m) (nodeN d m) k (-1) 0
  generalize hP : (par d.1 m).toNat = p at *
  have hkl : (kidsOf d.1 p).length ≤ maxLen := hkd _ (mem_getD default hpl)
  rw [maxLen_eq] at hkl
  have hkm : (kidsOf d.1 p).getD ((kidsOf d.1 p).idxOf (m : Int)) default = (m : Int) := by
   rw [List.getD_eq_getElem?_getD, List.getElem?_eq_getElem hix, Option.getD_some, List.getElem_idxOf]
  have loop : ∀ (k j : Nat) (a : Int), j + k = (kidsOf d.1 p).idxOf (m : Int) → (a = -1 ∧ nx d l p j = sta0 (nodeN d p) ∨ ∃ i, i < j ∧ a = (kidsOf d.1 p).getD i default ∧ nx d l p j = min1 (numF d l a.toNat)) →
    rnol37 N d l (m : Int) (fun r => r = numF d l m) (nodeN d m) (k + 1) a (j : Int) := by
   intro k
   induction k with
   | zero =>
    intro j a hj ha
    have hj : j = (kidsOf d.1 p).idxOf (m : Int) := by omega
    have hkj : ((d.1.getD (Int.toNat (nodeN d m).2.2.2.2.1) default).2.2.2.2.2.getD (Int.toNat (j : Int)) default) = (m : Int) := by
     rw [hpe, Int.toNat_natCast, Int.toNat_natCast, hj]; exact hkm
    have hV : rnoV2 d (m : Int) (nodeN d m) (j : Int) = false := by
     unfold rnoV2
     rw [hkj]; simp
    have j39 : rnoj39 N d l (m : Int) (fun r => r = numF d l m) (nodeN d m) a (j : Int) (rnol37 N d l (m : Int) (fun r => r = numF d l m) (nodeN d m) 0) := by
     refine ⟨fun h => by rw [hV] at h; (cases h), fun _ => ⟨fun h => ?_, fun h => ?_⟩⟩
     ·rcases ha with ⟨rfl, -⟩ | ⟨i, hi, ha, hn⟩
      ·cases h
      ·obtain ⟨q, e, hq1, hq2, hq3⟩ := kid_in hG hpl (show i < (kidsOf d.1 p).length by omega)
       rw [e] at ha
       subst ha
       refine ⟨⟨⟨hG, hl, hkd⟩, by omega, by omega, ?_⟩, ?_⟩
       ·rw [Int.toNat_natCast]
        unfold plac
        rw [if_neg (by omega), hq2, Int.toNat_natCast, hq3]; omega
       ·show min1 (rnoS d l (q : Int)) = numF d l m
        rw [hnum, ← hj, hn]; rfl
     ·rcases ha with ⟨rfl, hn⟩ | ⟨i, hi, ha, hn⟩
      ·have hp2 : rniP d (nodeN d m).2.2.2.2.1 staW := ⟨by rw [hpe]; omega, by rw [hpe]; omega, by rw [hpe, Int.toNat_natCast]; exact good_att hG hpl⟩
       have hst := (rni_sp d (nodeN d m).2.2.2.2.1 staW hp2).2
       rw [hpe, Int.toNat_natCast] at hst
       rw [← hj] at hnum
       refine ⟨hp2, fun hs => ?_, fun hs => ?_⟩
       ·rw [hpe] at hs ⊢
        have hs2 : (ctlS (nodeN d p) staW).2 = true := by rw [← hs]; exact hst.1.symm
        rw [hnum, hn]
        unfold sta0
        rw [if_f (by rw [hs2]; rfl)]
        exact hst.2 hs
       ·rw [hpe] at hs
        have hs2 : (ctlS (nodeN d p) staW).2 = false := by rw [← hs]; exact hst.1.symm
        rw [hnum, hn]
        unfold sta0
        rw [if_t (by rw [hs2]; rfl)]
      ·obtain ⟨q, e, hq1, hq2, hq3⟩ := kid_in hG hpl (show i < (kidsOf d.1 p).length by omega)
       rw [e] at ha
       subst ha
       have := of_decide_eq_false h
       omega
    refine ⟨by rw [hpe]; omega, by rw [hpe]; omega, fun _ => ⟨by omega, ?_, j39⟩, fun _ => j39⟩
    rw [hpe, Int.toNat_natCast, Int.toNat_natCast, hj]; exact hix
   | succ k ih =>
    intro j a hj ha
    have hjl : j < (kidsOf d.1 p).length := by omega
    obtain ⟨q, e, hq1, hq2, hq3⟩ := kid_in hG hpl hjl
    have hkj : ((d.1.getD (Int.toNat (nodeN d m).2.2.2.2.1) default).2.2.2.2.2.getD (Int.toNat (j : Int)) default) = (q : Int) := by
     rw [hpe, Int.toNat_natCast, Int.toNat_natCast]; exact e
    have hne : q ≠ m := fun h => by subst h; omega
    have hV : rnoV2 d (m : Int) (nodeN d m) (j : Int) = true := by
     unfold rnoV2
     rw [hkj, Bool.and_eq_true, decide_eq_true_eq, hpe, Int.toNat_natCast, bne_iff_ne]
     exact ⟨by show (j : Int) < ((kidsOf d.1 p).length : Int); omega, by omega⟩
    have j44 : rnoj44 d l (nodeN d m) a (j : Int) (rnol37 N d l (m : Int) (fun r => r = numF d l m) (nodeN d m) (k + 1)) := by
     unfold rnoj44
     rw [w64 (by omega)]
     refine ih (j + 1) _ (by omega) ?_
     have hnx := nx_num (l := l) hG hpl hjl
     unfold rnoV3
     rw [hkj]
     rw [e] at hnx
     cases hci : citS d l (q : Int)
     ·rw [if_f rfl]
      rw [hci, if_f rfl] at hnx
      rcases ha with ⟨h1, h2⟩ | ⟨i, hi, h1, h2⟩
      ·exact .inl ⟨h1, hnx.trans h2⟩
      ·exact .inr ⟨i, by omega, h1, hnx.trans h2⟩
     ·rw [if_t rfl]
      rw [hci, if_t rfl] at hnx
      exact .inr ⟨j, by omega, e.symm, hnx⟩
    have j39 : rnoj39 N d l (m : Int) (fun r => r = numF d l m) (nodeN d m) a (j : Int) (rnol37 N d l (m : Int) (fun r => r = numF d l m) (nodeN d m) (k + 1)) := by
     refine ⟨fun _ => ⟨by rw [hpe]; omega, by rw [hpe]; omega, by omega, by rw [hpe, Int.toNat_natCast, Int.toNat_natCast]; exact hjl, ?_, fun _ => j44, fun _ => j44⟩, fun h => by rw [hV] at h; (cases h)⟩
     rw [hkj]; exact ⟨by omega, by omega, hl⟩
    refine ⟨by rw [hpe]; omega, by rw [hpe]; omega, fun _ => ⟨by omega, ?_, j39⟩, fun _ => j39⟩
    rw [hpe, Int.toNat_natCast, Int.toNat_natCast]; exact hjl
  exact ⟨_, loop ((kidsOf d.1 p).idxOf (m : Int)) 0 (-1) (by omega) (.inl ⟨rfl, rfl⟩)⟩
theorem rno_rec : ∀ N, rno_C N
 | 0 => (by intro g axd_0 cxd_0 xd axl_0 cxl_0 xl xn hRxd_0 hRxl_0 hp; exact (rno_0 xd xl xn hp).elim)
 | N + 1 =>
  have ih := rno_rec N
  (by intro g axd_0 cxd_0 xd axl_0 cxl_0 xl xn hRxd_0 hRxl_0 hp; exact (rno_ok N ih xd xl xn hRxd_0 hRxl_0 _ (rno_F N xd xl xn hp)).gives (by rintro g' H' v _ ⟨r0, rfl, rfl, hK⟩; subst hK; rfl))
def rnoPE (xd : (List (Int × Bs × (List (Bs × Bs)) × Bs × Int × List (Int))) × Bool) (xl : List ((Int × Int) × (Int × Int) × (Int × Int) × (Int × Int) × (Int × Int) × (Int × Int) × (Int × Int) × (Int × Int) × (Int × Int) × (Int × Int) × (Int × Int) × (Int × Int) × (Int × Int) × (Int × Int) × (Int × Int) × (Int × Int) × (Int × Int) × (Int × Int) × (Int × Int) × (Int × Int) × (Int × Int) × (Int × Int) × (Int × Int) × (Int × Int) × (Int × Int) × (Int × Int) × (Int × Int) × (Int × Int) × (Int × Int) × (Int × Int) × (Int × Int) × (Int × Int) × (Int × Int) × (Int × Int) × (Int × Int) × (Int × Int) × (Int × Int) × (Int × Int) × (Int × Int) × (Int × Int) × (Int × Int) × (Int × Int) × (Int × Int) × (Int × Int) × (Int × Int) × (Int × Int) × (Int × Int) × (Int × Int) × (Int × Int) × (Int × Int) × (Int × Int) × (Int × Int) × (Int × Int) × (Int × Int) × (Int × Int) × (Int × Int) × (Int × Int) × (Int × Int) × Int × Int)) (xn : Int) : Prop := ∃ N, rnoP N xd xl xn
theorem rno_c {g : Ghost} {axd_0 : Option Addr} {cxd_0 : Nat} (xd : (List (Int × Bs × (List (Bs × Bs)) × Bs × Int × List (Int))) × Bool) {axl_0 : Option Addr} {cxl_0 : Nat} (xl : List ((Int × Int) × (Int × Int) × (Int × Int) × (Int × Int) × (Int × Int) × (Int × Int) × (Int × Int) × (Int × Int) × (Int × Int) × (Int × Int) × (Int × Int) × (Int × Int) × (Int × Int) × (Int × Int) × (Int × Int) × (Int × Int) × (Int × Int) × (Int × Int) × (Int × Int) × (Int × Int) × (Int × Int) × (Int × Int) × (Int × Int) × (Int × Int) × (Int × Int) × (Int × Int) × (Int × Int) × (Int × Int) × (Int × Int) × (Int × Int) × (Int × Int) × (Int × Int) × (Int × Int) × (Int × Int) × (Int × Int) × (Int × Int) × (Int × Int) × (Int × Int) × (Int × Int) × (Int × Int) × (Int × Int) × (Int × Int) × (Int × Int) × (Int × Int) × (Int × Int) × (Int × Int) × (Int × Int) × (Int × Int) × (Int × Int) × (Int × Int) × (Int × Int) × (Int × Int) × (Int × Int) × (Int × Int) × (Int × Int) × (Int × Int) × (Int × Int) × (Int × Int) × Int × Int)) (xn : Int) (hRxd_0 : Rep g (.slice (.pair (.int .i64) (.pair (.str) (.pair (.slice (.pair (.str) (.str))) (.pair (.str) (.pair (.int .i64) (.slice (.int .i64)))))))) [.slice axd_0 xd.1.length cxd_0] xd.1) (hRxl_0 : Rep g (.slice (.pair (.pair (.int .i64) (.int .i64)) (.pair (.pair (.int .i64) (.int .i64)) (.pair (.pair (.int .i64) (.int .i64)) (.pair (.pair (.int .i64) (.int .i64)) (.pair (.pair (.int .i64) (.int .i64)) (.pair (.pair (.int .i64) (.int .i64)) (.pair (.pair (.int .i64) (.int .i64)) (.pair (.pair (.int .i64) (.int .i64)) (.pair (.pair (.int .i64) (.int .i64)) (.pair (.pair (.int .i64) (.int .i64)) (.pair (.pair (.int .i64) (.int .i64)) (.pair (.pair (.int .i64) (.int .i64)) (.pair (.pair (.int .i64) (.int .i64)) (.pair (.pair (.int .i64) (.int .i64)) (.pair (.pair (.int .i64) (.int .i64)) (.pair (.pair (.int .i64) (.int .i64)) (.pair (.pair (.int .i64) (.int .i64)) (.pair (.pair (.int .i64) (.int .i64)) (.pair (.pair (.int .i64) (.int .i64)) (.pair (.pair (.int .i64) (.int .i64)) (.pair (.pair (.int .i64) (.int .i64)) (.pair (.pair (.int .i64) (.int .i64)) (.pair (.pair (.int .i64) (.int .i64)) (.pair (.pair (.int .i64) (.int .i64)) (.pair (.pair (.int .i64) (.int .i64)) (.pair (.pair (.int .i64) (.int .i64)) (.pair (.pair (.int .i64) (.int .i64)) (.pair (.pair (.int .i64) (.int .i64)) (.pair (.pair (.int .i64) (.int .i64)) (.pair (.pair (.int .i64) (.int .i64)) (.pair (.pair (.int .i64) (.int .i64)) (.pair (.pair (.int .i64) (.int .i64)) (.pair (.pair (.int .i64) (.int .i64)) (.pair (.pair (.int .i64) (.int .i64)) (.pair (.pair (.int .i64) (.int .i64)) (.pair (.pair (.int .i64) (.int .i64)) (.pair (.pair (.int .i64) (.int .i64)) (.pair (.pair (.int .i64) (.int .i64)) (.pair (.pair (.int .i64) (.int .i64)) (.pair (.pair (.int .i64) (.int .i64)) (.pair (.pair (.int .i64) (.int .i64)) (.pair (.pair (.int .i64) (.int .i64)) (.pair (.pair (.int .i64) (.int .i64)) (.pair (.pair (.int .i64) (.int .i64)) (.pair (.pair (.int .i64) (.int .i64)) (.pair (.pair (.int .i64) (.int .i64)) (.pair (.pair (.int .i64) (.int .i64)) (.pair (.pair (.int .i64) (.int .i64)) (.pair (.pair (.int .i64) (.int .i64)) (.pair (.pair (.int .i64) (.int .i64)) (.pair (.pair (.int .i64) (.int .i64)) (.pair (.pair (.int .i64) (.int .i64)) (.pair (.pair (.int .i64) (.int .i64)) (.pair (.pair (.int .i64) (.int .i64)) (.pair (.pair (.int .i64) (.int .i64)) (.pair (.pair (.int .i64) (.int .i64)) (.pair (.pair (.int .i64) (.int .i64)) (.pair (.pair (.int .i64) (.int .i64)) (.pair (.int .i64) (.int .i64))))))))))))))))))))))))))))))))))))))))))))))))))))))))))))) [.slice axl_0 xl.length cxl_0] xl)  (hp : rnoPE xd xl xn) : CallsG Tryz.prog 14 #[.agg #[.slice axd_0 xd.1.length cxd_0, .bool xd.2], .slice axl_0 xl.length cxl_0, .int .i64 xn] g (.int .i64 (rnoS xd xl xn)) := by
 obtain ⟨N, hp⟩ := hp
 exact (rno_rec N) _ xd xl xn hRxd_0 hRxl_0 hp
def lcnV0 (xd : DC) (xl : List (STE)) : Bool :=
 ((((cNuS xd xl).2 != 0) || ((cMaS xd xl).2 != 0)) || (((((cNuS xd xl).1).length : Int) != (xd.1.length : Int)) || ((((cMaS xd xl).1).length : Int) != (((cNuS xd xl).1).length : Int))))
def lcnV6 (xd : DC) (xl : List (STE)) (x11l31 : Int) : Bool :=
 ((citS xd xl x11l31) && ((xl.getD (Int.toNat x11l31) default).2.2.2.2.2.2.2.2.2.2.2.2.2.2.2.2.2.2.2.2.2.2.2.2.2.2.2.2.2.2.2.2.2.2.2.2.2.2.2.2.2.2.2.2.2.2.2.2.2.2.2.2.2.2.2.2.2.1.2 == 1))
def lcnV7 (xd : DC) (xl : List (STE)) (x11l31 : Int) : Bs :=
 (if (lcnV6 xd xl x11l31) = true then (cmarkM 1 (rnoS xd xl x11l31)) else ([] : Bs))
def lcnV8 (xd : DC) (xl : List (STE)) (x11l31 : Int) : Bool :=
 ((citS xd xl x11l31) && ((xl.getD (Int.toNat x11l31) default).2.2.2.2.2.2.2.2.2.2.2.2.2.2.2.2.2.2.2.2.2.2.2.2.2.2.2.2.2.2.2.2.2.2.2.2.2.2.2.2.2.2.2.2.2.2.2.2.2.2.2.2.2.2.2.2.2.1.2 == 2))
def lcnV9 (xd : DC) (xl : List (STE)) (x11l31 : Int) : Bs :=
 (if (lcnV8 xd xl x11l31) = true then (Lib.itoa (rnoS xd xl x11l31)) ++ ([46] : Bs) else (lcnV7 xd xl x11l31))
def lcnV11 (xd : DC) (xl : List (STE)) (x11l31 : Int) : Bool :=
 (((((cNuS xd xl).1).getD (Int.toNat x11l31) default) != (rnoS xd xl x11l31)) || (!((((cMaS xd xl).1).getD (Int.toNat x11l31) default) == (lcnV9 xd xl x11l31))))
def lcnj56 (xd : DC) (xl : List (STE)) (K : Bool → Prop) (x11l31 : Int) (C31 : Int → Prop) : Prop :=
 (((lcnV11 xd xl x11l31)) = true → K false) ∧ (((lcnV11 xd xl x11l31)) = false → C31 (w6 (x11l31 + 1)))
def lcnj50 (xd : DC) (xl : List (STE)) (K : Bool → Prop) (x11l31 : Int) (C31 : Int → Prop) : Prop :=
 (0 : Int) ≤ x11l31 ∧ Int.toNat x11l31 < ((cNuS xd xl).1).length ∧ ((((((cNuS xd xl).1).getD (Int.toNat x11l31) default) != (rnoS xd xl x11l31))) = true → lcnj56 xd xl K x11l31 C31) ∧ ((((((cNuS xd xl).1).getD (Int.toNat x11l31) default) != (rnoS xd xl x11l31))) = false → (0 : Int) ≤ x11l31 ∧ Int.toNat x11l31 < ((cMaS xd xl).1).length ∧ lcnj56 xd xl K x11l31 C31)
def lcnj51 (xd : DC) (xl : List (STE)) (K : Bool → Prop) (x11l31 : Int) (C31 : Int → Prop) : Prop :=
 (((lcnV8 xd xl x11l31)) = true → sgnPE (rnoS xd xl x11l31) ∧ (Lib.itoa (rnoS xd xl x11l31)).length + ([46] : Bs).length ≤ maxLen ∧ lcnj50 xd xl K x11l31 C31) ∧ (((lcnV8 xd xl x11l31)) = false → lcnj50 xd xl K x11l31 C31)
def lcnj44 (xd : DC) (xl : List (STE)) (K : Bool → Prop) (x11l31 : Int) (C31 : Int → Prop) : Prop :=
 citP xd xl x11l31 ∧ (((citS xd xl x11l31)) = true → (0 : Int) ≤ x11l31 ∧ Int.toNat x11l31 < xl.length ∧ lcnj51 xd xl K x11l31 C31) ∧ (((citS xd xl x11l31)) = false → lcnj51 xd xl K x11l31 C31)
def lcnj45 (xd : DC) (xl : List (STE)) (K : Bool → Prop) (x11l31 : Int) (C31 : Int → Prop) : Prop :=
 (((lcnV6 xd xl x11l31)) = true → cmarkP 1 (rnoS xd xl x11l31) ∧ lcnj44 xd xl K x11l31 C31) ∧ (((lcnV6 xd xl x11l31)) = false → lcnj44 xd xl K x11l31 C31)
def lcnl31b (xd : DC) (xl : List (STE)) (K : Bool → Prop) (x11l31 : Int) (C31 : Int → Prop) : Prop :=
 ((decide (x11l31 < (((cNuS xd xl).1).length : Int))) = true → rnoPE xd xl x11l31 ∧ citP xd xl x11l31 ∧ (((citS xd xl x11l31)) = true → (0 : Int) ≤ x11l31 ∧ Int.toNat x11l31 < xl.length ∧ lcnj45 xd xl K x11l31 C31) ∧ (((citS xd xl x11l31)) = false → lcnj45 xd xl K x11l31 C31)) ∧ ((decide (x11l31 < (((cNuS xd xl).1).length : Int))) = false → K true)
def lcnl31 (xd : DC) (xl : List (STE)) (K : Bool → Prop) : Nat → Int → Prop
 | 0, _ => False
 | k + 1, x11l31 => lcnl31b xd xl K x11l31 (lcnl31 xd xl K k)
def lcnj20 (xd : DC) (xl : List (STE)) (K : Bool → Prop) : Prop :=
 (((lcnV0 xd xl)) = true → K false) ∧ (((lcnV0 xd xl)) = false → ∃ k, lcnl31 xd xl K k 0)
def lcnF (xd : DC) (xl : List (STE)) (K : Bool → Prop) : Prop :=
 cNuP xd xl ∧ cMaP xd xl ∧ sfitP xd xl ∧ ((((sfitS xd xl) != 0)) = true → K ((((true && ((cNuS xd xl).2 == (sfitS xd xl))) && ((cMaS xd xl).2 == (sfitS xd xl))) && ((((cNuS xd xl).1).length : Int) == 0)) && ((((cMaS xd xl).1).length : Int) == 0))) ∧ ((((sfitS xd xl) != 0)) = false → (((((cNuS xd xl).2 != 0) || ((cMaS xd xl).2 != 0))) = true → lcnj20 xd xl K) ∧ (((((cNuS xd xl).2 != 0) || ((cMaS xd xl).2 != 0))) = false → lcnj20 xd xl K))
theorem lcn_ok {g : Ghost} {axd_0 : Option Addr} {cxd_0 : Nat} (xd : DC) {axl_0 : Option Addr} {cxl_0 : Nat} (xl : List (STE)) (hRxd_0 : Rep g (.slice (.pair (.int .i64) (.pair (.str) (.pair (.slice (.pair (.str) (.str))) (.pair (.str) (.pair (.int .i64) (.slice (.int .i64)))))))) [.slice axd_0 xd.1.length cxd_0] xd.1) (hRxl_0 : Rep g (.slice (.pair (.pair (.int .i64) (.int .i64)) (.pair (.pair (.int .i64) (.int .i64)) (.pair (.pair (.int .i64) (.int .i64)) (.pair (.pair (.int .i64) (.int .i64)) (.pair (.pair (.int .i64) (.int .i64)) (.pair (.pair (.int .i64) (.int .i64)) (.pair (.pair (.int .i64) (.int .i64)) (.pair (.pair (.int .i64) (.int .i64)) (.pair (.pair (.int .i64) (.int .i64)) (.pair (.pair (.int .i64) (.int .i64)) (.pair (.pair (.int .i64) (.int .i64)) (.pair (.pair (.int .i64) (.int .i64)) (.pair (.pair (.int .i64) (.int .i64)) (.pair (.pair (.int .i64) (.int .i64)) (.pair (.pair (.int .i64) (.int .i64)) (.pair (.pair (.int .i64) (.int .i64)) (.pair (.pair (.int .i64) (.int .i64)) (.pair (.pair (.int .i64) (.int .i64)) (.pair (.pair (.int .i64) (.int .i64)) (.pair (.pair (.int .i64) (.int .i64)) (.pair (.pair (.int .i64) (.int .i64)) (.pair (.pair (.int .i64) (.int .i64)) (.pair (.pair (.int .i64) (.int .i64)) (.pair (.pair (.int .i64) (.int .i64)) (.pair (.pair (.int .i64) (.int .i64)) (.pair (.pair (.int .i64) (.int .i64)) (.pair (.pair (.int .i64) (.int .i64)) (.pair (.pair (.int .i64) (.int .i64)) (.pair (.pair (.int .i64) (.int .i64)) (.pair (.pair (.int .i64) (.int .i64)) (.pair (.pair (.int .i64) (.int .i64)) (.pair (.pair (.int .i64) (.int .i64)) (.pair (.pair (.int .i64) (.int .i64)) (.pair (.pair (.int .i64) (.int .i64)) (.pair (.pair (.int .i64) (.int .i64)) (.pair (.pair (.int .i64) (.int .i64)) (.pair (.pair (.int .i64) (.int .i64)) (.pair (.pair (.int .i64) (.int .i64)) (.pair (.pair (.int .i64) (.int .i64)) (.pair (.pair (.int .i64) (.int .i64)) (.pair (.pair (.int .i64) (.int .i64)) (.pair (.pair (.int .i64) (.int .i64)) (.pair (.pair (.int .i64) (.int .i64)) (.pair (.pair (.int .i64) (.int .i64)) (.pair (.pair (.int .i64) (.int .i64)) (.pair (.pair (.int .i64) (.int .i64)) (.pair (.pair (.int .i64) (.int .i64)) (.pair (.pair (.int .i64) (.int .i64)) (.pair (.pair (.int .i64) (.int .i64)) (.pair (.pair (.int .i64) (.int .i64)) (.pair (.pair (.int .i64) (.int .i64)) (.pair (.pair (.int .i64) (.int .i64)) (.pair (.pair (.int .i64) (.int .i64)) (.pair (.pair (.int .i64) (.int .i64)) (.pair (.pair (.int .i64) (.int .i64)) (.pair (.pair (.int .i64) (.int .i64)) (.pair (.pair (.int .i64) (.int .i64)) (.pair (.pair (.int .i64) (.int .i64)) (.pair (.int .i64) (.int .i64))))))))))))))))))))))))))))))))))))))))))))))))))))))))))))) [.slice axl_0 xl.length cxl_0] xl) (hG2 : SomeInt g 2) (hG7 : GlobL g 7 (.int .u64) DPow) (hG8 : SomeIf g 8) (hG9 : SomeIf g 9) (K : Bool → Prop)
  (hF : lcnF xd xl K) : CallsH Tryz.prog 4 #[.agg #[.slice axd_0 xd.1.length cxd_0, .bool xd.2], .slice axl_0 xl.length cxl_0] g [] (fun g' H' v => ∃ (r0 : Bool), v = .bool r0 ∧ H' = [] ∧ K r0) := by
 refine CallsH.enter 130 [(0, .agg #[.slice axd_0 xd.1.length cxd_0, .bool xd.2]), (1, .slice axl_0 xl.length cxl_0)] Tryz.func4 rfl (by kernel_rfl) (by kernel_rfl) (by kernel_rfl) fun w0 => ?_
 refine Ok.seq (Ok.region (Ok.op rfl (OpOk.box (v := .agg #[.slice axd_0 xd.1.length cxd_0, .bool xd.2]) (cs := #[.slice axd_0 xd.1.length cxd_0, .bool xd.2]) rfl (by kernel_rfl) rfl fun b1 => ?_)))
 refine Ok.batch 1 [(1, .slice axl_0 xl.length cxl_0), (2, pv b1 0)] (by kernel_rfl) (Ok.nil (Ok.thenN (Ok.seq (Ok.region (Ok.op rfl (OpOk.callG (v := .bool true) enr (fun W hW => fourth_c  (hG7.mono hW.sees)) rfl ?_))))))
 refine Ok.bat 1 [1, 2] [(5, .bool true)] ?_
 refine Ok.nil (Ok.thenN (Ok.seq (Ok.region (Ok.op rfl (OpOk.step (v := .agg #[.slice axd_0 xd.1.length cxd_0, .bool xd.2]) (Yields.loadAgg 0 2 #[.slice axd_0 xd.1.length cxd_0, .bool xd.2] rfl rfl Tryz.underlying24 rfl (by kernel_rfl) (by kernel_rfl) (by kernel_rfl)) rfl rfl (Ok.bat 1 [1, 2, 5] [(16, .agg #[.slice axd_0 xd.1.length cxd_0, .bool xd.2]), (17, .slice axl_0 xl.length cxl_0)] ?_))))))
 obtain ⟨hp2, hF⟩ := hF
 refine Ok.op rfl (OpOk.callH [] _ enr rfl (cNu_c xd xl hRxd_0 hRxl_0 hG2 hG7 hG8 hG9 hp2) rfl fun g3 _ _ hx3 hV3 => ?_)
 obtain ⟨a3_0, c3_0, rfl, hR3_0, rfl⟩ := hV3
 replace hRxl_0 := hRxl_0.mono hx3.1
 replace hRxd_0 := hRxd_0.mono hx3.1
 replace hG2 := hG2.mono hx3.1
 replace hG7 := hG7.mono hx3.1
 replace hG8 := hG8.mono hx3.1
 replace hG9 := hG9.mono hx3.1
 refine Ok.bat 5 [1, 2, 5] [(6, .slice a3_0 ((cNuS xd xl).1).length c3_0), (7, .int .i64 (cNuS xd xl).2)] ?_
 refine Ok.nil (Ok.thenN (Ok.seq (Ok.region (Ok.op rfl (OpOk.step (v := .agg #[.slice axd_0 xd.1.length cxd_0, .bool xd.2]) (Yields.loadAgg 0 2 #[.slice axd_0 xd.1.length cxd_0, .bool xd.2] rfl rfl Tryz.underlying24 rfl (by kernel_rfl) (by kernel_rfl) (by kernel_rfl)) rfl rfl (Ok.bat 1 [1, 2, 5, 6, 7] [(22, .agg #[.slice axd_0 xd.1.length cxd_0, .bool xd.2]), (23, .slice axl_0 xl.length cxl_0)] ?_))))))
 obtain ⟨hp4, hF⟩ := hF
 refine Ok.op rfl (OpOk.callH [] _ enr rfl (cMa_c xd xl hRxd_0 hRxl_0 hG2 hG7 hG8 hG9 hp4) rfl fun g5 _ _ hx5 hV5 => ?_)
 obtain ⟨a5_0, c5_0, rfl, hR5_0, rfl⟩ := hV5
 replace hRxl_0 := hRxl_0.mono hx5.1
 replace hR3_0 := hR3_0.mono hx5.1
 replace hRxd_0 := hRxd_0.mono hx5.1
 replace hG2 := hG2.mono hx5.1
 replace hG7 := hG7.mono hx5.1
 replace hG8 := hG8.mono hx5.1
 replace hG9 := hG9.mono hx5.1
 refine Ok.bat 5 [1, 2, 5, 6, 7] [(8, .slice a5_0 ((cMaS xd xl).1).length c5_0), (9, .int .i64 (cMaS xd xl).2)] ?_
 refine Ok.nil (Ok.thenN (Ok.seq (Ok.region (Ok.op rfl (OpOk.step (v := .agg #[.slice axd_0 xd.1.length cxd_0, .bool xd.2]) (Yields.loadAgg 0 2 #[.slice axd_0 xd.1.length cxd_0, .bool xd.2] rfl rfl Tryz.underlying24 rfl (by kernel_rfl) (by kernel_rfl) (by kernel_rfl)) rfl rfl (Ok.bat 1 [1, 2, 5, 6, 7, 8, 9] [(27, .agg #[.slice axd_0 xd.1.length cxd_0, .bool xd.2]), (28, .slice axl_0 xl.length cxl_0)] ?_))))))
 obtain ⟨hp6, hF⟩ := hF
 refine Ok.op rfl (OpOk.callG (v := .int .i64 (sfitS xd xl)) enr (fun W hW => sfit_c xd xl (hRxd_0.mono hW.sees) (hRxl_0.mono hW.sees) (hG2.mono hW.sees) hp6) rfl ?_)
 refine Ok.bat 1 [1, 2, 5, 6, 7, 8, 9] [(10, .int .i64 (sfitS xd xl))] ?_
 refine Ok.nil (Ok.thenN (Ok.seq (Ok.seq (Ok.region (Ok.bat 2 [1, 2, 5, 6, 7, 8, 9, 10] [(31, .bool ((sfitS xd xl) != 0))] ?_)))))
 refine Ok.nil (Ok.thenN (Ok.cond (b := ((sfitS xd xl) != 0)) rfl (fun hc7 => ?_) (fun hc7 => ?_)))
 ·replace hF := hF.1 hc7
  refine Ok.seq (Ok.region (Ok.bat 2 [6, 7, 8, 9, 10] [(33, .bool true)] ?_))
  refine Ok.midway 4 [(6, .slice a3_0 ((cNuS xd xl).1).length c3_0), (8, .slice a5_0 ((cMaS xd xl).1).length c5_0), (9, .int .i64 (cMaS xd xl).2), (10, .int .i64 (sfitS xd xl)), (37, .bool (true && ((cNuS xd xl).2 == (sfitS xd xl))))] (fun hR8 => ?_) ?_
  ·refine Ok.boolAt 33 (true) rfl (fun hc9 => ?_) (fun hc9 => ?_)
   ·skip
    refine Ok.bat 4 [6, 8, 9, 10] [(37, .bool ((cNuS xd xl).2 == (sfitS xd xl)))] ?_
    refine Ok.reval 37 rfl (show (.bool ((cNuS xd xl).2 == (sfitS xd xl)) : Value) = .bool (true && ((cNuS xd xl).2 == (sfitS xd xl))) from congrArg Value.bool (mand_t hc9)) (Ok.bat 0 [6, 8, 9, 10] [(37, .bool (true && ((cNuS xd xl).2 == (sfitS xd xl))))] ?_)
    exact hR8
   ·skip
    refine Ok.bat 4 [6, 8, 9, 10] [(37, .bool false)] ?_
    refine Ok.reval 37 rfl (show (.bool false : Value) = .bool (true && ((cNuS xd xl).2 == (sfitS xd xl))) from congrArg Value.bool (mand_f hc9)) (Ok.bat 0 [6, 8, 9, 10] [(37, .bool (true && ((cNuS xd xl).2 == (sfitS xd xl))))] ?_)
    exact hR8
  refine Ok.bat 1 [6, 8, 9, 10] [(38, .bool (true && ((cNuS xd xl).2 == (sfitS xd xl))))] ?_
  refine Ok.midway 4 [(6, .slice a3_0 ((cNuS xd xl).1).length c3_0), (8, .slice a5_0 ((cMaS xd xl).1).length c5_0), (42, .bool ((true && ((cNuS xd xl).2 == (sfitS xd xl))) && ((cMaS xd xl).2 == (sfitS xd xl))))] (fun hR10 => ?_) ?_
  ·refine Ok.boolAt 38 ((true && ((cNuS xd xl).2 == (sfitS xd xl)))) rfl (fun hc11 => ?_) (fun hc11 => ?_)
   ·skip
    refine Ok.bat 4 [6, 8] [(42, .bool ((cMaS xd xl).2 == (sfitS xd xl)))] ?_
    refine Ok.reval 42 rfl (show (.bool ((cMaS xd xl).2 == (sfitS xd xl)) : Value) = .bool ((true && ((cNuS xd xl).2 == (sfitS xd xl))) && ((cMaS xd xl).2 == (sfitS xd xl))) from congrArg Value.bool (mand_t hc11)) (Ok.bat 0 [6, 8] [(42, .bool ((true && ((cNuS xd xl).2 == (sfitS xd xl))) && ((cMaS xd xl).2 == (sfitS xd xl))))] ?_)
    exact hR10
   ·skip
    refine Ok.bat 4 [6, 8] [(42, .bool false)] ?_
    refine Ok.reval 42 rfl (show (.bool false : Value) = .bool ((true && ((cNuS xd xl).2 == (sfitS xd xl))) && ((cMaS xd xl).2 == (sfitS xd xl))) from congrArg Value.bool (mand_f hc11)) (Ok.bat 0 [6, 8] [(42, .bool ((true && ((cNuS xd xl).2 == (sfitS xd xl))) && ((cMaS xd xl).2 == (sfitS xd xl))))] ?_)
    exact hR10
  refine Ok.bat 1 [6, 8] [(43, .bool ((true && ((cNuS xd xl).2 == (sfitS xd xl))) && ((cMaS xd xl).2 == (sfitS xd xl))))] ?_
  refine Ok.midway 4 [(8, .slice a5_0 ((cMaS xd xl).1).length c5_0), (47, .bool (((true && ((cNuS xd xl).2 == (sfitS xd xl))) && ((cMaS xd xl).2 == (sfitS xd xl))) && ((((cNuS xd xl).1).length : Int) == 0)))] (fun hR12 => ?_) ?_
  ·refine Ok.boolAt 43 (((true && ((cNuS xd xl).2 == (sfitS xd xl))) && ((cMaS xd xl).2 == (sfitS xd xl)))) rfl (fun hc13 => ?_) (fun hc13 => ?_)
   ·skip
    refine Ok.bat 4 [8] [(47, .bool ((((cNuS xd xl).1).length : Int) == 0))] ?_
    refine Ok.reval 47 rfl (show (.bool ((((cNuS xd xl).1).length : Int) == 0) : Value) = .bool (((true && ((cNuS xd xl).2 == (sfitS xd xl))) && ((cMaS xd xl).2 == (sfitS xd xl))) && ((((cNuS xd xl).1).length : Int) == 0)) from congrArg Value.bool (mand_t hc13)) (Ok.bat 0 [8] [(47, .bool (((true && ((cNuS xd xl).2 == (sfitS xd xl))) && ((cMaS xd xl).2 == (sfitS xd xl))) && ((((cNuS xd xl).1).length : Int) == 0)))] ?_)
    exact hR12
   ·skip
    refine Ok.bat 4 [8] [(47, .bool false)] ?_
    refine Ok.reval 47 rfl (show (.bool false : Value) = .bool (((true && ((cNuS xd xl).2 == (sfitS xd xl))) && ((cMaS xd xl).2 == (sfitS xd xl))) && ((((cNuS xd xl).1).length : Int) == 0)) from congrArg Value.bool (mand_f hc13)) (Ok.bat 0 [8] [(47, .bool (((true && ((cNuS xd xl).2 == (sfitS xd xl))) && ((cMaS xd xl).2 == (sfitS xd xl))) && ((((cNuS xd xl).1).length : Int) == 0)))] ?_)
    exact hR12
  refine Ok.bat 1 [8] [(48, .bool (((true && ((cNuS xd xl).2 == (sfitS xd xl))) && ((cMaS xd xl).2 == (sfitS xd xl))) && ((((cNuS xd xl).1).length : Int) == 0)))] ?_
  refine Ok.midway 4 [(52, .bool ((((true && ((cNuS xd xl).2 == (sfitS xd xl))) && ((cMaS xd xl).2 == (sfitS xd xl))) && ((((cNuS xd xl).1).length : Int) == 0)) && ((((cMaS xd xl).1).length : Int) == 0)))] (fun hR14 => ?_) ?_
  ·refine Ok.boolAt 48 ((((true && ((cNuS xd xl).2 == (sfitS xd xl))) && ((cMaS xd xl).2 == (sfitS xd xl))) && ((((cNuS xd xl).1).length : Int) == 0))) rfl (fun hc15 => ?_) (fun hc15 => ?_)
   ·skip
    refine Ok.batch 4 [(52, .bool ((((cMaS xd xl).1).length : Int) == 0))] (by kernel_rfl) (Ok.reval 52 rfl (show (.bool ((((cMaS xd xl).1).length : Int) == 0) : Value) = .bool ((((true && ((cNuS xd xl).2 == (sfitS xd xl))) && ((cMaS xd xl).2 == (sfitS xd xl))) && ((((cNuS xd xl).1).length : Int) == 0)) && ((((cMaS xd xl).1).length : Int) == 0)) from congrArg Value.bool (mand_t hc15)) (Ok.batch 0 [(52, .bool ((((true && ((cNuS xd xl).2 == (sfitS xd xl))) && ((cMaS xd xl).2 == (sfitS xd xl))) && ((((cNuS xd xl).1).length : Int) == 0)) && ((((cMaS xd xl).1).length : Int) == 0)))] (by kernel_rfl) ?_))
    exact hR14
   ·skip
    refine Ok.batch 4 [(52, .bool false)] (by kernel_rfl) (Ok.reval 52 rfl (show (.bool false : Value) = .bool ((((true && ((cNuS xd xl).2 == (sfitS xd xl))) && ((cMaS xd xl).2 == (sfitS xd xl))) && ((((cNuS xd xl).1).length : Int) == 0)) && ((((cMaS xd xl).1).length : Int) == 0)) from congrArg Value.bool (mand_f hc15)) (Ok.batch 0 [(52, .bool ((((true && ((cNuS xd xl).2 == (sfitS xd xl))) && ((cMaS xd xl).2 == (sfitS xd xl))) && ((((cNuS xd xl).1).length : Int) == 0)) && ((((cMaS xd xl).1).length : Int) == 0)))] (by kernel_rfl) ?_))
    exact hR14
  refine Ok.batch 1 [(4, .bool ((((true && ((cNuS xd xl).2 == (sfitS xd xl))) && ((cMaS xd xl).2 == (sfitS xd xl))) && ((((cNuS xd xl).1).length : Int) == 0)) && ((((cMaS xd xl).1).length : Int) == 0)))] (by kernel_rfl) (Ok.nil (Ok.thenN (Ok.ret (Ok.thenR ?_))))
  exact Ok.resP (vs := [.bool ((((true && ((cNuS xd xl).2 == (sfitS xd xl))) && ((cMaS xd xl).2 == (sfitS xd xl))) && ((((cNuS xd xl).1).length : Int) == 0)) && ((((cMaS xd xl).1).length : Int) == 0))]) [] [] (by decide) rfl (.inl rfl) rfl (.cons (.tmp rfl) .nil) (hx3.trans hx5) ⟨((((true && ((cNuS xd xl).2 == (sfitS xd xl))) && ((cMaS xd xl).2 == (sfitS xd xl))) && ((((cNuS xd xl).1).length : Int) == 0)) && ((((cMaS xd xl).1).length : Int) == 0)), rfl, rfl, hF⟩
 ·replace hF := hF.2 hc7
  refine Ok.skip (Ok.thenN (Ok.seq (Ok.cut (fun a W => ∃ gj20 : Ghost, Gext w0 g5 gj20 ∧ StA 130 [(1, .slice axl_0 xl.length cxl_0), (2, pv b1 0), (5, .bool true), (6, .slice a3_0 ((cNuS xd xl).1).length c3_0), (8, .slice a5_0 ((cMaS xd xl).1).length c5_0), (73, .bool (lcnV0 xd xl))] a ∧ StW w0 [.blk b1 (.cells #[.slice axd_0 xd.1.length cxd_0, .bool xd.2] 24)] gj20 W ∧ lcnj20 xd xl K) ?_ ?_)))
  ·
   refine Ok.region (Ok.bat 3 [1, 2, 5, 6, 8, 9] [(55, .bool ((cNuS xd xl).2 != 0))] ?_)
   refine Ok.midway 3 [(1, .slice axl_0 xl.length cxl_0), (2, pv b1 0), (5, .bool true), (6, .slice a3_0 ((cNuS xd xl).1).length c3_0), (8, .slice a5_0 ((cMaS xd xl).1).length c5_0), (58, .bool (((cNuS xd xl).2 != 0) || ((cMaS xd xl).2 != 0)))] (fun hR37 => ?_) ?_
   ·refine Ok.boolAt 55 (((cNuS xd xl).2 != 0)) rfl (fun hc38 => ?_) (fun hc38 => ?_)
    ·skip
     refine Ok.bat 3 [1, 2, 5, 6, 8] [(58, .bool true)] ?_
     refine Ok.reval 58 rfl (show (.bool true : Value) = .bool (((cNuS xd xl).2 != 0) || ((cMaS xd xl).2 != 0)) from congrArg Value.bool (mor_t hc38)) (Ok.bat 0 [1, 2, 5, 6, 8] [(58, .bool (((cNuS xd xl).2 != 0) || ((cMaS xd xl).2 != 0)))] ?_)
     exact hR37
    ·skip
     refine Ok.bat 3 [1, 2, 5, 6, 8] [(58, .bool ((cMaS xd xl).2 != 0))] ?_
     refine Ok.reval 58 rfl (show (.bool ((cMaS xd xl).2 != 0) : Value) = .bool (((cNuS xd xl).2 != 0) || ((cMaS xd xl).2 != 0)) from congrArg Value.bool (mor_f hc38)) (Ok.bat 0 [1, 2, 5, 6, 8] [(58, .bool (((cNuS xd xl).2 != 0) || ((cMaS xd xl).2 != 0)))] ?_)
     exact hR37
   refine Ok.bat 1 [1, 2, 5, 6, 8] [(59, .bool (((cNuS xd xl).2 != 0) || ((cMaS xd xl).2 != 0)))] ?_
   refine Ok.boolAt 59 ((((cNuS xd xl).2 != 0) || ((cMaS xd xl).2 != 0))) rfl (fun hc39 => ?_) (fun hc39 => ?_)
   ·replace hF := hF.1 hc39
    refine Ok.bat 14 [1, 2, 5, 6, 8] [(73, .bool true)] ?_
    refine Ok.nil (Ok.thenN (Ok.reval 73 rfl (show (.bool true : Value) = .bool (lcnV0 xd xl) from congrArg (Value.bool) (mor_t hc39)) ?_))
    exact fun a W hA hW => ⟨g5, (Gext.refl w0 g5), hA.sub (by kernel_rfl), hW, hF⟩
   ·replace hF := hF.2 hc39
    refine Ok.bat 3 [1, 2, 5, 6, 8] [(59, .bool false), (61, .int .i64 (((cNuS xd xl).1).length : Int)), (62, pv b1 0)] ?_
    refine Ok.opYes (j := 6) (d := 59) (want := false) (b := false) rfl (by kernel_rfl) (by kernel_rfl) rfl (OpOk.step (v := .slice axd_0 xd.1.length cxd_0) (Yields.load 0 rfl rfl Tryz.underlying22 rfl (by kernel_rfl)) rfl rfl (Ok.bat 4 [1, 2, 5, 6, 8] [(67, .bool ((((cNuS xd xl).1).length : Int) != (xd.1.length : Int)))] ?_))
    refine Ok.midway 6 [(1, .slice axl_0 xl.length cxl_0), (2, pv b1 0), (5, .bool true), (6, .slice a3_0 ((cNuS xd xl).1).length c3_0), (8, .slice a5_0 ((cMaS xd xl).1).length c5_0), (73, .bool (((((cNuS xd xl).1).length : Int) != (xd.1.length : Int)) || ((((cMaS xd xl).1).length : Int) != (((cNuS xd xl).1).length : Int))))] (fun hR40 => ?_) ?_
    ·refine Ok.boolAt 67 (((((cNuS xd xl).1).length : Int) != (xd.1.length : Int))) rfl (fun hc41 => ?_) (fun hc41 => ?_)
     ·skip
      refine Ok.bat 6 [1, 2, 5, 6, 8] [(73, .bool true)] ?_
      refine Ok.reval 73 rfl (show (.bool true : Value) = .bool (((((cNuS xd xl).1).length : Int) != (xd.1.length : Int)) || ((((cMaS xd xl).1).length : Int) != (((cNuS xd xl).1).length : Int))) from congrArg Value.bool (mor_t hc41)) (Ok.bat 0 [1, 2, 5, 6, 8] [(73, .bool (((((cNuS xd xl).1).length : Int) != (xd.1.length : Int)) || ((((cMaS xd xl).1).length : Int) != (((cNuS xd xl).1).length : Int))))] ?_)
      exact hR40
     ·skip
      refine Ok.bat 6 [1, 2, 5, 6, 8] [(73, .bool ((((cMaS xd xl).1).length : Int) != (((cNuS xd xl).1).length : Int)))] ?_
      refine Ok.reval 73 rfl (show (.bool ((((cMaS xd xl).1).length : Int) != (((cNuS xd xl).1).length : Int)) : Value) = .bool (((((cNuS xd xl).1).length : Int) != (xd.1.length : Int)) || ((((cMaS xd xl).1).length : Int) != (((cNuS xd xl).1).length : Int))) from congrArg Value.bool (mor_f hc41)) (Ok.bat 0 [1, 2, 5, 6, 8] [(73, .bool (((((cNuS xd xl).1).length : Int) != (xd.1.length : Int)) || ((((cMaS xd xl).1).length : Int) != (((cNuS xd xl).1).length : Int))))] ?_)
      exact hR40
    refine Ok.nil (Ok.thenN (Ok.reval 73 rfl (show (.bool (((((cNuS xd xl).1).length : Int) != (xd.1.length : Int)) || ((((cMaS xd xl).1).length : Int) != (((cNuS xd xl).1).length : Int))) : Value) = .bool (lcnV0 xd xl) from congrArg (Value.bool) (mor_f hc39)) ?_))
    exact fun a W hA hW => ⟨g5, (Gext.refl w0 g5), hA.sub (by kernel_rfl), hW, hF⟩
  ·
   clear hF
   rintro a W ⟨gj20, hxj20, hA, hW, hF⟩
   refine (?_ : Ok _ _ _ _ _ _) a W hA hW
   clear hA hW
   replace hRxl_0 := hRxl_0.mono hxj20.1
   replace hR3_0 := hR3_0.mono hxj20.1
   replace hR5_0 := hR5_0.mono hxj20.1
   replace hRxd_0 := hRxd_0.mono hxj20.1
   replace hG2 := hG2.mono hxj20.1
   replace hG7 := hG7.mono hxj20.1
   replace hG8 := hG8.mono hxj20.1
   replace hG9 := hG9.mono hxj20.1
   refine Ok.cond (b := (lcnV0 xd xl)) rfl (fun hc16 => ?_) (fun hc16 => ?_)
   ·replace hF := hF.1 hc16
    refine Ok.seq (Ok.region (Ok.batch 1 [(4, .bool false)] (by kernel_rfl) (Ok.nil (Ok.thenN (Ok.ret (Ok.thenR ?_))))))
    exact Ok.resP (vs := [.bool false]) [] [] (by decide) rfl (.inl rfl) rfl (.cons (.tmp rfl) .nil) ((hx3.trans hx5).trans hxj20) ⟨false, rfl, rfl, hF⟩
   ·replace hF := hF.2 hc16
    refine Ok.skip (Ok.thenN (Ok.seq (Ok.seq (Ok.region (Ok.bat 1 [1, 2, 5, 6, 8] [(11, .int .i64 0)] ?_)))))
    refine Ok.nil (Ok.thenN (Ok.block ?_))
    obtain ⟨k, hF⟩ := hF
    refine Ok.loop (fun k a W => ∃ gl31 : Ghost, Gext w0 gj20 gl31 ∧ ∃ (x11l31 : Int), StA 130 [(1, .slice axl_0 xl.length cxl_0), (2, pv b1 0), (5, .bool true), (6, .slice a3_0 ((cNuS xd xl).1).length c3_0), (8, .slice a5_0 ((cMaS xd xl).1).length c5_0), (11, .int .i64 x11l31)] a ∧ StW w0 [.blk b1 (.cells #[.slice axd_0 xd.1.length cxd_0, .bool xd.2] 24)] gl31 W ∧ lcnl31 xd xl K k x11l31) k ?_ ?_
    ·
     exact fun a W hA hW => ⟨gj20, (Gext.refl w0 gj20), 0, hA.sub (by kernel_rfl), hW, hF⟩
    ·
     clear hF
     rintro k31 a W ⟨gl31, hxl31, x11l31, hA, hW, hF⟩
     cases k31 with
     | zero => exact (hF : False).elim
     | succ k31 =>
      refine (?_ : Ok _ _ _ _ _ _) a W hA hW
      clear hA hW
      replace hRxl_0 := hRxl_0.mono hxl31.1
      replace hR3_0 := hR3_0.mono hxl31.1
      replace hR5_0 := hR5_0.mono hxl31.1
      replace hRxd_0 := hRxd_0.mono hxl31.1
      replace hG2 := hG2.mono hxl31.1
      replace hG7 := hG7.mono hxl31.1
      replace hG8 := hG8.mono hxl31.1
      replace hG9 := hG9.mono hxl31.1
      refine Ok.seq (Ok.seq (Ok.region (Ok.bat 4 [1, 2, 5, 6, 8, 11] [(77, .bool (decide (x11l31 < (((cNuS xd xl).1).length : Int))))] ?_)))
      refine Ok.nil (Ok.thenN (Ok.cond (b := decide (x11l31 < (((cNuS xd xl).1).length : Int))) rfl (fun hc17 => ?_) (fun hc17 => ?_)))
      ·replace hF := hF.1 hc17
       refine Ok.skip (Ok.thenN (Ok.seq (Ok.block (Ok.seq (Ok.region (Ok.op rfl (OpOk.step (v := .agg #[.slice axd_0 xd.1.length cxd_0, .bool xd.2]) (Yields.loadAgg 0 2 #[.slice axd_0 xd.1.length cxd_0, .bool xd.2] rfl rfl Tryz.underlying24 rfl (by kernel_rfl) (by kernel_rfl) (by kernel_rfl)) rfl rfl (Ok.bat 2 [1, 2, 5, 6, 8, 11] [(80, .agg #[.slice axd_0 xd.1.length cxd_0, .bool xd.2]), (81, .slice axl_0 xl.length cxl_0), (82, .int .i64 x11l31)] ?_))))))))
       obtain ⟨hp18, hF⟩ := hF
       refine Ok.op rfl (OpOk.callG (v := .int .i64 (rnoS xd xl x11l31)) enr (fun W hW => rno_c xd xl x11l31 (hRxd_0.mono hW.sees) (hRxl_0.mono hW.sees) hp18) rfl ?_)
       refine Ok.bat 1 [1, 2, 5, 6, 8, 11] [(12, .int .i64 (rnoS xd xl x11l31))] ?_
       refine Ok.nil (Ok.thenN (Ok.seq (Ok.region (Ok.bat 1 [1, 2, 5, 6, 8, 11, 12] [(13, sv ([] : Bs))] ?_))))
       refine Ok.nil (Ok.thenN (Ok.cut (fun a W => ∃ gj44 : Ghost, Gext w0 gl31 gj44 ∧ StA 130 [(1, .slice axl_0 xl.length cxl_0), (2, pv b1 0), (5, .bool true), (6, .slice a3_0 ((cNuS xd xl).1).length c3_0), (8, .slice a5_0 ((cMaS xd xl).1).length c5_0), (11, .int .i64 x11l31), (12, .int .i64 (rnoS xd xl x11l31)), (13, sv (lcnV7 xd xl x11l31))] a ∧ StW w0 [.blk b1 (.cells #[.slice axd_0 xd.1.length cxd_0, .bool xd.2] 24)] gj44 W ∧ lcnj44 xd xl K x11l31 (lcnl31 xd xl K k31)) ?_ ?_))
       ·
        refine Ok.cut (fun a W => ∃ gj45 : Ghost, Gext w0 gl31 gj45 ∧ StA 130 [(1, .slice axl_0 xl.length cxl_0), (2, pv b1 0), (5, .bool true), (6, .slice a3_0 ((cNuS xd xl).1).length c3_0), (8, .slice a5_0 ((cMaS xd xl).1).length c5_0), (11, .int .i64 x11l31), (12, .int .i64 (rnoS xd xl x11l31)), (13, sv ([] : Bs)), (96, .bool (lcnV6 xd xl x11l31))] a ∧ StW w0 [.blk b1 (.cells #[.slice axd_0 xd.1.length cxd_0, .bool xd.2] 24)] gj45 W ∧ lcnj45 xd xl K x11l31 (lcnl31 xd xl K k31)) ?_ ?_
        ·
         refine Ok.region (Ok.op rfl (OpOk.step (v := .agg #[.slice axd_0 xd.1.length cxd_0, .bool xd.2]) (Yields.loadAgg 0 2 #[.slice axd_0 xd.1.length cxd_0, .bool xd.2] rfl rfl Tryz.underlying24 rfl (by kernel_rfl) (by kernel_rfl) (by kernel_rfl)) rfl rfl (Ok.bat 2 [1, 2, 5, 6, 8, 11, 12, 13] [(84, .agg #[.slice axd_0 xd.1.length cxd_0, .bool xd.2]), (85, .slice axl_0 xl.length cxl_0), (86, .int .i64 x11l31)] ?_)))
         obtain ⟨hp33, hF⟩ := hF
         refine Ok.op rfl (OpOk.callG (v := .bool (citS xd xl x11l31)) enr (fun W hW => rit_c xd xl x11l31 (hRxd_0.mono hW.sees) (hRxl_0.mono hW.sees) hp33) rfl ?_)
         refine Ok.bat 1 [1, 2, 5, 6, 8, 11, 12, 13] [(88, .bool (citS xd xl x11l31))] ?_
         refine Ok.boolAt 88 ((citS xd xl x11l31)) rfl (fun hc34 => ?_) (fun hc34 => ?_)
         ·replace hF := hF.1 hc34
          refine Ok.bat 2 [1, 2, 5, 6, 8, 11, 12, 13] [(88, .bool true), (89, .slice axl_0 xl.length cxl_0), (90, .int .i64 x11l31)] ?_
          obtain ⟨h036, h136, hF⟩ := hF
          have he36 := get_of (l := xl) (default : STE) h136
          generalize hg36 : (xl.getD (Int.toNat x11l31) default) = e36 at he36 hF ⊢
          refine Ok.opYes (j := 4) (d := 88) (want := true) (b := true) rfl (by kernel_rfl) (by kernel_rfl) rfl (OpOk.indexRo (e := .pair (.pair (.int .i64) (.int .i64)) (.pair (.pair (.int .i64) (.int .i64)) (.pair (.pair (.int .i64) (.int .i64)) (.pair (.pair (.int .i64) (.int .i64)) (.pair (.pair (.int .i64) (.int .i64)) (.pair (.pair (.int .i64) (.int .i64)) (.pair (.pair (.int .i64) (.int .i64)) (.pair (.pair (.int .i64) (.int .i64)) (.pair (.pair (.int .i64) (.int .i64)) (.pair (.pair (.int .i64) (.int .i64)) (.pair (.pair (.int .i64) (.int .i64)) (.pair (.pair (.int .i64) (.int .i64)) (.pair (.pair (.int .i64) (.int .i64)) (.pair (.pair (.int .i64) (.int .i64)) (.pair (.pair (.int .i64) (.int .i64)) (.pair (.pair (.int .i64) (.int .i64)) (.pair (.pair (.int .i64) (.int .i64)) (.pair (.pair (.int .i64) (.int .i64)) (.pair (.pair (.int .i64) (.int .i64)) (.pair (.pair (.int .i64) (.int .i64)) (.pair (.pair (.int .i64) (.int .i64)) (.pair (.pair (.int .i64) (.int .i64)) (.pair (.pair (.int .i64) (.int .i64)) (.pair (.pair (.int .i64) (.int .i64)) (.pair (.pair (.int .i64) (.int .i64)) (.pair (.pair (.int .i64) (.int .i64)) (.pair (.pair (.int .i64) (.int .i64)) (.pair (.pair (.int .i64) (.int .i64)) (.pair (.pair (.int .i64) (.int .i64)) (.pair (.pair (.int .i64) (.int .i64)) (.pair (.pair (.int .i64) (.int .i64)) (.pair (.pair (.int .i64) (.int .i64)) (.pair (.pair (.int .i64) (.int .i64)) (.pair (.pair (.int .i64) (.int .i64)) (.pair (.pair (.int .i64) (.int .i64)) (.pair (.pair (.int .i64) (.int .i64)) (.pair (.pair (.int .i64) (.int .i64)) (.pair (.pair (.int .i64) (.int .i64)) (.pair (.pair (.int .i64) (.int .i64)) (.pair (.pair (.int .i64) (.int .i64)) (.pair (.pair (.int .i64) (.int .i64)) (.pair (.pair (.int .i64) (.int .i64)) (.pair (.pair (.int .i64) (.int .i64)) (.pair (.pair (.int .i64) (.int .i64)) (.pair (.pair (.int .i64) (.int .i64)) (.pair (.pair (.int .i64) (.int .i64)) (.pair (.pair (.int .i64) (.int .i64)) (.pair (.pair (.int .i64) (.int .i64)) (.pair (.pair (.int .i64) (.int .i64)) (.pair (.pair (.int .i64) (.int .i64)) (.pair (.pair (.int .i64) (.int .i64)) (.pair (.pair (.int .i64) (.int .i64)) (.pair (.pair (.int .i64) (.int .i64)) (.pair (.pair (.int .i64) (.int .i64)) (.pair (.pair (.int .i64) (.int .i64)) (.pair (.pair (.int .i64) (.int .i64)) (.pair (.pair (.int .i64) (.int .i64)) (.pair (.pair (.int .i64) (.int .i64)) (.pair (.int .i64) (.int .i64)))))))))))))))))))))))))))))))))))))))))))))))))))))))))))) (i := x11l31) (el := e36) rfl rfl Tryz.underlying34 (by kernel_rfl) hRxl_0 h036 he36 rfl fun q35 o35 cs35 _ hat35 hr35 => ?_)
          obtain rfl : cs35 = (cel46 e36) := Rep.flatEq (by kernel_rfl) hr35 (by kernel_rfl)
          replace hat35 : At gl31 q35 o35 (cel46 e36) := hat35
          refine Ok.bat 2 [1, 2, 5, 6, 8, 11, 12, 13, 88] [(93, .pointer (some ⟨q35, o35 + 115, none⟩))] ?_
          refine Ok.opYes (j := 4) (d := 88) (want := true) (b := true) rfl (by kernel_rfl) (by kernel_rfl) rfl (OpOk.step (v := .int .i64 e36.2.2.2.2.2.2.2.2.2.2.2.2.2.2.2.2.2.2.2.2.2.2.2.2.2.2.2.2.2.2.2.2.2.2.2.2.2.2.2.2.2.2.2.2.2.2.2.2.2.2.2.2.2.2.2.2.2.1.2) (Yields.loadRo 115 hat35 (by kernel_rfl) Tryz.underlying3 rfl (by kernel_rfl)) rfl rfl (Ok.bat 2 [1, 2, 5, 6, 8, 11, 12, 13] [(96, .bool (e36.2.2.2.2.2.2.2.2.2.2.2.2.2.2.2.2.2.2.2.2.2.2.2.2.2.2.2.2.2.2.2.2.2.2.2.2.2.2.2.2.2.2.2.2.2.2.2.2.2.2.2.2.2.2.2.2.2.1.2 == 1))] ?_))
          refine Ok.nil (Ok.thenN ?_)
          subst hg36
          refine Ok.reval 96 rfl (show (.bool ((xl.getD (Int.toNat x11l31) default).2.2.2.2.2.2.2.2.2.2.2.2.2.2.2.2.2.2.2.2.2.2.2.2.2.2.2.2.2.2.2.2.2.2.2.2.2.2.2.2.2.2.2.2.2.2.2.2.2.2.2.2.2.2.2.2.2.1.2 == 1) : Value) = .bool (lcnV6 xd xl x11l31) from congrArg (Value.bool) (mand_t hc34)) ?_
          exact fun a W hA hW => ⟨gl31, (Gext.refl w0 gl31), hA.sub (by kernel_rfl), hW, hF⟩
         ·replace hF := hF.2 hc34
          refine Ok.bat 8 [1, 2, 5, 6, 8, 11, 12, 13] [(96, .bool false)] ?_
          refine Ok.nil (Ok.thenN (Ok.reval 96 rfl (show (.bool false : Value) = .bool (lcnV6 xd xl x11l31) from congrArg (Value.bool) (mand_f hc34)) ?_))
          exact fun a W hA hW => ⟨gl31, (Gext.refl w0 gl31), hA.sub (by kernel_rfl), hW, hF⟩
        ·
         clear hF
         rintro a W ⟨gj45, hxj45, hA, hW, hF⟩
         refine (?_ : Ok _ _ _ _ _ _) a W hA hW
         clear hA hW
         replace hRxl_0 := hRxl_0.mono hxj45.1
         replace hR3_0 := hR3_0.mono hxj45.1
         replace hR5_0 := hR5_0.mono hxj45.1
         replace hRxd_0 := hRxd_0.mono hxj45.1
         replace hG2 := hG2.mono hxj45.1
         replace hG7 := hG7.mono hxj45.1
         replace hG8 := hG8.mono hxj45.1
         replace hG9 := hG9.mono hxj45.1
         refine Ok.cond (b := (lcnV6 xd xl x11l31)) rfl (fun hc31 => ?_) (fun hc31 => ?_)
         ·replace hF := hF.1 hc31
          refine Ok.region (Ok.bat 1 [1, 2, 5, 6, 8, 11, 12] [(97, .int .i64 (rnoS xd xl x11l31))] ?_)
          obtain ⟨hp32, hF⟩ := hF
          refine Ok.op rfl (OpOk.callG (v := sv (cmarkM 1 (rnoS xd xl x11l31))) enr (fun W hW => rmark_c 1 (rnoS xd xl x11l31) hp32) rfl ?_)
          refine Ok.bat 1 [1, 2, 5, 6, 8, 11, 12] [(13, sv (cmarkM 1 (rnoS xd xl x11l31)))] ?_
          refine Ok.nil (Ok.thenN (Ok.reval 13 rfl (show (sv (cmarkM 1 (rnoS xd xl x11l31)) : Value) = sv (lcnV7 xd xl x11l31) from congrArg ((fun s : Bs => Value.string ⟨⟨s⟩⟩)) ((if_t hc31).symm)) ?_))
          exact fun a W hA hW => ⟨gj45, hxj45, hA.sub (by kernel_rfl), hW, hF⟩
         ·replace hF := hF.2 hc31
          refine Ok.skip (Ok.thenN (Ok.reval 13 rfl (show (sv ([] : Bs) : Value) = sv (lcnV7 xd xl x11l31) from congrArg ((fun s : Bs => Value.string ⟨⟨s⟩⟩)) ((if_f hc31).symm)) ?_))
          exact fun a W hA hW => ⟨gj45, hxj45, hA.sub (by kernel_rfl), hW, hF⟩
       ·
        clear hF
        rintro a W ⟨gj44, hxj44, hA, hW, hF⟩
        refine (?_ : Ok _ _ _ _ _ _) a W hA hW
        clear hA hW
        replace hRxl_0 := hRxl_0.mono hxj44.1
        replace hR3_0 := hR3_0.mono hxj44.1
        replace hR5_0 := hR5_0.mono hxj44.1
        replace hRxd_0 := hRxd_0.mono hxj44.1
        replace hG2 := hG2.mono hxj44.1
        replace hG7 := hG7.mono hxj44.1
        replace hG8 := hG8.mono hxj44.1
        replace hG9 := hG9.mono hxj44.1
        refine Ok.cut (fun a W => ∃ gj50 : Ghost, Gext w0 gj44 gj50 ∧ StA 130 [(1, .slice axl_0 xl.length cxl_0), (2, pv b1 0), (5, .bool true), (6, .slice a3_0 ((cNuS xd xl).1).length c3_0), (8, .slice a5_0 ((cMaS xd xl).1).length c5_0), (11, .int .i64 x11l31), (12, .int .i64 (rnoS xd xl x11l31)), (13, sv (lcnV9 xd xl x11l31))] a ∧ StW w0 [.blk b1 (.cells #[.slice axd_0 xd.1.length cxd_0, .bool xd.2] 24)] gj50 W ∧ lcnj50 xd xl K x11l31 (lcnl31 xd xl K k31)) ?_ ?_
        ·
         refine Ok.cut (fun a W => ∃ gj51 : Ghost, Gext w0 gj44 gj51 ∧ StA 130 [(1, .slice axl_0 xl.length cxl_0), (2, pv b1 0), (5, .bool true), (6, .slice a3_0 ((cNuS xd xl).1).length c3_0), (8, .slice a5_0 ((cMaS xd xl).1).length c5_0), (11, .int .i64 x11l31), (12, .int .i64 (rnoS xd xl x11l31)), (13, sv (lcnV7 xd xl x11l31)), (111, .bool (lcnV8 xd xl x11l31))] a ∧ StW w0 [.blk b1 (.cells #[.slice axd_0 xd.1.length cxd_0, .bool xd.2] 24)] gj51 W ∧ lcnj51 xd xl K x11l31 (lcnl31 xd xl K k31)) ?_ ?_
         ·
          refine Ok.region (Ok.op rfl (OpOk.step (v := .agg #[.slice axd_0 xd.1.length cxd_0, .bool xd.2]) (Yields.loadAgg 0 2 #[.slice axd_0 xd.1.length cxd_0, .bool xd.2] rfl rfl Tryz.underlying24 rfl (by kernel_rfl) (by kernel_rfl) (by kernel_rfl)) rfl rfl (Ok.bat 2 [1, 2, 5, 6, 8, 11, 12, 13] [(99, .agg #[.slice axd_0 xd.1.length cxd_0, .bool xd.2]), (100, .slice axl_0 xl.length cxl_0), (101, .int .i64 x11l31)] ?_)))
          obtain ⟨hp27, hF⟩ := hF
          refine Ok.op rfl (OpOk.callG (v := .bool (citS xd xl x11l31)) enr (fun W hW => rit_c xd xl x11l31 (hRxd_0.mono hW.sees) (hRxl_0.mono hW.sees) hp27) rfl ?_)
          refine Ok.bat 1 [1, 2, 5, 6, 8, 11, 12, 13] [(103, .bool (citS xd xl x11l31))] ?_
          refine Ok.boolAt 103 ((citS xd xl x11l31)) rfl (fun hc28 => ?_) (fun hc28 => ?_)
          ·replace hF := hF.1 hc28
           refine Ok.bat 2 [1, 2, 5, 6, 8, 11, 12, 13] [(103, .bool true), (104, .slice axl_0 xl.length cxl_0), (105, .int .i64 x11l31)] ?_
           obtain ⟨h030, h130, hF⟩ := hF
           have he30 := get_of (l := xl) (default : STE) h130
           generalize hg30 : (xl.getD (Int.toNat x11l31) default) = e30 at he30 hF ⊢
           refine Ok.opYes (j := 4) (d := 103) (want := true) (b := true) rfl (by kernel_rfl) (by kernel_rfl) rfl (OpOk.indexRo (e := .pair (.pair (.int .i64) (.int .i64)) (.pair (.pair (.int .i64) (.int .i64)) (.pair (.pair (.int .i64) (.int .i64)) (.pair (.pair (.int .i64) (.int .i64)) (.pair (.pair (.int .i64) (.int .i64)) (.pair (.pair (.int .i64) (.int .i64)) (.pair (.pair (.int .i64) (.int .i64)) (.pair (.pair (.int .i64) (.int .i64)) (.pair (.pair (.int .i64) (.int .i64)) (.pair (.pair (.int .i64) (.int .i64)) (.pair (.pair (.int .i64) (.int .i64)) (.pair (.pair (.int .i64) (.int .i64)) (.pair (.pair (.int .i64) (.int .i64)) (.pair (.pair (.int .i64) (.int .i64)) (.pair (.pair (.int .i64) (.int .i64)) (.pair (.pair (.int .i64) (.int .i64)) (.pair (.pair (.int .i64) (.int .i64)) (.pair (.pair (.int .i64) (.int .i64)) (.pair (.pair (.int .i64) (.int .i64)) (.pair (.pair (.int .i64) (.int .i64)) (.pair (.pair (.int .i64) (.int .i64)) (.pair (.pair (.int .i64) (.int .i64)) (.pair (.pair (.int .i64) (.int .i64)) (.pair (.pair (.int .i64) (.int .i64)) (.pair (.pair (.int .i64) (.int .i64)) (.pair (.pair (.int .i64) (.int .i64)) (.pair (.pair (.int .i64) (.int .i64)) (.pair (.pair (.int .i64) (.int .i64)) (.pair (.pair (.int .i64) (.int .i64)) (.pair (.pair (.int .i64) (.int .i64)) (.pair (.pair (.int .i64) (.int .i64)) (.pair (.pair (.int .i64) (.int .i64)) (.pair (.pair (.int .i64) (.int .i64)) (.pair (.pair (.int .i64) (.int .i64)) (.pair (.pair (.int .i64) (.int .i64)) (.pair (.pair (.int .i64) (.int .i64)) (.pair (.pair (.int .i64) (.int .i64)) (.pair (.pair (.int .i64) (.int .i64)) (.pair (.pair (.int .i64) (.int .i64)) (.pair (.pair (.int .i64) (.int .i64)) (.pair (.pair (.int .i64) (.int .i64)) (.pair (.pair (.int .i64) (.int .i64)) (.pair (.pair (.int .i64) (.int .i64)) (.pair (.pair (.int .i64) (.int .i64)) (.pair (.pair (.int .i64) (.int .i64)) (.pair (.pair (.int .i64) (.int .i64)) (.pair (.pair (.int .i64) (.int .i64)) (.pair (.pair (.int .i64) (.int .i64)) (.pair (.pair (.int .i64) (.int .i64)) (.pair (.pair (.int .i64) (.int .i64)) (.pair (.pair (.int .i64) (.int .i64)) (.pair (.pair (.int .i64) (.int .i64)) (.pair (.pair (.int .i64) (.int .i64)) (.pair (.pair (.int .i64) (.int .i64)) (.pair (.pair (.int .i64) (.int .i64)) (.pair (.pair (.int .i64) (.int .i64)) (.pair (.pair (.int .i64) (.int .i64)) (.pair (.pair (.int .i64) (.int .i64)) (.pair (.int .i64) (.int .i64)))))))))))))))))))))))))))))))))))))))))))))))))))))))))))) (i := x11l31) (el := e30) rfl rfl Tryz.underlying34 (by kernel_rfl) hRxl_0 h030 he30 rfl fun q29 o29 cs29 _ hat29 hr29 => ?_)
           obtain rfl : cs29 = (cel46 e30) := Rep.flatEq (by kernel_rfl) hr29 (by kernel_rfl)
           replace hat29 : At gj44 q29 o29 (cel46 e30) := hat29
           refine Ok.bat 2 [1, 2, 5, 6, 8, 11, 12, 13, 103] [(108, .pointer (some ⟨q29, o29 + 115, none⟩))] ?_
           refine Ok.opYes (j := 4) (d := 103) (want := true) (b := true) rfl (by kernel_rfl) (by kernel_rfl) rfl (OpOk.step (v := .int .i64 e30.2.2.2.2.2.2.2.2.2.2.2.2.2.2.2.2.2.2.2.2.2.2.2.2.2.2.2.2.2.2.2.2.2.2.2.2.2.2.2.2.2.2.2.2.2.2.2.2.2.2.2.2.2.2.2.2.2.1.2) (Yields.loadRo 115 hat29 (by kernel_rfl) Tryz.underlying3 rfl (by kernel_rfl)) rfl rfl (Ok.bat 2 [1, 2, 5, 6, 8, 11, 12, 13] [(111, .bool (e30.2.2.2.2.2.2.2.2.2.2.2.2.2.2.2.2.2.2.2.2.2.2.2.2.2.2.2.2.2.2.2.2.2.2.2.2.2.2.2.2.2.2.2.2.2.2.2.2.2.2.2.2.2.2.2.2.2.1.2 == 2))] ?_))
           refine Ok.nil (Ok.thenN ?_)
           subst hg30
           refine Ok.reval 111 rfl (show (.bool ((xl.getD (Int.toNat x11l31) default).2.2.2.2.2.2.2.2.2.2.2.2.2.2.2.2.2.2.2.2.2.2.2.2.2.2.2.2.2.2.2.2.2.2.2.2.2.2.2.2.2.2.2.2.2.2.2.2.2.2.2.2.2.2.2.2.2.1.2 == 2) : Value) = .bool (lcnV8 xd xl x11l31) from congrArg (Value.bool) (mand_t hc28)) ?_
           exact fun a W hA hW => ⟨gj44, (Gext.refl w0 gj44), hA.sub (by kernel_rfl), hW, hF⟩
          ·replace hF := hF.2 hc28
           refine Ok.bat 8 [1, 2, 5, 6, 8, 11, 12, 13] [(111, .bool false)] ?_
           refine Ok.nil (Ok.thenN (Ok.reval 111 rfl (show (.bool false : Value) = .bool (lcnV8 xd xl x11l31) from congrArg (Value.bool) (mand_f hc28)) ?_))
           exact fun a W hA hW => ⟨gj44, (Gext.refl w0 gj44), hA.sub (by kernel_rfl), hW, hF⟩
         ·
          clear hF
          rintro a W ⟨gj51, hxj51, hA, hW, hF⟩
          refine (?_ : Ok _ _ _ _ _ _) a W hA hW
          clear hA hW
          replace hRxl_0 := hRxl_0.mono hxj51.1
          replace hR3_0 := hR3_0.mono hxj51.1
          replace hR5_0 := hR5_0.mono hxj51.1
          replace hRxd_0 := hRxd_0.mono hxj51.1
          replace hG2 := hG2.mono hxj51.1
          replace hG7 := hG7.mono hxj51.1
          replace hG8 := hG8.mono hxj51.1
          replace hG9 := hG9.mono hxj51.1
          refine Ok.cond (b := (lcnV8 xd xl x11l31)) rfl (fun hc25 => ?_) (fun hc25 => ?_)
          ·replace hF := hF.1 hc25
           refine Ok.region (Ok.bat 1 [1, 2, 5, 6, 8, 11, 12] [(112, .int .i64 (rnoS xd xl x11l31))] ?_)
           obtain ⟨hp26, hF⟩ := hF
           refine Ok.op rfl (OpOk.callG (v := sv (Lib.itoa (rnoS xd xl x11l31))) enr (fun W hW => sgn_c (rnoS xd xl x11l31) hp26) rfl ?_)
           obtain ⟨hv, hF⟩ := hF
           refine Ok.op rfl (OpOk.step (v := sv ((Lib.itoa (rnoS xd xl x11l31)) ++ ([46] : Bs))) (Yields.strAdd rfl rfl hv) rfl rfl (Ok.bat 1 [1, 2, 5, 6, 8, 11, 12] [(13, sv ((Lib.itoa (rnoS xd xl x11l31)) ++ ([46] : Bs)))] ?_))
           refine Ok.nil (Ok.thenN (Ok.reval 13 rfl (show (sv ((Lib.itoa (rnoS xd xl x11l31)) ++ ([46] : Bs)) : Value) = sv (lcnV9 xd xl x11l31) from congrArg ((fun s : Bs => Value.string ⟨⟨s⟩⟩)) ((if_t hc25).symm)) ?_))
           exact fun a W hA hW => ⟨gj51, hxj51, hA.sub (by kernel_rfl), hW, hF⟩
          ·replace hF := hF.2 hc25
           refine Ok.skip (Ok.thenN (Ok.reval 13 rfl (show (sv (lcnV7 xd xl x11l31) : Value) = sv (lcnV9 xd xl x11l31) from congrArg ((fun s : Bs => Value.string ⟨⟨s⟩⟩)) ((if_f hc25).symm)) ?_))
           exact fun a W hA hW => ⟨gj51, hxj51, hA.sub (by kernel_rfl), hW, hF⟩
        ·
         clear hF
         rintro a W ⟨gj50, hxj50, hA, hW, hF⟩
         refine (?_ : Ok _ _ _ _ _ _) a W hA hW
         clear hA hW
         replace hRxl_0 := hRxl_0.mono hxj50.1
         replace hR3_0 := hR3_0.mono hxj50.1
         replace hR5_0 := hR5_0.mono hxj50.1
         replace hRxd_0 := hRxd_0.mono hxj50.1
         replace hG2 := hG2.mono hxj50.1
         replace hG7 := hG7.mono hxj50.1
         replace hG8 := hG8.mono hxj50.1
         replace hG9 := hG9.mono hxj50.1
         refine Ok.cut (fun a W => ∃ gj56 : Ghost, Gext w0 gj50 gj56 ∧ StA 130 [(1, .slice axl_0 xl.length cxl_0), (2, pv b1 0), (5, .bool true), (6, .slice a3_0 ((cNuS xd xl).1).length c3_0), (8, .slice a5_0 ((cMaS xd xl).1).length c5_0), (11, .int .i64 x11l31), (128, .bool (lcnV11 xd xl x11l31))] a ∧ StW w0 [.blk b1 (.cells #[.slice axd_0 xd.1.length cxd_0, .bool xd.2] 24)] gj56 W ∧ lcnj56 xd xl K x11l31 (lcnl31 xd xl K k31)) ?_ ?_
         ·
          refine Ok.region (Ok.bat 2 [1, 2, 5, 6, 8, 11, 12, 13] [(115, .slice a3_0 ((cNuS xd xl).1).length c3_0), (116, .int .i64 x11l31)] ?_)
          obtain ⟨h021, h121, hF⟩ := hF
          have he21 := get_of (l := (cNuS xd xl).1) (default : Int) h121
          generalize hg21 : (((cNuS xd xl).1).getD (Int.toNat x11l31) default) = e21 at he21 hF ⊢
          refine Ok.op rfl (OpOk.indexRo (e := .int .i64) (i := x11l31) (el := e21) rfl rfl Tryz.underlying36 (by kernel_rfl) hR3_0 h021 he21 rfl fun q20 o20 cs20 _ hat20 hr20 => ?_)
          obtain rfl := hr20
          replace hat20 : At gj50 q20 o20 [.int .i64 e21] := hat20
          refine Ok.op rfl (OpOk.step (v := .int .i64 e21) (Yields.loadRo 0 hat20 (by kernel_rfl) Tryz.underlying3 rfl (by kernel_rfl)) rfl rfl (Ok.bat 3 [1, 2, 5, 6, 8, 11, 13] [(121, .bool (e21 != (rnoS xd xl x11l31)))] ?_))
          refine Ok.boolAt 121 ((e21 != (rnoS xd xl x11l31))) rfl (fun hc22 => ?_) (fun hc22 => ?_)
          ·replace hF := hF.1 hc22
           refine Ok.bat 7 [1, 2, 5, 6, 8, 11] [(128, .bool true)] ?_
           refine Ok.nil (Ok.thenN ?_)
           subst hg21
           refine Ok.reval 128 rfl (show (.bool true : Value) = .bool (lcnV11 xd xl x11l31) from congrArg (Value.bool) (mor_t hc22)) ?_
           exact fun a W hA hW => ⟨gj50, (Gext.refl w0 gj50), hA.sub (by kernel_rfl), hW, hF⟩
          ·replace hF := hF.2 hc22
           refine Ok.bat 2 [1, 2, 5, 6, 8, 11, 13] [(121, .bool false), (122, .slice a5_0 ((cMaS xd xl).1).length c5_0), (123, .int .i64 x11l31)] ?_
           obtain ⟨h024, h124, hF⟩ := hF
           have he24 := get_of (l := (cMaS xd xl).1) (default : Bs) h124
           generalize hg24 : (((cMaS xd xl).1).getD (Int.toNat x11l31) default) = e24 at he24 hF ⊢
           refine Ok.opYes (j := 6) (d := 121) (want := false) (b := false) rfl (by kernel_rfl) (by kernel_rfl) rfl (OpOk.indexRo (e := .str) (i := x11l31) (el := e24) rfl rfl Tryz.underlying28 (by kernel_rfl) hR5_0 h024 he24 rfl fun q23 o23 cs23 _ hat23 hr23 => ?_)
           obtain rfl := hr23
           replace hat23 : At gj50 q23 o23 [sv e24] := hat23
           refine Ok.opYes (j := 6) (d := 121) (want := false) (b := false) rfl (by kernel_rfl) (by kernel_rfl) rfl (OpOk.step (v := sv e24) (Yields.loadRo 0 hat23 (by kernel_rfl) Tryz.underlying9 rfl (by kernel_rfl)) rfl rfl (Ok.bat 1 [1, 2, 5, 6, 8, 11, 121] [(125, sv e24), (126, sv (lcnV9 xd xl x11l31))] ?_))
           refine Ok.opYes (j := 6) (d := 121) (want := false) (b := false) rfl (by kernel_rfl) (by kernel_rfl) rfl (OpOk.step (v := .bool (!(e24 == (lcnV9 xd xl x11l31)))) (Yields.strCmp (f := .neq) (a := e24) (b := (lcnV9 xd xl x11l31)) (by kernel_rfl) (by kernel_rfl) rfl) rfl rfl (Ok.bat 1 [1, 2, 5, 6, 8, 11] [(128, .bool (!(e24 == (lcnV9 xd xl x11l31))))] ?_))
           refine Ok.nil (Ok.thenN ?_)
           subst hg24
           subst hg21
           refine Ok.reval 128 rfl (show (.bool (!((((cMaS xd xl).1).getD (Int.toNat x11l31) default) == (lcnV9 xd xl x11l31))) : Value) = .bool (lcnV11 xd xl x11l31) from congrArg (Value.bool) (mor_f hc22)) ?_
           exact fun a W hA hW => ⟨gj50, (Gext.refl w0 gj50), hA.sub (by kernel_rfl), hW, hF⟩
         ·
          clear hF
          rintro a W ⟨gj56, hxj56, hA, hW, hF⟩
          refine (?_ : Ok _ _ _ _ _ _) a W hA hW
          clear hA hW
          replace hRxl_0 := hRxl_0.mono hxj56.1
          replace hR3_0 := hR3_0.mono hxj56.1
          replace hR5_0 := hR5_0.mono hxj56.1
          replace hRxd_0 := hRxd_0.mono hxj56.1
          replace hG2 := hG2.mono hxj56.1
          replace hG7 := hG7.mono hxj56.1
          replace hG8 := hG8.mono hxj56.1
          replace hG9 := hG9.mono hxj56.1
          refine Ok.cond (b := (lcnV11 xd xl x11l31)) rfl (fun hc19 => ?_) (fun hc19 => ?_)
          ·replace hF := hF.1 hc19
           refine Ok.seq (Ok.region (Ok.batch 1 [(4, .bool false)] (by kernel_rfl) (Ok.nil (Ok.thenN (Ok.ret (Ok.blockR (Ok.thenR (Ok.thenR (Ok.blockR (Ok.thenR ?_))))))))))
           exact Ok.resP (vs := [.bool false]) [] [] (by decide) rfl (.inl rfl) rfl (.cons (.tmp rfl) .nil) ((((((hx3.trans hx5).trans hxj20).trans hxl31).trans hxj44).trans hxj50).trans hxj56) ⟨false, rfl, rfl, hF⟩
          ·replace hF := hF.2 hc19
           refine Ok.skip (Ok.blockN (Ok.thenN (Ok.region (Ok.bat 3 [1, 2, 5, 6, 8] [(11, .int .i64 (w6 (x11l31 + 1)))] ?_))))
           refine Ok.nil (Ok.thenN ?_)
           exact fun a W hA hW => ⟨k31, Nat.lt_succ_self _, gj56, (((hxl31.trans hxj44).trans hxj50).trans hxj56), w6 (x11l31 + 1), hA.sub (by kernel_rfl), hW, hF⟩
      ·replace hF := hF.2 hc17
       refine Ok.exit (Ok.thenE (Ok.thenE (Ok.blockHit (Ok.thenN (Ok.seq (Ok.region (Ok.batch 2 [(4, .bool true)] (by kernel_rfl) (Ok.nil (Ok.thenN (Ok.ret ?_))))))))))
       exact Ok.resP (vs := [.bool true]) [] [] (by decide) rfl (.inl rfl) rfl (.cons (.tmp rfl) .nil) (((hx3.trans hx5).trans hxj20).trans hxl31) ⟨true, rfl, rfl, hF⟩
def lcnP (d : DC) (l : STL) : Prop := DomS (.pair (.slice (.pair (.int .i64) (.pair (.str) (.pair (.slice (.pair (.str) (.str))) (.pair (.str) (.pair (.int .i64) (.slice (.int .i64)))))))) (.bool)) d ∧ DomS (.slice (.pair (.pair (.int .i64) (.int .i64)) (.pair (.pair (.int .i64) (.int .i64)) (.pair (.pair (.int .i64) (.int .i64)) (.pair (.pair (.int .i64) (.int .i64)) (.pair (.pair (.int .i64) (.int .i64)) (.pair (.pair (.int .i64) (.int .i64)) (.pair (.pair (.int .i64) (.int .i64)) (.pair (.pair (.int .i64) (.int .i64)) (.pair (.pair (.int .i64) (.int .i64)) (.pair (.pair (.int .i64) (.int .i64)) (.pair (.pair (.int .i64) (.int .i64)) (.pair (.pair (.int .i64) (.int .i64)) (.pair (.pair (.int .i64) (.int .i64)) (.pair (.pair (.int .i64) (.int .i64)) (.pair (.pair (.int .i64) (.int .i64)) (.pair (.pair (.int .i64) (.int .i64)) (.pair (.pair (.int .i64) (.int .i64)) (.pair (.pair (.int .i64) (.int .i64)) (.pair (.pair (.int .i64) (.int .i64)) (.pair (.pair (.int .i64) (.int .i64)) (.pair (.pair (.int .i64) (.int .i64)) (.pair (.pair (.int .i64) (.int .i64)) (.pair (.pair (.int .i64) (.int .i64)) (.pair (.pair (.int .i64) (.int .i64)) (.pair (.pair (.int .i64) (.int .i64)) (.pair (.pair (.int .i64) (.int .i64)) (.pair (.pair (.int .i64) (.int .i64)) (.pair (.pair (.int .i64) (.int .i64)) (.pair (.pair (.int .i64) (.int .i64)) (.pair (.pair (.int .i64) (.int .i64)) (.pair (.pair (.int .i64) (.int .i64)) (.pair (.pair (.int .i64) (.int .i64)) (.pair (.pair (.int .i64) (.int .i64)) (.pair (.pair (.int .i64) (.int .i64)) (.pair (.pair (.int .i64) (.int .i64)) (.pair (.pair (.int .i64) (.int .i64)) (.pair (.pair (.int .i64) (.int .i64)) (.pair (.pair (.int .i64) (.int .i64)) (.pair (.pair (.int .i64) (.int .i64)) (.pair (.pair (.int .i64) (.int .i64)) (.pair (.pair (.int .i64) (.int .i64)) (.pair (.pair (.int .i64) (.int .i64)) (.pair (.pair (.int .i64) (.int .i64)) (.pair (.pair (.int .i64) (.int .i64)) (.pair (.pair (.int .i64) (.int .i64)) (.pair (.pair (.int .i64) (.int .i64)) (.pair (.pair (.int .i64) (.int .i64)) (.pair (.pair (.int .i64) (.int .i64)) (.pair (.pair (.int .i64) (.int .i64)) (.pair (.pair (.int .i64) (.int .i64)) (.pair (.pair (.int .i64) (.int .i64)) (.pair (.pair (.int .i64) (.int .i64)) (.pair (.pair (.int .i64) (.int .i64)) (.pair (.pair (.int .i64) (.int .i64)) (.pair (.pair (.int .i64) (.int .i64)) (.pair (.pair (.int .i64) (.int .i64)) (.pair (.pair (.int .i64) (.int .i64)) (.pair (.pair (.int .i64) (.int .i64)) (.pair (.int .i64) (.int .i64))))))))))))))))))))))))))))))))))))))))))))))))))))))))))))) l
theorem lcn_F (d : DC) (l : STL) (hp : lcnP d l) : lcnF d l (fun r => r = true) := by
 have hp1 : dchkP d := fun z hz => (hp.1.1.1.2 z hz).2.2.2.2.2.1
 have hp : sfitP d l := ⟨hp1, hp.2.1.1⟩
 refine ⟨hp, hp, hp, fun h => ?_, fun h => ?_⟩
 ·have e1 : cNuS d l = ([], sfitS d l) := by unfold cNuS; rw [if_t h]
  have e2 : cMaS d l = ([], sfitS d l) := by unfold cMaS; rw [if_t h]
  rw [e1, e2]; simp
 have hC := fit_good hp h
 have hC0 := hC
 obtain ⟨hG, hl, -⟩ := hC0
 have h2 := hG.few
 have e1 : cNuS d l = (cnuS d l, 0) := by unfold cNuS; rw [if_f h]
 have e2 : cMaS d l = ((List.range d.1.length).map (mar1 d l), 0) := by unfold cMaS; rw [if_f h]
 have hcl : (cnuS d l).length = d.1.length := by unfold cnuS; simp
 have hV0 : lcnV0 d l = false := by
  unfold lcnV0
  rw [e1, e2]
  show ((((0 : Int) != 0) || ((0 : Int) != 0)) || ((((cnuS d l).length : Int) != (d.1.length : Int)) || ((((List.range d.1.length).map (mar1 d l)).length : Int) != ((cnuS d l).length : Int)))) = false
  rw [hcl]; simp
 have loop : ∀ (k i : Nat), i + k = d.1.length → lcnl31 d l (fun r => r = true) (k + 1) (i : Int) := by
  intro k
  induction k with
  | zero =>
   intro i h
   exact ⟨fun h2 => by rw [e1] at h2; have h3 := of_decide_eq_true h2; have : (i : Int) < ((cnuS d l).length : Int) := h3; omega, fun _ => rfl⟩
  | succ k ih =>
   intro i h
   have hi : i < d.1.length := by omega
   have hg := cnu_get (d := d) (l := l) hi
   have hR : rnoS d l (i : Int) = numF d l i := by unfold rnoS; rw [Int.toNat_natCast]
   have hb := numF_in d l i
   have hm := itoa_small (n := numF d l i) (by omega)
   have hcp : citP d l (i : Int) := ⟨by omega, by omega, hl⟩
   have hV9 : lcnV9 d l (i : Int) = mar1 d l i := by
    have h6 : lcnV6 d l (i : Int) = (citS d l (i : Int) && (lisN (l.getD i default) == 1)) := by unfold lcnV6; rw [Int.toNat_natCast]; rfl
    have h8 : lcnV8 d l (i : Int) = (citS d l (i : Int) && (lisN (l.getD i default) == 2)) := by unfold lcnV8; rw [Int.toNat_natCast]; rfl
    unfold lcnV9 lcnV7 mar1
    rw [h6, h8, hR, mark2]
    cases citS d l (i : Int)
    ·rfl
    ·rw [if_t rfl, Bool.true_and, Bool.true_and]
     cases hq2 : (lisN (l.getD i default) == 2)
     ·rw [if_f rfl, if_f rfl]
     ·have : (lisN (l.getD i default) == 1) = false := by
       rw [beq_eq_false_iff_ne]
       have := eq_of_beq hq2
       omega
      rw [this, if_t rfl, if_t rfl, if_f rfl]
   have hV11 : lcnV11 d l (i : Int) = false := by
    unfold lcnV11
    rw [e1, e2, hV9, hR, Int.toNat_natCast]
    show (((cnuS d l).getD i default != numF d l i) || !(((List.range d.1.length).map (mar1 d l)).getD i default == mar1 d l i)) = false
    rw [hg, List.getD_eq_getElem?_getD, List.getElem?_map, List.getElem?_range hi]
    simp
   have j56 : lcnj56 d l (fun r => r = true) (i : Int) (lcnl31 d l (fun r => r = true) (k + 1)) := ⟨fun h => by rw [hV11] at h; (cases h), fun _ => by rw [w64 (by omega)]; exact ih (i + 1) (by omega)⟩
   have j50 : lcnj50 d l (fun r => r = true) (i : Int) (lcnl31 d l (fun r => r = true) (k + 1)) :=
    ⟨by omega, by rw [e1, Int.toNat_natCast]; show i < (cnuS d l).length; omega, fun _ => j56, fun _ => ⟨by omega, by rw [e2, Int.toNat_natCast]; simp; omega, j56⟩⟩
   have j51 : lcnj51 d l (fun r => r = true) (i : Int) (lcnl31 d l (fun r => r = true) (k + 1)) := by
    refine ⟨fun _ => ⟨?_, ?_, j50⟩, fun _ => j50⟩
    ·rw [hR]; exact ⟨(numF d l i).natAbs + 1, by omega, by omega, by omega⟩
    ·rw [hR, maxLen_eq]; simp only [List.length_cons, List.length_nil]; omega
   have j44 : lcnj44 d l (fun r => r = true) (i : Int) (lcnl31 d l (fun r => r = true) (k + 1)) := ⟨hcp, fun _ => ⟨by omega, by omega, j51⟩, fun _ => j51⟩
   have j45 : lcnj45 d l (fun r => r = true) (i : Int) (lcnl31 d l (fun r => r = true) (k + 1)) := ⟨fun _ => ⟨by rw [hR]; exact hb, j44⟩, fun _ => j44⟩
   refine ⟨fun _ => ⟨⟨plac d i + 1, hC, by omega, by omega, by rw [Int.toNat_natCast] <;> omega⟩, hcp, fun _ => ⟨by omega, by omega, j45⟩, fun _ => j45⟩, fun _ => rfl⟩
 have j20 : lcnj20 d l (fun r => r = true) := ⟨fun h => by rw [hV0] at h; (cases h), fun _ => ⟨_, loop d.1.length 0 (by omega)⟩⟩
 exact ⟨fun _ => j20, fun _ => j20⟩
theorem lcn_c {g : Ghost} {axd_0 : Option Addr} {cxd_0 : Nat} (xd : (List (Int × Bs × (List (Bs × Bs)) × Bs × Int × List (Int))) × Bool) {axl_0 : Option Addr} {cxl_0 : Nat} (xl : List ((Int × Int) × (Int × Int) × (Int × Int) × (Int × Int) × (Int × Int) × (Int × Int) × (Int × Int) × (Int × Int) × (Int × Int) × (Int × Int) × (Int × Int) × (Int × Int) × (Int × Int) × (Int × Int) × (Int × Int) × (Int × Int) × (Int × Int) × (Int × Int) × (Int × Int) × (Int × Int) × (Int × Int) × (Int × Int) × (Int × Int) × (Int × Int) × (Int × Int) × (Int × Int) × (Int × Int) × (Int × Int) × (Int × Int) × (Int × Int) × (Int × Int) × (Int × Int) × (Int × Int) × (Int × Int) × (Int × Int) × (Int × Int) × (Int × Int) × (Int × Int) × (Int × Int) × (Int × Int) × (Int × Int) × (Int × Int) × (Int × Int) × (Int × Int) × (Int × Int) × (Int × Int) × (Int × Int) × (Int × Int) × (Int × Int) × (Int × Int) × (Int × Int) × (Int × Int) × (Int × Int) × (Int × Int) × (Int × Int) × (Int × Int) × (Int × Int) × (Int × Int) × Int × Int)) (hRxd_0 : Rep g (.slice (.pair (.int .i64) (.pair (.str) (.pair (.slice (.pair (.str) (.str))) (.pair (.str) (.pair (.int .i64) (.slice (.int .i64)))))))) [.slice axd_0 xd.1.length cxd_0] xd.1) (hRxl_0 : Rep g (.slice (.pair (.pair (.int .i64) (.int .i64)) (.pair (.pair (.int .i64) (.int .i64)) (.pair (.pair (.int .i64) (.int .i64)) (.pair (.pair (.int .i64) (.int .i64)) (.pair (.pair (.int .i64) (.int .i64)) (.pair (.pair (.int .i64) (.int .i64)) (.pair (.pair (.int .i64) (.int .i64)) (.pair (.pair (.int .i64) (.int .i64)) (.pair (.pair (.int .i64) (.int .i64)) (.pair (.pair (.int .i64) (.int .i64)) (.pair (.pair (.int .i64) (.int .i64)) (.pair (.pair (.int .i64) (.int .i64)) (.pair (.pair (.int .i64) (.int .i64)) (.pair (.pair (.int .i64) (.int .i64)) (.pair (.pair (.int .i64) (.int .i64)) (.pair (.pair (.int .i64) (.int .i64)) (.pair (.pair (.int .i64) (.int .i64)) (.pair (.pair (.int .i64) (.int .i64)) (.pair (.pair (.int .i64) (.int .i64)) (.pair (.pair (.int .i64) (.int .i64)) (.pair (.pair (.int .i64) (.int .i64)) (.pair (.pair (.int .i64) (.int .i64)) (.pair (.pair (.int .i64) (.int .i64)) (.pair (.pair (.int .i64) (.int .i64)) (.pair (.pair (.int .i64) (.int .i64)) (.pair (.pair (.int .i64) (.int .i64)) (.pair (.pair (.int .i64) (.int .i64)) (.pair (.pair (.int .i64) (.int .i64)) (.pair (.pair (.int .i64) (.int .i64)) (.pair (.pair (.int .i64) (.int .i64)) (.pair (.pair (.int .i64) (.int .i64)) (.pair (.pair (.int .i64) (.int .i64)) (.pair (.pair (.int .i64) (.int .i64)) (.pair (.pair (.int .i64) (.int .i64)) (.pair (.pair (.int .i64) (.int .i64)) (.pair (.pair (.int .i64) (.int .i64)) (.pair (.pair (.int .i64) (.int .i64)) (.pair (.pair (.int .i64) (.int .i64)) (.pair (.pair (.int .i64) (.int .i64)) (.pair (.pair (.int .i64) (.int .i64)) (.pair (.pair (.int .i64) (.int .i64)) (.pair (.pair (.int .i64) (.int .i64)) (.pair (.pair (.int .i64) (.int .i64)) (.pair (.pair (.int .i64) (.int .i64)) (.pair (.pair (.int .i64) (.int .i64)) (.pair (.pair (.int .i64) (.int .i64)) (.pair (.pair (.int .i64) (.int .i64)) (.pair (.pair (.int .i64) (.int .i64)) (.pair (.pair (.int .i64) (.int .i64)) (.pair (.pair (.int .i64) (.int .i64)) (.pair (.pair (.int .i64) (.int .i64)) (.pair (.pair (.int .i64) (.int .i64)) (.pair (.pair (.int .i64) (.int .i64)) (.pair (.pair (.int .i64) (.int .i64)) (.pair (.pair (.int .i64) (.int .i64)) (.pair (.pair (.int .i64) (.int .i64)) (.pair (.pair (.int .i64) (.int .i64)) (.pair (.pair (.int .i64) (.int .i64)) (.pair (.int .i64) (.int .i64))))))))))))))))))))))))))))))))))))))))))))))))))))))))))))) [.slice axl_0 xl.length cxl_0] xl) (hG2 : SomeInt g 2) (hG7 : GlobL g 7 (.int .u64) DPow) (hG8 : SomeIf g 8) (hG9 : SomeIf g 9)  (hp : lcnP xd xl) : CallsG Tryz.prog 4 #[.agg #[.slice axd_0 xd.1.length cxd_0, .bool xd.2], .slice axl_0 xl.length cxl_0] g (.bool ((fun _ _ => true) xd xl)) :=
 (lcn_ok xd xl hRxd_0 hRxl_0 hG2 hG7 hG8 hG9 _ (lcn_F xd xl hp)).gives (by rintro g' H' v _ ⟨r0, rfl, rfl, hK⟩; subst hK; rfl)
end
end Go.Proofs.YtdiedaeabbcceaaGreatDoor.Cq
