/- Colors: what the program reads is what the document reads: rgb. -/
import Derived.Test.YteocjdpjpkjlaaaDoorCoe
namespace Go.Proofs.YteocjdpjpkjlaaaDoor.Co
open Go Go.Eng Go.RowKit Go.Shelf Go.Proofs Bld Sp Ti
set_option linter.unusedVariables false
/-! one part -/
def dec3 (n : Nat) : List UInt8 := if n < 10 then [UInt8.ofNat (48 + n)] else if n < 100 then [UInt8.ofNat (48 + n / 10), UInt8.ofNat (48 + n % 10)] else [UInt8.ofNat (48 + n / 10 / 10), UInt8.ofNat (48 + n / 10 % 10), UInt8.ofNat (48 + n % 10)]
theorem dec3_ok {n : Nat} (h : n < 1000) : Lib.decDigits n = dec3 n := by
  unfold dec3
  rw [Lib.decDigits]
  by_cases h1 : n < 10
  · rw [dif_pos h1, if_pos h1]
  · rw [dif_neg h1, if_neg h1, Lib.decDigits]
    by_cases h2 : n < 100
    · rw [dif_pos (by omega), if_pos h2]; rfl
    · rw [dif_neg (by omega), if_neg h2, Lib.decDigits, dif_pos (by omega)]; rfl
theorem itoa3 {v : Int} (h0 : 0 ≤ v) (h1 : v ≤ 255) : itoaS v = dec3 v.toNat := by
  unfold itoaS Lib.itoa
  rw [if_neg (by omega), dec3_ok (by omega)]
def okV (n : Nat) : Bool := (decide (rparS (dec3 n) = (n : Int))) && (match Lib.atoiAll (dec3 n) with | .ok v => decide (v = (n : Int)) | _ => false)
theorem okV_all : (List.range 256).all okV = true := by decide +kernel
theorem okV_at {n : Nat} (h : n ≤ 255) : rparS (dec3 n) = (n : Int) ∧ atoiS (dec3 n) = ((n : Int), true) := by
  have h1 := List.all_eq_true.1 okV_all n (by rw [List.mem_range]; omega)
  unfold okV at h1
  rw [Bool.and_eq_true, decide_eq_true_eq] at h1
  refine ⟨h1.1, ?_⟩
  have h2 := h1.2
  unfold atoiS
  split at h2
  · rename_i v hv
    rw [of_decide_eq_true h2] at hv
    rw [hv]
  · cases h2
def DG : List UInt8 := [48, 49, 50, 51, 52, 53, 54, 55, 56, 57]
theorem dg_mem (c : UInt8) (h : rdigM (c.toNat : Int) = true) : c ∈ DG := by
  have := byte_all (p := fun c => !(rdigM (c.toNat : Int)) || DG.contains c) (by decide +kernel) c
  rw [h] at this
  simpa using this
def okD (w : List UInt8) : Bool := decide (rparS w < 0) || (dec3 (rparS w).toNat == w)
theorem okD1 : (DG.all fun a => okD [a]) = true := by decide +kernel
theorem okD2 : (DG.all fun a => DG.all fun b => okD [a, b]) = true := by decide +kernel
theorem okD3 : (DG.all fun a => DG.all fun b => DG.all fun c => okD [a, b, c]) = true := by decide +kernel
theorem rparN_dig : ∀ (w : List UInt8) (n : Int), 0 ≤ rparN w n → ∀ c ∈ w, c ∈ DG
  | [], _, _, c, h => by cases h
  | a :: w, n, h, c, hc => by
    rw [rparN] at h
    split at h
    · omega
    · rename_i hd
      rcases List.mem_cons.1 hc with rfl | hc
      · exact dg_mem _ (by simpa using hd)
      · exact rparN_dig w _ h c hc
theorem rpar_dec {w : List UInt8} (h : 0 ≤ rparS w) : w = dec3 (rparS w).toNat := by
  have hd : (1 ≤ w.length ∧ w.length ≤ 3) ∧ ∀ c ∈ w, c ∈ DG := by
    have h' := h
    unfold rparS at h'
    split at h'
    · omega
    · rename_i hc
      refine ⟨?_, rparN_dig w 0 h'⟩
      simp only [Bool.or_eq_true, decide_eq_true_eq, not_or] at hc
      omega
  have hk : okD w = true := by
    match w, hd with
    | [a], ⟨_, hm⟩ => exact List.all_eq_true.1 okD1 a (hm a (by simp))
    | [a, b], ⟨_, hm⟩ => exact List.all_eq_true.1 (List.all_eq_true.1 okD2 a (hm a (by simp))) b (hm b (by simp))
    | [a, b, c], ⟨_, hm⟩ => exact List.all_eq_true.1 (List.all_eq_true.1 (List.all_eq_true.1 okD3 a (hm a (by simp))) b (hm b (by simp))) c (hm c (by simp))
    | [], ⟨hl, _⟩ => simp at hl
    | _ :: _ :: _ :: _ :: _, ⟨hl, _⟩ => simp at hl
  unfold okD at hk
  rw [Bool.or_eq_true, decide_eq_true_eq, beq_iff_eq] at hk
  rcases hk with hk | hk
  · omega
  · exact hk.symm
theorem cp_ok (w : List UInt8) : cpOk w = !(decide (rparS w < 0)) ∧ (cpOk w = true → (atoiS w).1 = rparS w) := by
  by_cases h : 0 ≤ rparS w
  · have hle := rpar_le w
    obtain ⟨h1, h2⟩ := okV_at (n := (rparS w).toNat) (by omega)
    have hw := rpar_dec h
    have hn : (((rparS w).toNat : Nat) : Int) = rparS w := by omega
    rw [← hw, hn] at h2
    have hok : cpOk w = true := by
      unfold cpOk
      rw [h2, itoa3 h hle, ← hw]
      simp; omega
    refine ⟨by rw [hok, decide_eq_false (by omega)]; rfl, fun _ => by rw [h2]⟩
  · have hno : cpOk w = false := by
      rw [Bool.eq_false_iff]
      intro hk
      unfold cpOk at hk
      simp only [Bool.and_eq_true, Bool.not_eq_true', Bool.or_eq_false_iff, Bool.not_eq_false', decide_eq_false_iff_not, beq_iff_eq] at hk
      obtain ⟨_, ⟨k1, k2⟩, k3⟩ := hk
      rw [itoa3 (by omega) (by omega)] at k3
      have := (okV_at (n := (atoiS w).1.toNat) (by omega)).1
      rw [k3] at this
      omega
    exact ⟨by rw [hno, decide_eq_true (by omega)]; rfl, fun h => by rw [hno] at h; cases h⟩
/-! the pieces -/
theorem trb_eq (w : List UInt8) (i : Int) : trb w i = cpw w i := by
  unfold trb cpw tpfM sltpM slhpM slhpj3M
  cases w with
  | nil => by_cases h : i > 0 <;> simp [h]
  | cons a l =>
    have e : (((a :: l).take (Int.toNat (([32] : List UInt8).length : Int))) == [32]) = (a == 32) := by
      show ([a] == [32]) = (a == 32)
      show (a == 32 && true) = (a == 32)
      exact Bool.and_true _
    have e2 : ((((a :: l).getD (Int.toNat 0) 0).toNat : Int) == 32) = (a == 32) := by
      show ((a.toNat : Int) == 32) = (a == 32)
      rw [Bool.eq_iff_iff, beq_iff_eq, beq_iff_eq]
      constructor
      · intro h; exact UInt8.toNat.inj (by show _ = 32; omega)
      · rintro rfl; rfl
    rw [e, e2, decide_eq_true (show (((a :: l).length : Nat) : Int) > 0 by rw [List.length_cons]; omega), decide_eq_true (show (((a :: l).length : Nat) : Int) ≥ (([32] : List UInt8).length : Int) by rw [List.length_cons]; simp only [List.length_cons, List.length_nil]; omega), Bool.and_true, Bool.true_and]
    by_cases h : i > 0
    · rw [decide_eq_true h, Bool.true_and, if_pos rfl]; rfl
    · rw [decide_eq_false h, Bool.false_and, if_neg Bool.false_ne_true, if_neg Bool.false_ne_true]
theorem nIn_step {n i v : Int} (h : nIn n i) (h4 : i ≤ 3) (h0 : 0 ≤ v) (h1 : v ≤ 255) : nIn (256 * n + v) (i + 1) := by unfold nIn at *; omega
theorem pieces_eq : ∀ (ws : List (List UInt8)) (n i : Int), nIn n i → i + ws.length ≤ 4 → rgbN ws n i = (cparN ws i n).map (fun c => (c, i + ws.length)) ∧ ∀ c, cparN ws i n = some c → nIn c (i + ws.length)
  | [], n, i, hin, h4 => by
    rw [rgbN, cparN]
    simp only [List.length_nil, Int.natCast_zero, Int.add_zero] at *
    exact ⟨rfl, fun c h => by injection h with h; rw [← h]; exact hin⟩
  | w :: ws, n, i, hin, h4 => by
    rw [List.length_cons] at h4 ⊢
    rw [rgbN, cparN, trb_eq]
    obtain ⟨h1, h2⟩ := cp_ok (cpw w i)
    have h44 : (i == 4) = false := by rw [beq_eq_false_iff_ne]; omega
    rw [h44, Bool.or_false]
    cases hn : decide (rparS (cpw w i) < 0)
    · rw [hn] at h1
      have h1 : cpOk (cpw w i) = true := h1
      have hn := of_decide_eq_false hn
      have hle := rpar_le (cpw w i)
      have hin' := hin
      unfold nIn at hin'
      rw [if_neg Bool.false_ne_true, if_t h1, h2 h1, or8 (c := n) (by omega) (by omega)]
      have := pieces_eq ws (256 * n + rparS (cpw w i)) (i + 1) (nIn_step hin (by omega) (by omega) hle) (by omega)
      rw [show i + (((ws.length + 1 : Nat)) : Int) = i + 1 + (ws.length : Int) by omega]
      exact this
    · rw [hn] at h1
      have h1 : cpOk (cpw w i) = false := h1
      rw [if_pos rfl, if_f h1]
      exact ⟨rfl, fun c h => by cases h⟩
def wsum : List (List UInt8) → Nat
  | [] => 0
  | w :: r => w.length + 1 + wsum r
theorem sp44_sum : ∀ s : List UInt8, wsum (sp44 s) = s.length + 1 ∧ sp44 s ≠ []
  | [] => ⟨rfl, by decide⟩
  | c :: l => by
    obtain ⟨h1, h2⟩ := sp44_sum l
    rw [sp44]
    split
    · exact ⟨by rw [wsum, h1]; simp; omega, by simp⟩
    · split
      · rename_i h; exact absurd h h2
      · rename_i w r h
        rw [h, wsum] at h1
        exact ⟨by rw [wsum, List.length_cons, List.length_cons]; omega, by simp⟩
theorem trb_len (w : List UInt8) (m : Int) : w.length ≤ (trb w m).length + 1 := by
  unfold trb; split
  · rw [List.length_drop]; show w.length ≤ w.length - 1 + 1; omega
  · omega
theorem rpar_len {w : List UInt8} (h : 0 ≤ rparS w) : w.length ≤ 3 := by
  unfold rparS at h
  split at h
  · omega
  · rename_i hc
    simp only [Bool.or_eq_true, decide_eq_true_eq, not_or] at hc
    omega
theorem rgbN_some : ∀ (ws : List (List UInt8)) (n m : Int) {r : Int × Int}, 0 ≤ m → m ≤ 4 → rgbN ws n m = some r → r.2 = m + ws.length ∧ r.2 ≤ 4 ∧ wsum ws ≤ 5 * ws.length
  | [], n, m, r, h0, h4, h => by
    rw [rgbN] at h
    injection h with h
    rw [← h]
    exact ⟨by simp, h4, Nat.le_refl _⟩
  | w :: ws, n, m, r, h0, h4, h => by
    rw [rgbN] at h
    split at h
    · cases h
    · rename_i hc
      simp only [Bool.or_eq_true, decide_eq_true_eq, beq_iff_eq, not_or] at hc
      obtain ⟨i1, i2, i3⟩ := rgbN_some ws _ _ (by omega) (by omega) h
      have h5 := rpar_len (w := trb w m) (by omega)
      have h6 := trb_len w m
      rw [wsum, List.length_cons]
      exact ⟨by omega, i2, by omega⟩
theorem rgb_long {s : List UInt8} (h : 20 ≤ s.length) : (rrgbS s).2 = false := by
  unfold rrgbS
  cases hr : rgbN (sp44 s) 0 0 with
  | none => rfl
  | some r =>
    obtain ⟨h1, h2, h3⟩ := rgbN_some _ _ _ (by omega) (by omega) hr
    have := (sp44_sum s).1
    omega
theorem cparN_app : ∀ (ws vs : List (List UInt8)) (i c : Int), cparN (ws ++ vs) i c = (cparN ws i c).bind fun d => cparN vs (i + ws.length) d
  | [], vs, i, c => by rw [List.nil_append, cparN]; simp
  | w :: ws, vs, i, c => by
    rw [List.cons_append, cparN, cparN]
    split
    · rw [cparN_app ws vs, List.length_cons, show i + 1 + (ws.length : Int) = i + (((ws.length + 1 : Nat)) : Int) by omega]
    · rfl
theorem cp255 : cpw [50, 53, 53] 3 = [50, 53, 53] ∧ cpOk [50, 53, 53] = true ∧ (atoiS [50, 53, 53]).1 = 255 := by
  have h := okV_at (n := 255) (by omega)
  rw [show dec3 255 = [50, 53, 53] by decide] at h
  obtain ⟨h1, h2⟩ := cp_ok [50, 53, 53]
  rw [h.1] at h1
  exact ⟨by decide, h1, by rw [h.2]; rfl⟩
theorem rgb_eq (s : List UInt8) : (cparS s).2 = (rrgbS s).2 ∧ ((rrgbS s).2 = true → (cparS s).1 = (rrgbS s).1) := by
  unfold cparS rrgbS cl4
  rw [spl44]
  have hin : nIn 0 0 := by unfold nIn; omega
  by_cases h4 : (sp44 s).length ≤ 4
  · obtain ⟨h1, h2⟩ := pieces_eq (sp44 s) 0 0 hin (by omega)
    rw [h1, Int.zero_add]
    by_cases h3 : (sp44 s).length = 3
    · rw [if_t (show (((sp44 s).length : Int) == 3) = true by rw [beq_iff_eq]; omega), cparN_app]
      cases hc : cparN (sp44 s) 0 0 with
      | none => exact ⟨rfl, fun h => by cases h⟩
      | some c =>
        have hcn := h2 c hc
        unfold nIn at hcn
        rw [h3] at hcn
        have e : cparN [[50, 53, 53]] (0 + ((sp44 s).length : Int)) c = some (256 * c + 255) := by
          rw [h3, show (0 : Int) + ((3 : Nat) : Int) = 3 from rfl, cparN, cp255.1, if_t cp255.2.1, cp255.2.2, cparN, or8 (by omega) (by omega)]
        rw [Option.bind_some, e, Option.map_some, h3]
        have e4 : ((((sp44 s ++ [[50, 53, 53]]).length : Nat) : Int) == 4) = true := by rw [beq_iff_eq, List.length_append, h3]; rfl
        exact ⟨e4, fun _ => rfl⟩
    · rw [if_f (show (((sp44 s).length : Int) == 3) = false by rw [beq_eq_false_iff_ne]; omega)]
      cases hc : cparN (sp44 s) 0 0 with
      | none => exact ⟨rfl, fun h => by cases h⟩
      | some c =>
        rw [Option.map_some]
        have e3 : (((sp44 s).length : Int) == 3) = false := by rw [beq_eq_false_iff_ne]; omega
        show (((sp44 s).length : Int) == 4) = decide (((sp44 s).length : Int) ≥ 3) ∧ (decide (((sp44 s).length : Int) ≥ 3) = true → c = if (((sp44 s).length : Int) == 3) = true then 256 * c + 255 else c)
        rw [e3]
        refine ⟨?_, fun _ => rfl⟩
        rw [Bool.eq_iff_iff, beq_iff_eq, decide_eq_true_eq]
        omega
  · rw [if_f (show (((sp44 s).length : Int) == 3) = false by rw [beq_eq_false_iff_ne]; omega)]
    have hr : rgbN (sp44 s) 0 0 = none := by
      cases hr : rgbN (sp44 s) 0 0 with
      | none => rfl
      | some r =>
        obtain ⟨i1, i2, _⟩ := rgbN_some _ _ _ (by omega) (by omega) hr
        omega
    rw [hr]
    have e4 : (((sp44 s).length : Int) == 4) = false := by rw [beq_eq_false_iff_ne]; omega
    cases hc : cparN (sp44 s) 0 0 with
    | none => exact ⟨rfl, fun h => by cases h⟩
    | some c => exact ⟨e4, fun h => by cases h⟩
theorem u8i {a : UInt8} {n : Nat} (h : n < 256) : ((a.toNat : Int) == (n : Int)) = (a == UInt8.ofNat n) := by
  rw [Bool.eq_iff_iff, beq_iff_eq, beq_iff_eq]
  constructor
  · intro h2; exact UInt8.toNat.inj (by rw [UInt8.toNat_ofNat_of_lt' (by exact h)]; omega)
  · rintro rfl; rw [UInt8.toNat_ofNat_of_lt' (by exact h)]
theorem hash_eq (t : List UInt8) : (cpfM t [35]).2 = (decide ((t.length : Int) > 0) && (((t.getD (Int.toNat 0) 0).toNat : Int) == 35)) ∧ ((cpfM t [35]).2 = true → (cpfM t [35]).1 = t.drop (Int.toNat 1)) := by
  unfold cpfM slcpM slhpM slhpj3M
  cases t with
  | nil => exact ⟨rfl, fun h => (by cases h)⟩
  | cons a l =>
    have e : (((a :: l).take (Int.toNat (([35] : List UInt8).length : Int))) == [35]) = (a == 35) := by
      show (a == 35 && true) = (a == 35)
      exact Bool.and_true _
    have e2 : ((((a :: l).getD (Int.toNat 0) 0).toNat : Int) == 35) = (a == 35) := u8i (n := 35) (by omega)
    rw [e, e2, decide_eq_true (show (((a :: l).length : Nat) : Int) > 0 by rw [List.length_cons]; omega), decide_eq_true (show (((a :: l).length : Nat) : Int) ≥ (([35] : List UInt8).length : Int) by rw [List.length_cons]; simp only [List.length_cons, List.length_nil]; omega), Bool.true_and]
    cases a == 35
    · exact ⟨rfl, fun h => (by cases h)⟩
    · exact ⟨rfl, fun _ => rfl⟩
def RGB : List UInt8 := [114, 103, 98, 40]
theorem pre_eq (t : List UInt8) : (cpfM t RGB).2 = (t.take 4 == RGB) ∧ ((cpfM t RGB).2 = true → (cpfM t RGB).1 = t.drop 4) := by
  have e : slhpM t RGB = (t.take 4 == RGB) := by
    show (decide ((t.length : Int) ≥ ((RGB.length : Nat) : Int)) && (t.take (Int.toNat ((RGB.length : Nat) : Int)) == RGB)) = _
    rw [show Int.toNat ((RGB.length : Nat) : Int) = 4 from rfl, Bool.eq_iff_iff, Bool.and_eq_true, decide_eq_true_eq]
    refine ⟨fun h => h.2, fun h => ⟨?_, h⟩⟩
    have h' := congrArg List.length (beq_iff_eq.1 h)
    rw [List.length_take] at h'
    have : RGB.length = 4 := rfl
    omega
  unfold cpfM slcpM
  rw [e]
  cases t.take 4 == RGB
  · exact ⟨rfl, fun h => (by cases h)⟩
  · exact ⟨rfl, fun _ => rfl⟩
theorem suf_eq (r : List UInt8) (h : r.length ≤ 281474976710656) : hsfM r [41] = (decide (1 ≤ r.length) && (((r.getD (r.length - 1) 0).toNat : Int) == 41)) := by
  show (decide ((r.length : Int) ≥ ((([41] : List UInt8).length : Nat) : Int)) && (r.drop (Int.toNat (IntKind.wrap .i64 ((r.length : Int) - ((([41] : List UInt8).length : Nat) : Int)))) == [41])) = _
  have e1 : ((([41] : List UInt8).length : Nat) : Int) = 1 := rfl
  rw [e1]
  by_cases h1 : 1 ≤ r.length
  · rw [decide_eq_true h1, decide_eq_true (show (r.length : Int) ≥ 1 by omega), w64 (by omega), show Int.toNat ((r.length : Int) - 1) = r.length - 1 by omega, drop_get (l := r) 0 (show r.length - 1 < r.length by omega), List.drop_of_length_le (by omega), Bool.true_and, Bool.true_and, show (((r.getD (r.length - 1) 0).toNat : Int) == 41) = (r.getD (r.length - 1) 0 == 41) from u8i (n := 41) (by omega)]
    show (r.getD (r.length - 1) 0 == 41 && true) = _
    exact Bool.and_true _
  · rw [decide_eq_false h1, decide_eq_false (show ¬ (r.length : Int) ≥ 1 by omega)]; rfl
theorem read_eq (t : List UInt8) (hp : t.length ≤ 140737488355328) : crdT t = if (rcoT t).2 = true then ((rcoT t).1, 0) else (0, 4) := by
  unfold crdT rcoT
  by_cases ht : (t == [116, 114, 97, 110, 115, 112, 97, 114, 101, 110, 116]) = true
  · rw [if_pos ht, if_pos ht]; rfl
  · rw [if_neg ht, if_neg ht]
    obtain ⟨n1, n2⟩ := nm_eq rcnM.1 rcnM.2 t rcn_small
    rw [← cnam_eq] at n1 n2
    cases hn : (cnamM t).2
    · rw [n2 hn, if_neg Bool.false_ne_true]
      show (if (crdR t).2 = true then ((crdR t).1, 0) else (0, 4)) = if (rcoQ t).2 = true then ((rcoQ t).1, 0) else (0, 4)
      have key : (crdR t).2 = (rcoQ t).2 ∧ ((rcoQ t).2 = true → (crdR t).1 = (rcoQ t).1) := by
        unfold crdR rcoQ
        obtain ⟨a1, a2⟩ := hash_eq t
        rw [← a1]
        cases hh : (cpfM t [35]).2
        · rw [if_neg Bool.false_ne_true, if_neg Bool.false_ne_true]
          obtain ⟨b1, b2⟩ := pre_eq t
          unfold crgb
          rw [show ([114, 103, 98, 40] : List UInt8) = RGB from rfl, show Int.toNat 4 = 4 from rfl, ← b1]
          cases hg : (cpfM t RGB).2
          · rw [Bool.false_and, Bool.false_and, Bool.and_false, if_neg Bool.false_ne_true, if_neg Bool.false_ne_true]
            exact ⟨rfl, fun h => (by cases h)⟩
          · rw [Bool.true_and, Bool.true_and]
            have hl4 : 4 ≤ t.length := by
              have h' := congrArg List.length (beq_iff_eq.1 (b1.symm.trans hg))
              rw [List.length_take] at h'
              have : RGB.length = 4 := rfl
              omega
            unfold cin
            rw [show ([114, 103, 98, 40] : List UInt8) = RGB from rfl, b2 hg]
            obtain ⟨r, hr⟩ : ∃ r, r = t.drop 4 := ⟨_, rfl⟩
            have hrl : r.length = t.length - 4 := by rw [hr, List.length_drop]
            rw [← hr, suf_eq r (by omega), w64 (x := (t.length : Int) - 1) (by omega), w64 (x := (r.length : Int) - 1) (by omega), show Int.toNat ((t.length : Int) - 1) = t.length - 1 by omega, show Int.toNat ((r.length : Int) - 1) = r.length - 1 by omega]
            have hin : (t.take (t.length - 1)).drop 4 = r.take (r.length - 1) := by
              rw [hr, List.drop_take, List.length_drop]; congr 1
            rw [hin]
            by_cases h2 : 2 ≤ r.length
            · have hge : t.getD (t.length - 1) 0 = r.getD (r.length - 1) 0 := by
                rw [hr, List.getD_eq_getElem?_getD, List.getD_eq_getElem?_getD, List.getElem?_drop, List.length_drop, show 4 + (t.length - 4 - 1) = t.length - 1 by omega]
              rw [hge, decide_eq_true (show 1 ≤ r.length by omega), decide_eq_true (show (t.length : Int) > 5 by omega), Bool.true_and, Bool.true_and]
              cases he : (((r.getD (r.length - 1) 0).toNat : Int) == 41)
              · rw [Bool.false_and, Bool.and_false, if_neg Bool.false_ne_true]
                exact ⟨rfl, fun h => (by cases h)⟩
              · rw [Bool.true_and, Bool.and_true]
                have heq := rgb_eq (r.take (r.length - 1))
                by_cases h40 : r.length ≤ 40
                · rw [decide_eq_true (show (r.length : Int) ≤ 40 by omega), decide_eq_true (show (t.length : Int) < 60 by omega), if_pos rfl, if_pos rfl]
                  exact heq
                · rw [decide_eq_false (show ¬ (r.length : Int) ≤ 40 by omega), if_neg Bool.false_ne_true]
                  have hlong := rgb_long (s := r.take (r.length - 1)) (by rw [List.length_take]; omega)
                  by_cases h60 : (t.length : Int) < 60
                  · rw [decide_eq_true h60, if_pos rfl, hlong]
                    exact ⟨rfl, fun h => (by cases h)⟩
                  · rw [decide_eq_false h60, if_neg Bool.false_ne_true]
                    exact ⟨rfl, fun h => (by cases h)⟩
            · rw [decide_eq_false (show ¬ (t.length : Int) > 5 by omega), Bool.false_and, Bool.false_and, if_neg Bool.false_ne_true]
              split
              · have : r.take (r.length - 1) = [] := List.eq_nil_of_length_eq_zero (by rw [List.length_take]; omega)
                rw [this, (rgb_eq []).1]
                exact ⟨by decide +kernel, fun h => (by cases h)⟩
              · exact ⟨rfl, fun h => (by cases h)⟩
        · rw [if_pos rfl, if_pos rfl, a2 hh]
          exact hex_eq _
      rw [key.1]
      cases hq : (rcoQ t).2
      · rfl
      · rw [if_pos rfl, if_pos rfl, key.2 hq]
    · rw [n1 hn, if_pos rfl]; rfl
theorem red_true : redM = true := by
  have e : crdS [35, 70, 48, 48] = (4278190335, 0) := by
    unfold crdS
    rw [read_eq _ (by decide)]
    decide +kernel
  unfold redM
  rw [e]; rfl
def lcrP (s : List UInt8) : Prop := s.length ≤ reachBytes
theorem lcr_F (s : List UInt8) (hp : lcrP s) : lcrF s (fun r => r = true) := by
  unfold lcrP reachBytes at hp
  have hl : (clowS s).length = s.length := List.length_map ..
  have e : crdS s = if (rcoS s).2 = true then ((rcoS s).1, 0) else (0, 4) := read_eq _ (by omega)
  refine ⟨by unfold crdP; omega, by unfold clowP; omega, fun h => ?_, fun h => ?_⟩
  · have h : (rcoS s).2 = false := by simpa using h
    rw [red_true, e, h]; rfl
  · have h : (rcoS s).2 = true := by simpa using h
    rw [red_true, e, h]
    show ((true && ((rcoS s).1 == (rcoS s).1)) && ((0 : Int) == 0)) = true
    rw [beq_self_eq_true]; rfl
set_option linter.unusedVariables false in
theorem lcr_c {g : Ghost} (xs : List UInt8) (hG1 : SomeInt g 1) (hG2 : GlobL g 2 (.int .u64) DPow) (hG3 : SomeIf g 3) (hG4 : SomeIf g 4)  (hp : lcrP xs) : CallsG Tryd.prog 6 #[.string ⟨⟨xs⟩⟩] g (.bool ((fun _ => true) xs)) :=
  (lcr_ok xs hG1 hG2 hG3 hG4 _ (lcr_F xs hp)).gives (by rintro g' H' v _ ⟨r0, rfl, rfl, hK⟩; subst hK; rfl)
end Go.Proofs.YteocjdpjpkjlaaaDoor.Co
