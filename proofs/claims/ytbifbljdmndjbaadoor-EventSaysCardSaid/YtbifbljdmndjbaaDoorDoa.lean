/- Documents: a node by itself. -/
import Derived.Test.YtbifbljdmndjbaaDoorSto
import Derived.Test.YtbifbljdmndjbaaDoorMor
import Derived.Test.YtbifbljdmndjbaaDoorTri
import Derived.Test.YtbifbljdmndjbaaDoorExi
namespace Go.Proofs.YtbifbljdmndjbaaDoor.Do
open Go Go.Eng Go.RowKit Ti
set_option maxHeartbeats 4000000
set_option maxRecDepth 100000
set_option linter.unusedSimpArgs false
set_option linter.unusedVariables false
theorem nam_pos {s : Bs} {n : Int} (h : ((!(s == ([] : Bs))) && decide ((s.length : Int) ≤ n)) = true) : Int.toNat 0 < s.length := by
 rw [Bool.and_eq_true, Bool.not_eq_true', beq_eq_false_iff_ne] at h
 exact List.length_pos_iff.2 h.1
theorem nam_trim {s : Bs} {n : Int} {t : Bs} (h : ((!(s == ([] : Bs))) && decide ((s.length : Int) ≤ n)) = true) (hn : n ≤ 1000) (ht : t.length < 4294967281 ∧ t.all (fun x => decide (x.toNat < 128)) = true) : trimP s t := by
 rw [Bool.and_eq_true, decide_eq_true_eq] at h
 exact ⟨by omega, ht.1, ht.2⟩
def dnamj3 (xs : Bs) (xfirst : Bs) (K : Bool → Prop) : Prop :=
 K (((!(xs == ([] : Bs))) && (decide ((xs.length : Int) ≤ 40))) && ((decide ((ibS xfirst ((xs.getD (Int.toNat 0) 0).toNat : Int)) ≥ 0)) && ((trimS xs ([97, 98, 99, 100, 101, 102, 103, 104, 105, 106, 107, 108, 109, 110, 111, 112, 113, 114, 115, 116, 117, 118, 119, 120, 121, 122, 48, 49, 50, 51, 52, 53, 54, 55, 56, 57, 45, 95, 58] : Bs)) == ([] : Bs))))
def dnamF (xs : Bs) (xfirst : Bs) (K : Bool → Prop) : Prop :=
 ((((!(xs == ([] : Bs))) && (decide ((xs.length : Int) ≤ 40)))) = true → (0 : Int) ≤ 0 ∧ Int.toNat 0 < xs.length ∧ ((decide ((ibS xfirst ((xs.getD (Int.toNat 0) 0).toNat : Int)) ≥ 0)) = true → trimP xs ([97, 98, 99, 100, 101, 102, 103, 104, 105, 106, 107, 108, 109, 110, 111, 112, 113, 114, 115, 116, 117, 118, 119, 120, 121, 122, 48, 49, 50, 51, 52, 53, 54, 55, 56, 57, 45, 95, 58] : Bs) ∧ dnamj3 xs xfirst K) ∧ ((decide ((ibS xfirst ((xs.getD (Int.toNat 0) 0).toNat : Int)) ≥ 0)) = false → dnamj3 xs xfirst K)) ∧ ((((!(xs == ([] : Bs))) && (decide ((xs.length : Int) ≤ 40)))) = false → dnamj3 xs xfirst K)
theorem dnam_ok {g : Ghost} (xs : Bs) (xfirst : Bs) (K : Bool → Prop)
  (hF : dnamF xs xfirst K) : CallsH Tryd.prog 34 #[sv xs, sv xfirst] g [] (fun g' H' v => ∃ (r0 : Bool), v = .bool r0 ∧ H' = [] ∧ K r0) := by
 refine CallsH.enter 24 [(0, sv xs), (1, sv xfirst)] Tryd.func34 rfl (by kernel_rfl) (by kernel_rfl) (by kernel_rfl) fun w0 => ?_
 refine Ok.seq (Ok.region (Ok.batch 1 [(0, sv xs), (1, sv xfirst)] (by kernel_rfl) (Ok.nil (Ok.thenN (Ok.cut (fun a W => StA 24 [(4, .bool (((!(xs == ([] : Bs))) && (decide ((xs.length : Int) ≤ 40))) && ((decide ((ibS xfirst ((xs.getD (Int.toNat 0) 0).toNat : Int)) ≥ 0)) && ((trimS xs ([97, 98, 99, 100, 101, 102, 103, 104, 105, 106, 107, 108, 109, 110, 111, 112, 113, 114, 115, 116, 117, 118, 119, 120, 121, 122, 48, 49, 50, 51, 52, 53, 54, 55, 56, 57, 45, 95, 58] : Bs)) == ([] : Bs)))))] a ∧ StW w0 [] g W ∧ dnamj3 xs xfirst K) ?_ ?_)))))
 ·
  refine Ok.region (Ok.bat 1 [0, 1] [(5, sv xs)] ?_)
  refine Ok.op rfl (OpOk.step (v := .bool (!(xs == ([] : Bs)))) (Yields.strCmp (f := .neq) (a := xs) (b := ([] : Bs)) (by kernel_rfl) (by kernel_rfl) rfl) rfl rfl (Ok.bat 1 [0, 1] [(7, .bool (!(xs == ([] : Bs))))] ?_))
  refine Ok.midway 4 [(0, sv xs), (1, sv xfirst), (11, .bool ((!(xs == ([] : Bs))) && (decide ((xs.length : Int) ≤ 40))))] (fun hR1 => ?_) ?_
  ·refine Ok.boolAt 7 (!(xs == ([] : Bs))) rfl (fun hc2 => ?_) (fun hc2 => ?_)
   ·skip
    refine Ok.bat 4 [0, 1] [(11, .bool (decide ((xs.length : Int) ≤ 40)))] ?_
    refine Ok.reval 11 rfl (show (.bool (decide ((xs.length : Int) ≤ 40)) : Value) = .bool ((!(xs == ([] : Bs))) && (decide ((xs.length : Int) ≤ 40))) from congrArg Value.bool (mand_t hc2)) (Ok.bat 0 [0, 1] [(11, .bool ((!(xs == ([] : Bs))) && (decide ((xs.length : Int) ≤ 40))))] ?_)
    exact hR1
   ·skip
    refine Ok.bat 4 [0, 1] [(11, .bool false)] ?_
    refine Ok.reval 11 rfl (show (.bool false : Value) = .bool ((!(xs == ([] : Bs))) && (decide ((xs.length : Int) ≤ 40))) from congrArg Value.bool (mand_f hc2)) (Ok.bat 0 [0, 1] [(11, .bool ((!(xs == ([] : Bs))) && (decide ((xs.length : Int) ≤ 40))))] ?_)
    exact hR1
  refine Ok.bat 1 [0, 1] [(12, .bool ((!(xs == ([] : Bs))) && (decide ((xs.length : Int) ≤ 40))))] ?_
  refine Ok.boolAt 12 (((!(xs == ([] : Bs))) && (decide ((xs.length : Int) ≤ 40)))) rfl (fun hc3 => ?_) (fun hc3 => ?_)
  ·replace hF := hF.1 hc3
   refine Ok.bat 2 [0] [(12, .bool true), (13, sv xfirst), (14, sv xs)] ?_
   obtain ⟨h04, h14, hF⟩ := hF
   have he4 := get_of (l := xs) (0 : UInt8) h14
   generalize hg4 : (xs.getD (Int.toNat 0) 0) = e4 at he4 hF ⊢
   refine Ok.opYes (j := 7) (d := 12) (want := true) (b := true) rfl (by kernel_rfl) (by kernel_rfl) rfl (OpOk.step (v := .int .u8 (e4.toNat : Int)) (Yields.indexStr (k := .i64) (i := 0) (s := xs) (b := e4) (by kernel_rfl) (by kernel_rfl) Tryd.underlying9 h04 he4) rfl rfl (Ok.opYes (j := 7) (d := 12) (want := true) (b := true) rfl (by kernel_rfl) (by kernel_rfl) rfl (OpOk.callG (v := .int .i64 (ibS xfirst (e4.toNat : Int))) enr (fun W hW => ib_c xfirst (e4.toNat : Int)) rfl ?_)))
   refine Ok.bat 3 [0] [(19, .bool (decide ((ibS xfirst (e4.toNat : Int)) ≥ 0)))] ?_
   refine Ok.boolAt 19 (decide ((ibS xfirst (e4.toNat : Int)) ≥ 0)) rfl (fun hc5 => ?_) (fun hc5 => ?_)
   ·replace hF := hF.1 hc5
    refine Ok.batch 1 [(19, .bool true), (20, sv xs)] (by kernel_rfl) ?_
    obtain ⟨hp6, hF⟩ := hF
    refine Ok.opYes (j := 14) (d := 19) (want := true) (b := true) rfl (by kernel_rfl) (by kernel_rfl) rfl (OpOk.callG (v := sv (trimS xs ([97, 98, 99, 100, 101, 102, 103, 104, 105, 106, 107, 108, 109, 110, 111, 112, 113, 114, 115, 116, 117, 118, 119, 120, 121, 122, 48, 49, 50, 51, 52, 53, 54, 55, 56, 57, 45, 95, 58] : Bs))) enr (fun W hW => trim_c xs ([97, 98, 99, 100, 101, 102, 103, 104, 105, 106, 107, 108, 109, 110, 111, 112, 113, 114, 115, 116, 117, 118, 119, 120, 121, 122, 48, 49, 50, 51, 52, 53, 54, 55, 56, 57, 45, 95, 58] : Bs) hp6) rfl ?_)
    refine Ok.opYes (j := 14) (d := 19) (want := true) (b := true) rfl (by kernel_rfl) (by kernel_rfl) rfl (OpOk.step (v := .bool ((trimS xs ([97, 98, 99, 100, 101, 102, 103, 104, 105, 106, 107, 108, 109, 110, 111, 112, 113, 114, 115, 116, 117, 118, 119, 120, 121, 122, 48, 49, 50, 51, 52, 53, 54, 55, 56, 57, 45, 95, 58] : Bs)) == ([] : Bs))) (Yields.strCmp (f := .eql) (a := (trimS xs ([97, 98, 99, 100, 101, 102, 103, 104, 105, 106, 107, 108, 109, 110, 111, 112, 113, 114, 115, 116, 117, 118, 119, 120, 121, 122, 48, 49, 50, 51, 52, 53, 54, 55, 56, 57, 45, 95, 58] : Bs))) (b := ([] : Bs)) (by kernel_rfl) (by kernel_rfl) rfl) rfl rfl (Ok.batch 2 [(4, .bool ((trimS xs ([97, 98, 99, 100, 101, 102, 103, 104, 105, 106, 107, 108, 109, 110, 111, 112, 113, 114, 115, 116, 117, 118, 119, 120, 121, 122, 48, 49, 50, 51, 52, 53, 54, 55, 56, 57, 45, 95, 58] : Bs)) == ([] : Bs)))] (by kernel_rfl) (Ok.nil (Ok.thenN ?_))))
    subst hg4
    refine Ok.reval 4 rfl (show (.bool ((trimS xs ([97, 98, 99, 100, 101, 102, 103, 104, 105, 106, 107, 108, 109, 110, 111, 112, 113, 114, 115, 116, 117, 118, 119, 120, 121, 122, 48, 49, 50, 51, 52, 53, 54, 55, 56, 57, 45, 95, 58] : Bs)) == ([] : Bs)) : Value) = .bool (((!(xs == ([] : Bs))) && (decide ((xs.length : Int) ≤ 40))) && ((decide ((ibS xfirst ((xs.getD (Int.toNat 0) 0).toNat : Int)) ≥ 0)) && ((trimS xs ([97, 98, 99, 100, 101, 102, 103, 104, 105, 106, 107, 108, 109, 110, 111, 112, 113, 114, 115, 116, 117, 118, 119, 120, 121, 122, 48, 49, 50, 51, 52, 53, 54, 55, 56, 57, 45, 95, 58] : Bs)) == ([] : Bs)))) from congrArg (Value.bool) ((Eq.trans (mand_t hc5) (mand_t hc3)))) ?_
    exact fun a W hA hW => ⟨hA.sub (by kernel_rfl), hW, hF⟩
   ·replace hF := hF.2 hc5
    refine Ok.batch 5 [(4, .bool false)] (by kernel_rfl) (Ok.nil (Ok.thenN ?_))
    subst hg4
    refine Ok.reval 4 rfl (show (.bool false : Value) = .bool (((!(xs == ([] : Bs))) && (decide ((xs.length : Int) ≤ 40))) && ((decide ((ibS xfirst ((xs.getD (Int.toNat 0) 0).toNat : Int)) ≥ 0)) && ((trimS xs ([97, 98, 99, 100, 101, 102, 103, 104, 105, 106, 107, 108, 109, 110, 111, 112, 113, 114, 115, 116, 117, 118, 119, 120, 121, 122, 48, 49, 50, 51, 52, 53, 54, 55, 56, 57, 45, 95, 58] : Bs)) == ([] : Bs)))) from congrArg (Value.bool) ((Eq.trans (mand_f hc5) (mand_t hc3)))) ?_
    exact fun a W hA hW => ⟨hA.sub (by kernel_rfl), hW, hF⟩
  ·replace hF := hF.2 hc3
   refine Ok.batch 12 [(4, .bool false)] (by kernel_rfl) (Ok.nil (Ok.thenN (Ok.reval 4 rfl (show (.bool false : Value) = .bool (((!(xs == ([] : Bs))) && (decide ((xs.length : Int) ≤ 40))) && ((decide ((ibS xfirst ((xs.getD (Int.toNat 0) 0).toNat : Int)) ≥ 0)) && ((trimS xs ([97, 98, 99, 100, 101, 102, 103, 104, 105, 106, 107, 108, 109, 110, 111, 112, 113, 114, 115, 116, 117, 118, 119, 120, 121, 122, 48, 49, 50, 51, 52, 53, 54, 55, 56, 57, 45, 95, 58] : Bs)) == ([] : Bs)))) from congrArg (Value.bool) (mand_f hc3)) ?_)))
   exact fun a W hA hW => ⟨hA.sub (by kernel_rfl), hW, hF⟩
 ·
  clear hF
  rintro a W ⟨hA, hW, hF⟩
  refine (?_ : Ok _ _ _ _ _ _) a W hA hW
  clear hA hW
  refine Ok.ret ?_
  exact Ok.resH (vs := [.bool (((!(xs == ([] : Bs))) && (decide ((xs.length : Int) ≤ 40))) && ((decide ((ibS xfirst ((xs.getD (Int.toNat 0) 0).toNat : Int)) ≥ 0)) && ((trimS xs ([97, 98, 99, 100, 101, 102, 103, 104, 105, 106, 107, 108, 109, 110, 111, 112, 113, 114, 115, 116, 117, 118, 119, 120, 121, 122, 48, 49, 50, 51, 52, 53, 54, 55, 56, 57, 45, 95, 58] : Bs)) == ([] : Bs))))]) (.inl rfl) rfl (.cons (.tmp rfl) .nil) (Gext.refl w0 g) ⟨(((!(xs == ([] : Bs))) && (decide ((xs.length : Int) ≤ 40))) && ((decide ((ibS xfirst ((xs.getD (Int.toNat 0) 0).toNat : Int)) ≥ 0)) && ((trimS xs ([97, 98, 99, 100, 101, 102, 103, 104, 105, 106, 107, 108, 109, 110, 111, 112, 113, 114, 115, 116, 117, 118, 119, 120, 121, 122, 48, 49, 50, 51, 52, 53, 54, 55, 56, 57, 45, 95, 58] : Bs)) == ([] : Bs)))), rfl, rfl, hF⟩
def dnamj3M (xs : Bs) (xfirst : Bs) : Bool := (((!(xs == ([] : Bs))) && (decide ((xs.length : Int) ≤ 40))) && ((decide ((ibS xfirst ((xs.getD (Int.toNat 0) 0).toNat : Int)) ≥ 0)) && ((trimS xs ([97, 98, 99, 100, 101, 102, 103, 104, 105, 106, 107, 108, 109, 110, 111, 112, 113, 114, 115, 116, 117, 118, 119, 120, 121, 122, 48, 49, 50, 51, 52, 53, 54, 55, 56, 57, 45, 95, 58] : Bs)) == ([] : Bs))))
theorem dnamj3_A (xs : Bs) (xfirst : Bs) (P : Bool → Prop) (h : P (dnamj3M xs xfirst)) : dnamj3 xs xfirst (fun k0 => P k0) := by
 unfold dnamj3M at h
 unfold dnamj3
 exact h
def dnamM (xs : Bs) (xfirst : Bs) : Bool := (dnamj3M xs xfirst)
theorem dnamF_A (xs : Bs) (xfirst : Bs) (P : Bool → Prop) (h : P (dnamM xs xfirst)) : dnamF xs xfirst (fun k0 => P k0) := by
 unfold dnamM at h
 unfold dnamF
 refine ⟨fun hc0 => ?_, fun hc0 => ?_⟩
 ·skip
  have hd0 := hc0; try simp only [Bool.and_eq_true, Bool.or_eq_true, Bool.and_eq_false_iff, Bool.or_eq_false_iff, Bool.not_eq_true', Bool.not_eq_false', decide_eq_true_eq, decide_eq_false_iff_not, beq_iff_eq, beq_eq_false_iff_ne, ne_eq] at hd0
  refine ⟨?_, ?_, ?_⟩
  ·first | exact nam_trim (by assumption) (by decide) (by decide) | exact nam_pos (by assumption) | omega | assumption | exact trivial | (have h0 := List.length_pos_iff.mpr (by assumption); omega) | (simp; omega) | (simp at *; omega)
  ·first | exact nam_trim (by assumption) (by decide) (by decide) | exact nam_pos (by assumption) | omega | assumption | exact trivial | (have h0 := List.length_pos_iff.mpr (by assumption); omega) | (simp; omega) | (simp at *; omega)
  refine ⟨fun hc1 => ?_, fun hc1 => ?_⟩
  ·skip
   have hd1 := hc1; try simp only [Bool.and_eq_true, Bool.or_eq_true, Bool.and_eq_false_iff, Bool.or_eq_false_iff, Bool.not_eq_true', Bool.not_eq_false', decide_eq_true_eq, decide_eq_false_iff_not, beq_iff_eq, beq_eq_false_iff_ne, ne_eq] at hd1
   refine ⟨?_, ?_⟩
   ·first | exact nam_trim (by assumption) (by decide) (by decide) | exact nam_pos (by assumption) | omega | assumption | exact trivial | (have h0 := List.length_pos_iff.mpr (by assumption); omega) | (simp; omega) | (simp at *; omega)
   exact dnamj3_A xs xfirst _ h
  ·skip
   have hd1 := hc1; try simp only [Bool.and_eq_true, Bool.or_eq_true, Bool.and_eq_false_iff, Bool.or_eq_false_iff, Bool.not_eq_true', Bool.not_eq_false', decide_eq_true_eq, decide_eq_false_iff_not, beq_iff_eq, beq_eq_false_iff_ne, ne_eq] at hd1
   exact dnamj3_A xs xfirst _ h
 ·skip
  have hd0 := hc0; try simp only [Bool.and_eq_true, Bool.or_eq_true, Bool.and_eq_false_iff, Bool.or_eq_false_iff, Bool.not_eq_true', Bool.not_eq_false', decide_eq_true_eq, decide_eq_false_iff_not, beq_iff_eq, beq_eq_false_iff_ne, ne_eq] at hd0
  exact dnamj3_A xs xfirst _ h
theorem dnam_F (xs : Bs) (xfirst : Bs) : dnamF xs xfirst (fun k0 => k0 = dnamM xs xfirst) :=
 dnamF_A xs xfirst (fun z => z = dnamM xs xfirst) rfl
theorem dnam_c {g : Ghost} (xs : Bs) (xfirst : Bs)  : CallsG Tryd.prog 34 #[sv xs, sv xfirst] g (.bool (dnamM xs xfirst)) :=
 (dnam_ok xs xfirst _ (dnam_F xs xfirst)).gives (by rintro g' H' v _ ⟨r0, rfl, rfl, hK⟩; subst hK; rfl)
def dNamF (xs : Bs) (K : Bool → Prop) : Prop :=
 (0 : Int) ≤ 0 ∧ (0 : Int) ≤ 26 ∧ 26 ≤ (([97, 98, 99, 100, 101, 102, 103, 104, 105, 106, 107, 108, 109, 110, 111, 112, 113, 114, 115, 116, 117, 118, 119, 120, 121, 122, 48, 49, 50, 51, 52, 53, 54, 55, 56, 57, 45, 95, 58] : Bs).length : Int) ∧ K (dnamM xs (([97, 98, 99, 100, 101, 102, 103, 104, 105, 106, 107, 108, 109, 110, 111, 112, 113, 114, 115, 116, 117, 118, 119, 120, 121, 122, 48, 49, 50, 51, 52, 53, 54, 55, 56, 57, 45, 95, 58] : Bs).take (Int.toNat 26)))
theorem dNam_ok {g : Ghost} (xs : Bs) (K : Bool → Prop)
  (hF : dNamF xs K) : CallsH Tryd.prog 31 #[sv xs] g [] (fun g' H' v => ∃ (r0 : Bool), v = .bool r0 ∧ H' = [] ∧ K r0) := by
 refine CallsH.enter 6 [(0, sv xs)] Tryd.func31 rfl (by kernel_rfl) (by kernel_rfl) (by kernel_rfl) fun w0 => ?_
 refine Ok.seq (Ok.region (Ok.batch 1 [(0, sv xs)] (by kernel_rfl) (Ok.nil (Ok.thenN (Ok.seq (Ok.region (Ok.batch 1 [(3, sv xs)] (by kernel_rfl) ?_)))))))
 obtain ⟨h01, h11, h21, hF⟩ := hF
 refine Ok.op rfl (OpOk.step (v := sv (([97, 98, 99, 100, 101, 102, 103, 104, 105, 106, 107, 108, 109, 110, 111, 112, 113, 114, 115, 116, 117, 118, 119, 120, 121, 122, 48, 49, 50, 51, 52, 53, 54, 55, 56, 57, 45, 95, 58] : Bs).take (Int.toNat 26))) (Yields.sliceStr (s := ([97, 98, 99, 100, 101, 102, 103, 104, 105, 106, 107, 108, 109, 110, 111, 112, 113, 114, 115, 116, 117, 118, 119, 120, 121, 122, 48, 49, 50, 51, 52, 53, 54, 55, 56, 57, 45, 95, 58] : Bs)) (l := 0) (h := 26) (by kernel_rfl) Tryd.underlying9 (.inr ⟨rfl, rfl⟩) (.inl ⟨_, _, rfl, rfl⟩) h01 h11 h21 (([97, 98, 99, 100, 101, 102, 103, 104, 105, 106, 107, 108, 109, 110, 111, 112, 113, 114, 115, 116, 117, 118, 119, 120, 121, 122, 48, 49, 50, 51, 52, 53, 54, 55, 56, 57, 45, 95, 58] : Bs).take (Int.toNat 26)) (by simp)) rfl rfl (Ok.op rfl (OpOk.callG (v := .bool (dnamM xs (([97, 98, 99, 100, 101, 102, 103, 104, 105, 106, 107, 108, 109, 110, 111, 112, 113, 114, 115, 116, 117, 118, 119, 120, 121, 122, 48, 49, 50, 51, 52, 53, 54, 55, 56, 57, 45, 95, 58] : Bs).take (Int.toNat 26)))) enr (fun W hW => dnam_c xs (([97, 98, 99, 100, 101, 102, 103, 104, 105, 106, 107, 108, 109, 110, 111, 112, 113, 114, 115, 116, 117, 118, 119, 120, 121, 122, 48, 49, 50, 51, 52, 53, 54, 55, 56, 57, 45, 95, 58] : Bs).take (Int.toNat 26))) rfl ?_)))
 refine Ok.batch 1 [(2, .bool (dnamM xs (([97, 98, 99, 100, 101, 102, 103, 104, 105, 106, 107, 108, 109, 110, 111, 112, 113, 114, 115, 116, 117, 118, 119, 120, 121, 122, 48, 49, 50, 51, 52, 53, 54, 55, 56, 57, 45, 95, 58] : Bs).take (Int.toNat 26))))] (by kernel_rfl) (Ok.nil (Ok.thenN (Ok.ret ?_)))
 exact Ok.resH (vs := [.bool (dnamM xs (([97, 98, 99, 100, 101, 102, 103, 104, 105, 106, 107, 108, 109, 110, 111, 112, 113, 114, 115, 116, 117, 118, 119, 120, 121, 122, 48, 49, 50, 51, 52, 53, 54, 55, 56, 57, 45, 95, 58] : Bs).take (Int.toNat 26)))]) (.inl rfl) rfl (.cons (.tmp rfl) .nil) (Gext.refl w0 g) ⟨(dnamM xs (([97, 98, 99, 100, 101, 102, 103, 104, 105, 106, 107, 108, 109, 110, 111, 112, 113, 114, 115, 116, 117, 118, 119, 120, 121, 122, 48, 49, 50, 51, 52, 53, 54, 55, 56, 57, 45, 95, 58] : Bs).take (Int.toNat 26))), rfl, rfl, hF⟩
def dNamM (xs : Bs) : Bool := (dnamM xs (([97, 98, 99, 100, 101, 102, 103, 104, 105, 106, 107, 108, 109, 110, 111, 112, 113, 114, 115, 116, 117, 118, 119, 120, 121, 122, 48, 49, 50, 51, 52, 53, 54, 55, 56, 57, 45, 95, 58] : Bs).take (Int.toNat 26)))
theorem dNamF_A (xs : Bs) (P : Bool → Prop) (h : P (dNamM xs)) : dNamF xs (fun k0 => P k0) := by
 unfold dNamM at h
 unfold dNamF
 refine ⟨?_, ?_, ?_, ?_⟩
 ·first | (show (26 : Int) ≤ 39; omega) | (rw [maxLen_eq]; decide) | omega | assumption | exact trivial | (have h0 := List.length_pos_iff.mpr (by assumption); omega) | (simp; omega) | (simp at *; omega)
 ·first | (show (26 : Int) ≤ 39; omega) | (rw [maxLen_eq]; decide) | omega | assumption | exact trivial | (have h0 := List.length_pos_iff.mpr (by assumption); omega) | (simp; omega) | (simp at *; omega)
 ·first | (show (26 : Int) ≤ 39; omega) | (rw [maxLen_eq]; decide) | omega | assumption | exact trivial | (have h0 := List.length_pos_iff.mpr (by assumption); omega) | (simp; omega) | (simp at *; omega)
 exact h
theorem dNam_F (xs : Bs) : dNamF xs (fun k0 => k0 = dNamM xs) :=
 dNamF_A xs (fun z => z = dNamM xs) rfl
theorem dNam_c {g : Ghost} (xs : Bs)  : CallsG Tryd.prog 31 #[sv xs] g (.bool (dNamM xs)) :=
 (dNam_ok xs _ (dNam_F xs)).gives (by rintro g' H' v _ ⟨r0, rfl, rfl, hK⟩; subst hK; rfl)
def datnF (xs : Bs) (K : Bool → Prop) : Prop :=
 (0 : Int) ≤ 0 ∧ (0 : Int) ≤ 26 ∧ 26 ≤ (([97, 98, 99, 100, 101, 102, 103, 104, 105, 106, 107, 108, 109, 110, 111, 112, 113, 114, 115, 116, 117, 118, 119, 120, 121, 122, 48, 49, 50, 51, 52, 53, 54, 55, 56, 57, 45, 95, 58] : Bs).length : Int) ∧ (([97, 98, 99, 100, 101, 102, 103, 104, 105, 106, 107, 108, 109, 110, 111, 112, 113, 114, 115, 116, 117, 118, 119, 120, 121, 122, 48, 49, 50, 51, 52, 53, 54, 55, 56, 57, 45, 95, 58] : Bs).take (Int.toNat 26)).length + ([45, 95] : Bs).length ≤ maxLen ∧ K (dnamM xs ((([97, 98, 99, 100, 101, 102, 103, 104, 105, 106, 107, 108, 109, 110, 111, 112, 113, 114, 115, 116, 117, 118, 119, 120, 121, 122, 48, 49, 50, 51, 52, 53, 54, 55, 56, 57, 45, 95, 58] : Bs).take (Int.toNat 26)) ++ ([45, 95] : Bs)))
theorem datn_ok {g : Ghost} (xs : Bs) (K : Bool → Prop)
  (hF : datnF xs K) : CallsH Tryd.prog 35 #[sv xs] g [] (fun g' H' v => ∃ (r0 : Bool), v = .bool r0 ∧ H' = [] ∧ K r0) := by
 refine CallsH.enter 7 [(0, sv xs)] Tryd.func35 rfl (by kernel_rfl) (by kernel_rfl) (by kernel_rfl) fun w0 => ?_
 refine Ok.seq (Ok.region (Ok.batch 1 [(0, sv xs)] (by kernel_rfl) (Ok.nil (Ok.thenN (Ok.seq (Ok.region (Ok.batch 1 [(3, sv xs)] (by kernel_rfl) ?_)))))))
 obtain ⟨h01, h11, h21, hF⟩ := hF
 refine Ok.op rfl (OpOk.step (v := sv (([97, 98, 99, 100, 101, 102, 103, 104, 105, 106, 107, 108, 109, 110, 111, 112, 113, 114, 115, 116, 117, 118, 119, 120, 121, 122, 48, 49, 50, 51, 52, 53, 54, 55, 56, 57, 45, 95, 58] : Bs).take (Int.toNat 26))) (Yields.sliceStr (s := ([97, 98, 99, 100, 101, 102, 103, 104, 105, 106, 107, 108, 109, 110, 111, 112, 113, 114, 115, 116, 117, 118, 119, 120, 121, 122, 48, 49, 50, 51, 52, 53, 54, 55, 56, 57, 45, 95, 58] : Bs)) (l := 0) (h := 26) (by kernel_rfl) Tryd.underlying9 (.inr ⟨rfl, rfl⟩) (.inl ⟨_, _, rfl, rfl⟩) h01 h11 h21 (([97, 98, 99, 100, 101, 102, 103, 104, 105, 106, 107, 108, 109, 110, 111, 112, 113, 114, 115, 116, 117, 118, 119, 120, 121, 122, 48, 49, 50, 51, 52, 53, 54, 55, 56, 57, 45, 95, 58] : Bs).take (Int.toNat 26)) (by simp)) rfl rfl ?_)
 obtain ⟨hv, hF⟩ := hF
 refine Ok.op rfl (OpOk.step (v := sv ((([97, 98, 99, 100, 101, 102, 103, 104, 105, 106, 107, 108, 109, 110, 111, 112, 113, 114, 115, 116, 117, 118, 119, 120, 121, 122, 48, 49, 50, 51, 52, 53, 54, 55, 56, 57, 45, 95, 58] : Bs).take (Int.toNat 26)) ++ ([45, 95] : Bs))) (Yields.strAdd rfl rfl hv) rfl rfl (Ok.op rfl (OpOk.callG (v := .bool (dnamM xs ((([97, 98, 99, 100, 101, 102, 103, 104, 105, 106, 107, 108, 109, 110, 111, 112, 113, 114, 115, 116, 117, 118, 119, 120, 121, 122, 48, 49, 50, 51, 52, 53, 54, 55, 56, 57, 45, 95, 58] : Bs).take (Int.toNat 26)) ++ ([45, 95] : Bs)))) enr (fun W hW => dnam_c xs ((([97, 98, 99, 100, 101, 102, 103, 104, 105, 106, 107, 108, 109, 110, 111, 112, 113, 114, 115, 116, 117, 118, 119, 120, 121, 122, 48, 49, 50, 51, 52, 53, 54, 55, 56, 57, 45, 95, 58] : Bs).take (Int.toNat 26)) ++ ([45, 95] : Bs))) rfl ?_)))
 refine Ok.batch 1 [(2, .bool (dnamM xs ((([97, 98, 99, 100, 101, 102, 103, 104, 105, 106, 107, 108, 109, 110, 111, 112, 113, 114, 115, 116, 117, 118, 119, 120, 121, 122, 48, 49, 50, 51, 52, 53, 54, 55, 56, 57, 45, 95, 58] : Bs).take (Int.toNat 26)) ++ ([45, 95] : Bs))))] (by kernel_rfl) (Ok.nil (Ok.thenN (Ok.ret ?_)))
 exact Ok.resH (vs := [.bool (dnamM xs ((([97, 98, 99, 100, 101, 102, 103, 104, 105, 106, 107, 108, 109, 110, 111, 112, 113, 114, 115, 116, 117, 118, 119, 120, 121, 122, 48, 49, 50, 51, 52, 53, 54, 55, 56, 57, 45, 95, 58] : Bs).take (Int.toNat 26)) ++ ([45, 95] : Bs)))]) (.inl rfl) rfl (.cons (.tmp rfl) .nil) (Gext.refl w0 g) ⟨(dnamM xs ((([97, 98, 99, 100, 101, 102, 103, 104, 105, 106, 107, 108, 109, 110, 111, 112, 113, 114, 115, 116, 117, 118, 119, 120, 121, 122, 48, 49, 50, 51, 52, 53, 54, 55, 56, 57, 45, 95, 58] : Bs).take (Int.toNat 26)) ++ ([45, 95] : Bs))), rfl, rfl, hF⟩
def datnM (xs : Bs) : Bool := (dnamM xs ((([97, 98, 99, 100, 101, 102, 103, 104, 105, 106, 107, 108, 109, 110, 111, 112, 113, 114, 115, 116, 117, 118, 119, 120, 121, 122, 48, 49, 50, 51, 52, 53, 54, 55, 56, 57, 45, 95, 58] : Bs).take (Int.toNat 26)) ++ ([45, 95] : Bs)))
theorem datnF_A (xs : Bs) (P : Bool → Prop) (h : P (datnM xs)) : datnF xs (fun k0 => P k0) := by
 unfold datnM at h
 unfold datnF
 refine ⟨?_, ?_, ?_, ?_⟩
 ·first | (show (26 : Int) ≤ 39; omega) | (rw [maxLen_eq]; decide) | omega | assumption | exact trivial | (have h0 := List.length_pos_iff.mpr (by assumption); omega) | (simp; omega) | (simp at *; omega)
 ·first | (show (26 : Int) ≤ 39; omega) | (rw [maxLen_eq]; decide) | omega | assumption | exact trivial | (have h0 := List.length_pos_iff.mpr (by assumption); omega) | (simp; omega) | (simp at *; omega)
 ·first | (show (26 : Int) ≤ 39; omega) | (rw [maxLen_eq]; decide) | omega | assumption | exact trivial | (have h0 := List.length_pos_iff.mpr (by assumption); omega) | (simp; omega) | (simp at *; omega)
 refine ⟨?_, ?_⟩
 ·first | (show (26 : Int) ≤ 39; omega) | (rw [maxLen_eq]; decide) | omega | assumption | exact trivial | (have h0 := List.length_pos_iff.mpr (by assumption); omega) | (simp; omega) | (simp at *; omega)
 exact h
theorem datn_F (xs : Bs) : datnF xs (fun k0 => k0 = datnM xs) :=
 datnF_A xs (fun z => z = datnM xs) rfl
theorem datn_c {g : Ghost} (xs : Bs)  : CallsG Tryd.prog 35 #[sv xs] g (.bool (datnM xs)) :=
 (datn_ok xs _ (datn_F xs)).gives (by rintro g' H' v _ ⟨r0, rfl, rfl, hK⟩; subst hK; rfl)
def dfcF (xa : Bs × Bs) (x1 : Bs) (K : Bool → Prop) : Prop :=
 K (xa.1 == x1)
theorem dfc_ok {g : Ghost} (xa : Bs × Bs) {bx1 ox1 : Nat} (x1 : Bs) (hPx1 : PtrTo g (.str) bx1 ox1 x1) (K : Bool → Prop)
  (hF : dfcF xa x1 K) : CallsH Tryd.prog 40 #[.agg #[sv xa.1, sv xa.2], pv bx1 ox1] g [] (fun g' H' v => ∃ (r0 : Bool), v = .bool r0 ∧ H' = [] ∧ K r0) := by
 refine CallsH.enter 8 [(0, .agg #[sv xa.1, sv xa.2]), (1, pv bx1 ox1)] Tryd.func40 rfl (by kernel_rfl) (by kernel_rfl) (by kernel_rfl) fun w0 => ?_
 obtain ⟨csx1, _, hatx1, hrx1⟩ := hPx1
 obtain rfl := hrx1
 replace hatx1 : At g bx1 ox1 [sv x1] := hatx1
 refine Ok.seq (Ok.region (Ok.op rfl (OpOk.box (v := .agg #[sv xa.1, sv xa.2]) (cs := #[sv xa.1, sv xa.2]) rfl (by kernel_rfl) rfl fun b1 => ?_)))
 refine Ok.batch 1 [(1, pv bx1 ox1), (2, pv b1 0)] (by kernel_rfl) (Ok.nil (Ok.thenN (Ok.seq (Ok.region (Ok.bat 1 [1] [(4, pv b1 0)] ?_)))))
 refine Ok.op rfl (OpOk.step (v := sv xa.1) (Yields.load 0 rfl rfl Tryd.underlying9 rfl (by kernel_rfl)) rfl rfl (Ok.op rfl (OpOk.step (v := sv x1) (Yields.loadRo 0 hatx1 (by kernel_rfl) Tryd.underlying9 rfl (by kernel_rfl)) rfl rfl (Ok.op rfl (OpOk.step (v := .bool (xa.1 == x1)) (Yields.strCmp (f := .eql) (a := xa.1) (b := x1) (by kernel_rfl) (by kernel_rfl) rfl) rfl rfl (Ok.batch 1 [(3, .bool (xa.1 == x1))] (by kernel_rfl) (Ok.nil (Ok.thenN (Ok.ret ?_)))))))))
 exact Ok.resP (vs := [.bool (xa.1 == x1)]) [] [] (by decide) rfl (.inl rfl) rfl (.cons (.tmp rfl) .nil) (Gext.refl w0 g) ⟨(xa.1 == x1), rfl, rfl, hF⟩
def dfcM (xa : Bs × Bs) (x1 : Bs) : Bool := (xa.1 == x1)
theorem dfcF_A (xa : Bs × Bs) (x1 : Bs) (P : Bool → Prop) (h : P (dfcM xa x1)) : dfcF xa x1 (fun k0 => P k0) := by
 unfold dfcM at h
 unfold dfcF
 exact h
theorem dfc_F (xa : Bs × Bs) (x1 : Bs) : dfcF xa x1 (fun k0 => k0 = dfcM xa x1) :=
 dfcF_A xa x1 (fun z => z = dfcM xa x1) rfl
theorem dfc_c {g : Ghost} (xa : Bs × Bs) {bx1 ox1 : Nat} (x1 : Bs) (hPx1 : PtrTo g (.str) bx1 ox1 x1)  : CallsG Tryd.prog 40 #[.agg #[sv xa.1, sv xa.2], pv bx1 ox1] g (.bool (dfcM xa x1)) :=
 (dfc_ok xa x1 hPx1 _ (dfc_F xa x1)).gives (by rintro g' H' v _ ⟨r0, rfl, rfl, hK⟩; subst hK; rfl)
def difxl7b (xs : List (Bs × Bs)) (xf : (Bs × Bs) → Bool) (pxf : (Bs × Bs) → Prop) (K : Int → Prop) (x8l7 : Int) (C7 : Int → Prop) : Prop :=
 ((decide (x8l7 < (xs.length : Int))) = true → (0 : Int) ≤ x8l7 ∧ Int.toNat x8l7 < xs.length ∧ pxf (xs.getD (Int.toNat x8l7) default) ∧ (((xf (xs.getD (Int.toNat x8l7) default))) = true → K x8l7) ∧ (((xf (xs.getD (Int.toNat x8l7) default))) = false → C7 (w6 (x8l7 + 1)))) ∧ ((decide (x8l7 < (xs.length : Int))) = false → K (-1))
def difxl7 (xs : List (Bs × Bs)) (xf : (Bs × Bs) → Bool) (pxf : (Bs × Bs) → Prop) (K : Int → Prop) : Nat → Int → Prop
 | 0, _ => False
 | k + 1, x8l7 => difxl7b xs xf pxf K x8l7 (difxl7 xs xf pxf K k)
def difxF (xs : List (Bs × Bs)) (xf : (Bs × Bs) → Bool) (pxf : (Bs × Bs) → Prop) (K : Int → Prop) : Prop :=
 ∃ k, difxl7 xs xf pxf K k 0
theorem difx_ok {g : Ghost} {axs_0 : Option Addr} {cxs_0 : Nat} (xs : List (Bs × Bs)) {vxf : Value} (xf : (Bs × Bs) → Bool) (pxf : (Bs × Bs) → Prop) (hRxs_0 : Rep g (.slice (.pair (.str) (.str))) [.slice axs_0 xs.length cxs_0] xs) (hfxf : ∀ (y0 : Bs × Bs), pxf y0 → FnG Tryd.prog vxf #[.agg #[sv y0.1, sv y0.2]] g (.bool (xf y0))) (K : Int → Prop)
  (hF : difxF xs xf pxf K) : CallsH Tryd.prog 39 #[.slice axs_0 xs.length cxs_0, vxf] g [] (fun g' H' v => ∃ (r0 : Int), v = .int .i64 r0 ∧ H' = [] ∧ K r0) := by
 refine CallsH.enter 19 [(0, .slice axs_0 xs.length cxs_0), (1, vxf)] Tryd.func39 rfl (by kernel_rfl) (by kernel_rfl) (by kernel_rfl) fun w0 => ?_
 refine Ok.seq (Ok.region (Ok.batch 1 [(0, .slice axs_0 xs.length cxs_0), (1, vxf)] (by kernel_rfl) (Ok.nil (Ok.thenN (Ok.seq (Ok.seq (Ok.region (Ok.bat 3 [0, 1] [(7, .int .i64 (xs.length : Int)), (8, .int .i64 0)] ?_))))))))
 refine Ok.nil (Ok.thenN (Ok.block ?_))
 obtain ⟨k, hF⟩ := hF
 refine Ok.loop (fun k a W => ∃ (x8l7 : Int), StA 19 [(0, .slice axs_0 xs.length cxs_0), (1, vxf), (7, .int .i64 (xs.length : Int)), (8, .int .i64 x8l7)] a ∧ StW w0 [] g W ∧ difxl7 xs xf pxf K k x8l7) k ?_ ?_
 ·
  exact fun a W hA hW => ⟨0, hA.sub (by kernel_rfl), hW, hF⟩
 ·
  clear hF
  rintro k7 a W ⟨x8l7, hA, hW, hF⟩
  cases k7 with
  | zero => exact (hF : False).elim
  | succ k7 =>
   refine (?_ : Ok _ _ _ _ _ _) a W hA hW
   clear hA hW
   refine Ok.seq (Ok.region (Ok.bat 1 [0, 1, 7, 8] [(9, .bool (decide (x8l7 < (xs.length : Int))))] ?_))
   refine Ok.nil (Ok.thenN (Ok.seq (Ok.cond (b := decide (x8l7 < (xs.length : Int))) rfl (fun hc1 => ?_) (fun hc1 => ?_))))
   ·replace hF := hF.1 hc1
    refine Ok.skip (Ok.thenN (Ok.seq (Ok.block (Ok.seq (Ok.region (Ok.bat 2 [0, 1, 7, 8] [(5, .int .i64 x8l7)] ?_))))))
    refine Ok.nil (Ok.thenN (Ok.seq (Ok.region (Ok.bat 3 [0, 1, 5, 7, 8] [(11, vxf), (12, .slice axs_0 xs.length cxs_0), (13, .int .i64 x8l7)] ?_))))
    obtain ⟨h03, h13, hF⟩ := hF
    have he3 := get_of (l := xs) (default : Bs × Bs) h13
    generalize hg3 : (xs.getD (Int.toNat x8l7) default) = e3 at he3 hF ⊢
    refine Ok.op rfl (OpOk.indexRo (e := .pair (.str) (.str)) (i := x8l7) (el := e3) rfl rfl Tryd.underlying44 (by kernel_rfl) hRxs_0 h03 he3 rfl fun q2 o2 cs2 _ hat2 hr2 => ?_)
    obtain ⟨_, _, rfl, rfl, rfl⟩ := hr2
    replace hat2 : At g q2 o2 [sv e3.1, sv e3.2] := hat2
    refine Ok.op rfl (OpOk.step (v := .agg #[sv e3.1, sv e3.2]) (Yields.loadAggRo 0 2 #[sv e3.1, sv e3.2] hat2 (by kernel_rfl) Tryd.underlying78 rfl (by kernel_rfl) (by kernel_rfl) (by kernel_rfl)) rfl rfl ?_)
    obtain ⟨hq4, hF⟩ := hF
    refine Ok.op rfl (OpOk.apply (args := #[.agg #[sv e3.1, sv e3.2]]) (v := .bool (xf e3)) rfl (by kernel_rfl) (by kernel_rfl) (hfxf e3 hq4) rfl (Ok.nil (Ok.thenN (Ok.cond (b := (xf e3)) rfl (fun hc5 => ?_) (fun hc5 => ?_)))))
    ·replace hF := hF.1 hc5
     refine Ok.seq (Ok.region (Ok.batch 2 [(4, .int .i64 x8l7)] (by kernel_rfl) (Ok.nil (Ok.thenN (Ok.ret (Ok.blockR (Ok.thenR (Ok.thenR (Ok.blockR (Ok.thenR ?_))))))))))
     exact Ok.resH (vs := [.int .i64 x8l7]) (.inl rfl) rfl (.cons (.tmp rfl) .nil) (Gext.refl w0 g) ⟨x8l7, rfl, rfl, hF⟩
    ·replace hF := hF.2 hc5
     refine Ok.skip (Ok.blockN (Ok.thenN (Ok.region (Ok.bat 2 [0, 1, 7] [(8, .int .i64 (w6 (x8l7 + 1)))] ?_))))
     refine Ok.nil (Ok.thenN ?_)
     subst hg3
     exact fun a W hA hW => ⟨k7, Nat.lt_succ_self _, w6 (x8l7 + 1), hA.sub (by kernel_rfl), hW, hF⟩
   ·replace hF := hF.2 hc1
    refine Ok.exit (Ok.thenE (Ok.thenE (Ok.blockHit (Ok.thenN (Ok.seq (Ok.region (Ok.batch 1 [(4, .int .i64 (-1))] (by kernel_rfl) (Ok.nil (Ok.thenN (Ok.ret ?_))))))))))
    exact Ok.resH (vs := [.int .i64 (-1)]) (.inl rfl) rfl (.cons (.tmp rfl) .nil) (Gext.refl w0 g) ⟨(-1), rfl, rfl, hF⟩
def idxN {α : Type} (f : α → Bool) : List α → Nat → Int
 | [], _ => -1
 | x :: l, i => if f x = true then (i : Int) else idxN f l (i + 1)
def difxS (l : List (Bs × Bs)) (f : (Bs × Bs) → Bool) : Int := idxN f l 0
def difxP (l : List (Bs × Bs)) (_ : (Bs × Bs) → Bool) (p : (Bs × Bs) → Prop) : Prop := l.length ≤ 1000000 ∧ ∀ y, p y
theorem difx_F (l : List (Bs × Bs)) (f : (Bs × Bs) → Bool) (p : (Bs × Bs) → Prop) (hp : difxP l f p) : difxF l f p (fun r => r = difxS l f) := by
 obtain ⟨hl, hp⟩ := hp
 have loop : ∀ (k i : Nat), i + k = l.length → difxS l f = idxN f (l.drop i) i → difxl7 l f p (fun r => r = difxS l f) (k + 1) (i : Int) := by
  intro k
  induction k with
  | zero =>
   intro i h h2
   have hn : decide ((i : Int) < (l.length : Int)) = false := decide_eq_false (by omega)
   rw [List.drop_of_length_le (by omega)] at h2
   exact ⟨fun h => (Bool.false_ne_true (hn.symm.trans h)).elim, fun _ => h2.symm⟩
  | succ k ih =>
   intro i h h2
   have hn : decide ((i : Int) < (l.length : Int)) = true := decide_eq_true (by omega)
   rw [drop_get (l := l) default (by omega), idxN] at h2
   refine ⟨fun _ => ⟨by omega, by rw [Int.toNat_natCast]; omega, hp _, fun hc => ?_, fun hc => ?_⟩, fun h => (Bool.false_ne_true (h.symm.trans hn)).elim⟩
   ·rw [Int.toNat_natCast] at hc
    rw [h2, if_t hc]
   ·rw [Int.toNat_natCast] at hc
    rw [if_f hc] at h2
    rw [w64 (by omega)]
    exact ih (i + 1) (by omega) h2
 exact ⟨_, loop l.length 0 (by omega) rfl⟩
theorem difx_c {g : Ghost} {axs_0 : Option Addr} {cxs_0 : Nat} (xs : List (Bs × Bs)) {vxf : Value} (xf : (Bs × Bs) → Bool) (pxf : (Bs × Bs) → Prop) (hRxs_0 : Rep g (.slice (.pair (.str) (.str))) [.slice axs_0 xs.length cxs_0] xs) (hfxf : ∀ (y0 : Bs × Bs), pxf y0 → FnG Tryd.prog vxf #[.agg #[sv y0.1, sv y0.2]] g (.bool (xf y0)))  (hp : difxP xs xf pxf) : CallsG Tryd.prog 39 #[.slice axs_0 xs.length cxs_0, vxf] g (.int .i64 (difxS xs xf)) :=
 (difx_ok xs xf pxf hRxs_0 hfxf _ (difx_F xs xf pxf hp)).gives (by rintro g' H' v _ ⟨r0, rfl, rfl, hK⟩; subst hK; rfl)
def dfinP (l : List (Bs × Bs)) (_ : Bs) : Prop := l.length ≤ 1000000
def dfinF (xl : List (Bs × Bs)) (xname : Bs) (K : Int → Prop) : Prop :=
 difxP xl (fun y0 => dfcM y0 xname) (fun _ => True) ∧ K (difxS xl (fun y0 => dfcM y0 xname))
theorem dfin_ok {g : Ghost} {axl_0 : Option Addr} {cxl_0 : Nat} (xl : List (Bs × Bs)) (xname : Bs) (hRxl_0 : Rep g (.slice (.pair (.str) (.str))) [.slice axl_0 xl.length cxl_0] xl) (K : Int → Prop)
  (hF : dfinF xl xname K) : CallsH Tryd.prog 36 #[.slice axl_0 xl.length cxl_0, sv xname] g [] (fun g' H' v => ∃ (r0 : Int), v = .int .i64 r0 ∧ H' = [] ∧ K r0) := by
 refine CallsH.enter 8 [(0, .slice axl_0 xl.length cxl_0), (1, sv xname)] Tryd.func36 rfl (by kernel_rfl) (by kernel_rfl) (by kernel_rfl) fun w0 => ?_
 refine Ok.seq (Ok.region (Ok.op rfl (OpOk.box (v := sv xname) (cs := #[sv xname]) rfl (by kernel_rfl) rfl fun b1 => ?_)))
 refine Ok.batch 1 [(0, .slice axl_0 xl.length cxl_0), (3, pv b1 0)] (by kernel_rfl) (Ok.nil (Ok.thenN (Ok.seq (Ok.region (Ok.batch 2 [(5, .slice axl_0 xl.length cxl_0), (6, .func (.func 40) #[] #[pv b1 0])] (by kernel_rfl) ?_)))))
 obtain ⟨hp2, hF⟩ := hF
 refine Ok.op rfl (OpOk.callG (v := .int .i64 (difxS xl (fun y0 => dfcM y0 xname))) enr (fun W hW => difx_c (vxf := .func (.func 40) #[] #[pv b1 0]) xl (fun y0 => dfcM y0 xname) (fun _ => True) (hRxl_0.mono hW.sees) (fun y0 hq => ⟨40, _, fun _ => by kernel_rfl, dfc_c y0 xname ⟨[sv xname], rfl, (hW.seeBlk 0 rfl 0 [sv xname] rfl), rfl⟩⟩) hp2) rfl ?_)
 refine Ok.batch 1 [(4, .int .i64 (difxS xl (fun y0 => dfcM y0 xname)))] (by kernel_rfl) ?_
 refine Ok.nil (Ok.thenN (Ok.ret ?_))
 exact Ok.resP (vs := [.int .i64 (difxS xl (fun y0 => dfcM y0 xname))]) [] [] (by decide) rfl (.inl rfl) rfl (.cons (.tmp rfl) .nil) (Gext.refl w0 g) ⟨(difxS xl (fun y0 => dfcM y0 xname)), rfl, rfl, hF⟩
def dfinM (xl : List (Bs × Bs)) (xname : Bs) : Int := (difxS xl (fun y0 => dfcM y0 xname))
theorem dfinF_A (xl : List (Bs × Bs)) (xname : Bs) (hp : dfinP xl xname) (P : Int → Prop) (h : P (dfinM xl xname)) : dfinF xl xname (fun k0 => P k0) := by
 unfold dfinM at h
 unfold dfinF
 refine ⟨?_, ?_⟩
 ·first | exact ⟨hp, fun _ => trivial⟩ | omega | assumption | exact trivial | (have h0 := List.length_pos_iff.mpr (by assumption); omega) | (simp; omega) | (simp at *; omega)
 exact h
theorem dfin_F (xl : List (Bs × Bs)) (xname : Bs) (hp : dfinP xl xname) : dfinF xl xname (fun k0 => k0 = dfinM xl xname) :=
 dfinF_A xl xname hp (fun z => z = dfinM xl xname) rfl
theorem dfin_c {g : Ghost} {axl_0 : Option Addr} {cxl_0 : Nat} (xl : List (Bs × Bs)) (xname : Bs) (hRxl_0 : Rep g (.slice (.pair (.str) (.str))) [.slice axl_0 xl.length cxl_0] xl)  (hp : dfinP xl xname) : CallsG Tryd.prog 36 #[.slice axl_0 xl.length cxl_0, sv xname] g (.int .i64 (dfinM xl xname)) :=
 (dfin_ok xl xname hRxl_0 _ (dfin_F xl xname hp)).gives (by rintro g' H' v _ ⟨r0, rfl, rfl, hK⟩; subst hK; rfl)
def dattl15b (xl : List (Bs × Bs)) (K : Int → Prop) (x10l15 : Int) (C15 : Int → Prop) : Prop :=
 ((decide (x10l15 < (xl.length : Int))) = true → (0 : Int) ≤ x10l15 ∧ Int.toNat x10l15 < xl.length ∧ ((!(datnM (xl.getD (Int.toNat x10l15) default).1)) = true → K 3) ∧ ((!(datnM (xl.getD (Int.toNat x10l15) default).1)) = false → ((decide (((xl.getD (Int.toNat x10l15) default).2.length : Int) > 400)) = true → K 2) ∧ ((decide (((xl.getD (Int.toNat x10l15) default).2.length : Int) > 400)) = false → (0 : Int) ≤ 0 ∧ (0 : Int) ≤ x10l15 ∧ x10l15 ≤ (xl.length : Int) ∧ dfinP (xl.take (Int.toNat x10l15)) (xl.getD (Int.toNat x10l15) default).1 ∧ ((decide ((dfinM (xl.take (Int.toNat x10l15)) (xl.getD (Int.toNat x10l15) default).1) ≥ 0)) = true → K 3) ∧ ((decide ((dfinM (xl.take (Int.toNat x10l15)) (xl.getD (Int.toNat x10l15) default).1) ≥ 0)) = false → C15 (w6 (x10l15 + 1)))))) ∧ ((decide (x10l15 < (xl.length : Int))) = false → K 0)
def dattl15 (xl : List (Bs × Bs)) (K : Int → Prop) : Nat → Int → Prop
 | 0, _ => False
 | k + 1, x10l15 => dattl15b xl K x10l15 (dattl15 xl K k)
def dattF (xl : List (Bs × Bs)) (K : Int → Prop) : Prop :=
 ((decide ((xl.length : Int) > 12)) = true → K 2) ∧ ((decide ((xl.length : Int) > 12)) = false → ∃ k, dattl15 xl K k 0)
theorem datt_ok {g : Ghost} {axl_0 : Option Addr} {cxl_0 : Nat} (xl : List (Bs × Bs)) (hRxl_0 : Rep g (.slice (.pair (.str) (.str))) [.slice axl_0 xl.length cxl_0] xl) (K : Int → Prop)
  (hF : dattF xl K) : CallsH Tryd.prog 32 #[.slice axl_0 xl.length cxl_0] g [] (fun g' H' v => ∃ (r0 : Int), v = .int .i64 r0 ∧ H' = [] ∧ K r0) := by
 refine CallsH.enter 34 [(0, .slice axl_0 xl.length cxl_0)] Tryd.func32 rfl (by kernel_rfl) (by kernel_rfl) (by kernel_rfl) fun w0 => ?_
 refine Ok.seq (Ok.region (Ok.batch 1 [(0, .slice axl_0 xl.length cxl_0)] (by kernel_rfl) (Ok.nil (Ok.thenN (Ok.seq (Ok.seq (Ok.region (Ok.bat 3 [0] [(7, .bool (decide ((xl.length : Int) > 12)))] ?_))))))))
 refine Ok.nil (Ok.thenN (Ok.cond (b := decide ((xl.length : Int) > 12)) rfl (fun hc1 => ?_) (fun hc1 => ?_)))
 ·replace hF := hF.1 hc1
  refine Ok.seq (Ok.region (Ok.batch 1 [(2, .int .i64 2)] (by kernel_rfl) (Ok.nil (Ok.thenN (Ok.ret (Ok.thenR ?_))))))
  exact Ok.resH (vs := [.int .i64 2]) (.inl rfl) rfl (.cons (.tmp rfl) .nil) (Gext.refl w0 g) ⟨2, rfl, rfl, hF⟩
 ·replace hF := hF.2 hc1
  refine Ok.skip (Ok.thenN (Ok.seq (Ok.seq (Ok.region (Ok.bat 3 [0] [(8, .slice axl_0 xl.length cxl_0), (9, .int .i64 (xl.length : Int)), (10, .int .i64 0)] ?_)))))
  refine Ok.nil (Ok.thenN (Ok.block ?_))
  obtain ⟨k, hF⟩ := hF
  refine Ok.loop (fun k a W => ∃ (x10l15 : Int), StA 34 [(0, .slice axl_0 xl.length cxl_0), (8, .slice axl_0 xl.length cxl_0), (9, .int .i64 (xl.length : Int)), (10, .int .i64 x10l15)] a ∧ StW w0 [] g W ∧ dattl15 xl K k x10l15) k ?_ ?_
  ·
   exact fun a W hA hW => ⟨0, hA.sub (by kernel_rfl), hW, hF⟩
  ·
   clear hF
   rintro k15 a W ⟨x10l15, hA, hW, hF⟩
   cases k15 with
   | zero => exact (hF : False).elim
   | succ k15 =>
    refine (?_ : Ok _ _ _ _ _ _) a W hA hW
    clear hA hW
    refine Ok.seq (Ok.region (Ok.bat 1 [0, 8, 9, 10] [(11, .bool (decide (x10l15 < (xl.length : Int))))] ?_))
    refine Ok.nil (Ok.thenN (Ok.seq (Ok.cond (b := decide (x10l15 < (xl.length : Int))) rfl (fun hc2 => ?_) (fun hc2 => ?_))))
    ·replace hF := hF.1 hc2
     refine Ok.skip (Ok.thenN (Ok.seq (Ok.block (Ok.seq (Ok.region (Ok.bat 1 [0, 8, 9, 10] [(12, .int .i64 x10l15)] ?_))))))
     obtain ⟨h04, h14, hF⟩ := hF
     have he4 := get_of (l := xl) (default : Bs × Bs) h14
     generalize hg4 : (xl.getD (Int.toNat x10l15) default) = e4 at he4 hF ⊢
     refine Ok.op rfl (OpOk.indexRo (e := .pair (.str) (.str)) (i := x10l15) (el := e4) rfl rfl Tryd.underlying44 (by kernel_rfl) hRxl_0 h04 he4 rfl fun q3 o3 cs3 _ hat3 hr3 => ?_)
     obtain ⟨_, _, rfl, rfl, rfl⟩ := hr3
     replace hat3 : At g q3 o3 [sv e4.1, sv e4.2] := hat3
     refine Ok.op rfl (OpOk.step (v := .agg #[sv e4.1, sv e4.2]) (Yields.loadAggRo 0 2 #[sv e4.1, sv e4.2] hat3 (by kernel_rfl) Tryd.underlying78 rfl (by kernel_rfl) (by kernel_rfl) (by kernel_rfl)) rfl rfl (Ok.op rfl (OpOk.alloc (z := .agg #[sv ([] : Bs), sv ([] : Bs)]) (cs := #[sv ([] : Bs), sv ([] : Bs)]) (by kernel_rfl) (by kernel_rfl) rfl fun b5 => ?_)))
     refine Ok.bat 1 [0, 8, 9, 10] [(3, .int .i64 x10l15), (4, pv b5 0), (14, .agg #[sv e4.1, sv e4.2])] ?_
     refine Ok.op rfl (OpOk.sto (k := 2) (v := .agg #[sv e4.1, sv e4.2]) 0 #[sv e4.1, sv e4.2] rfl rfl rfl ?_)
     refine Ok.nil (Ok.thenN (Ok.block (Ok.seq (Ok.region (Ok.bat 1 [0, 3, 4, 8, 9, 10] [(16, pv b5 0)] ?_)))))
     refine Ok.op rfl (OpOk.step (v := sv e4.1) (Yields.load 0 rfl rfl Tryd.underlying9 rfl (by kernel_rfl)) rfl rfl (Ok.op rfl (OpOk.callG (v := .bool (datnM e4.1)) enr (fun W hW => datn_c e4.1) rfl ?_)))
     refine Ok.bat 2 [0, 3, 4, 8, 9, 10] [(15, .bool (!(datnM e4.1)))] ?_
     refine Ok.nil (Ok.thenN (Ok.cond (b := !(datnM e4.1)) rfl (fun hc6 => ?_) (fun hc6 => ?_)))
     ·replace hF := hF.1 hc6
      refine Ok.seq (Ok.region (Ok.batch 1 [(2, .int .i64 3)] (by kernel_rfl) (Ok.nil (Ok.thenN (Ok.ret (Ok.blockR (Ok.blockR (Ok.thenR (Ok.thenR (Ok.blockR (Ok.thenR ?_)))))))))))
      exact Ok.resP (vs := [.int .i64 3]) [] [] (by decide) rfl (.inl rfl) rfl (.cons (.tmp rfl) .nil) (Gext.refl w0 g) ⟨3, rfl, rfl, hF⟩
     ·replace hF := hF.2 hc6
      refine Ok.seq (Ok.region (Ok.bat 1 [0, 3, 4, 8, 9, 10] [(21, pv b5 1)] ?_))
      refine Ok.op rfl (OpOk.step (v := sv e4.2) (Yields.load 0 rfl rfl Tryd.underlying9 rfl (by kernel_rfl)) rfl rfl (Ok.bat 3 [0, 3, 4, 8, 9, 10] [(20, .bool (decide ((e4.2.length : Int) > 400)))] ?_))
      refine Ok.nil (Ok.thenN (Ok.cond (b := decide ((e4.2.length : Int) > 400)) rfl (fun hc7 => ?_) (fun hc7 => ?_)))
      ·replace hF := hF.1 hc7
       refine Ok.seq (Ok.region (Ok.batch 1 [(2, .int .i64 2)] (by kernel_rfl) (Ok.nil (Ok.thenN (Ok.ret (Ok.blockR (Ok.blockR (Ok.thenR (Ok.thenR (Ok.blockR (Ok.thenR ?_)))))))))))
       exact Ok.resP (vs := [.int .i64 2]) [] [] (by decide) rfl (.inl rfl) rfl (.cons (.tmp rfl) .nil) (Gext.refl w0 g) ⟨2, rfl, rfl, hF⟩
      ·replace hF := hF.2 hc7
       refine Ok.seq (Ok.quiet' (by kernel_rfl) (by kernel_rfl) (OkQ.bat 2 [0, 4, 8, 9, 10] [(26, .slice axl_0 xl.length cxl_0), (27, .int .i64 x10l15)] ?_))
       obtain ⟨h08, h18, h28, hF⟩ := hF
       refine OkQ.op rfl (OpQ.sliceRo (e := .pair (.str) (.str)) (l := 0) (h := x10l15) rfl Tryd.underlying44 (by kernel_rfl) (.inr ⟨rfl, rfl⟩) (.inl ⟨_, _, rfl, rfl⟩) hRxl_0 h08 h18 h28 rfl (xl.take (Int.toNat x10l15)) (by simp) fun a8 c8 hR8 => ?_)
       refine OkQ.bat 1 [0, 8, 9, 10] [(28, .slice a8 (xl.take (Int.toNat x10l15)).length c8), (29, pv b5 0)] ?_
       refine OkQ.op rfl (OpQ.step (v := sv e4.1) (Yields.load 0 rfl rfl Tryd.underlying9 rfl (by kernel_rfl)) rfl rfl ?_)
       obtain ⟨hp9, hF⟩ := hF
       refine OkQ.op rfl (OpQ.callG (v := .int .i64 (dfinM (xl.take (Int.toNat x10l15)) e4.1)) enr (fun W hW => dfin_c (xl.take (Int.toNat x10l15)) e4.1 (hR8.mono hW.sees) hp9) rfl ?_)
       refine OkQ.bat 2 [0, 8, 9, 10] [(25, .bool (decide ((dfinM (xl.take (Int.toNat x10l15)) e4.1) ≥ 0)))] ?_
       refine OkQ.nil (Ok.thenN (Ok.cond (b := decide ((dfinM (xl.take (Int.toNat x10l15)) e4.1) ≥ 0)) rfl (fun hc10 => ?_) (fun hc10 => ?_)))
       ·replace hF := hF.1 hc10
        refine Ok.seq (Ok.region (Ok.batch 1 [(2, .int .i64 3)] (by kernel_rfl) (Ok.nil (Ok.thenN (Ok.ret (Ok.blockR (Ok.blockR (Ok.thenR (Ok.thenR (Ok.blockR (Ok.thenR ?_)))))))))))
        exact Ok.resP (vs := [.int .i64 3]) [] [] (by decide) rfl (.inl rfl) rfl (.cons (.tmp rfl) .nil) (Gext.refl w0 g) ⟨3, rfl, rfl, hF⟩
       ·replace hF := hF.2 hc10
        refine Ok.skip (Ok.blockN (Ok.blockN (Ok.thenN (Ok.region (Ok.bat 2 [0, 8, 9] [(10, .int .i64 (w6 (x10l15 + 1)))] ?_)))))
        refine Ok.nil (Ok.thenN ?_)
        subst hg4
        exact fun a W hA hW => ⟨k15, Nat.lt_succ_self _, w6 (x10l15 + 1), hA.sub (by kernel_rfl), hW.sub (.cons _ .slnil), hF⟩
    ·replace hF := hF.2 hc2
     refine Ok.exit (Ok.thenE (Ok.thenE (Ok.blockHit (Ok.thenN (Ok.seq (Ok.region (Ok.batch 1 [(2, .int .i64 0)] (by kernel_rfl) (Ok.nil (Ok.thenN (Ok.ret ?_))))))))))
     exact Ok.resH (vs := [.int .i64 0]) (.inl rfl) rfl (.cons (.tmp rfl) .nil) (Gext.refl w0 g) ⟨0, rfl, rfl, hF⟩
def AGood (l : List (Bs × Bs)) : Prop := l.length ≤ 12 ∧ ∀ a ∈ l, a.2.length ≤ 400
theorem datt_ex (l : List (Bs × Bs)) : ∃ e, dattF l (fun r => r = e) ∧ (e = 0 → AGood l) := by
 have no : ∀ {e : Int}, e ≠ 0 → (e = 0 → AGood l) := fun h h0 => absurd h0 h
 refine ex_if (fun h => ex_k (no (by decide))) (fun h => ?_)
 have hl := of_decide_eq_false h
 have loop : ∀ (k i : Nat), i + k = l.length → (∀ j, j < i → (l.getD j default).2.length ≤ 400) → ∃ e, dattl15 l (fun r => r = e) (k + 1) (i : Int) ∧ (e = 0 → AGood l) := by
  intro k
  induction k with
  | zero =>
   intro i h hj
   refine ex_if (fun h => by have := of_decide_eq_true h; omega) (fun _ => ex_k fun _ => ⟨by omega, fun a ha => ?_⟩)
   obtain ⟨n, hn, rfl⟩ := List.getElem_of_mem ha
   have := hj n (by omega)
   rwa [List.getD_eq_getElem?_getD, List.getElem?_eq_getElem hn, Option.getD_some] at this
  | succ k ih =>
   intro i h hj
   refine ex_if (fun _ => ex_need (by omega) (ex_need (by rw [Int.toNat_natCast]; omega) (ex_if (fun _ => ex_k (no (by decide))) fun _ => ex_if (fun _ => ex_k (no (by decide))) fun hv => ex_need (by omega) (ex_need (by omega) (ex_need (by omega) (ex_need (by unfold dfinP; rw [List.length_take]; omega) (ex_if (fun _ => ex_k (no (by decide))) fun _ => ?_))))))) (fun h => by have := of_decide_eq_false h; omega)
   rw [w64 (by omega)]
   refine ih (i + 1) (by omega) fun j hj2 => ?_
   by_cases hji : j < i
   ·exact hj j hji
   ·have : j = i := by omega
    subst this
    have := of_decide_eq_false hv
    rw [Int.toNat_natCast] at this
    omega
 exact ex_loop _ (loop l.length 0 (by omega) fun j hj => absurd hj (by omega))
noncomputable def dattS (l : List (Bs × Bs)) : Int := pickE fun e => dattF l (fun r => r = e) ∧ (e = 0 → AGood l)
theorem datt_sp (l : List (Bs × Bs)) : dattF l (fun r => r = dattS l) ∧ (dattS l = 0 → AGood l) := pickE_ok (A := fun e => dattF l (fun r => r = e) ∧ (e = 0 → AGood l)) (datt_ex l)
theorem datt_F (l : List (Bs × Bs)) : dattF l (fun r => r = dattS l) := (datt_sp l).1
theorem datt_c {g : Ghost} {axl_0 : Option Addr} {cxl_0 : Nat} (xl : List (Bs × Bs)) (hRxl_0 : Rep g (.slice (.pair (.str) (.str))) [.slice axl_0 xl.length cxl_0] xl)  : CallsG Tryd.prog 32 #[.slice axl_0 xl.length cxl_0] g (.int .i64 (dattS xl)) :=
 (datt_ok xl hRxl_0 _ (datt_F xl)).gives (by rintro g' H' v _ ⟨r0, rfl, rfl, hK⟩; subst hK; rfl)
def dparF (xkind : Int) (K : Bool → Prop) : Prop :=
 K ((xkind == 1) || (xkind == 2))
theorem dpar_ok {g : Ghost} (xkind : Int) (K : Bool → Prop)
  (hF : dparF xkind K) : CallsH Tryd.prog 33 #[.int .i64 xkind] g [] (fun g' H' v => ∃ (r0 : Bool), v = .bool r0 ∧ H' = [] ∧ K r0) := by
 refine CallsH.enter 9 [(0, .int .i64 xkind)] Tryd.func33 rfl (by kernel_rfl) (by kernel_rfl) (by kernel_rfl) fun w0 => ?_
 refine Ok.seq (Ok.region (Ok.batch 1 [(0, .int .i64 xkind)] (by kernel_rfl) (Ok.nil (Ok.thenN (Ok.seq (Ok.region (Ok.bat 3 [0] [(5, .bool (xkind == 1))] ?_)))))))
 refine Ok.midway 3 [(8, .bool ((xkind == 1) || (xkind == 2)))] (fun hR1 => ?_) ?_
 ·refine Ok.boolAt 5 ((xkind == 1)) rfl (fun hc2 => ?_) (fun hc2 => ?_)
  ·skip
   refine Ok.batch 3 [(8, .bool true)] (by kernel_rfl) (Ok.reval 8 rfl (show (.bool true : Value) = .bool ((xkind == 1) || (xkind == 2)) from congrArg Value.bool (mor_t hc2)) (Ok.batch 0 [(8, .bool ((xkind == 1) || (xkind == 2)))] (by kernel_rfl) ?_))
   exact hR1
  ·skip
   refine Ok.batch 3 [(8, .bool (xkind == 2))] (by kernel_rfl) (Ok.reval 8 rfl (show (.bool (xkind == 2) : Value) = .bool ((xkind == 1) || (xkind == 2)) from congrArg Value.bool (mor_f hc2)) (Ok.batch 0 [(8, .bool ((xkind == 1) || (xkind == 2)))] (by kernel_rfl) ?_))
   exact hR1
 refine Ok.batch 1 [(2, .bool ((xkind == 1) || (xkind == 2)))] (by kernel_rfl) (Ok.nil (Ok.thenN (Ok.ret ?_)))
 exact Ok.resH (vs := [.bool ((xkind == 1) || (xkind == 2))]) (.inl rfl) rfl (.cons (.tmp rfl) .nil) (Gext.refl w0 g) ⟨((xkind == 1) || (xkind == 2)), rfl, rfl, hF⟩
def dparM (xkind : Int) : Bool := ((xkind == 1) || (xkind == 2))
theorem dparF_A (xkind : Int) (P : Bool → Prop) (h : P (dparM xkind)) : dparF xkind (fun k0 => P k0) := by
 unfold dparM at h
 unfold dparF
 exact h
theorem dpar_F (xkind : Int) : dparF xkind (fun k0 => k0 = dparM xkind) :=
 dparF_A xkind (fun z => z = dparM xkind) rfl
theorem dpar_c {g : Ghost} (xkind : Int)  : CallsG Tryd.prog 33 #[.int .i64 xkind] g (.bool (dparM xkind)) :=
 (dpar_ok xkind _ (dpar_F xkind)).gives (by rintro g' H' v _ ⟨r0, rfl, rfl, hK⟩; subst hK; rfl)
def dbarj5 (xx : Int × Bs × (List (Bs × Bs)) × Bs × Int × List (Int)) (K : Bool → Prop) : Prop :=
 K (if (xx.1 == 2) = true then (if (xx.1 == 2) = true then (if ((xx.1 == 3) || (xx.1 == 4)) = true then ((dparM xx.1) || ((xx.2.2.2.2.2.length : Int) == 0)) else ((xx.2.2.2.1 == ([] : Bs)) && ((dparM xx.1) || ((xx.2.2.2.2.2.length : Int) == 0)))) else (((xx.2.2.1.length : Int) == 0) && (if ((xx.1 == 3) || (xx.1 == 4)) = true then ((dparM xx.1) || ((xx.2.2.2.2.2.length : Int) == 0)) else ((xx.2.2.2.1 == ([] : Bs)) && ((dparM xx.1) || ((xx.2.2.2.2.2.length : Int) == 0)))))) else (if (xx.1 == 5) = true then (if (xx.1 == 2) = true then (if ((xx.1 == 3) || (xx.1 == 4)) = true then ((dparM xx.1) || ((xx.2.2.2.2.2.length : Int) == 0)) else ((xx.2.2.2.1 == ([] : Bs)) && ((dparM xx.1) || ((xx.2.2.2.2.2.length : Int) == 0)))) else (((xx.2.2.1.length : Int) == 0) && (if ((xx.1 == 3) || (xx.1 == 4)) = true then ((dparM xx.1) || ((xx.2.2.2.2.2.length : Int) == 0)) else ((xx.2.2.2.1 == ([] : Bs)) && ((dparM xx.1) || ((xx.2.2.2.2.2.length : Int) == 0)))))) else ((xx.2.1 == ([] : Bs)) && (if (xx.1 == 2) = true then (if ((xx.1 == 3) || (xx.1 == 4)) = true then ((dparM xx.1) || ((xx.2.2.2.2.2.length : Int) == 0)) else ((xx.2.2.2.1 == ([] : Bs)) && ((dparM xx.1) || ((xx.2.2.2.2.2.length : Int) == 0)))) else (((xx.2.2.1.length : Int) == 0) && (if ((xx.1 == 3) || (xx.1 == 4)) = true then ((dparM xx.1) || ((xx.2.2.2.2.2.length : Int) == 0)) else ((xx.2.2.2.1 == ([] : Bs)) && ((dparM xx.1) || ((xx.2.2.2.2.2.length : Int) == 0)))))))))
def dbarj3 (xx : Int × Bs × (List (Bs × Bs)) × Bs × Int × List (Int)) (K : Bool → Prop) : Prop :=
 (((xx.1 == 2)) = true → (((xx.1 == 2)) = true → ((((xx.1 == 3) || (xx.1 == 4))) = true → (((dparM xx.1)) = true → dbarj5 xx K) ∧ (((dparM xx.1)) = false → dbarj5 xx K)) ∧ ((((xx.1 == 3) || (xx.1 == 4))) = false → (((xx.2.2.2.1 == ([] : Bs))) = true → (((dparM xx.1)) = true → dbarj5 xx K) ∧ (((dparM xx.1)) = false → dbarj5 xx K)) ∧ (((xx.2.2.2.1 == ([] : Bs))) = false → dbarj5 xx K))) ∧ (((xx.1 == 2)) = false → ((((xx.2.2.1.length : Int) == 0)) = true → ((((xx.1 == 3) || (xx.1 == 4))) = true → (((dparM xx.1)) = true → dbarj5 xx K) ∧ (((dparM xx.1)) = false → dbarj5 xx K)) ∧ ((((xx.1 == 3) || (xx.1 == 4))) = false → (((xx.2.2.2.1 == ([] : Bs))) = true → (((dparM xx.1)) = true → dbarj5 xx K) ∧ (((dparM xx.1)) = false → dbarj5 xx K)) ∧ (((xx.2.2.2.1 == ([] : Bs))) = false → dbarj5 xx K))) ∧ ((((xx.2.2.1.length : Int) == 0)) = false → dbarj5 xx K))) ∧ (((xx.1 == 2)) = false → (((xx.1 == 5)) = true → (((xx.1 == 2)) = true → ((((xx.1 == 3) || (xx.1 == 4))) = true → (((dparM xx.1)) = true → dbarj5 xx K) ∧ (((dparM xx.1)) = false → dbarj5 xx K)) ∧ ((((xx.1 == 3) || (xx.1 == 4))) = false → (((xx.2.2.2.1 == ([] : Bs))) = true → (((dparM xx.1)) = true → dbarj5 xx K) ∧ (((dparM xx.1)) = false → dbarj5 xx K)) ∧ (((xx.2.2.2.1 == ([] : Bs))) = false → dbarj5 xx K))) ∧ (((xx.1 == 2)) = false → ((((xx.2.2.1.length : Int) == 0)) = true → ((((xx.1 == 3) || (xx.1 == 4))) = true → (((dparM xx.1)) = true → dbarj5 xx K) ∧ (((dparM xx.1)) = false → dbarj5 xx K)) ∧ ((((xx.1 == 3) || (xx.1 == 4))) = false → (((xx.2.2.2.1 == ([] : Bs))) = true → (((dparM xx.1)) = true → dbarj5 xx K) ∧ (((dparM xx.1)) = false → dbarj5 xx K)) ∧ (((xx.2.2.2.1 == ([] : Bs))) = false → dbarj5 xx K))) ∧ ((((xx.2.2.1.length : Int) == 0)) = false → dbarj5 xx K))) ∧ (((xx.1 == 5)) = false → (((xx.2.1 == ([] : Bs))) = true → (((xx.1 == 2)) = true → ((((xx.1 == 3) || (xx.1 == 4))) = true → (((dparM xx.1)) = true → dbarj5 xx K) ∧ (((dparM xx.1)) = false → dbarj5 xx K)) ∧ ((((xx.1 == 3) || (xx.1 == 4))) = false → (((xx.2.2.2.1 == ([] : Bs))) = true → (((dparM xx.1)) = true → dbarj5 xx K) ∧ (((dparM xx.1)) = false → dbarj5 xx K)) ∧ (((xx.2.2.2.1 == ([] : Bs))) = false → dbarj5 xx K))) ∧ (((xx.1 == 2)) = false → ((((xx.2.2.1.length : Int) == 0)) = true → ((((xx.1 == 3) || (xx.1 == 4))) = true → (((dparM xx.1)) = true → dbarj5 xx K) ∧ (((dparM xx.1)) = false → dbarj5 xx K)) ∧ ((((xx.1 == 3) || (xx.1 == 4))) = false → (((xx.2.2.2.1 == ([] : Bs))) = true → (((dparM xx.1)) = true → dbarj5 xx K) ∧ (((dparM xx.1)) = false → dbarj5 xx K)) ∧ (((xx.2.2.2.1 == ([] : Bs))) = false → dbarj5 xx K))) ∧ ((((xx.2.2.1.length : Int) == 0)) = false → dbarj5 xx K))) ∧ (((xx.2.1 == ([] : Bs))) = false → dbarj5 xx K)))
def dbarF (xx : Int × Bs × (List (Bs × Bs)) × Bs × Int × List (Int)) (K : Bool → Prop) : Prop :=
 (((xx.1 == 3)) = true → dbarj3 xx K) ∧ (((xx.1 == 3)) = false → dbarj3 xx K)
theorem dbar_ok {g : Ghost} {axx_0 : Option Addr} {cxx_0 : Nat} {axx_1 : Option Addr} {cxx_1 : Nat} (xx : Int × Bs × (List (Bs × Bs)) × Bs × Int × List (Int)) (hRxx_0 : Rep g (.slice (.pair (.str) (.str))) [.slice axx_0 xx.2.2.1.length cxx_0] xx.2.2.1) (hRxx_1 : Rep g (.slice (.int .i64)) [.slice axx_1 xx.2.2.2.2.2.length cxx_1] xx.2.2.2.2.2) (K : Bool → Prop)
  (hF : dbarF xx K) : CallsH Tryd.prog 30 #[.agg #[.int .i64 xx.1, sv xx.2.1, .slice axx_0 xx.2.2.1.length cxx_0, sv xx.2.2.2.1, .int .i64 xx.2.2.2.2.1, .slice axx_1 xx.2.2.2.2.2.length cxx_1]] g [] (fun g' H' v => ∃ (r0 : Bool), v = .bool r0 ∧ H' = [] ∧ K r0) := by
 refine CallsH.enter 55 [(0, .agg #[.int .i64 xx.1, sv xx.2.1, .slice axx_0 xx.2.2.1.length cxx_0, sv xx.2.2.2.1, .int .i64 xx.2.2.2.2.1, .slice axx_1 xx.2.2.2.2.2.length cxx_1])] Tryd.func30 rfl (by kernel_rfl) (by kernel_rfl) (by kernel_rfl) fun w0 => ?_
 refine Ok.seq (Ok.region (Ok.op rfl (OpOk.box (v := .agg #[.int .i64 xx.1, sv xx.2.1, .slice axx_0 xx.2.2.1.length cxx_0, sv xx.2.2.2.1, .int .i64 xx.2.2.2.2.1, .slice axx_1 xx.2.2.2.2.2.length cxx_1]) (cs := #[.int .i64 xx.1, sv xx.2.1, .slice axx_0 xx.2.2.1.length cxx_0, sv xx.2.2.2.1, .int .i64 xx.2.2.2.2.1, .slice axx_1 xx.2.2.2.2.2.length cxx_1]) rfl (by kernel_rfl) rfl fun b1 => ?_)))
 refine Ok.batch 1 [(1, pv b1 0)] (by kernel_rfl) (Ok.nil (Ok.thenN (Ok.cut (fun a W => StA 55 [(1, pv b1 0), (3, .bool (xx.1 == 2)), (4, .bool ((xx.1 == 3) || (xx.1 == 4)))] a ∧ StW w0 [.blk b1 (.cells #[.int .i64 xx.1, sv xx.2.1, .slice axx_0 xx.2.2.1.length cxx_0, sv xx.2.2.2.1, .int .i64 xx.2.2.2.2.1, .slice axx_1 xx.2.2.2.2.2.length cxx_1] 46)] g W ∧ dbarj3 xx K) ?_ ?_)))
 ·
  refine Ok.quiet' (by kernel_rfl) (by kernel_rfl) (OkQ.bat 1 [1] [(5, pv b1 0)] ?_)
  refine OkQ.op rfl (OpQ.step (v := .int .i64 xx.1) (Yields.load 0 rfl rfl Tryd.underlying3 rfl (by kernel_rfl)) rfl rfl (OkQ.bat 2 [1] [(7, .bool (xx.1 == 2)), (8, pv b1 0)] ?_))
  refine OkQ.op rfl (OpQ.step (v := .int .i64 xx.1) (Yields.load 0 rfl rfl Tryd.underlying3 rfl (by kernel_rfl)) rfl rfl (OkQ.bat 2 [1, 7] [(11, .bool (xx.1 == 3))] ?_))
  refine OkQ.boolAt 11 ((xx.1 == 3)) rfl (fun hc35 => ?_) (fun hc35 => ?_)
  ·replace hF := hF.1 hc35
   refine OkQ.bat 6 [1] [(3, .bool (xx.1 == 2)), (4, .bool true)] ?_
   refine OkQ.nil (Ok.thenN (Ok.reval 4 rfl (show (.bool true : Value) = .bool ((xx.1 == 3) || (xx.1 == 4)) from congrArg (Value.bool) (mor_t hc35)) ?_))
   exact fun a W hA hW => ⟨hA.sub (by kernel_rfl), hW, hF⟩
  ·replace hF := hF.2 hc35
   refine OkQ.bat 1 [1, 7] [(11, .bool false), (12, pv b1 0)] ?_
   refine OkQ.opYes (j := 6) (d := 11) (want := false) (b := false) rfl (by kernel_rfl) (by kernel_rfl) rfl (OpQ.step (v := .int .i64 xx.1) (Yields.load 0 rfl rfl Tryd.underlying3 rfl (by kernel_rfl)) rfl rfl (OkQ.bat 4 [1] [(3, .bool (xx.1 == 2)), (4, .bool (xx.1 == 4))] ?_))
   refine OkQ.nil (Ok.thenN (Ok.reval 4 rfl (show (.bool (xx.1 == 4) : Value) = .bool ((xx.1 == 3) || (xx.1 == 4)) from congrArg (Value.bool) (mor_f hc35)) ?_))
   exact fun a W hA hW => ⟨hA.sub (by kernel_rfl), hW, hF⟩
 ·
  clear hF
  rintro a W ⟨hA, hW, hF⟩
  refine (?_ : Ok _ _ _ _ _ _) a W hA hW
  clear hA hW
  refine Ok.cut (fun a W => StA 55 [(2, .bool (if (xx.1 == 2) = true then (if (xx.1 == 2) = true then (if ((xx.1 == 3) || (xx.1 == 4)) = true then ((dparM xx.1) || ((xx.2.2.2.2.2.length : Int) == 0)) else ((xx.2.2.2.1 == ([] : Bs)) && ((dparM xx.1) || ((xx.2.2.2.2.2.length : Int) == 0)))) else (((xx.2.2.1.length : Int) == 0) && (if ((xx.1 == 3) || (xx.1 == 4)) = true then ((dparM xx.1) || ((xx.2.2.2.2.2.length : Int) == 0)) else ((xx.2.2.2.1 == ([] : Bs)) && ((dparM xx.1) || ((xx.2.2.2.2.2.length : Int) == 0)))))) else (if (xx.1 == 5) = true then (if (xx.1 == 2) = true then (if ((xx.1 == 3) || (xx.1 == 4)) = true then ((dparM xx.1) || ((xx.2.2.2.2.2.length : Int) == 0)) else ((xx.2.2.2.1 == ([] : Bs)) && ((dparM xx.1) || ((xx.2.2.2.2.2.length : Int) == 0)))) else (((xx.2.2.1.length : Int) == 0) && (if ((xx.1 == 3) || (xx.1 == 4)) = true then ((dparM xx.1) || ((xx.2.2.2.2.2.length : Int) == 0)) else ((xx.2.2.2.1 == ([] : Bs)) && ((dparM xx.1) || ((xx.2.2.2.2.2.length : Int) == 0)))))) else ((xx.2.1 == ([] : Bs)) && (if (xx.1 == 2) = true then (if ((xx.1 == 3) || (xx.1 == 4)) = true then ((dparM xx.1) || ((xx.2.2.2.2.2.length : Int) == 0)) else ((xx.2.2.2.1 == ([] : Bs)) && ((dparM xx.1) || ((xx.2.2.2.2.2.length : Int) == 0)))) else (((xx.2.2.1.length : Int) == 0) && (if ((xx.1 == 3) || (xx.1 == 4)) = true then ((dparM xx.1) || ((xx.2.2.2.2.2.length : Int) == 0)) else ((xx.2.2.2.1 == ([] : Bs)) && ((dparM xx.1) || ((xx.2.2.2.2.2.length : Int) == 0))))))))))] a ∧ StW w0 [] g W ∧ dbarj5 xx K) ?_ ?_
  ·
   refine Ok.region (Ok.bat 2 [1, 3, 4] [(17, .bool (xx.1 == 2))] ?_)
   refine Ok.boolAt 17 ((xx.1 == 2)) rfl (fun hc2 => ?_) (fun hc2 => ?_)
   ·replace hF := hF.1 hc2
    refine Ok.bat 12 [1, 4] [(27, .bool true), (29, .bool (xx.1 == 2))] ?_
    refine Ok.boolAt 29 ((xx.1 == 2)) rfl (fun hc3 => ?_) (fun hc3 => ?_)
    ·replace hF := hF.1 hc3
     refine Ok.bat 9 [1] [(36, .bool true), (38, .bool ((xx.1 == 3) || (xx.1 == 4)))] ?_
     refine Ok.boolAt 38 (((xx.1 == 3) || (xx.1 == 4))) rfl (fun hc4 => ?_) (fun hc4 => ?_)
     ·replace hF := hF.1 hc4
      refine Ok.bat 7 [1] [(44, .bool true), (45, pv b1 0)] ?_
      refine Ok.opYes (j := 28) (d := 44) (want := true) (b := true) rfl (by kernel_rfl) (by kernel_rfl) rfl (OpOk.step (v := .int .i64 xx.1) (Yields.load 0 rfl rfl Tryd.underlying3 rfl (by kernel_rfl)) rfl rfl (Ok.opYes (j := 28) (d := 44) (want := true) (b := true) rfl (by kernel_rfl) (by kernel_rfl) rfl (OpOk.callG (v := .bool (dparM xx.1)) enr (fun W hW => dpar_c xx.1) rfl ?_)))
      refine Ok.bat 1 [1, 44] [(48, .bool (dparM xx.1))] ?_
      refine Ok.boolAt 48 ((dparM xx.1)) rfl (fun hc5 => ?_) (fun hc5 => ?_)
      ·replace hF := hF.1 hc5
       refine Ok.batch 7 [(2, .bool true)] (by kernel_rfl) (Ok.nil (Ok.thenN (Ok.reval 2 rfl (show (.bool true : Value) = .bool (if (xx.1 == 2) = true then (if (xx.1 == 2) = true then (if ((xx.1 == 3) || (xx.1 == 4)) = true then ((dparM xx.1) || ((xx.2.2.2.2.2.length : Int) == 0)) else ((xx.2.2.2.1 == ([] : Bs)) && ((dparM xx.1) || ((xx.2.2.2.2.2.length : Int) == 0)))) else (((xx.2.2.1.length : Int) == 0) && (if ((xx.1 == 3) || (xx.1 == 4)) = true then ((dparM xx.1) || ((xx.2.2.2.2.2.length : Int) == 0)) else ((xx.2.2.2.1 == ([] : Bs)) && ((dparM xx.1) || ((xx.2.2.2.2.2.length : Int) == 0)))))) else (if (xx.1 == 5) = true then (if (xx.1 == 2) = true then (if ((xx.1 == 3) || (xx.1 == 4)) = true then ((dparM xx.1) || ((xx.2.2.2.2.2.length : Int) == 0)) else ((xx.2.2.2.1 == ([] : Bs)) && ((dparM xx.1) || ((xx.2.2.2.2.2.length : Int) == 0)))) else (((xx.2.2.1.length : Int) == 0) && (if ((xx.1 == 3) || (xx.1 == 4)) = true then ((dparM xx.1) || ((xx.2.2.2.2.2.length : Int) == 0)) else ((xx.2.2.2.1 == ([] : Bs)) && ((dparM xx.1) || ((xx.2.2.2.2.2.length : Int) == 0)))))) else ((xx.2.1 == ([] : Bs)) && (if (xx.1 == 2) = true then (if ((xx.1 == 3) || (xx.1 == 4)) = true then ((dparM xx.1) || ((xx.2.2.2.2.2.length : Int) == 0)) else ((xx.2.2.2.1 == ([] : Bs)) && ((dparM xx.1) || ((xx.2.2.2.2.2.length : Int) == 0)))) else (((xx.2.2.1.length : Int) == 0) && (if ((xx.1 == 3) || (xx.1 == 4)) = true then ((dparM xx.1) || ((xx.2.2.2.2.2.length : Int) == 0)) else ((xx.2.2.2.1 == ([] : Bs)) && ((dparM xx.1) || ((xx.2.2.2.2.2.length : Int) == 0))))))))) from congrArg (Value.bool) ((Eq.trans ((Eq.trans ((Eq.trans (mor_t hc5) ((if_t hc4).symm))) ((if_t hc3).symm))) ((if_t hc2).symm)))) ?_)))
       exact fun a W hA hW => ⟨hA.sub (by kernel_rfl), hW.sub (.cons _ .slnil), hF⟩
      ·replace hF := hF.2 hc5
       refine Ok.bat 1 [44] [(48, .bool false), (49, pv b1 5)] ?_
       refine Ok.opYes (j := 32) (d := 48) (want := false) (b := false) rfl (by kernel_rfl) (by kernel_rfl) rfl (OpOk.step (v := .slice axx_1 xx.2.2.2.2.2.length cxx_1) (Yields.load 0 rfl rfl Tryd.underlying28 rfl (by kernel_rfl)) rfl rfl (Ok.batch 5 [(2, .bool ((xx.2.2.2.2.2.length : Int) == 0))] (by kernel_rfl) (Ok.nil (Ok.thenN (Ok.reval 2 rfl (show (.bool ((xx.2.2.2.2.2.length : Int) == 0) : Value) = .bool (if (xx.1 == 2) = true then (if (xx.1 == 2) = true then (if ((xx.1 == 3) || (xx.1 == 4)) = true then ((dparM xx.1) || ((xx.2.2.2.2.2.length : Int) == 0)) else ((xx.2.2.2.1 == ([] : Bs)) && ((dparM xx.1) || ((xx.2.2.2.2.2.length : Int) == 0)))) else (((xx.2.2.1.length : Int) == 0) && (if ((xx.1 == 3) || (xx.1 == 4)) = true then ((dparM xx.1) || ((xx.2.2.2.2.2.length : Int) == 0)) else ((xx.2.2.2.1 == ([] : Bs)) && ((dparM xx.1) || ((xx.2.2.2.2.2.length : Int) == 0)))))) else (if (xx.1 == 5) = true then (if (xx.1 == 2) = true then (if ((xx.1 == 3) || (xx.1 == 4)) = true then ((dparM xx.1) || ((xx.2.2.2.2.2.length : Int) == 0)) else ((xx.2.2.2.1 == ([] : Bs)) && ((dparM xx.1) || ((xx.2.2.2.2.2.length : Int) == 0)))) else (((xx.2.2.1.length : Int) == 0) && (if ((xx.1 == 3) || (xx.1 == 4)) = true then ((dparM xx.1) || ((xx.2.2.2.2.2.length : Int) == 0)) else ((xx.2.2.2.1 == ([] : Bs)) && ((dparM xx.1) || ((xx.2.2.2.2.2.length : Int) == 0)))))) else ((xx.2.1 == ([] : Bs)) && (if (xx.1 == 2) = true then (if ((xx.1 == 3) || (xx.1 == 4)) = true then ((dparM xx.1) || ((xx.2.2.2.2.2.length : Int) == 0)) else ((xx.2.2.2.1 == ([] : Bs)) && ((dparM xx.1) || ((xx.2.2.2.2.2.length : Int) == 0)))) else (((xx.2.2.1.length : Int) == 0) && (if ((xx.1 == 3) || (xx.1 == 4)) = true then ((dparM xx.1) || ((xx.2.2.2.2.2.length : Int) == 0)) else ((xx.2.2.2.1 == ([] : Bs)) && ((dparM xx.1) || ((xx.2.2.2.2.2.length : Int) == 0))))))))) from congrArg (Value.bool) ((Eq.trans ((Eq.trans ((Eq.trans (mor_f hc5) ((if_t hc4).symm))) ((if_t hc3).symm))) ((if_t hc2).symm)))) ?_)))))
       exact fun a W hA hW => ⟨hA.sub (by kernel_rfl), hW.sub (.cons _ .slnil), hF⟩
     ·replace hF := hF.2 hc4
      refine Ok.bat 1 [1, 36] [(38, .bool false), (39, pv b1 3)] ?_
      refine Ok.opYes (j := 22) (d := 38) (want := false) (b := false) rfl (by kernel_rfl) (by kernel_rfl) rfl (OpOk.step (v := sv xx.2.2.2.1) (Yields.load 0 rfl rfl Tryd.underlying9 rfl (by kernel_rfl)) rfl rfl (Ok.opYes (j := 22) (d := 38) (want := false) (b := false) rfl (by kernel_rfl) (by kernel_rfl) rfl (OpOk.step (v := .bool (xx.2.2.2.1 == ([] : Bs))) (Yields.strCmp (f := .eql) (a := xx.2.2.2.1) (b := ([] : Bs)) (by kernel_rfl) (by kernel_rfl) rfl) rfl rfl (Ok.bat 3 [1] [(44, .bool (xx.2.2.2.1 == ([] : Bs)))] ?_))))
      refine Ok.boolAt 44 ((xx.2.2.2.1 == ([] : Bs))) rfl (fun hc6 => ?_) (fun hc6 => ?_)
      ·replace hF := hF.1 hc6
       refine Ok.bat 1 [1] [(44, .bool true), (45, pv b1 0)] ?_
       refine Ok.opYes (j := 28) (d := 44) (want := true) (b := true) rfl (by kernel_rfl) (by kernel_rfl) rfl (OpOk.step (v := .int .i64 xx.1) (Yields.load 0 rfl rfl Tryd.underlying3 rfl (by kernel_rfl)) rfl rfl (Ok.opYes (j := 28) (d := 44) (want := true) (b := true) rfl (by kernel_rfl) (by kernel_rfl) rfl (OpOk.callG (v := .bool (dparM xx.1)) enr (fun W hW => dpar_c xx.1) rfl ?_)))
       refine Ok.bat 1 [1, 44] [(48, .bool (dparM xx.1))] ?_
       refine Ok.boolAt 48 ((dparM xx.1)) rfl (fun hc7 => ?_) (fun hc7 => ?_)
       ·replace hF := hF.1 hc7
        refine Ok.batch 7 [(2, .bool true)] (by kernel_rfl) (Ok.nil (Ok.thenN (Ok.reval 2 rfl (show (.bool true : Value) = .bool (if (xx.1 == 2) = true then (if (xx.1 == 2) = true then (if ((xx.1 == 3) || (xx.1 == 4)) = true then ((dparM xx.1) || ((xx.2.2.2.2.2.length : Int) == 0)) else ((xx.2.2.2.1 == ([] : Bs)) && ((dparM xx.1) || ((xx.2.2.2.2.2.length : Int) == 0)))) else (((xx.2.2.1.length : Int) == 0) && (if ((xx.1 == 3) || (xx.1 == 4)) = true then ((dparM xx.1) || ((xx.2.2.2.2.2.length : Int) == 0)) else ((xx.2.2.2.1 == ([] : Bs)) && ((dparM xx.1) || ((xx.2.2.2.2.2.length : Int) == 0)))))) else (if (xx.1 == 5) = true then (if (xx.1 == 2) = true then (if ((xx.1 == 3) || (xx.1 == 4)) = true then ((dparM xx.1) || ((xx.2.2.2.2.2.length : Int) == 0)) else ((xx.2.2.2.1 == ([] : Bs)) && ((dparM xx.1) || ((xx.2.2.2.2.2.length : Int) == 0)))) else (((xx.2.2.1.length : Int) == 0) && (if ((xx.1 == 3) || (xx.1 == 4)) = true then ((dparM xx.1) || ((xx.2.2.2.2.2.length : Int) == 0)) else ((xx.2.2.2.1 == ([] : Bs)) && ((dparM xx.1) || ((xx.2.2.2.2.2.length : Int) == 0)))))) else ((xx.2.1 == ([] : Bs)) && (if (xx.1 == 2) = true then (if ((xx.1 == 3) || (xx.1 == 4)) = true then ((dparM xx.1) || ((xx.2.2.2.2.2.length : Int) == 0)) else ((xx.2.2.2.1 == ([] : Bs)) && ((dparM xx.1) || ((xx.2.2.2.2.2.length : Int) == 0)))) else (((xx.2.2.1.length : Int) == 0) && (if ((xx.1 == 3) || (xx.1 == 4)) = true then ((dparM xx.1) || ((xx.2.2.2.2.2.length : Int) == 0)) else ((xx.2.2.2.1 == ([] : Bs)) && ((dparM xx.1) || ((xx.2.2.2.2.2.length : Int) == 0))))))))) from congrArg (Value.bool) ((Eq.trans ((Eq.trans ((Eq.trans ((Eq.trans (mor_t hc7) (mand_t hc6))) ((if_f hc4).symm))) ((if_t hc3).symm))) ((if_t hc2).symm)))) ?_)))
        exact fun a W hA hW => ⟨hA.sub (by kernel_rfl), hW.sub (.cons _ .slnil), hF⟩
       ·replace hF := hF.2 hc7
        refine Ok.bat 1 [44] [(48, .bool false), (49, pv b1 5)] ?_
        refine Ok.opYes (j := 32) (d := 48) (want := false) (b := false) rfl (by kernel_rfl) (by kernel_rfl) rfl (OpOk.step (v := .slice axx_1 xx.2.2.2.2.2.length cxx_1) (Yields.load 0 rfl rfl Tryd.underlying28 rfl (by kernel_rfl)) rfl rfl (Ok.batch 5 [(2, .bool ((xx.2.2.2.2.2.length : Int) == 0))] (by kernel_rfl) (Ok.nil (Ok.thenN (Ok.reval 2 rfl (show (.bool ((xx.2.2.2.2.2.length : Int) == 0) : Value) = .bool (if (xx.1 == 2) = true then (if (xx.1 == 2) = true then (if ((xx.1 == 3) || (xx.1 == 4)) = true then ((dparM xx.1) || ((xx.2.2.2.2.2.length : Int) == 0)) else ((xx.2.2.2.1 == ([] : Bs)) && ((dparM xx.1) || ((xx.2.2.2.2.2.length : Int) == 0)))) else (((xx.2.2.1.length : Int) == 0) && (if ((xx.1 == 3) || (xx.1 == 4)) = true then ((dparM xx.1) || ((xx.2.2.2.2.2.length : Int) == 0)) else ((xx.2.2.2.1 == ([] : Bs)) && ((dparM xx.1) || ((xx.2.2.2.2.2.length : Int) == 0)))))) else (if (xx.1 == 5) = true then (if (xx.1 == 2) = true then (if ((xx.1 == 3) || (xx.1 == 4)) = true then ((dparM xx.1) || ((xx.2.2.2.2.2.length : Int) == 0)) else ((xx.2.2.2.1 == ([] : Bs)) && ((dparM xx.1) || ((xx.2.2.2.2.2.length : Int) == 0)))) else (((xx.2.2.1.length : Int) == 0) && (if ((xx.1 == 3) || (xx.1 == 4)) = true then ((dparM xx.1) || ((xx.2.2.2.2.2.length : Int) == 0)) else ((xx.2.2.2.1 == ([] : Bs)) && ((dparM xx.1) || ((xx.2.2.2.2.2.length : Int) == 0)))))) else ((xx.2.1 == ([] : Bs)) && (if (xx.1 == 2) = true then (if ((xx.1 == 3) || (xx.1 == 4)) = true then ((dparM xx.1) || ((xx.2.2.2.2.2.length : Int) == 0)) else ((xx.2.2.2.1 == ([] : Bs)) && ((dparM xx.1) || ((xx.2.2.2.2.2.length : Int) == 0)))) else (((xx.2.2.1.length : Int) == 0) && (if ((xx.1 == 3) || (xx.1 == 4)) = true then ((dparM xx.1) || ((xx.2.2.2.2.2.length : Int) == 0)) else ((xx.2.2.2.1 == ([] : Bs)) && ((dparM xx.1) || ((xx.2.2.2.2.2.length : Int) == 0))))))))) from congrArg (Value.bool) ((Eq.trans ((Eq.trans ((Eq.trans ((Eq.trans (mor_f hc7) (mand_t hc6))) ((if_f hc4).symm))) ((if_t hc3).symm))) ((if_t hc2).symm)))) ?_)))))
        exact fun a W hA hW => ⟨hA.sub (by kernel_rfl), hW.sub (.cons _ .slnil), hF⟩
      ·replace hF := hF.2 hc6
       refine Ok.batch 11 [(2, .bool false)] (by kernel_rfl) (Ok.nil (Ok.thenN (Ok.reval 2 rfl (show (.bool false : Value) = .bool (if (xx.1 == 2) = true then (if (xx.1 == 2) = true then (if ((xx.1 == 3) || (xx.1 == 4)) = true then ((dparM xx.1) || ((xx.2.2.2.2.2.length : Int) == 0)) else ((xx.2.2.2.1 == ([] : Bs)) && ((dparM xx.1) || ((xx.2.2.2.2.2.length : Int) == 0)))) else (((xx.2.2.1.length : Int) == 0) && (if ((xx.1 == 3) || (xx.1 == 4)) = true then ((dparM xx.1) || ((xx.2.2.2.2.2.length : Int) == 0)) else ((xx.2.2.2.1 == ([] : Bs)) && ((dparM xx.1) || ((xx.2.2.2.2.2.length : Int) == 0)))))) else (if (xx.1 == 5) = true then (if (xx.1 == 2) = true then (if ((xx.1 == 3) || (xx.1 == 4)) = true then ((dparM xx.1) || ((xx.2.2.2.2.2.length : Int) == 0)) else ((xx.2.2.2.1 == ([] : Bs)) && ((dparM xx.1) || ((xx.2.2.2.2.2.length : Int) == 0)))) else (((xx.2.2.1.length : Int) == 0) && (if ((xx.1 == 3) || (xx.1 == 4)) = true then ((dparM xx.1) || ((xx.2.2.2.2.2.length : Int) == 0)) else ((xx.2.2.2.1 == ([] : Bs)) && ((dparM xx.1) || ((xx.2.2.2.2.2.length : Int) == 0)))))) else ((xx.2.1 == ([] : Bs)) && (if (xx.1 == 2) = true then (if ((xx.1 == 3) || (xx.1 == 4)) = true then ((dparM xx.1) || ((xx.2.2.2.2.2.length : Int) == 0)) else ((xx.2.2.2.1 == ([] : Bs)) && ((dparM xx.1) || ((xx.2.2.2.2.2.length : Int) == 0)))) else (((xx.2.2.1.length : Int) == 0) && (if ((xx.1 == 3) || (xx.1 == 4)) = true then ((dparM xx.1) || ((xx.2.2.2.2.2.length : Int) == 0)) else ((xx.2.2.2.1 == ([] : Bs)) && ((dparM xx.1) || ((xx.2.2.2.2.2.length : Int) == 0))))))))) from congrArg (Value.bool) ((Eq.trans ((Eq.trans ((Eq.trans (mand_f hc6) ((if_f hc4).symm))) ((if_t hc3).symm))) ((if_t hc2).symm)))) ?_)))
       exact fun a W hA hW => ⟨hA.sub (by kernel_rfl), hW.sub (.cons _ .slnil), hF⟩
    ·replace hF := hF.2 hc3
     refine Ok.bat 1 [1, 4, 27] [(29, .bool false), (30, pv b1 2)] ?_
     refine Ok.opYes (j := 13) (d := 29) (want := false) (b := false) rfl (by kernel_rfl) (by kernel_rfl) rfl (OpOk.step (v := .slice axx_0 xx.2.2.1.length cxx_0) (Yields.load 0 rfl rfl Tryd.underlying44 rfl (by kernel_rfl)) rfl rfl (Ok.bat 5 [1, 4] [(36, .bool ((xx.2.2.1.length : Int) == 0))] ?_))
     refine Ok.boolAt 36 (((xx.2.2.1.length : Int) == 0)) rfl (fun hc8 => ?_) (fun hc8 => ?_)
     ·replace hF := hF.1 hc8
      refine Ok.bat 2 [1] [(36, .bool true), (38, .bool ((xx.1 == 3) || (xx.1 == 4)))] ?_
      refine Ok.boolAt 38 (((xx.1 == 3) || (xx.1 == 4))) rfl (fun hc9 => ?_) (fun hc9 => ?_)
      ·replace hF := hF.1 hc9
       refine Ok.bat 7 [1] [(44, .bool true), (45, pv b1 0)] ?_
       refine Ok.opYes (j := 28) (d := 44) (want := true) (b := true) rfl (by kernel_rfl) (by kernel_rfl) rfl (OpOk.step (v := .int .i64 xx.1) (Yields.load 0 rfl rfl Tryd.underlying3 rfl (by kernel_rfl)) rfl rfl (Ok.opYes (j := 28) (d := 44) (want := true) (b := true) rfl (by kernel_rfl) (by kernel_rfl) rfl (OpOk.callG (v := .bool (dparM xx.1)) enr (fun W hW => dpar_c xx.1) rfl ?_)))
       refine Ok.bat 1 [1, 44] [(48, .bool (dparM xx.1))] ?_
       refine Ok.boolAt 48 ((dparM xx.1)) rfl (fun hc10 => ?_) (fun hc10 => ?_)
       ·replace hF := hF.1 hc10
        refine Ok.batch 7 [(2, .bool true)] (by kernel_rfl) (Ok.nil (Ok.thenN (Ok.reval 2 rfl (show (.bool true : Value) = .bool (if (xx.1 == 2) = true then (if (xx.1 == 2) = true then (if ((xx.1 == 3) || (xx.1 == 4)) = true then ((dparM xx.1) || ((xx.2.2.2.2.2.length : Int) == 0)) else ((xx.2.2.2.1 == ([] : Bs)) && ((dparM xx.1) || ((xx.2.2.2.2.2.length : Int) == 0)))) else (((xx.2.2.1.length : Int) == 0) && (if ((xx.1 == 3) || (xx.1 == 4)) = true then ((dparM xx.1) || ((xx.2.2.2.2.2.length : Int) == 0)) else ((xx.2.2.2.1 == ([] : Bs)) && ((dparM xx.1) || ((xx.2.2.2.2.2.length : Int) == 0)))))) else (if (xx.1 == 5) = true then (if (xx.1 == 2) = true then (if ((xx.1 == 3) || (xx.1 == 4)) = true then ((dparM xx.1) || ((xx.2.2.2.2.2.length : Int) == 0)) else ((xx.2.2.2.1 == ([] : Bs)) && ((dparM xx.1) || ((xx.2.2.2.2.2.length : Int) == 0)))) else (((xx.2.2.1.length : Int) == 0) && (if ((xx.1 == 3) || (xx.1 == 4)) = true then ((dparM xx.1) || ((xx.2.2.2.2.2.length : Int) == 0)) else ((xx.2.2.2.1 == ([] : Bs)) && ((dparM xx.1) || ((xx.2.2.2.2.2.length : Int) == 0)))))) else ((xx.2.1 == ([] : Bs)) && (if (xx.1 == 2) = true then (if ((xx.1 == 3) || (xx.1 == 4)) = true then ((dparM xx.1) || ((xx.2.2.2.2.2.length : Int) == 0)) else ((xx.2.2.2.1 == ([] : Bs)) && ((dparM xx.1) || ((xx.2.2.2.2.2.length : Int) == 0)))) else (((xx.2.2.1.length : Int) == 0) && (if ((xx.1 == 3) || (xx.1 == 4)) = true then ((dparM xx.1) || ((xx.2.2.2.2.2.length : Int) == 0)) else ((xx.2.2.2.1 == ([] : Bs)) && ((dparM xx.1) || ((xx.2.2.2.2.2.length : Int) == 0))))))))) from congrArg (Value.bool) ((Eq.trans ((Eq.trans ((Eq.trans ((Eq.trans (mor_t hc10) ((if_t hc9).symm))) (mand_t hc8))) ((if_f hc3).symm))) ((if_t hc2).symm)))) ?_)))
        exact fun a W hA hW => ⟨hA.sub (by kernel_rfl), hW.sub (.cons _ .slnil), hF⟩
       ·replace hF := hF.2 hc10
        refine Ok.bat 1 [44] [(48, .bool false), (49, pv b1 5)] ?_
        refine Ok.opYes (j := 32) (d := 48) (want := false) (b := false) rfl (by kernel_rfl) (by kernel_rfl) rfl (OpOk.step (v := .slice axx_1 xx.2.2.2.2.2.length cxx_1) (Yields.load 0 rfl rfl Tryd.underlying28 rfl (by kernel_rfl)) rfl rfl (Ok.batch 5 [(2, .bool ((xx.2.2.2.2.2.length : Int) == 0))] (by kernel_rfl) (Ok.nil (Ok.thenN (Ok.reval 2 rfl (show (.bool ((xx.2.2.2.2.2.length : Int) == 0) : Value) = .bool (if (xx.1 == 2) = true then (if (xx.1 == 2) = true then (if ((xx.1 == 3) || (xx.1 == 4)) = true then ((dparM xx.1) || ((xx.2.2.2.2.2.length : Int) == 0)) else ((xx.2.2.2.1 == ([] : Bs)) && ((dparM xx.1) || ((xx.2.2.2.2.2.length : Int) == 0)))) else (((xx.2.2.1.length : Int) == 0) && (if ((xx.1 == 3) || (xx.1 == 4)) = true then ((dparM xx.1) || ((xx.2.2.2.2.2.length : Int) == 0)) else ((xx.2.2.2.1 == ([] : Bs)) && ((dparM xx.1) || ((xx.2.2.2.2.2.length : Int) == 0)))))) else (if (xx.1 == 5) = true then (if (xx.1 == 2) = true then (if ((xx.1 == 3) || (xx.1 == 4)) = true then ((dparM xx.1) || ((xx.2.2.2.2.2.length : Int) == 0)) else ((xx.2.2.2.1 == ([] : Bs)) && ((dparM xx.1) || ((xx.2.2.2.2.2.length : Int) == 0)))) else (((xx.2.2.1.length : Int) == 0) && (if ((xx.1 == 3) || (xx.1 == 4)) = true then ((dparM xx.1) || ((xx.2.2.2.2.2.length : Int) == 0)) else ((xx.2.2.2.1 == ([] : Bs)) && ((dparM xx.1) || ((xx.2.2.2.2.2.length : Int) == 0)))))) else ((xx.2.1 == ([] : Bs)) && (if (xx.1 == 2) = true then (if ((xx.1 == 3) || (xx.1 == 4)) = true then ((dparM xx.1) || ((xx.2.2.2.2.2.length : Int) == 0)) else ((xx.2.2.2.1 == ([] : Bs)) && ((dparM xx.1) || ((xx.2.2.2.2.2.length : Int) == 0)))) else (((xx.2.2.1.length : Int) == 0) && (if ((xx.1 == 3) || (xx.1 == 4)) = true then ((dparM xx.1) || ((xx.2.2.2.2.2.length : Int) == 0)) else ((xx.2.2.2.1 == ([] : Bs)) && ((dparM xx.1) || ((xx.2.2.2.2.2.length : Int) == 0))))))))) from congrArg (Value.bool) ((Eq.trans ((Eq.trans ((Eq.trans ((Eq.trans (mor_f hc10) ((if_t hc9).symm))) (mand_t hc8))) ((if_f hc3).symm))) ((if_t hc2).symm)))) ?_)))))
        exact fun a W hA hW => ⟨hA.sub (by kernel_rfl), hW.sub (.cons _ .slnil), hF⟩
      ·replace hF := hF.2 hc9
       refine Ok.bat 1 [1, 36] [(38, .bool false), (39, pv b1 3)] ?_
       refine Ok.opYes (j := 22) (d := 38) (want := false) (b := false) rfl (by kernel_rfl) (by kernel_rfl) rfl (OpOk.step (v := sv xx.2.2.2.1) (Yields.load 0 rfl rfl Tryd.underlying9 rfl (by kernel_rfl)) rfl rfl (Ok.opYes (j := 22) (d := 38) (want := false) (b := false) rfl (by kernel_rfl) (by kernel_rfl) rfl (OpOk.step (v := .bool (xx.2.2.2.1 == ([] : Bs))) (Yields.strCmp (f := .eql) (a := xx.2.2.2.1) (b := ([] : Bs)) (by kernel_rfl) (by kernel_rfl) rfl) rfl rfl (Ok.bat 3 [1] [(44, .bool (xx.2.2.2.1 == ([] : Bs)))] ?_))))
       refine Ok.boolAt 44 ((xx.2.2.2.1 == ([] : Bs))) rfl (fun hc11 => ?_) (fun hc11 => ?_)
       ·replace hF := hF.1 hc11
        refine Ok.bat 1 [1] [(44, .bool true), (45, pv b1 0)] ?_
        refine Ok.opYes (j := 28) (d := 44) (want := true) (b := true) rfl (by kernel_rfl) (by kernel_rfl) rfl (OpOk.step (v := .int .i64 xx.1) (Yields.load 0 rfl rfl Tryd.underlying3 rfl (by kernel_rfl)) rfl rfl (Ok.opYes (j := 28) (d := 44) (want := true) (b := true) rfl (by kernel_rfl) (by kernel_rfl) rfl (OpOk.callG (v := .bool (dparM xx.1)) enr (fun W hW => dpar_c xx.1) rfl ?_)))
        refine Ok.bat 1 [1, 44] [(48, .bool (dparM xx.1))] ?_
        refine Ok.boolAt 48 ((dparM xx.1)) rfl (fun hc12 => ?_) (fun hc12 => ?_)
        ·replace hF := hF.1 hc12
         refine Ok.batch 7 [(2, .bool true)] (by kernel_rfl) (Ok.nil (Ok.thenN (Ok.reval 2 rfl (show (.bool true : Value) = .bool (if (xx.1 == 2) = true then (if (xx.1 == 2) = true then (if ((xx.1 == 3) || (xx.1 == 4)) = true then ((dparM xx.1) || ((xx.2.2.2.2.2.length : Int) == 0)) else ((xx.2.2.2.1 == ([] : Bs)) && ((dparM xx.1) || ((xx.2.2.2.2.2.length : Int) == 0)))) else (((xx.2.2.1.length : Int) == 0) && (if ((xx.1 == 3) || (xx.1 == 4)) = true then ((dparM xx.1) || ((xx.2.2.2.2.2.length : Int) == 0)) else ((xx.2.2.2.1 == ([] : Bs)) && ((dparM xx.1) || ((xx.2.2.2.2.2.length : Int) == 0)))))) else (if (xx.1 == 5) = true then (if (xx.1 == 2) = true then (if ((xx.1 == 3) || (xx.1 == 4)) = true then ((dparM xx.1) || ((xx.2.2.2.2.2.length : Int) == 0)) else ((xx.2.2.2.1 == ([] : Bs)) && ((dparM xx.1) || ((xx.2.2.2.2.2.length : Int) == 0)))) else (((xx.2.2.1.length : Int) == 0) && (if ((xx.1 == 3) || (xx.1 == 4)) = true then ((dparM xx.1) || ((xx.2.2.2.2.2.length : Int) == 0)) else ((xx.2.2.2.1 == ([] : Bs)) && ((dparM xx.1) || ((xx.2.2.2.2.2.length : Int) == 0)))))) else ((xx.2.1 == ([] : Bs)) && (if (xx.1 == 2) = true then (if ((xx.1 == 3) || (xx.1 == 4)) = true then ((dparM xx.1) || ((xx.2.2.2.2.2.length : Int) == 0)) else ((xx.2.2.2.1 == ([] : Bs)) && ((dparM xx.1) || ((xx.2.2.2.2.2.length : Int) == 0)))) else (((xx.2.2.1.length : Int) == 0) && (if ((xx.1 == 3) || (xx.1 == 4)) = true then ((dparM xx.1) || ((xx.2.2.2.2.2.length : Int) == 0)) else ((xx.2.2.2.1 == ([] : Bs)) && ((dparM xx.1) || ((xx.2.2.2.2.2.length : Int) == 0))))))))) from congrArg (Value.bool) ((Eq.trans ((Eq.trans ((Eq.trans ((Eq.trans ((Eq.trans (mor_t hc12) (mand_t hc11))) ((if_f hc9).symm))) (mand_t hc8))) ((if_f hc3).symm))) ((if_t hc2).symm)))) ?_)))
         exact fun a W hA hW => ⟨hA.sub (by kernel_rfl), hW.sub (.cons _ .slnil), hF⟩
        ·replace hF := hF.2 hc12
         refine Ok.bat 1 [44] [(48, .bool false), (49, pv b1 5)] ?_
         refine Ok.opYes (j := 32) (d := 48) (want := false) (b := false) rfl (by kernel_rfl) (by kernel_rfl) rfl (OpOk.step (v := .slice axx_1 xx.2.2.2.2.2.length cxx_1) (Yields.load 0 rfl rfl Tryd.underlying28 rfl (by kernel_rfl)) rfl rfl (Ok.batch 5 [(2, .bool ((xx.2.2.2.2.2.length : Int) == 0))] (by kernel_rfl) (Ok.nil (Ok.thenN (Ok.reval 2 rfl (show (.bool ((xx.2.2.2.2.2.length : Int) == 0) : Value) = .bool (if (xx.1 == 2) = true then (if (xx.1 == 2) = true then (if ((xx.1 == 3) || (xx.1 == 4)) = true then ((dparM xx.1) || ((xx.2.2.2.2.2.length : Int) == 0)) else ((xx.2.2.2.1 == ([] : Bs)) && ((dparM xx.1) || ((xx.2.2.2.2.2.length : Int) == 0)))) else (((xx.2.2.1.length : Int) == 0) && (if ((xx.1 == 3) || (xx.1 == 4)) = true then ((dparM xx.1) || ((xx.2.2.2.2.2.length : Int) == 0)) else ((xx.2.2.2.1 == ([] : Bs)) && ((dparM xx.1) || ((xx.2.2.2.2.2.length : Int) == 0)))))) else (if (xx.1 == 5) = true then (if (xx.1 == 2) = true then (if ((xx.1 == 3) || (xx.1 == 4)) = true then ((dparM xx.1) || ((xx.2.2.2.2.2.length : Int) == 0)) else ((xx.2.2.2.1 == ([] : Bs)) && ((dparM xx.1) || ((xx.2.2.2.2.2.length : Int) == 0)))) else (((xx.2.2.1.length : Int) == 0) && (if ((xx.1 == 3) || (xx.1 == 4)) = true then ((dparM xx.1) || ((xx.2.2.2.2.2.length : Int) == 0)) else ((xx.2.2.2.1 == ([] : Bs)) && ((dparM xx.1) || ((xx.2.2.2.2.2.length : Int) == 0)))))) else ((xx.2.1 == ([] : Bs)) && (if (xx.1 == 2) = true then (if ((xx.1 == 3) || (xx.1 == 4)) = true then ((dparM xx.1) || ((xx.2.2.2.2.2.length : Int) == 0)) else ((xx.2.2.2.1 == ([] : Bs)) && ((dparM xx.1) || ((xx.2.2.2.2.2.length : Int) == 0)))) else (((xx.2.2.1.length : Int) == 0) && (if ((xx.1 == 3) || (xx.1 == 4)) = true then ((dparM xx.1) || ((xx.2.2.2.2.2.length : Int) == 0)) else ((xx.2.2.2.1 == ([] : Bs)) && ((dparM xx.1) || ((xx.2.2.2.2.2.length : Int) == 0))))))))) from congrArg (Value.bool) ((Eq.trans ((Eq.trans ((Eq.trans ((Eq.trans ((Eq.trans (mor_f hc12) (mand_t hc11))) ((if_f hc9).symm))) (mand_t hc8))) ((if_f hc3).symm))) ((if_t hc2).symm)))) ?_)))))
         exact fun a W hA hW => ⟨hA.sub (by kernel_rfl), hW.sub (.cons _ .slnil), hF⟩
       ·replace hF := hF.2 hc11
        refine Ok.batch 11 [(2, .bool false)] (by kernel_rfl) (Ok.nil (Ok.thenN (Ok.reval 2 rfl (show (.bool false : Value) = .bool (if (xx.1 == 2) = true then (if (xx.1 == 2) = true then (if ((xx.1 == 3) || (xx.1 == 4)) = true then ((dparM xx.1) || ((xx.2.2.2.2.2.length : Int) == 0)) else ((xx.2.2.2.1 == ([] : Bs)) && ((dparM xx.1) || ((xx.2.2.2.2.2.length : Int) == 0)))) else (((xx.2.2.1.length : Int) == 0) && (if ((xx.1 == 3) || (xx.1 == 4)) = true then ((dparM xx.1) || ((xx.2.2.2.2.2.length : Int) == 0)) else ((xx.2.2.2.1 == ([] : Bs)) && ((dparM xx.1) || ((xx.2.2.2.2.2.length : Int) == 0)))))) else (if (xx.1 == 5) = true then (if (xx.1 == 2) = true then (if ((xx.1 == 3) || (xx.1 == 4)) = true then ((dparM xx.1) || ((xx.2.2.2.2.2.length : Int) == 0)) else ((xx.2.2.2.1 == ([] : Bs)) && ((dparM xx.1) || ((xx.2.2.2.2.2.length : Int) == 0)))) else (((xx.2.2.1.length : Int) == 0) && (if ((xx.1 == 3) || (xx.1 == 4)) = true then ((dparM xx.1) || ((xx.2.2.2.2.2.length : Int) == 0)) else ((xx.2.2.2.1 == ([] : Bs)) && ((dparM xx.1) || ((xx.2.2.2.2.2.length : Int) == 0)))))) else ((xx.2.1 == ([] : Bs)) && (if (xx.1 == 2) = true then (if ((xx.1 == 3) || (xx.1 == 4)) = true then ((dparM xx.1) || ((xx.2.2.2.2.2.length : Int) == 0)) else ((xx.2.2.2.1 == ([] : Bs)) && ((dparM xx.1) || ((xx.2.2.2.2.2.length : Int) == 0)))) else (((xx.2.2.1.length : Int) == 0) && (if ((xx.1 == 3) || (xx.1 == 4)) = true then ((dparM xx.1) || ((xx.2.2.2.2.2.length : Int) == 0)) else ((xx.2.2.2.1 == ([] : Bs)) && ((dparM xx.1) || ((xx.2.2.2.2.2.length : Int) == 0))))))))) from congrArg (Value.bool) ((Eq.trans ((Eq.trans ((Eq.trans ((Eq.trans (mand_f hc11) ((if_f hc9).symm))) (mand_t hc8))) ((if_f hc3).symm))) ((if_t hc2).symm)))) ?_)))
        exact fun a W hA hW => ⟨hA.sub (by kernel_rfl), hW.sub (.cons _ .slnil), hF⟩
     ·replace hF := hF.2 hc8
      refine Ok.batch 19 [(2, .bool false)] (by kernel_rfl) (Ok.nil (Ok.thenN (Ok.reval 2 rfl (show (.bool false : Value) = .bool (if (xx.1 == 2) = true then (if (xx.1 == 2) = true then (if ((xx.1 == 3) || (xx.1 == 4)) = true then ((dparM xx.1) || ((xx.2.2.2.2.2.length : Int) == 0)) else ((xx.2.2.2.1 == ([] : Bs)) && ((dparM xx.1) || ((xx.2.2.2.2.2.length : Int) == 0)))) else (((xx.2.2.1.length : Int) == 0) && (if ((xx.1 == 3) || (xx.1 == 4)) = true then ((dparM xx.1) || ((xx.2.2.2.2.2.length : Int) == 0)) else ((xx.2.2.2.1 == ([] : Bs)) && ((dparM xx.1) || ((xx.2.2.2.2.2.length : Int) == 0)))))) else (if (xx.1 == 5) = true then (if (xx.1 == 2) = true then (if ((xx.1 == 3) || (xx.1 == 4)) = true then ((dparM xx.1) || ((xx.2.2.2.2.2.length : Int) == 0)) else ((xx.2.2.2.1 == ([] : Bs)) && ((dparM xx.1) || ((xx.2.2.2.2.2.length : Int) == 0)))) else (((xx.2.2.1.length : Int) == 0) && (if ((xx.1 == 3) || (xx.1 == 4)) = true then ((dparM xx.1) || ((xx.2.2.2.2.2.length : Int) == 0)) else ((xx.2.2.2.1 == ([] : Bs)) && ((dparM xx.1) || ((xx.2.2.2.2.2.length : Int) == 0)))))) else ((xx.2.1 == ([] : Bs)) && (if (xx.1 == 2) = true then (if ((xx.1 == 3) || (xx.1 == 4)) = true then ((dparM xx.1) || ((xx.2.2.2.2.2.length : Int) == 0)) else ((xx.2.2.2.1 == ([] : Bs)) && ((dparM xx.1) || ((xx.2.2.2.2.2.length : Int) == 0)))) else (((xx.2.2.1.length : Int) == 0) && (if ((xx.1 == 3) || (xx.1 == 4)) = true then ((dparM xx.1) || ((xx.2.2.2.2.2.length : Int) == 0)) else ((xx.2.2.2.1 == ([] : Bs)) && ((dparM xx.1) || ((xx.2.2.2.2.2.length : Int) == 0))))))))) from congrArg (Value.bool) ((Eq.trans ((Eq.trans (mand_f hc8) ((if_f hc3).symm))) ((if_t hc2).symm)))) ?_)))
      exact fun a W hA hW => ⟨hA.sub (by kernel_rfl), hW.sub (.cons _ .slnil), hF⟩
   ·replace hF := hF.2 hc2
    refine Ok.bat 1 [1, 3, 4] [(17, .bool false), (18, pv b1 0)] ?_
    refine Ok.opYes (j := 1) (d := 17) (want := false) (b := false) rfl (by kernel_rfl) (by kernel_rfl) rfl (OpOk.step (v := .int .i64 xx.1) (Yields.load 0 rfl rfl Tryd.underlying3 rfl (by kernel_rfl)) rfl rfl (Ok.bat 3 [1, 3, 4] [(22, .bool (xx.1 == 5))] ?_))
    refine Ok.boolAt 22 ((xx.1 == 5)) rfl (fun hc13 => ?_) (fun hc13 => ?_)
    ·replace hF := hF.1 hc13
     refine Ok.bat 7 [1, 4] [(27, .bool true), (29, .bool (xx.1 == 2))] ?_
     refine Ok.boolAt 29 ((xx.1 == 2)) rfl (fun hc14 => ?_) (fun hc14 => ?_)
     ·replace hF := hF.1 hc14
      refine Ok.bat 9 [1] [(36, .bool true), (38, .bool ((xx.1 == 3) || (xx.1 == 4)))] ?_
      refine Ok.boolAt 38 (((xx.1 == 3) || (xx.1 == 4))) rfl (fun hc15 => ?_) (fun hc15 => ?_)
      ·replace hF := hF.1 hc15
       refine Ok.bat 7 [1] [(44, .bool true), (45, pv b1 0)] ?_
       refine Ok.opYes (j := 28) (d := 44) (want := true) (b := true) rfl (by kernel_rfl) (by kernel_rfl) rfl (OpOk.step (v := .int .i64 xx.1) (Yields.load 0 rfl rfl Tryd.underlying3 rfl (by kernel_rfl)) rfl rfl (Ok.opYes (j := 28) (d := 44) (want := true) (b := true) rfl (by kernel_rfl) (by kernel_rfl) rfl (OpOk.callG (v := .bool (dparM xx.1)) enr (fun W hW => dpar_c xx.1) rfl ?_)))
       refine Ok.bat 1 [1, 44] [(48, .bool (dparM xx.1))] ?_
       refine Ok.boolAt 48 ((dparM xx.1)) rfl (fun hc16 => ?_) (fun hc16 => ?_)
       ·replace hF := hF.1 hc16
        refine Ok.batch 7 [(2, .bool true)] (by kernel_rfl) (Ok.nil (Ok.thenN (Ok.reval 2 rfl (show (.bool true : Value) = .bool (if (xx.1 == 2) = true then (if (xx.1 == 2) = true then (if ((xx.1 == 3) || (xx.1 == 4)) = true then ((dparM xx.1) || ((xx.2.2.2.2.2.length : Int) == 0)) else ((xx.2.2.2.1 == ([] : Bs)) && ((dparM xx.1) || ((xx.2.2.2.2.2.length : Int) == 0)))) else (((xx.2.2.1.length : Int) == 0) && (if ((xx.1 == 3) || (xx.1 == 4)) = true then ((dparM xx.1) || ((xx.2.2.2.2.2.length : Int) == 0)) else ((xx.2.2.2.1 == ([] : Bs)) && ((dparM xx.1) || ((xx.2.2.2.2.2.length : Int) == 0)))))) else (if (xx.1 == 5) = true then (if (xx.1 == 2) = true then (if ((xx.1 == 3) || (xx.1 == 4)) = true then ((dparM xx.1) || ((xx.2.2.2.2.2.length : Int) == 0)) else ((xx.2.2.2.1 == ([] : Bs)) && ((dparM xx.1) || ((xx.2.2.2.2.2.length : Int) == 0)))) else (((xx.2.2.1.length : Int) == 0) && (if ((xx.1 == 3) || (xx.1 == 4)) = true then ((dparM xx.1) || ((xx.2.2.2.2.2.length : Int) == 0)) else ((xx.2.2.2.1 == ([] : Bs)) && ((dparM xx.1) || ((xx.2.2.2.2.2.length : Int) == 0)))))) else ((xx.2.1 == ([] : Bs)) && (if (xx.1 == 2) = true then (if ((xx.1 == 3) || (xx.1 == 4)) = true then ((dparM xx.1) || ((xx.2.2.2.2.2.length : Int) == 0)) else ((xx.2.2.2.1 == ([] : Bs)) && ((dparM xx.1) || ((xx.2.2.2.2.2.length : Int) == 0)))) else (((xx.2.2.1.length : Int) == 0) && (if ((xx.1 == 3) || (xx.1 == 4)) = true then ((dparM xx.1) || ((xx.2.2.2.2.2.length : Int) == 0)) else ((xx.2.2.2.1 == ([] : Bs)) && ((dparM xx.1) || ((xx.2.2.2.2.2.length : Int) == 0))))))))) from congrArg (Value.bool) ((Eq.trans ((Eq.trans ((Eq.trans ((Eq.trans (mor_t hc16) ((if_t hc15).symm))) ((if_t hc14).symm))) ((if_t hc13).symm))) ((if_f hc2).symm)))) ?_)))
        exact fun a W hA hW => ⟨hA.sub (by kernel_rfl), hW.sub (.cons _ .slnil), hF⟩
       ·replace hF := hF.2 hc16
        refine Ok.bat 1 [44] [(48, .bool false), (49, pv b1 5)] ?_
        refine Ok.opYes (j := 32) (d := 48) (want := false) (b := false) rfl (by kernel_rfl) (by kernel_rfl) rfl (OpOk.step (v := .slice axx_1 xx.2.2.2.2.2.length cxx_1) (Yields.load 0 rfl rfl Tryd.underlying28 rfl (by kernel_rfl)) rfl rfl (Ok.batch 5 [(2, .bool ((xx.2.2.2.2.2.length : Int) == 0))] (by kernel_rfl) (Ok.nil (Ok.thenN (Ok.reval 2 rfl (show (.bool ((xx.2.2.2.2.2.length : Int) == 0) : Value) = .bool (if (xx.1 == 2) = true then (if (xx.1 == 2) = true then (if ((xx.1 == 3) || (xx.1 == 4)) = true then ((dparM xx.1) || ((xx.2.2.2.2.2.length : Int) == 0)) else ((xx.2.2.2.1 == ([] : Bs)) && ((dparM xx.1) || ((xx.2.2.2.2.2.length : Int) == 0)))) else (((xx.2.2.1.length : Int) == 0) && (if ((xx.1 == 3) || (xx.1 == 4)) = true then ((dparM xx.1) || ((xx.2.2.2.2.2.length : Int) == 0)) else ((xx.2.2.2.1 == ([] : Bs)) && ((dparM xx.1) || ((xx.2.2.2.2.2.length : Int) == 0)))))) else (if (xx.1 == 5) = true then (if (xx.1 == 2) = true then (if ((xx.1 == 3) || (xx.1 == 4)) = true then ((dparM xx.1) || ((xx.2.2.2.2.2.length : Int) == 0)) else ((xx.2.2.2.1 == ([] : Bs)) && ((dparM xx.1) || ((xx.2.2.2.2.2.length : Int) == 0)))) else (((xx.2.2.1.length : Int) == 0) && (if ((xx.1 == 3) || (xx.1 == 4)) = true then ((dparM xx.1) || ((xx.2.2.2.2.2.length : Int) == 0)) else ((xx.2.2.2.1 == ([] : Bs)) && ((dparM xx.1) || ((xx.2.2.2.2.2.length : Int) == 0)))))) else ((xx.2.1 == ([] : Bs)) && (if (xx.1 == 2) = true then (if ((xx.1 == 3) || (xx.1 == 4)) = true then ((dparM xx.1) || ((xx.2.2.2.2.2.length : Int) == 0)) else ((xx.2.2.2.1 == ([] : Bs)) && ((dparM xx.1) || ((xx.2.2.2.2.2.length : Int) == 0)))) else (((xx.2.2.1.length : Int) == 0) && (if ((xx.1 == 3) || (xx.1 == 4)) = true then ((dparM xx.1) || ((xx.2.2.2.2.2.length : Int) == 0)) else ((xx.2.2.2.1 == ([] : Bs)) && ((dparM xx.1) || ((xx.2.2.2.2.2.length : Int) == 0))))))))) from congrArg (Value.bool) ((Eq.trans ((Eq.trans ((Eq.trans ((Eq.trans (mor_f hc16) ((if_t hc15).symm))) ((if_t hc14).symm))) ((if_t hc13).symm))) ((if_f hc2).symm)))) ?_)))))
        exact fun a W hA hW => ⟨hA.sub (by kernel_rfl), hW.sub (.cons _ .slnil), hF⟩
      ·replace hF := hF.2 hc15
       refine Ok.bat 1 [1, 36] [(38, .bool false), (39, pv b1 3)] ?_
       refine Ok.opYes (j := 22) (d := 38) (want := false) (b := false) rfl (by kernel_rfl) (by kernel_rfl) rfl (OpOk.step (v := sv xx.2.2.2.1) (Yields.load 0 rfl rfl Tryd.underlying9 rfl (by kernel_rfl)) rfl rfl (Ok.opYes (j := 22) (d := 38) (want := false) (b := false) rfl (by kernel_rfl) (by kernel_rfl) rfl (OpOk.step (v := .bool (xx.2.2.2.1 == ([] : Bs))) (Yields.strCmp (f := .eql) (a := xx.2.2.2.1) (b := ([] : Bs)) (by kernel_rfl) (by kernel_rfl) rfl) rfl rfl (Ok.bat 3 [1] [(44, .bool (xx.2.2.2.1 == ([] : Bs)))] ?_))))
       refine Ok.boolAt 44 ((xx.2.2.2.1 == ([] : Bs))) rfl (fun hc17 => ?_) (fun hc17 => ?_)
       ·replace hF := hF.1 hc17
        refine Ok.bat 1 [1] [(44, .bool true), (45, pv b1 0)] ?_
        refine Ok.opYes (j := 28) (d := 44) (want := true) (b := true) rfl (by kernel_rfl) (by kernel_rfl) rfl (OpOk.step (v := .int .i64 xx.1) (Yields.load 0 rfl rfl Tryd.underlying3 rfl (by kernel_rfl)) rfl rfl (Ok.opYes (j := 28) (d := 44) (want := true) (b := true) rfl (by kernel_rfl) (by kernel_rfl) rfl (OpOk.callG (v := .bool (dparM xx.1)) enr (fun W hW => dpar_c xx.1) rfl ?_)))
        refine Ok.bat 1 [1, 44] [(48, .bool (dparM xx.1))] ?_
        refine Ok.boolAt 48 ((dparM xx.1)) rfl (fun hc18 => ?_) (fun hc18 => ?_)
        ·replace hF := hF.1 hc18
         refine Ok.batch 7 [(2, .bool true)] (by kernel_rfl) (Ok.nil (Ok.thenN (Ok.reval 2 rfl (show (.bool true : Value) = .bool (if (xx.1 == 2) = true then (if (xx.1 == 2) = true then (if ((xx.1 == 3) || (xx.1 == 4)) = true then ((dparM xx.1) || ((xx.2.2.2.2.2.length : Int) == 0)) else ((xx.2.2.2.1 == ([] : Bs)) && ((dparM xx.1) || ((xx.2.2.2.2.2.length : Int) == 0)))) else (((xx.2.2.1.length : Int) == 0) && (if ((xx.1 == 3) || (xx.1 == 4)) = true then ((dparM xx.1) || ((xx.2.2.2.2.2.length : Int) == 0)) else ((xx.2.2.2.1 == ([] : Bs)) && ((dparM xx.1) || ((xx.2.2.2.2.2.length : Int) == 0)))))) else (if (xx.1 == 5) = true then (if (xx.1 == 2) = true then (if ((xx.1 == 3) || (xx.1 == 4)) = true then ((dparM xx.1) || ((xx.2.2.2.2.2.length : Int) == 0)) else ((xx.2.2.2.1 == ([] : Bs)) && ((dparM xx.1) || ((xx.2.2.2.2.2.length : Int) == 0)))) else (((xx.2.2.1.length : Int) == 0) && (if ((xx.1 == 3) || (xx.1 == 4)) = true then ((dparM xx.1) || ((xx.2.2.2.2.2.length : Int) == 0)) else ((xx.2.2.2.1 == ([] : Bs)) && ((dparM xx.1) || ((xx.2.2.2.2.2.length : Int) == 0)))))) else ((xx.2.1 == ([] : Bs)) && (if (xx.1 == 2) = true then (if ((xx.1 == 3) || (xx.1 == 4)) = true then ((dparM xx.1) || ((xx.2.2.2.2.2.length : Int) == 0)) else ((xx.2.2.2.1 == ([] : Bs)) && ((dparM xx.1) || ((xx.2.2.2.2.2.length : Int) == 0)))) else (((xx.2.2.1.length : Int) == 0) && (if ((xx.1 == 3) || (xx.1 == 4)) = true then ((dparM xx.1) || ((xx.2.2.2.2.2.length : Int) == 0)) else ((xx.2.2.2.1 == ([] : Bs)) && ((dparM xx.1) || ((xx.2.2.2.2.2.length : Int) == 0))))))))) from congrArg (Value.bool) ((Eq.trans ((Eq.trans ((Eq.trans ((Eq.trans ((Eq.trans (mor_t hc18) (mand_t hc17))) ((if_f hc15).symm))) ((if_t hc14).symm))) ((if_t hc13).symm))) ((if_f hc2).symm)))) ?_)))
         exact fun a W hA hW => ⟨hA.sub (by kernel_rfl), hW.sub (.cons _ .slnil), hF⟩
        ·replace hF := hF.2 hc18
         refine Ok.bat 1 [44] [(48, .bool false), (49, pv b1 5)] ?_
         refine Ok.opYes (j := 32) (d := 48) (want := false) (b := false) rfl (by kernel_rfl) (by kernel_rfl) rfl (OpOk.step (v := .slice axx_1 xx.2.2.2.2.2.length cxx_1) (Yields.load 0 rfl rfl Tryd.underlying28 rfl (by kernel_rfl)) rfl rfl (Ok.batch 5 [(2, .bool ((xx.2.2.2.2.2.length : Int) == 0))] (by kernel_rfl) (Ok.nil (Ok.thenN (Ok.reval 2 rfl (show (.bool ((xx.2.2.2.2.2.length : Int) == 0) : Value) = .bool (if (xx.1 == 2) = true then (if (xx.1 == 2) = true then (if ((xx.1 == 3) || (xx.1 == 4)) = true then ((dparM xx.1) || ((xx.2.2.2.2.2.length : Int) == 0)) else ((xx.2.2.2.1 == ([] : Bs)) && ((dparM xx.1) || ((xx.2.2.2.2.2.length : Int) == 0)))) else (((xx.2.2.1.length : Int) == 0) && (if ((xx.1 == 3) || (xx.1 == 4)) = true then ((dparM xx.1) || ((xx.2.2.2.2.2.length : Int) == 0)) else ((xx.2.2.2.1 == ([] : Bs)) && ((dparM xx.1) || ((xx.2.2.2.2.2.length : Int) == 0)))))) else (if (xx.1 == 5) = true then (if (xx.1 == 2) = true then (if ((xx.1 == 3) || (xx.1 == 4)) = true then ((dparM xx.1) || ((xx.2.2.2.2.2.length : Int) == 0)) else ((xx.2.2.2.1 == ([] : Bs)) && ((dparM xx.1) || ((xx.2.2.2.2.2.length : Int) == 0)))) else (((xx.2.2.1.length : Int) == 0) && (if ((xx.1 == 3) || (xx.1 == 4)) = true then ((dparM xx.1) || ((xx.2.2.2.2.2.length : Int) == 0)) else ((xx.2.2.2.1 == ([] : Bs)) && ((dparM xx.1) || ((xx.2.2.2.2.2.length : Int) == 0)))))) else ((xx.2.1 == ([] : Bs)) && (if (xx.1 == 2) = true then (if ((xx.1 == 3) || (xx.1 == 4)) = true then ((dparM xx.1) || ((xx.2.2.2.2.2.length : Int) == 0)) else ((xx.2.2.2.1 == ([] : Bs)) && ((dparM xx.1) || ((xx.2.2.2.2.2.length : Int) == 0)))) else (((xx.2.2.1.length : Int) == 0) && (if ((xx.1 == 3) || (xx.1 == 4)) = true then ((dparM xx.1) || ((xx.2.2.2.2.2.length : Int) == 0)) else ((xx.2.2.2.1 == ([] : Bs)) && ((dparM xx.1) || ((xx.2.2.2.2.2.length : Int) == 0))))))))) from congrArg (Value.bool) ((Eq.trans ((Eq.trans ((Eq.trans ((Eq.trans ((Eq.trans (mor_f hc18) (mand_t hc17))) ((if_f hc15).symm))) ((if_t hc14).symm))) ((if_t hc13).symm))) ((if_f hc2).symm)))) ?_)))))
         exact fun a W hA hW => ⟨hA.sub (by kernel_rfl), hW.sub (.cons _ .slnil), hF⟩
       ·replace hF := hF.2 hc17
        refine Ok.batch 11 [(2, .bool false)] (by kernel_rfl) (Ok.nil (Ok.thenN (Ok.reval 2 rfl (show (.bool false : Value) = .bool (if (xx.1 == 2) = true then (if (xx.1 == 2) = true then (if ((xx.1 == 3) || (xx.1 == 4)) = true then ((dparM xx.1) || ((xx.2.2.2.2.2.length : Int) == 0)) else ((xx.2.2.2.1 == ([] : Bs)) && ((dparM xx.1) || ((xx.2.2.2.2.2.length : Int) == 0)))) else (((xx.2.2.1.length : Int) == 0) && (if ((xx.1 == 3) || (xx.1 == 4)) = true then ((dparM xx.1) || ((xx.2.2.2.2.2.length : Int) == 0)) else ((xx.2.2.2.1 == ([] : Bs)) && ((dparM xx.1) || ((xx.2.2.2.2.2.length : Int) == 0)))))) else (if (xx.1 == 5) = true then (if (xx.1 == 2) = true then (if ((xx.1 == 3) || (xx.1 == 4)) = true then ((dparM xx.1) || ((xx.2.2.2.2.2.length : Int) == 0)) else ((xx.2.2.2.1 == ([] : Bs)) && ((dparM xx.1) || ((xx.2.2.2.2.2.length : Int) == 0)))) else (((xx.2.2.1.length : Int) == 0) && (if ((xx.1 == 3) || (xx.1 == 4)) = true then ((dparM xx.1) || ((xx.2.2.2.2.2.length : Int) == 0)) else ((xx.2.2.2.1 == ([] : Bs)) && ((dparM xx.1) || ((xx.2.2.2.2.2.length : Int) == 0)))))) else ((xx.2.1 == ([] : Bs)) && (if (xx.1 == 2) = true then (if ((xx.1 == 3) || (xx.1 == 4)) = true then ((dparM xx.1) || ((xx.2.2.2.2.2.length : Int) == 0)) else ((xx.2.2.2.1 == ([] : Bs)) && ((dparM xx.1) || ((xx.2.2.2.2.2.length : Int) == 0)))) else (((xx.2.2.1.length : Int) == 0) && (if ((xx.1 == 3) || (xx.1 == 4)) = true then ((dparM xx.1) || ((xx.2.2.2.2.2.length : Int) == 0)) else ((xx.2.2.2.1 == ([] : Bs)) && ((dparM xx.1) || ((xx.2.2.2.2.2.length : Int) == 0))))))))) from congrArg (Value.bool) ((Eq.trans ((Eq.trans ((Eq.trans ((Eq.trans (mand_f hc17) ((if_f hc15).symm))) ((if_t hc14).symm))) ((if_t hc13).symm))) ((if_f hc2).symm)))) ?_)))
        exact fun a W hA hW => ⟨hA.sub (by kernel_rfl), hW.sub (.cons _ .slnil), hF⟩
     ·replace hF := hF.2 hc14
      refine Ok.bat 1 [1, 4, 27] [(29, .bool false), (30, pv b1 2)] ?_
      refine Ok.opYes (j := 13) (d := 29) (want := false) (b := false) rfl (by kernel_rfl) (by kernel_rfl) rfl (OpOk.step (v := .slice axx_0 xx.2.2.1.length cxx_0) (Yields.load 0 rfl rfl Tryd.underlying44 rfl (by kernel_rfl)) rfl rfl (Ok.bat 5 [1, 4] [(36, .bool ((xx.2.2.1.length : Int) == 0))] ?_))
      refine Ok.boolAt 36 (((xx.2.2.1.length : Int) == 0)) rfl (fun hc19 => ?_) (fun hc19 => ?_)
      ·replace hF := hF.1 hc19
       refine Ok.bat 2 [1] [(36, .bool true), (38, .bool ((xx.1 == 3) || (xx.1 == 4)))] ?_
       refine Ok.boolAt 38 (((xx.1 == 3) || (xx.1 == 4))) rfl (fun hc20 => ?_) (fun hc20 => ?_)
       ·replace hF := hF.1 hc20
        refine Ok.bat 7 [1] [(44, .bool true), (45, pv b1 0)] ?_
        refine Ok.opYes (j := 28) (d := 44) (want := true) (b := true) rfl (by kernel_rfl) (by kernel_rfl) rfl (OpOk.step (v := .int .i64 xx.1) (Yields.load 0 rfl rfl Tryd.underlying3 rfl (by kernel_rfl)) rfl rfl (Ok.opYes (j := 28) (d := 44) (want := true) (b := true) rfl (by kernel_rfl) (by kernel_rfl) rfl (OpOk.callG (v := .bool (dparM xx.1)) enr (fun W hW => dpar_c xx.1) rfl ?_)))
        refine Ok.bat 1 [1, 44] [(48, .bool (dparM xx.1))] ?_
        refine Ok.boolAt 48 ((dparM xx.1)) rfl (fun hc21 => ?_) (fun hc21 => ?_)
        ·replace hF := hF.1 hc21
         refine Ok.batch 7 [(2, .bool true)] (by kernel_rfl) (Ok.nil (Ok.thenN (Ok.reval 2 rfl (show (.bool true : Value) = .bool (if (xx.1 == 2) = true then (if (xx.1 == 2) = true then (if ((xx.1 == 3) || (xx.1 == 4)) = true then ((dparM xx.1) || ((xx.2.2.2.2.2.length : Int) == 0)) else ((xx.2.2.2.1 == ([] : Bs)) && ((dparM xx.1) || ((xx.2.2.2.2.2.length : Int) == 0)))) else (((xx.2.2.1.length : Int) == 0) && (if ((xx.1 == 3) || (xx.1 == 4)) = true then ((dparM xx.1) || ((xx.2.2.2.2.2.length : Int) == 0)) else ((xx.2.2.2.1 == ([] : Bs)) && ((dparM xx.1) || ((xx.2.2.2.2.2.length : Int) == 0)))))) else (if (xx.1 == 5) = true then (if (xx.1 == 2) = true then (if ((xx.1 == 3) || (xx.1 == 4)) = true then ((dparM xx.1) || ((xx.2.2.2.2.2.length : Int) == 0)) else ((xx.2.2.2.1 == ([] : Bs)) && ((dparM xx.1) || ((xx.2.2.2.2.2.length : Int) == 0)))) else (((xx.2.2.1.length : Int) == 0) && (if ((xx.1 == 3) || (xx.1 == 4)) = true then ((dparM xx.1) || ((xx.2.2.2.2.2.length : Int) == 0)) else ((xx.2.2.2.1 == ([] : Bs)) && ((dparM xx.1) || ((xx.2.2.2.2.2.length : Int) == 0)))))) else ((xx.2.1 == ([] : Bs)) && (if (xx.1 == 2) = true then (if ((xx.1 == 3) || (xx.1 == 4)) = true then ((dparM xx.1) || ((xx.2.2.2.2.2.length : Int) == 0)) else ((xx.2.2.2.1 == ([] : Bs)) && ((dparM xx.1) || ((xx.2.2.2.2.2.length : Int) == 0)))) else (((xx.2.2.1.length : Int) == 0) && (if ((xx.1 == 3) || (xx.1 == 4)) = true then ((dparM xx.1) || ((xx.2.2.2.2.2.length : Int) == 0)) else ((xx.2.2.2.1 == ([] : Bs)) && ((dparM xx.1) || ((xx.2.2.2.2.2.length : Int) == 0))))))))) from congrArg (Value.bool) ((Eq.trans ((Eq.trans ((Eq.trans ((Eq.trans ((Eq.trans (mor_t hc21) ((if_t hc20).symm))) (mand_t hc19))) ((if_f hc14).symm))) ((if_t hc13).symm))) ((if_f hc2).symm)))) ?_)))
         exact fun a W hA hW => ⟨hA.sub (by kernel_rfl), hW.sub (.cons _ .slnil), hF⟩
        ·replace hF := hF.2 hc21
         refine Ok.bat 1 [44] [(48, .bool false), (49, pv b1 5)] ?_
         refine Ok.opYes (j := 32) (d := 48) (want := false) (b := false) rfl (by kernel_rfl) (by kernel_rfl) rfl (OpOk.step (v := .slice axx_1 xx.2.2.2.2.2.length cxx_1) (Yields.load 0 rfl rfl Tryd.underlying28 rfl (by kernel_rfl)) rfl rfl (Ok.batch 5 [(2, .bool ((xx.2.2.2.2.2.length : Int) == 0))] (by kernel_rfl) (Ok.nil (Ok.thenN (Ok.reval 2 rfl (show (.bool ((xx.2.2.2.2.2.length : Int) == 0) : Value) = .bool (if (xx.1 == 2) = true then (if (xx.1 == 2) = true then (if ((xx.1 == 3) || (xx.1 == 4)) = true then ((dparM xx.1) || ((xx.2.2.2.2.2.length : Int) == 0)) else ((xx.2.2.2.1 == ([] : Bs)) && ((dparM xx.1) || ((xx.2.2.2.2.2.length : Int) == 0)))) else (((xx.2.2.1.length : Int) == 0) && (if ((xx.1 == 3) || (xx.1 == 4)) = true then ((dparM xx.1) || ((xx.2.2.2.2.2.length : Int) == 0)) else ((xx.2.2.2.1 == ([] : Bs)) && ((dparM xx.1) || ((xx.2.2.2.2.2.length : Int) == 0)))))) else (if (xx.1 == 5) = true then (if (xx.1 == 2) = true then (if ((xx.1 == 3) || (xx.1 == 4)) = true then ((dparM xx.1) || ((xx.2.2.2.2.2.length : Int) == 0)) else ((xx.2.2.2.1 == ([] : Bs)) && ((dparM xx.1) || ((xx.2.2.2.2.2.length : Int) == 0)))) else (((xx.2.2.1.length : Int) == 0) && (if ((xx.1 == 3) || (xx.1 == 4)) = true then ((dparM xx.1) || ((xx.2.2.2.2.2.length : Int) == 0)) else ((xx.2.2.2.1 == ([] : Bs)) && ((dparM xx.1) || ((xx.2.2.2.2.2.length : Int) == 0)))))) else ((xx.2.1 == ([] : Bs)) && (if (xx.1 == 2) = true then (if ((xx.1 == 3) || (xx.1 == 4)) = true then ((dparM xx.1) || ((xx.2.2.2.2.2.length : Int) == 0)) else ((xx.2.2.2.1 == ([] : Bs)) && ((dparM xx.1) || ((xx.2.2.2.2.2.length : Int) == 0)))) else (((xx.2.2.1.length : Int) == 0) && (if ((xx.1 == 3) || (xx.1 == 4)) = true then ((dparM xx.1) || ((xx.2.2.2.2.2.length : Int) == 0)) else ((xx.2.2.2.1 == ([] : Bs)) && ((dparM xx.1) || ((xx.2.2.2.2.2.length : Int) == 0))))))))) from congrArg (Value.bool) ((Eq.trans ((Eq.trans ((Eq.trans ((Eq.trans ((Eq.trans (mor_f hc21) ((if_t hc20).symm))) (mand_t hc19))) ((if_f hc14).symm))) ((if_t hc13).symm))) ((if_f hc2).symm)))) ?_)))))
         exact fun a W hA hW => ⟨hA.sub (by kernel_rfl), hW.sub (.cons _ .slnil), hF⟩
       ·replace hF := hF.2 hc20
        refine Ok.bat 1 [1, 36] [(38, .bool false), (39, pv b1 3)] ?_
        refine Ok.opYes (j := 22) (d := 38) (want := false) (b := false) rfl (by kernel_rfl) (by kernel_rfl) rfl (OpOk.step (v := sv xx.2.2.2.1) (Yields.load 0 rfl rfl Tryd.underlying9 rfl (by kernel_rfl)) rfl rfl (Ok.opYes (j := 22) (d := 38) (want := false) (b := false) rfl (by kernel_rfl) (by kernel_rfl) rfl (OpOk.step (v := .bool (xx.2.2.2.1 == ([] : Bs))) (Yields.strCmp (f := .eql) (a := xx.2.2.2.1) (b := ([] : Bs)) (by kernel_rfl) (by kernel_rfl) rfl) rfl rfl (Ok.bat 3 [1] [(44, .bool (xx.2.2.2.1 == ([] : Bs)))] ?_))))
        refine Ok.boolAt 44 ((xx.2.2.2.1 == ([] : Bs))) rfl (fun hc22 => ?_) (fun hc22 => ?_)
        ·replace hF := hF.1 hc22
         refine Ok.bat 1 [1] [(44, .bool true), (45, pv b1 0)] ?_
         refine Ok.opYes (j := 28) (d := 44) (want := true) (b := true) rfl (by kernel_rfl) (by kernel_rfl) rfl (OpOk.step (v := .int .i64 xx.1) (Yields.load 0 rfl rfl Tryd.underlying3 rfl (by kernel_rfl)) rfl rfl (Ok.opYes (j := 28) (d := 44) (want := true) (b := true) rfl (by kernel_rfl) (by kernel_rfl) rfl (OpOk.callG (v := .bool (dparM xx.1)) enr (fun W hW => dpar_c xx.1) rfl ?_)))
         refine Ok.bat 1 [1, 44] [(48, .bool (dparM xx.1))] ?_
         refine Ok.boolAt 48 ((dparM xx.1)) rfl (fun hc23 => ?_) (fun hc23 => ?_)
         ·replace hF := hF.1 hc23
          refine Ok.batch 7 [(2, .bool true)] (by kernel_rfl) (Ok.nil (Ok.thenN (Ok.reval 2 rfl (show (.bool true : Value) = .bool (if (xx.1 == 2) = true then (if (xx.1 == 2) = true then (if ((xx.1 == 3) || (xx.1 == 4)) = true then ((dparM xx.1) || ((xx.2.2.2.2.2.length : Int) == 0)) else ((xx.2.2.2.1 == ([] : Bs)) && ((dparM xx.1) || ((xx.2.2.2.2.2.length : Int) == 0)))) else (((xx.2.2.1.length : Int) == 0) && (if ((xx.1 == 3) || (xx.1 == 4)) = true then ((dparM xx.1) || ((xx.2.2.2.2.2.length : Int) == 0)) else ((xx.2.2.2.1 == ([] : Bs)) && ((dparM xx.1) || ((xx.2.2.2.2.2.length : Int) == 0)))))) else (if (xx.1 == 5) = true then (if (xx.1 == 2) = true then (if ((xx.1 == 3) || (xx.1 == 4)) = true then ((dparM xx.1) || ((xx.2.2.2.2.2.length : Int) == 0)) else ((xx.2.2.2.1 == ([] : Bs)) && ((dparM xx.1) || ((xx.2.2.2.2.2.length : Int) == 0)))) else (((xx.2.2.1.length : Int) == 0) && (if ((xx.1 == 3) || (xx.1 == 4)) = true then ((dparM xx.1) || ((xx.2.2.2.2.2.length : Int) == 0)) else ((xx.2.2.2.1 == ([] : Bs)) && ((dparM xx.1) || ((xx.2.2.2.2.2.length : Int) == 0)))))) else ((xx.2.1 == ([] : Bs)) && (if (xx.1 == 2) = true then (if ((xx.1 == 3) || (xx.1 == 4)) = true then ((dparM xx.1) || ((xx.2.2.2.2.2.length : Int) == 0)) else ((xx.2.2.2.1 == ([] : Bs)) && ((dparM xx.1) || ((xx.2.2.2.2.2.length : Int) == 0)))) else (((xx.2.2.1.length : Int) == 0) && (if ((xx.1 == 3) || (xx.1 == 4)) = true then ((dparM xx.1) || ((xx.2.2.2.2.2.length : Int) == 0)) else ((xx.2.2.2.1 == ([] : Bs)) && ((dparM xx.1) || ((xx.2.2.2.2.2.length : Int) == 0))))))))) from congrArg (Value.bool) ((Eq.trans ((Eq.trans ((Eq.trans ((Eq.trans ((Eq.trans ((Eq.trans (mor_t hc23) (mand_t hc22))) ((if_f hc20).symm))) (mand_t hc19))) ((if_f hc14).symm))) ((if_t hc13).symm))) ((if_f hc2).symm)))) ?_)))
          exact fun a W hA hW => ⟨hA.sub (by kernel_rfl), hW.sub (.cons _ .slnil), hF⟩
         ·replace hF := hF.2 hc23
          refine Ok.bat 1 [44] [(48, .bool false), (49, pv b1 5)] ?_
          refine Ok.opYes (j := 32) (d := 48) (want := false) (b := false) rfl (by kernel_rfl) (by kernel_rfl) rfl (OpOk.step (v := .slice axx_1 xx.2.2.2.2.2.length cxx_1) (Yields.load 0 rfl rfl Tryd.underlying28 rfl (by kernel_rfl)) rfl rfl (Ok.batch 5 [(2, .bool ((xx.2.2.2.2.2.length : Int) == 0))] (by kernel_rfl) (Ok.nil (Ok.thenN (Ok.reval 2 rfl (show (.bool ((xx.2.2.2.2.2.length : Int) == 0) : Value) = .bool (if (xx.1 == 2) = true then (if (xx.1 == 2) = true then (if ((xx.1 == 3) || (xx.1 == 4)) = true then ((dparM xx.1) || ((xx.2.2.2.2.2.length : Int) == 0)) else ((xx.2.2.2.1 == ([] : Bs)) && ((dparM xx.1) || ((xx.2.2.2.2.2.length : Int) == 0)))) else (((xx.2.2.1.length : Int) == 0) && (if ((xx.1 == 3) || (xx.1 == 4)) = true then ((dparM xx.1) || ((xx.2.2.2.2.2.length : Int) == 0)) else ((xx.2.2.2.1 == ([] : Bs)) && ((dparM xx.1) || ((xx.2.2.2.2.2.length : Int) == 0)))))) else (if (xx.1 == 5) = true then (if (xx.1 == 2) = true then (if ((xx.1 == 3) || (xx.1 == 4)) = true then ((dparM xx.1) || ((xx.2.2.2.2.2.length : Int) == 0)) else ((xx.2.2.2.1 == ([] : Bs)) && ((dparM xx.1) || ((xx.2.2.2.2.2.length : Int) == 0)))) else (((xx.2.2.1.length : Int) == 0) && (if ((xx.1 == 3) || (xx.1 == 4)) = true then ((dparM xx.1) || ((xx.2.2.2.2.2.length : Int) == 0)) else ((xx.2.2.2.1 == ([] : Bs)) && ((dparM xx.1) || ((xx.2.2.2.2.2.length : Int) == 0)))))) else ((xx.2.1 == ([] : Bs)) && (if (xx.1 == 2) = true then (if ((xx.1 == 3) || (xx.1 == 4)) = true then ((dparM xx.1) || ((xx.2.2.2.2.2.length : Int) == 0)) else ((xx.2.2.2.1 == ([] : Bs)) && ((dparM xx.1) || ((xx.2.2.2.2.2.length : Int) == 0)))) else (((xx.2.2.1.length : Int) == 0) && (if ((xx.1 == 3) || (xx.1 == 4)) = true then ((dparM xx.1) || ((xx.2.2.2.2.2.length : Int) == 0)) else ((xx.2.2.2.1 == ([] : Bs)) && ((dparM xx.1) || ((xx.2.2.2.2.2.length : Int) == 0))))))))) from congrArg (Value.bool) ((Eq.trans ((Eq.trans ((Eq.trans ((Eq.trans ((Eq.trans ((Eq.trans (mor_f hc23) (mand_t hc22))) ((if_f hc20).symm))) (mand_t hc19))) ((if_f hc14).symm))) ((if_t hc13).symm))) ((if_f hc2).symm)))) ?_)))))
          exact fun a W hA hW => ⟨hA.sub (by kernel_rfl), hW.sub (.cons _ .slnil), hF⟩
        ·replace hF := hF.2 hc22
         refine Ok.batch 11 [(2, .bool false)] (by kernel_rfl) (Ok.nil (Ok.thenN (Ok.reval 2 rfl (show (.bool false : Value) = .bool (if (xx.1 == 2) = true then (if (xx.1 == 2) = true then (if ((xx.1 == 3) || (xx.1 == 4)) = true then ((dparM xx.1) || ((xx.2.2.2.2.2.length : Int) == 0)) else ((xx.2.2.2.1 == ([] : Bs)) && ((dparM xx.1) || ((xx.2.2.2.2.2.length : Int) == 0)))) else (((xx.2.2.1.length : Int) == 0) && (if ((xx.1 == 3) || (xx.1 == 4)) = true then ((dparM xx.1) || ((xx.2.2.2.2.2.length : Int) == 0)) else ((xx.2.2.2.1 == ([] : Bs)) && ((dparM xx.1) || ((xx.2.2.2.2.2.length : Int) == 0)))))) else (if (xx.1 == 5) = true then (if (xx.1 == 2) = true then (if ((xx.1 == 3) || (xx.1 == 4)) = true then ((dparM xx.1) || ((xx.2.2.2.2.2.length : Int) == 0)) else ((xx.2.2.2.1 == ([] : Bs)) && ((dparM xx.1) || ((xx.2.2.2.2.2.length : Int) == 0)))) else (((xx.2.2.1.length : Int) == 0) && (if ((xx.1 == 3) || (xx.1 == 4)) = true then ((dparM xx.1) || ((xx.2.2.2.2.2.length : Int) == 0)) else ((xx.2.2.2.1 == ([] : Bs)) && ((dparM xx.1) || ((xx.2.2.2.2.2.length : Int) == 0)))))) else ((xx.2.1 == ([] : Bs)) && (if (xx.1 == 2) = true then (if ((xx.1 == 3) || (xx.1 == 4)) = true then ((dparM xx.1) || ((xx.2.2.2.2.2.length : Int) == 0)) else ((xx.2.2.2.1 == ([] : Bs)) && ((dparM xx.1) || ((xx.2.2.2.2.2.length : Int) == 0)))) else (((xx.2.2.1.length : Int) == 0) && (if ((xx.1 == 3) || (xx.1 == 4)) = true then ((dparM xx.1) || ((xx.2.2.2.2.2.length : Int) == 0)) else ((xx.2.2.2.1 == ([] : Bs)) && ((dparM xx.1) || ((xx.2.2.2.2.2.length : Int) == 0))))))))) from congrArg (Value.bool) ((Eq.trans ((Eq.trans ((Eq.trans ((Eq.trans ((Eq.trans (mand_f hc22) ((if_f hc20).symm))) (mand_t hc19))) ((if_f hc14).symm))) ((if_t hc13).symm))) ((if_f hc2).symm)))) ?_)))
         exact fun a W hA hW => ⟨hA.sub (by kernel_rfl), hW.sub (.cons _ .slnil), hF⟩
      ·replace hF := hF.2 hc19
       refine Ok.batch 19 [(2, .bool false)] (by kernel_rfl) (Ok.nil (Ok.thenN (Ok.reval 2 rfl (show (.bool false : Value) = .bool (if (xx.1 == 2) = true then (if (xx.1 == 2) = true then (if ((xx.1 == 3) || (xx.1 == 4)) = true then ((dparM xx.1) || ((xx.2.2.2.2.2.length : Int) == 0)) else ((xx.2.2.2.1 == ([] : Bs)) && ((dparM xx.1) || ((xx.2.2.2.2.2.length : Int) == 0)))) else (((xx.2.2.1.length : Int) == 0) && (if ((xx.1 == 3) || (xx.1 == 4)) = true then ((dparM xx.1) || ((xx.2.2.2.2.2.length : Int) == 0)) else ((xx.2.2.2.1 == ([] : Bs)) && ((dparM xx.1) || ((xx.2.2.2.2.2.length : Int) == 0)))))) else (if (xx.1 == 5) = true then (if (xx.1 == 2) = true then (if ((xx.1 == 3) || (xx.1 == 4)) = true then ((dparM xx.1) || ((xx.2.2.2.2.2.length : Int) == 0)) else ((xx.2.2.2.1 == ([] : Bs)) && ((dparM xx.1) || ((xx.2.2.2.2.2.length : Int) == 0)))) else (((xx.2.2.1.length : Int) == 0) && (if ((xx.1 == 3) || (xx.1 == 4)) = true then ((dparM xx.1) || ((xx.2.2.2.2.2.length : Int) == 0)) else ((xx.2.2.2.1 == ([] : Bs)) && ((dparM xx.1) || ((xx.2.2.2.2.2.length : Int) == 0)))))) else ((xx.2.1 == ([] : Bs)) && (if (xx.1 == 2) = true then (if ((xx.1 == 3) || (xx.1 == 4)) = true then ((dparM xx.1) || ((xx.2.2.2.2.2.length : Int) == 0)) else ((xx.2.2.2.1 == ([] : Bs)) && ((dparM xx.1) || ((xx.2.2.2.2.2.length : Int) == 0)))) else (((xx.2.2.1.length : Int) == 0) && (if ((xx.1 == 3) || (xx.1 == 4)) = true then ((dparM xx.1) || ((xx.2.2.2.2.2.length : Int) == 0)) else ((xx.2.2.2.1 == ([] : Bs)) && ((dparM xx.1) || ((xx.2.2.2.2.2.length : Int) == 0))))))))) from congrArg (Value.bool) ((Eq.trans ((Eq.trans ((Eq.trans (mand_f hc19) ((if_f hc14).symm))) ((if_t hc13).symm))) ((if_f hc2).symm)))) ?_)))
       exact fun a W hA hW => ⟨hA.sub (by kernel_rfl), hW.sub (.cons _ .slnil), hF⟩
    ·replace hF := hF.2 hc13
     refine Ok.bat 1 [1, 3, 4] [(22, .bool false), (23, pv b1 1)] ?_
     refine Ok.opYes (j := 6) (d := 22) (want := false) (b := false) rfl (by kernel_rfl) (by kernel_rfl) rfl (OpOk.step (v := sv xx.2.1) (Yields.load 0 rfl rfl Tryd.underlying9 rfl (by kernel_rfl)) rfl rfl (Ok.opYes (j := 6) (d := 22) (want := false) (b := false) rfl (by kernel_rfl) (by kernel_rfl) rfl (OpOk.step (v := .bool (xx.2.1 == ([] : Bs))) (Yields.strCmp (f := .eql) (a := xx.2.1) (b := ([] : Bs)) (by kernel_rfl) (by kernel_rfl) rfl) rfl rfl (Ok.bat 2 [1, 3, 4] [(27, .bool (xx.2.1 == ([] : Bs)))] ?_))))
     refine Ok.boolAt 27 ((xx.2.1 == ([] : Bs))) rfl (fun hc24 => ?_) (fun hc24 => ?_)
     ·replace hF := hF.1 hc24
      refine Ok.bat 2 [1, 4] [(27, .bool true), (29, .bool (xx.1 == 2))] ?_
      refine Ok.boolAt 29 ((xx.1 == 2)) rfl (fun hc25 => ?_) (fun hc25 => ?_)
      ·replace hF := hF.1 hc25
       refine Ok.bat 9 [1] [(36, .bool true), (38, .bool ((xx.1 == 3) || (xx.1 == 4)))] ?_
       refine Ok.boolAt 38 (((xx.1 == 3) || (xx.1 == 4))) rfl (fun hc26 => ?_) (fun hc26 => ?_)
       ·replace hF := hF.1 hc26
        refine Ok.bat 7 [1] [(44, .bool true), (45, pv b1 0)] ?_
        refine Ok.opYes (j := 28) (d := 44) (want := true) (b := true) rfl (by kernel_rfl) (by kernel_rfl) rfl (OpOk.step (v := .int .i64 xx.1) (Yields.load 0 rfl rfl Tryd.underlying3 rfl (by kernel_rfl)) rfl rfl (Ok.opYes (j := 28) (d := 44) (want := true) (b := true) rfl (by kernel_rfl) (by kernel_rfl) rfl (OpOk.callG (v := .bool (dparM xx.1)) enr (fun W hW => dpar_c xx.1) rfl ?_)))
        refine Ok.bat 1 [1, 44] [(48, .bool (dparM xx.1))] ?_
        refine Ok.boolAt 48 ((dparM xx.1)) rfl (fun hc27 => ?_) (fun hc27 => ?_)
        ·replace hF := hF.1 hc27
         refine Ok.batch 7 [(2, .bool true)] (by kernel_rfl) (Ok.nil (Ok.thenN (Ok.reval 2 rfl (show (.bool true : Value) = .bool (if (xx.1 == 2) = true then (if (xx.1 == 2) = true then (if ((xx.1 == 3) || (xx.1 == 4)) = true then ((dparM xx.1) || ((xx.2.2.2.2.2.length : Int) == 0)) else ((xx.2.2.2.1 == ([] : Bs)) && ((dparM xx.1) || ((xx.2.2.2.2.2.length : Int) == 0)))) else (((xx.2.2.1.length : Int) == 0) && (if ((xx.1 == 3) || (xx.1 == 4)) = true then ((dparM xx.1) || ((xx.2.2.2.2.2.length : Int) == 0)) else ((xx.2.2.2.1 == ([] : Bs)) && ((dparM xx.1) || ((xx.2.2.2.2.2.length : Int) == 0)))))) else (if (xx.1 == 5) = true then (if (xx.1 == 2) = true then (if ((xx.1 == 3) || (xx.1 == 4)) = true then ((dparM xx.1) || ((xx.2.2.2.2.2.length : Int) == 0)) else ((xx.2.2.2.1 == ([] : Bs)) && ((dparM xx.1) || ((xx.2.2.2.2.2.length : Int) == 0)))) else (((xx.2.2.1.length : Int) == 0) && (if ((xx.1 == 3) || (xx.1 == 4)) = true then ((dparM xx.1) || ((xx.2.2.2.2.2.length : Int) == 0)) else ((xx.2.2.2.1 == ([] : Bs)) && ((dparM xx.1) || ((xx.2.2.2.2.2.length : Int) == 0)))))) else ((xx.2.1 == ([] : Bs)) && (if (xx.1 == 2) = true then (if ((xx.1 == 3) || (xx.1 == 4)) = true then ((dparM xx.1) || ((xx.2.2.2.2.2.length : Int) == 0)) else ((xx.2.2.2.1 == ([] : Bs)) && ((dparM xx.1) || ((xx.2.2.2.2.2.length : Int) == 0)))) else (((xx.2.2.1.length : Int) == 0) && (if ((xx.1 == 3) || (xx.1 == 4)) = true then ((dparM xx.1) || ((xx.2.2.2.2.2.length : Int) == 0)) else ((xx.2.2.2.1 == ([] : Bs)) && ((dparM xx.1) || ((xx.2.2.2.2.2.length : Int) == 0))))))))) from congrArg (Value.bool) ((Eq.trans ((Eq.trans ((Eq.trans ((Eq.trans ((Eq.trans (mor_t hc27) ((if_t hc26).symm))) ((if_t hc25).symm))) (mand_t hc24))) ((if_f hc13).symm))) ((if_f hc2).symm)))) ?_)))
         exact fun a W hA hW => ⟨hA.sub (by kernel_rfl), hW.sub (.cons _ .slnil), hF⟩
        ·replace hF := hF.2 hc27
         refine Ok.bat 1 [44] [(48, .bool false), (49, pv b1 5)] ?_
         refine Ok.opYes (j := 32) (d := 48) (want := false) (b := false) rfl (by kernel_rfl) (by kernel_rfl) rfl (OpOk.step (v := .slice axx_1 xx.2.2.2.2.2.length cxx_1) (Yields.load 0 rfl rfl Tryd.underlying28 rfl (by kernel_rfl)) rfl rfl (Ok.batch 5 [(2, .bool ((xx.2.2.2.2.2.length : Int) == 0))] (by kernel_rfl) (Ok.nil (Ok.thenN (Ok.reval 2 rfl (show (.bool ((xx.2.2.2.2.2.length : Int) == 0) : Value) = .bool (if (xx.1 == 2) = true then (if (xx.1 == 2) = true then (if ((xx.1 == 3) || (xx.1 == 4)) = true then ((dparM xx.1) || ((xx.2.2.2.2.2.length : Int) == 0)) else ((xx.2.2.2.1 == ([] : Bs)) && ((dparM xx.1) || ((xx.2.2.2.2.2.length : Int) == 0)))) else (((xx.2.2.1.length : Int) == 0) && (if ((xx.1 == 3) || (xx.1 == 4)) = true then ((dparM xx.1) || ((xx.2.2.2.2.2.length : Int) == 0)) else ((xx.2.2.2.1 == ([] : Bs)) && ((dparM xx.1) || ((xx.2.2.2.2.2.length : Int) == 0)))))) else (if (xx.1 == 5) = true then (if (xx.1 == 2) = true then (if ((xx.1 == 3) || (xx.1 == 4)) = true then ((dparM xx.1) || ((xx.2.2.2.2.2.length : Int) == 0)) else ((xx.2.2.2.1 == ([] : Bs)) && ((dparM xx.1) || ((xx.2.2.2.2.2.length : Int) == 0)))) else (((xx.2.2.1.length : Int) == 0) && (if ((xx.1 == 3) || (xx.1 == 4)) = true then ((dparM xx.1) || ((xx.2.2.2.2.2.length : Int) == 0)) else ((xx.2.2.2.1 == ([] : Bs)) && ((dparM xx.1) || ((xx.2.2.2.2.2.length : Int) == 0)))))) else ((xx.2.1 == ([] : Bs)) && (if (xx.1 == 2) = true then (if ((xx.1 == 3) || (xx.1 == 4)) = true then ((dparM xx.1) || ((xx.2.2.2.2.2.length : Int) == 0)) else ((xx.2.2.2.1 == ([] : Bs)) && ((dparM xx.1) || ((xx.2.2.2.2.2.length : Int) == 0)))) else (((xx.2.2.1.length : Int) == 0) && (if ((xx.1 == 3) || (xx.1 == 4)) = true then ((dparM xx.1) || ((xx.2.2.2.2.2.length : Int) == 0)) else ((xx.2.2.2.1 == ([] : Bs)) && ((dparM xx.1) || ((xx.2.2.2.2.2.length : Int) == 0))))))))) from congrArg (Value.bool) ((Eq.trans ((Eq.trans ((Eq.trans ((Eq.trans ((Eq.trans (mor_f hc27) ((if_t hc26).symm))) ((if_t hc25).symm))) (mand_t hc24))) ((if_f hc13).symm))) ((if_f hc2).symm)))) ?_)))))
         exact fun a W hA hW => ⟨hA.sub (by kernel_rfl), hW.sub (.cons _ .slnil), hF⟩
       ·replace hF := hF.2 hc26
        refine Ok.bat 1 [1, 36] [(38, .bool false), (39, pv b1 3)] ?_
        refine Ok.opYes (j := 22) (d := 38) (want := false) (b := false) rfl (by kernel_rfl) (by kernel_rfl) rfl (OpOk.step (v := sv xx.2.2.2.1) (Yields.load 0 rfl rfl Tryd.underlying9 rfl (by kernel_rfl)) rfl rfl (Ok.opYes (j := 22) (d := 38) (want := false) (b := false) rfl (by kernel_rfl) (by kernel_rfl) rfl (OpOk.step (v := .bool (xx.2.2.2.1 == ([] : Bs))) (Yields.strCmp (f := .eql) (a := xx.2.2.2.1) (b := ([] : Bs)) (by kernel_rfl) (by kernel_rfl) rfl) rfl rfl (Ok.bat 3 [1] [(44, .bool (xx.2.2.2.1 == ([] : Bs)))] ?_))))
        refine Ok.boolAt 44 ((xx.2.2.2.1 == ([] : Bs))) rfl (fun hc28 => ?_) (fun hc28 => ?_)
        ·replace hF := hF.1 hc28
         refine Ok.bat 1 [1] [(44, .bool true), (45, pv b1 0)] ?_
         refine Ok.opYes (j := 28) (d := 44) (want := true) (b := true) rfl (by kernel_rfl) (by kernel_rfl) rfl (OpOk.step (v := .int .i64 xx.1) (Yields.load 0 rfl rfl Tryd.underlying3 rfl (by kernel_rfl)) rfl rfl (Ok.opYes (j := 28) (d := 44) (want := true) (b := true) rfl (by kernel_rfl) (by kernel_rfl) rfl (OpOk.callG (v := .bool (dparM xx.1)) enr (fun W hW => dpar_c xx.1) rfl ?_)))
         refine Ok.bat 1 [1, 44] [(48, .bool (dparM xx.1))] ?_
         refine Ok.boolAt 48 ((dparM xx.1)) rfl (fun hc29 => ?_) (fun hc29 => ?_)
         ·replace hF := hF.1 hc29
          refine Ok.batch 7 [(2, .bool true)] (by kernel_rfl) (Ok.nil (Ok.thenN (Ok.reval 2 rfl (show (.bool true : Value) = .bool (if (xx.1 == 2) = true then (if (xx.1 == 2) = true then (if ((xx.1 == 3) || (xx.1 == 4)) = true then ((dparM xx.1) || ((xx.2.2.2.2.2.length : Int) == 0)) else ((xx.2.2.2.1 == ([] : Bs)) && ((dparM xx.1) || ((xx.2.2.2.2.2.length : Int) == 0)))) else (((xx.2.2.1.length : Int) == 0) && (if ((xx.1 == 3) || (xx.1 == 4)) = true then ((dparM xx.1) || ((xx.2.2.2.2.2.length : Int) == 0)) else ((xx.2.2.2.1 == ([] : Bs)) && ((dparM xx.1) || ((xx.2.2.2.2.2.length : Int) == 0)))))) else (if (xx.1 == 5) = true then (if (xx.1 == 2) = true then (if ((xx.1 == 3) || (xx.1 == 4)) = true then ((dparM xx.1) || ((xx.2.2.2.2.2.length : Int) == 0)) else ((xx.2.2.2.1 == ([] : Bs)) && ((dparM xx.1) || ((xx.2.2.2.2.2.length : Int) == 0)))) else (((xx.2.2.1.length : Int) == 0) && (if ((xx.1 == 3) || (xx.1 == 4)) = true then ((dparM xx.1) || ((xx.2.2.2.2.2.length : Int) == 0)) else ((xx.2.2.2.1 == ([] : Bs)) && ((dparM xx.1) || ((xx.2.2.2.2.2.length : Int) == 0)))))) else ((xx.2.1 == ([] : Bs)) && (if (xx.1 == 2) = true then (if ((xx.1 == 3) || (xx.1 == 4)) = true then ((dparM xx.1) || ((xx.2.2.2.2.2.length : Int) == 0)) else ((xx.2.2.2.1 == ([] : Bs)) && ((dparM xx.1) || ((xx.2.2.2.2.2.length : Int) == 0)))) else (((xx.2.2.1.length : Int) == 0) && (if ((xx.1 == 3) || (xx.1 == 4)) = true then ((dparM xx.1) || ((xx.2.2.2.2.2.length : Int) == 0)) else ((xx.2.2.2.1 == ([] : Bs)) && ((dparM xx.1) || ((xx.2.2.2.2.2.length : Int) == 0))))))))) from congrArg (Value.bool) ((Eq.trans ((Eq.trans ((Eq.trans ((Eq.trans ((Eq.trans ((Eq.trans (mor_t hc29) (mand_t hc28))) ((if_f hc26).symm))) ((if_t hc25).symm))) (mand_t hc24))) ((if_f hc13).symm))) ((if_f hc2).symm)))) ?_)))
          exact fun a W hA hW => ⟨hA.sub (by kernel_rfl), hW.sub (.cons _ .slnil), hF⟩
         ·replace hF := hF.2 hc29
          refine Ok.bat 1 [44] [(48, .bool false), (49, pv b1 5)] ?_
          refine Ok.opYes (j := 32) (d := 48) (want := false) (b := false) rfl (by kernel_rfl) (by kernel_rfl) rfl (OpOk.step (v := .slice axx_1 xx.2.2.2.2.2.length cxx_1) (Yields.load 0 rfl rfl Tryd.underlying28 rfl (by kernel_rfl)) rfl rfl (Ok.batch 5 [(2, .bool ((xx.2.2.2.2.2.length : Int) == 0))] (by kernel_rfl) (Ok.nil (Ok.thenN (Ok.reval 2 rfl (show (.bool ((xx.2.2.2.2.2.length : Int) == 0) : Value) = .bool (if (xx.1 == 2) = true then (if (xx.1 == 2) = true then (if ((xx.1 == 3) || (xx.1 == 4)) = true then ((dparM xx.1) || ((xx.2.2.2.2.2.length : Int) == 0)) else ((xx.2.2.2.1 == ([] : Bs)) && ((dparM xx.1) || ((xx.2.2.2.2.2.length : Int) == 0)))) else (((xx.2.2.1.length : Int) == 0) && (if ((xx.1 == 3) || (xx.1 == 4)) = true then ((dparM xx.1) || ((xx.2.2.2.2.2.length : Int) == 0)) else ((xx.2.2.2.1 == ([] : Bs)) && ((dparM xx.1) || ((xx.2.2.2.2.2.length : Int) == 0)))))) else (if (xx.1 == 5) = true then (if (xx.1 == 2) = true then (if ((xx.1 == 3) || (xx.1 == 4)) = true then ((dparM xx.1) || ((xx.2.2.2.2.2.length : Int) == 0)) else ((xx.2.2.2.1 == ([] : Bs)) && ((dparM xx.1) || ((xx.2.2.2.2.2.length : Int) == 0)))) else (((xx.2.2.1.length : Int) == 0) && (if ((xx.1 == 3) || (xx.1 == 4)) = true then ((dparM xx.1) || ((xx.2.2.2.2.2.length : Int) == 0)) else ((xx.2.2.2.1 == ([] : Bs)) && ((dparM xx.1) || ((xx.2.2.2.2.2.length : Int) == 0)))))) else ((xx.2.1 == ([] : Bs)) && (if (xx.1 == 2) = true then (if ((xx.1 == 3) || (xx.1 == 4)) = true then ((dparM xx.1) || ((xx.2.2.2.2.2.length : Int) == 0)) else ((xx.2.2.2.1 == ([] : Bs)) && ((dparM xx.1) || ((xx.2.2.2.2.2.length : Int) == 0)))) else (((xx.2.2.1.length : Int) == 0) && (if ((xx.1 == 3) || (xx.1 == 4)) = true then ((dparM xx.1) || ((xx.2.2.2.2.2.length : Int) == 0)) else ((xx.2.2.2.1 == ([] : Bs)) && ((dparM xx.1) || ((xx.2.2.2.2.2.length : Int) == 0))))))))) from congrArg (Value.bool) ((Eq.trans ((Eq.trans ((Eq.trans ((Eq.trans ((Eq.trans ((Eq.trans (mor_f hc29) (mand_t hc28))) ((if_f hc26).symm))) ((if_t hc25).symm))) (mand_t hc24))) ((if_f hc13).symm))) ((if_f hc2).symm)))) ?_)))))
          exact fun a W hA hW => ⟨hA.sub (by kernel_rfl), hW.sub (.cons _ .slnil), hF⟩
        ·replace hF := hF.2 hc28
         refine Ok.batch 11 [(2, .bool false)] (by kernel_rfl) (Ok.nil (Ok.thenN (Ok.reval 2 rfl (show (.bool false : Value) = .bool (if (xx.1 == 2) = true then (if (xx.1 == 2) = true then (if ((xx.1 == 3) || (xx.1 == 4)) = true then ((dparM xx.1) || ((xx.2.2.2.2.2.length : Int) == 0)) else ((xx.2.2.2.1 == ([] : Bs)) && ((dparM xx.1) || ((xx.2.2.2.2.2.length : Int) == 0)))) else (((xx.2.2.1.length : Int) == 0) && (if ((xx.1 == 3) || (xx.1 == 4)) = true then ((dparM xx.1) || ((xx.2.2.2.2.2.length : Int) == 0)) else ((xx.2.2.2.1 == ([] : Bs)) && ((dparM xx.1) || ((xx.2.2.2.2.2.length : Int) == 0)))))) else (if (xx.1 == 5) = true then (if (xx.1 == 2) = true then (if ((xx.1 == 3) || (xx.1 == 4)) = true then ((dparM xx.1) || ((xx.2.2.2.2.2.length : Int) == 0)) else ((xx.2.2.2.1 == ([] : Bs)) && ((dparM xx.1) || ((xx.2.2.2.2.2.length : Int) == 0)))) else (((xx.2.2.1.length : Int) == 0) && (if ((xx.1 == 3) || (xx.1 == 4)) = true then ((dparM xx.1) || ((xx.2.2.2.2.2.length : Int) == 0)) else ((xx.2.2.2.1 == ([] : Bs)) && ((dparM xx.1) || ((xx.2.2.2.2.2.length : Int) == 0)))))) else ((xx.2.1 == ([] : Bs)) && (if (xx.1 == 2) = true then (if ((xx.1 == 3) || (xx.1 == 4)) = true then ((dparM xx.1) || ((xx.2.2.2.2.2.length : Int) == 0)) else ((xx.2.2.2.1 == ([] : Bs)) && ((dparM xx.1) || ((xx.2.2.2.2.2.length : Int) == 0)))) else (((xx.2.2.1.length : Int) == 0) && (if ((xx.1 == 3) || (xx.1 == 4)) = true then ((dparM xx.1) || ((xx.2.2.2.2.2.length : Int) == 0)) else ((xx.2.2.2.1 == ([] : Bs)) && ((dparM xx.1) || ((xx.2.2.2.2.2.length : Int) == 0))))))))) from congrArg (Value.bool) ((Eq.trans ((Eq.trans ((Eq.trans ((Eq.trans ((Eq.trans (mand_f hc28) ((if_f hc26).symm))) ((if_t hc25).symm))) (mand_t hc24))) ((if_f hc13).symm))) ((if_f hc2).symm)))) ?_)))
         exact fun a W hA hW => ⟨hA.sub (by kernel_rfl), hW.sub (.cons _ .slnil), hF⟩
      ·replace hF := hF.2 hc25
       refine Ok.bat 1 [1, 4, 27] [(29, .bool false), (30, pv b1 2)] ?_
       refine Ok.opYes (j := 13) (d := 29) (want := false) (b := false) rfl (by kernel_rfl) (by kernel_rfl) rfl (OpOk.step (v := .slice axx_0 xx.2.2.1.length cxx_0) (Yields.load 0 rfl rfl Tryd.underlying44 rfl (by kernel_rfl)) rfl rfl (Ok.bat 5 [1, 4] [(36, .bool ((xx.2.2.1.length : Int) == 0))] ?_))
       refine Ok.boolAt 36 (((xx.2.2.1.length : Int) == 0)) rfl (fun hc30 => ?_) (fun hc30 => ?_)
       ·replace hF := hF.1 hc30
        refine Ok.bat 2 [1] [(36, .bool true), (38, .bool ((xx.1 == 3) || (xx.1 == 4)))] ?_
        refine Ok.boolAt 38 (((xx.1 == 3) || (xx.1 == 4))) rfl (fun hc31 => ?_) (fun hc31 => ?_)
        ·replace hF := hF.1 hc31
         refine Ok.bat 7 [1] [(44, .bool true), (45, pv b1 0)] ?_
         refine Ok.opYes (j := 28) (d := 44) (want := true) (b := true) rfl (by kernel_rfl) (by kernel_rfl) rfl (OpOk.step (v := .int .i64 xx.1) (Yields.load 0 rfl rfl Tryd.underlying3 rfl (by kernel_rfl)) rfl rfl (Ok.opYes (j := 28) (d := 44) (want := true) (b := true) rfl (by kernel_rfl) (by kernel_rfl) rfl (OpOk.callG (v := .bool (dparM xx.1)) enr (fun W hW => dpar_c xx.1) rfl ?_)))
         refine Ok.bat 1 [1, 44] [(48, .bool (dparM xx.1))] ?_
         refine Ok.boolAt 48 ((dparM xx.1)) rfl (fun hc32 => ?_) (fun hc32 => ?_)
         ·replace hF := hF.1 hc32
          refine Ok.batch 7 [(2, .bool true)] (by kernel_rfl) (Ok.nil (Ok.thenN (Ok.reval 2 rfl (show (.bool true : Value) = .bool (if (xx.1 == 2) = true then (if (xx.1 == 2) = true then (if ((xx.1 == 3) || (xx.1 == 4)) = true then ((dparM xx.1) || ((xx.2.2.2.2.2.length : Int) == 0)) else ((xx.2.2.2.1 == ([] : Bs)) && ((dparM xx.1) || ((xx.2.2.2.2.2.length : Int) == 0)))) else (((xx.2.2.1.length : Int) == 0) && (if ((xx.1 == 3) || (xx.1 == 4)) = true then ((dparM xx.1) || ((xx.2.2.2.2.2.length : Int) == 0)) else ((xx.2.2.2.1 == ([] : Bs)) && ((dparM xx.1) || ((xx.2.2.2.2.2.length : Int) == 0)))))) else (if (xx.1 == 5) = true then (if (xx.1 == 2) = true then (if ((xx.1 == 3) || (xx.1 == 4)) = true then ((dparM xx.1) || ((xx.2.2.2.2.2.length : Int) == 0)) else ((xx.2.2.2.1 == ([] : Bs)) && ((dparM xx.1) || ((xx.2.2.2.2.2.length : Int) == 0)))) else (((xx.2.2.1.length : Int) == 0) && (if ((xx.1 == 3) || (xx.1 == 4)) = true then ((dparM xx.1) || ((xx.2.2.2.2.2.length : Int) == 0)) else ((xx.2.2.2.1 == ([] : Bs)) && ((dparM xx.1) || ((xx.2.2.2.2.2.length : Int) == 0)))))) else ((xx.2.1 == ([] : Bs)) && (if (xx.1 == 2) = true then (if ((xx.1 == 3) || (xx.1 == 4)) = true then ((dparM xx.1) || ((xx.2.2.2.2.2.length : Int) == 0)) else ((xx.2.2.2.1 == ([] : Bs)) && ((dparM xx.1) || ((xx.2.2.2.2.2.length : Int) == 0)))) else (((xx.2.2.1.length : Int) == 0) && (if ((xx.1 == 3) || (xx.1 == 4)) = true then ((dparM xx.1) || ((xx.2.2.2.2.2.length : Int) == 0)) else ((xx.2.2.2.1 == ([] : Bs)) && ((dparM xx.1) || ((xx.2.2.2.2.2.length : Int) == 0))))))))) from congrArg (Value.bool) ((Eq.trans ((Eq.trans ((Eq.trans ((Eq.trans ((Eq.trans ((Eq.trans (mor_t hc32) ((if_t hc31).symm))) (mand_t hc30))) ((if_f hc25).symm))) (mand_t hc24))) ((if_f hc13).symm))) ((if_f hc2).symm)))) ?_)))
          exact fun a W hA hW => ⟨hA.sub (by kernel_rfl), hW.sub (.cons _ .slnil), hF⟩
         ·replace hF := hF.2 hc32
          refine Ok.bat 1 [44] [(48, .bool false), (49, pv b1 5)] ?_
          refine Ok.opYes (j := 32) (d := 48) (want := false) (b := false) rfl (by kernel_rfl) (by kernel_rfl) rfl (OpOk.step (v := .slice axx_1 xx.2.2.2.2.2.length cxx_1) (Yields.load 0 rfl rfl Tryd.underlying28 rfl (by kernel_rfl)) rfl rfl (Ok.batch 5 [(2, .bool ((xx.2.2.2.2.2.length : Int) == 0))] (by kernel_rfl) (Ok.nil (Ok.thenN (Ok.reval 2 rfl (show (.bool ((xx.2.2.2.2.2.length : Int) == 0) : Value) = .bool (if (xx.1 == 2) = true then (if (xx.1 == 2) = true then (if ((xx.1 == 3) || (xx.1 == 4)) = true then ((dparM xx.1) || ((xx.2.2.2.2.2.length : Int) == 0)) else ((xx.2.2.2.1 == ([] : Bs)) && ((dparM xx.1) || ((xx.2.2.2.2.2.length : Int) == 0)))) else (((xx.2.2.1.length : Int) == 0) && (if ((xx.1 == 3) || (xx.1 == 4)) = true then ((dparM xx.1) || ((xx.2.2.2.2.2.length : Int) == 0)) else ((xx.2.2.2.1 == ([] : Bs)) && ((dparM xx.1) || ((xx.2.2.2.2.2.length : Int) == 0)))))) else (if (xx.1 == 5) = true then (if (xx.1 == 2) = true then (if ((xx.1 == 3) || (xx.1 == 4)) = true then ((dparM xx.1) || ((xx.2.2.2.2.2.length : Int) == 0)) else ((xx.2.2.2.1 == ([] : Bs)) && ((dparM xx.1) || ((xx.2.2.2.2.2.length : Int) == 0)))) else (((xx.2.2.1.length : Int) == 0) && (if ((xx.1 == 3) || (xx.1 == 4)) = true then ((dparM xx.1) || ((xx.2.2.2.2.2.length : Int) == 0)) else ((xx.2.2.2.1 == ([] : Bs)) && ((dparM xx.1) || ((xx.2.2.2.2.2.length : Int) == 0)))))) else ((xx.2.1 == ([] : Bs)) && (if (xx.1 == 2) = true then (if ((xx.1 == 3) || (xx.1 == 4)) = true then ((dparM xx.1) || ((xx.2.2.2.2.2.length : Int) == 0)) else ((xx.2.2.2.1 == ([] : Bs)) && ((dparM xx.1) || ((xx.2.2.2.2.2.length : Int) == 0)))) else (((xx.2.2.1.length : Int) == 0) && (if ((xx.1 == 3) || (xx.1 == 4)) = true then ((dparM xx.1) || ((xx.2.2.2.2.2.length : Int) == 0)) else ((xx.2.2.2.1 == ([] : Bs)) && ((dparM xx.1) || ((xx.2.2.2.2.2.length : Int) == 0))))))))) from congrArg (Value.bool) ((Eq.trans ((Eq.trans ((Eq.trans ((Eq.trans ((Eq.trans ((Eq.trans (mor_f hc32) ((if_t hc31).symm))) (mand_t hc30))) ((if_f hc25).symm))) (mand_t hc24))) ((if_f hc13).symm))) ((if_f hc2).symm)))) ?_)))))
          exact fun a W hA hW => ⟨hA.sub (by kernel_rfl), hW.sub (.cons _ .slnil), hF⟩
        ·replace hF := hF.2 hc31
         refine Ok.bat 1 [1, 36] [(38, .bool false), (39, pv b1 3)] ?_
         refine Ok.opYes (j := 22) (d := 38) (want := false) (b := false) rfl (by kernel_rfl) (by kernel_rfl) rfl (OpOk.step (v := sv xx.2.2.2.1) (Yields.load 0 rfl rfl Tryd.underlying9 rfl (by kernel_rfl)) rfl rfl (Ok.opYes (j := 22) (d := 38) (want := false) (b := false) rfl (by kernel_rfl) (by kernel_rfl) rfl (OpOk.step (v := .bool (xx.2.2.2.1 == ([] : Bs))) (Yields.strCmp (f := .eql) (a := xx.2.2.2.1) (b := ([] : Bs)) (by kernel_rfl) (by kernel_rfl) rfl) rfl rfl (Ok.bat 3 [1] [(44, .bool (xx.2.2.2.1 == ([] : Bs)))] ?_))))
         refine Ok.boolAt 44 ((xx.2.2.2.1 == ([] : Bs))) rfl (fun hc33 => ?_) (fun hc33 => ?_)
         ·replace hF := hF.1 hc33
          refine Ok.bat 1 [1] [(44, .bool true), (45, pv b1 0)] ?_
          refine Ok.opYes (j := 28) (d := 44) (want := true) (b := true) rfl (by kernel_rfl) (by kernel_rfl) rfl (OpOk.step (v := .int .i64 xx.1) (Yields.load 0 rfl rfl Tryd.underlying3 rfl (by kernel_rfl)) rfl rfl (Ok.opYes (j := 28) (d := 44) (want := true) (b := true) rfl (by kernel_rfl) (by kernel_rfl) rfl (OpOk.callG (v := .bool (dparM xx.1)) enr (fun W hW => dpar_c xx.1) rfl ?_)))
          refine Ok.bat 1 [1, 44] [(48, .bool (dparM xx.1))] ?_
          refine Ok.boolAt 48 ((dparM xx.1)) rfl (fun hc34 => ?_) (fun hc34 => ?_)
          ·replace hF := hF.1 hc34
           refine Ok.batch 7 [(2, .bool true)] (by kernel_rfl) (Ok.nil (Ok.thenN (Ok.reval 2 rfl (show (.bool true : Value) = .bool (if (xx.1 == 2) = true then (if (xx.1 == 2) = true then (if ((xx.1 == 3) || (xx.1 == 4)) = true then ((dparM xx.1) || ((xx.2.2.2.2.2.length : Int) == 0)) else ((xx.2.2.2.1 == ([] : Bs)) && ((dparM xx.1) || ((xx.2.2.2.2.2.length : Int) == 0)))) else (((xx.2.2.1.length : Int) == 0) && (if ((xx.1 == 3) || (xx.1 == 4)) = true then ((dparM xx.1) || ((xx.2.2.2.2.2.length : Int) == 0)) else ((xx.2.2.2.1 == ([] : Bs)) && ((dparM xx.1) || ((xx.2.2.2.2.2.length : Int) == 0)))))) else (if (xx.1 == 5) = true then (if (xx.1 == 2) = true then (if ((xx.1 == 3) || (xx.1 == 4)) = true then ((dparM xx.1) || ((xx.2.2.2.2.2.length : Int) == 0)) else ((xx.2.2.2.1 == ([] : Bs)) && ((dparM xx.1) || ((xx.2.2.2.2.2.length : Int) == 0)))) else (((xx.2.2.1.length : Int) == 0) && (if ((xx.1 == 3) || (xx.1 == 4)) = true then ((dparM xx.1) || ((xx.2.2.2.2.2.length : Int) == 0)) else ((xx.2.2.2.1 == ([] : Bs)) && ((dparM xx.1) || ((xx.2.2.2.2.2.length : Int) == 0)))))) else ((xx.2.1 == ([] : Bs)) && (if (xx.1 == 2) = true then (if ((xx.1 == 3) || (xx.1 == 4)) = true then ((dparM xx.1) || ((xx.2.2.2.2.2.length : Int) == 0)) else ((xx.2.2.2.1 == ([] : Bs)) && ((dparM xx.1) || ((xx.2.2.2.2.2.length : Int) == 0)))) else (((xx.2.2.1.length : Int) == 0) && (if ((xx.1 == 3) || (xx.1 == 4)) = true then ((dparM xx.1) || ((xx.2.2.2.2.2.length : Int) == 0)) else ((xx.2.2.2.1 == ([] : Bs)) && ((dparM xx.1) || ((xx.2.2.2.2.2.length : Int) == 0))))))))) from congrArg (Value.bool) ((Eq.trans ((Eq.trans ((Eq.trans ((Eq.trans ((Eq.trans ((Eq.trans ((Eq.trans (mor_t hc34) (mand_t hc33))) ((if_f hc31).symm))) (mand_t hc30))) ((if_f hc25).symm))) (mand_t hc24))) ((if_f hc13).symm))) ((if_f hc2).symm)))) ?_)))
           exact fun a W hA hW => ⟨hA.sub (by kernel_rfl), hW.sub (.cons _ .slnil), hF⟩
          ·replace hF := hF.2 hc34
           refine Ok.bat 1 [44] [(48, .bool false), (49, pv b1 5)] ?_
           refine Ok.opYes (j := 32) (d := 48) (want := false) (b := false) rfl (by kernel_rfl) (by kernel_rfl) rfl (OpOk.step (v := .slice axx_1 xx.2.2.2.2.2.length cxx_1) (Yields.load 0 rfl rfl Tryd.underlying28 rfl (by kernel_rfl)) rfl rfl (Ok.batch 5 [(2, .bool ((xx.2.2.2.2.2.length : Int) == 0))] (by kernel_rfl) (Ok.nil (Ok.thenN (Ok.reval 2 rfl (show (.bool ((xx.2.2.2.2.2.length : Int) == 0) : Value) = .bool (if (xx.1 == 2) = true then (if (xx.1 == 2) = true then (if ((xx.1 == 3) || (xx.1 == 4)) = true then ((dparM xx.1) || ((xx.2.2.2.2.2.length : Int) == 0)) else ((xx.2.2.2.1 == ([] : Bs)) && ((dparM xx.1) || ((xx.2.2.2.2.2.length : Int) == 0)))) else (((xx.2.2.1.length : Int) == 0) && (if ((xx.1 == 3) || (xx.1 == 4)) = true then ((dparM xx.1) || ((xx.2.2.2.2.2.length : Int) == 0)) else ((xx.2.2.2.1 == ([] : Bs)) && ((dparM xx.1) || ((xx.2.2.2.2.2.length : Int) == 0)))))) else (if (xx.1 == 5) = true then (if (xx.1 == 2) = true then (if ((xx.1 == 3) || (xx.1 == 4)) = true then ((dparM xx.1) || ((xx.2.2.2.2.2.length : Int) == 0)) else ((xx.2.2.2.1 == ([] : Bs)) && ((dparM xx.1) || ((xx.2.2.2.2.2.length : Int) == 0)))) else (((xx.2.2.1.length : Int) == 0) && (if ((xx.1 == 3) || (xx.1 == 4)) = true then ((dparM xx.1) || ((xx.2.2.2.2.2.length : Int) == 0)) else ((xx.2.2.2.1 == ([] : Bs)) && ((dparM xx.1) || ((xx.2.2.2.2.2.length : Int) == 0)))))) else ((xx.2.1 == ([] : Bs)) && (if (xx.1 == 2) = true then (if ((xx.1 == 3) || (xx.1 == 4)) = true then ((dparM xx.1) || ((xx.2.2.2.2.2.length : Int) == 0)) else ((xx.2.2.2.1 == ([] : Bs)) && ((dparM xx.1) || ((xx.2.2.2.2.2.length : Int) == 0)))) else (((xx.2.2.1.length : Int) == 0) && (if ((xx.1 == 3) || (xx.1 == 4)) = true then ((dparM xx.1) || ((xx.2.2.2.2.2.length : Int) == 0)) else ((xx.2.2.2.1 == ([] : Bs)) && ((dparM xx.1) || ((xx.2.2.2.2.2.length : Int) == 0))))))))) from congrArg (Value.bool) ((Eq.trans ((Eq.trans ((Eq.trans ((Eq.trans ((Eq.trans ((Eq.trans ((Eq.trans (mor_f hc34) (mand_t hc33))) ((if_f hc31).symm))) (mand_t hc30))) ((if_f hc25).symm))) (mand_t hc24))) ((if_f hc13).symm))) ((if_f hc2).symm)))) ?_)))))
           exact fun a W hA hW => ⟨hA.sub (by kernel_rfl), hW.sub (.cons _ .slnil), hF⟩
         ·replace hF := hF.2 hc33
          refine Ok.batch 11 [(2, .bool false)] (by kernel_rfl) (Ok.nil (Ok.thenN (Ok.reval 2 rfl (show (.bool false : Value) = .bool (if (xx.1 == 2) = true then (if (xx.1 == 2) = true then (if ((xx.1 == 3) || (xx.1 == 4)) = true then ((dparM xx.1) || ((xx.2.2.2.2.2.length : Int) == 0)) else ((xx.2.2.2.1 == ([] : Bs)) && ((dparM xx.1) || ((xx.2.2.2.2.2.length : Int) == 0)))) else (((xx.2.2.1.length : Int) == 0) && (if ((xx.1 == 3) || (xx.1 == 4)) = true then ((dparM xx.1) || ((xx.2.2.2.2.2.length : Int) == 0)) else ((xx.2.2.2.1 == ([] : Bs)) && ((dparM xx.1) || ((xx.2.2.2.2.2.length : Int) == 0)))))) else (if (xx.1 == 5) = true then (if (xx.1 == 2) = true then (if ((xx.1 == 3) || (xx.1 == 4)) = true then ((dparM xx.1) || ((xx.2.2.2.2.2.length : Int) == 0)) else ((xx.2.2.2.1 == ([] : Bs)) && ((dparM xx.1) || ((xx.2.2.2.2.2.length : Int) == 0)))) else (((xx.2.2.1.length : Int) == 0) && (if ((xx.1 == 3) || (xx.1 == 4)) = true then ((dparM xx.1) || ((xx.2.2.2.2.2.length : Int) == 0)) else ((xx.2.2.2.1 == ([] : Bs)) && ((dparM xx.1) || ((xx.2.2.2.2.2.length : Int) == 0)))))) else ((xx.2.1 == ([] : Bs)) && (if (xx.1 == 2) = true then (if ((xx.1 == 3) || (xx.1 == 4)) = true then ((dparM xx.1) || ((xx.2.2.2.2.2.length : Int) == 0)) else ((xx.2.2.2.1 == ([] : Bs)) && ((dparM xx.1) || ((xx.2.2.2.2.2.length : Int) == 0)))) else (((xx.2.2.1.length : Int) == 0) && (if ((xx.1 == 3) || (xx.1 == 4)) = true then ((dparM xx.1) || ((xx.2.2.2.2.2.length : Int) == 0)) else ((xx.2.2.2.1 == ([] : Bs)) && ((dparM xx.1) || ((xx.2.2.2.2.2.length : Int) == 0))))))))) from congrArg (Value.bool) ((Eq.trans ((Eq.trans ((Eq.trans ((Eq.trans ((Eq.trans ((Eq.trans (mand_f hc33) ((if_f hc31).symm))) (mand_t hc30))) ((if_f hc25).symm))) (mand_t hc24))) ((if_f hc13).symm))) ((if_f hc2).symm)))) ?_)))
          exact fun a W hA hW => ⟨hA.sub (by kernel_rfl), hW.sub (.cons _ .slnil), hF⟩
       ·replace hF := hF.2 hc30
        refine Ok.batch 19 [(2, .bool false)] (by kernel_rfl) (Ok.nil (Ok.thenN (Ok.reval 2 rfl (show (.bool false : Value) = .bool (if (xx.1 == 2) = true then (if (xx.1 == 2) = true then (if ((xx.1 == 3) || (xx.1 == 4)) = true then ((dparM xx.1) || ((xx.2.2.2.2.2.length : Int) == 0)) else ((xx.2.2.2.1 == ([] : Bs)) && ((dparM xx.1) || ((xx.2.2.2.2.2.length : Int) == 0)))) else (((xx.2.2.1.length : Int) == 0) && (if ((xx.1 == 3) || (xx.1 == 4)) = true then ((dparM xx.1) || ((xx.2.2.2.2.2.length : Int) == 0)) else ((xx.2.2.2.1 == ([] : Bs)) && ((dparM xx.1) || ((xx.2.2.2.2.2.length : Int) == 0)))))) else (if (xx.1 == 5) = true then (if (xx.1 == 2) = true then (if ((xx.1 == 3) || (xx.1 == 4)) = true then ((dparM xx.1) || ((xx.2.2.2.2.2.length : Int) == 0)) else ((xx.2.2.2.1 == ([] : Bs)) && ((dparM xx.1) || ((xx.2.2.2.2.2.length : Int) == 0)))) else (((xx.2.2.1.length : Int) == 0) && (if ((xx.1 == 3) || (xx.1 == 4)) = true then ((dparM xx.1) || ((xx.2.2.2.2.2.length : Int) == 0)) else ((xx.2.2.2.1 == ([] : Bs)) && ((dparM xx.1) || ((xx.2.2.2.2.2.length : Int) == 0)))))) else ((xx.2.1 == ([] : Bs)) && (if (xx.1 == 2) = true then (if ((xx.1 == 3) || (xx.1 == 4)) = true then ((dparM xx.1) || ((xx.2.2.2.2.2.length : Int) == 0)) else ((xx.2.2.2.1 == ([] : Bs)) && ((dparM xx.1) || ((xx.2.2.2.2.2.length : Int) == 0)))) else (((xx.2.2.1.length : Int) == 0) && (if ((xx.1 == 3) || (xx.1 == 4)) = true then ((dparM xx.1) || ((xx.2.2.2.2.2.length : Int) == 0)) else ((xx.2.2.2.1 == ([] : Bs)) && ((dparM xx.1) || ((xx.2.2.2.2.2.length : Int) == 0))))))))) from congrArg (Value.bool) ((Eq.trans ((Eq.trans ((Eq.trans ((Eq.trans (mand_f hc30) ((if_f hc25).symm))) (mand_t hc24))) ((if_f hc13).symm))) ((if_f hc2).symm)))) ?_)))
        exact fun a W hA hW => ⟨hA.sub (by kernel_rfl), hW.sub (.cons _ .slnil), hF⟩
     ·replace hF := hF.2 hc24
      refine Ok.batch 28 [(2, .bool false)] (by kernel_rfl) (Ok.nil (Ok.thenN (Ok.reval 2 rfl (show (.bool false : Value) = .bool (if (xx.1 == 2) = true then (if (xx.1 == 2) = true then (if ((xx.1 == 3) || (xx.1 == 4)) = true then ((dparM xx.1) || ((xx.2.2.2.2.2.length : Int) == 0)) else ((xx.2.2.2.1 == ([] : Bs)) && ((dparM xx.1) || ((xx.2.2.2.2.2.length : Int) == 0)))) else (((xx.2.2.1.length : Int) == 0) && (if ((xx.1 == 3) || (xx.1 == 4)) = true then ((dparM xx.1) || ((xx.2.2.2.2.2.length : Int) == 0)) else ((xx.2.2.2.1 == ([] : Bs)) && ((dparM xx.1) || ((xx.2.2.2.2.2.length : Int) == 0)))))) else (if (xx.1 == 5) = true then (if (xx.1 == 2) = true then (if ((xx.1 == 3) || (xx.1 == 4)) = true then ((dparM xx.1) || ((xx.2.2.2.2.2.length : Int) == 0)) else ((xx.2.2.2.1 == ([] : Bs)) && ((dparM xx.1) || ((xx.2.2.2.2.2.length : Int) == 0)))) else (((xx.2.2.1.length : Int) == 0) && (if ((xx.1 == 3) || (xx.1 == 4)) = true then ((dparM xx.1) || ((xx.2.2.2.2.2.length : Int) == 0)) else ((xx.2.2.2.1 == ([] : Bs)) && ((dparM xx.1) || ((xx.2.2.2.2.2.length : Int) == 0)))))) else ((xx.2.1 == ([] : Bs)) && (if (xx.1 == 2) = true then (if ((xx.1 == 3) || (xx.1 == 4)) = true then ((dparM xx.1) || ((xx.2.2.2.2.2.length : Int) == 0)) else ((xx.2.2.2.1 == ([] : Bs)) && ((dparM xx.1) || ((xx.2.2.2.2.2.length : Int) == 0)))) else (((xx.2.2.1.length : Int) == 0) && (if ((xx.1 == 3) || (xx.1 == 4)) = true then ((dparM xx.1) || ((xx.2.2.2.2.2.length : Int) == 0)) else ((xx.2.2.2.1 == ([] : Bs)) && ((dparM xx.1) || ((xx.2.2.2.2.2.length : Int) == 0))))))))) from congrArg (Value.bool) ((Eq.trans ((Eq.trans (mand_f hc24) ((if_f hc13).symm))) ((if_f hc2).symm)))) ?_)))
      exact fun a W hA hW => ⟨hA.sub (by kernel_rfl), hW.sub (.cons _ .slnil), hF⟩
  ·
   clear hF
   rintro a W ⟨hA, hW, hF⟩
   refine (?_ : Ok _ _ _ _ _ _) a W hA hW
   clear hA hW
   refine Ok.ret ?_
   exact Ok.resH (vs := [.bool (if (xx.1 == 2) = true then (if (xx.1 == 2) = true then (if ((xx.1 == 3) || (xx.1 == 4)) = true then ((dparM xx.1) || ((xx.2.2.2.2.2.length : Int) == 0)) else ((xx.2.2.2.1 == ([] : Bs)) && ((dparM xx.1) || ((xx.2.2.2.2.2.length : Int) == 0)))) else (((xx.2.2.1.length : Int) == 0) && (if ((xx.1 == 3) || (xx.1 == 4)) = true then ((dparM xx.1) || ((xx.2.2.2.2.2.length : Int) == 0)) else ((xx.2.2.2.1 == ([] : Bs)) && ((dparM xx.1) || ((xx.2.2.2.2.2.length : Int) == 0)))))) else (if (xx.1 == 5) = true then (if (xx.1 == 2) = true then (if ((xx.1 == 3) || (xx.1 == 4)) = true then ((dparM xx.1) || ((xx.2.2.2.2.2.length : Int) == 0)) else ((xx.2.2.2.1 == ([] : Bs)) && ((dparM xx.1) || ((xx.2.2.2.2.2.length : Int) == 0)))) else (((xx.2.2.1.length : Int) == 0) && (if ((xx.1 == 3) || (xx.1 == 4)) = true then ((dparM xx.1) || ((xx.2.2.2.2.2.length : Int) == 0)) else ((xx.2.2.2.1 == ([] : Bs)) && ((dparM xx.1) || ((xx.2.2.2.2.2.length : Int) == 0)))))) else ((xx.2.1 == ([] : Bs)) && (if (xx.1 == 2) = true then (if ((xx.1 == 3) || (xx.1 == 4)) = true then ((dparM xx.1) || ((xx.2.2.2.2.2.length : Int) == 0)) else ((xx.2.2.2.1 == ([] : Bs)) && ((dparM xx.1) || ((xx.2.2.2.2.2.length : Int) == 0)))) else (((xx.2.2.1.length : Int) == 0) && (if ((xx.1 == 3) || (xx.1 == 4)) = true then ((dparM xx.1) || ((xx.2.2.2.2.2.length : Int) == 0)) else ((xx.2.2.2.1 == ([] : Bs)) && ((dparM xx.1) || ((xx.2.2.2.2.2.length : Int) == 0)))))))))]) (.inl rfl) rfl (.cons (.tmp rfl) .nil) (Gext.refl w0 g) ⟨(if (xx.1 == 2) = true then (if (xx.1 == 2) = true then (if ((xx.1 == 3) || (xx.1 == 4)) = true then ((dparM xx.1) || ((xx.2.2.2.2.2.length : Int) == 0)) else ((xx.2.2.2.1 == ([] : Bs)) && ((dparM xx.1) || ((xx.2.2.2.2.2.length : Int) == 0)))) else (((xx.2.2.1.length : Int) == 0) && (if ((xx.1 == 3) || (xx.1 == 4)) = true then ((dparM xx.1) || ((xx.2.2.2.2.2.length : Int) == 0)) else ((xx.2.2.2.1 == ([] : Bs)) && ((dparM xx.1) || ((xx.2.2.2.2.2.length : Int) == 0)))))) else (if (xx.1 == 5) = true then (if (xx.1 == 2) = true then (if ((xx.1 == 3) || (xx.1 == 4)) = true then ((dparM xx.1) || ((xx.2.2.2.2.2.length : Int) == 0)) else ((xx.2.2.2.1 == ([] : Bs)) && ((dparM xx.1) || ((xx.2.2.2.2.2.length : Int) == 0)))) else (((xx.2.2.1.length : Int) == 0) && (if ((xx.1 == 3) || (xx.1 == 4)) = true then ((dparM xx.1) || ((xx.2.2.2.2.2.length : Int) == 0)) else ((xx.2.2.2.1 == ([] : Bs)) && ((dparM xx.1) || ((xx.2.2.2.2.2.length : Int) == 0)))))) else ((xx.2.1 == ([] : Bs)) && (if (xx.1 == 2) = true then (if ((xx.1 == 3) || (xx.1 == 4)) = true then ((dparM xx.1) || ((xx.2.2.2.2.2.length : Int) == 0)) else ((xx.2.2.2.1 == ([] : Bs)) && ((dparM xx.1) || ((xx.2.2.2.2.2.length : Int) == 0)))) else (((xx.2.2.1.length : Int) == 0) && (if ((xx.1 == 3) || (xx.1 == 4)) = true then ((dparM xx.1) || ((xx.2.2.2.2.2.length : Int) == 0)) else ((xx.2.2.2.1 == ([] : Bs)) && ((dparM xx.1) || ((xx.2.2.2.2.2.length : Int) == 0))))))))), rfl, rfl, hF⟩
def dbarj5M (xx : Int × Bs × (List (Bs × Bs)) × Bs × Int × List (Int)) : Bool := (if (xx.1 == 2) = true then (if (xx.1 == 2) = true then (if ((xx.1 == 3) || (xx.1 == 4)) = true then ((dparM xx.1) || ((xx.2.2.2.2.2.length : Int) == 0)) else ((xx.2.2.2.1 == ([] : Bs)) && ((dparM xx.1) || ((xx.2.2.2.2.2.length : Int) == 0)))) else (((xx.2.2.1.length : Int) == 0) && (if ((xx.1 == 3) || (xx.1 == 4)) = true then ((dparM xx.1) || ((xx.2.2.2.2.2.length : Int) == 0)) else ((xx.2.2.2.1 == ([] : Bs)) && ((dparM xx.1) || ((xx.2.2.2.2.2.length : Int) == 0)))))) else (if (xx.1 == 5) = true then (if (xx.1 == 2) = true then (if ((xx.1 == 3) || (xx.1 == 4)) = true then ((dparM xx.1) || ((xx.2.2.2.2.2.length : Int) == 0)) else ((xx.2.2.2.1 == ([] : Bs)) && ((dparM xx.1) || ((xx.2.2.2.2.2.length : Int) == 0)))) else (((xx.2.2.1.length : Int) == 0) && (if ((xx.1 == 3) || (xx.1 == 4)) = true then ((dparM xx.1) || ((xx.2.2.2.2.2.length : Int) == 0)) else ((xx.2.2.2.1 == ([] : Bs)) && ((dparM xx.1) || ((xx.2.2.2.2.2.length : Int) == 0)))))) else ((xx.2.1 == ([] : Bs)) && (if (xx.1 == 2) = true then (if ((xx.1 == 3) || (xx.1 == 4)) = true then ((dparM xx.1) || ((xx.2.2.2.2.2.length : Int) == 0)) else ((xx.2.2.2.1 == ([] : Bs)) && ((dparM xx.1) || ((xx.2.2.2.2.2.length : Int) == 0)))) else (((xx.2.2.1.length : Int) == 0) && (if ((xx.1 == 3) || (xx.1 == 4)) = true then ((dparM xx.1) || ((xx.2.2.2.2.2.length : Int) == 0)) else ((xx.2.2.2.1 == ([] : Bs)) && ((dparM xx.1) || ((xx.2.2.2.2.2.length : Int) == 0)))))))))
theorem dbarj5_A (xx : Int × Bs × (List (Bs × Bs)) × Bs × Int × List (Int)) (P : Bool → Prop) (h : P (dbarj5M xx)) : dbarj5 xx (fun k0 => P k0) := by
 unfold dbarj5M at h
 unfold dbarj5
 exact h
def dbarj3M (xx : Int × Bs × (List (Bs × Bs)) × Bs × Int × List (Int)) : Bool := (dbarj5M xx)
theorem dbarj3_A (xx : Int × Bs × (List (Bs × Bs)) × Bs × Int × List (Int)) (P : Bool → Prop) (h : P (dbarj3M xx)) : dbarj3 xx (fun k0 => P k0) := by
 unfold dbarj3M at h
 unfold dbarj3
 refine ⟨fun hc0 => ?_, fun hc0 => ?_⟩
 ·skip
  have hd0 := hc0; try simp only [Bool.and_eq_true, Bool.or_eq_true, Bool.and_eq_false_iff, Bool.or_eq_false_iff, Bool.not_eq_true', Bool.not_eq_false', decide_eq_true_eq, decide_eq_false_iff_not, beq_iff_eq, beq_eq_false_iff_ne, ne_eq] at hd0
  refine ⟨fun hc1 => ?_, fun hc1 => ?_⟩
  ·skip
   have hd1 := hc1; try simp only [Bool.and_eq_true, Bool.or_eq_true, Bool.and_eq_false_iff, Bool.or_eq_false_iff, Bool.not_eq_true', Bool.not_eq_false', decide_eq_true_eq, decide_eq_false_iff_not, beq_iff_eq, beq_eq_false_iff_ne, ne_eq] at hd1
   refine ⟨fun hc2 => ?_, fun hc2 => ?_⟩
   ·skip
    have hd2 := hc2; try simp only [Bool.and_eq_true, Bool.or_eq_true, Bool.and_eq_false_iff, Bool.or_eq_false_iff, Bool.not_eq_true', Bool.not_eq_false', decide_eq_true_eq, decide_eq_false_iff_not, beq_iff_eq, beq_eq_false_iff_ne, ne_eq] at hd2
    refine ⟨fun hc3 => ?_, fun hc3 => ?_⟩
    ·skip
     exact dbarj5_A xx _ h
    ·skip
     exact dbarj5_A xx _ h
   ·skip
    have hd2 := hc2; try simp only [Bool.and_eq_true, Bool.or_eq_true, Bool.and_eq_false_iff, Bool.or_eq_false_iff, Bool.not_eq_true', Bool.not_eq_false', decide_eq_true_eq, decide_eq_false_iff_not, beq_iff_eq, beq_eq_false_iff_ne, ne_eq] at hd2
    refine ⟨fun hc3 => ?_, fun hc3 => ?_⟩
    ·skip
     have hd3 := hc3; try simp only [Bool.and_eq_true, Bool.or_eq_true, Bool.and_eq_false_iff, Bool.or_eq_false_iff, Bool.not_eq_true', Bool.not_eq_false', decide_eq_true_eq, decide_eq_false_iff_not, beq_iff_eq, beq_eq_false_iff_ne, ne_eq] at hd3
     refine ⟨fun hc4 => ?_, fun hc4 => ?_⟩
     ·skip
      exact dbarj5_A xx _ h
     ·skip
      exact dbarj5_A xx _ h
    ·skip
     have hd3 := hc3; try simp only [Bool.and_eq_true, Bool.or_eq_true, Bool.and_eq_false_iff, Bool.or_eq_false_iff, Bool.not_eq_true', Bool.not_eq_false', decide_eq_true_eq, decide_eq_false_iff_not, beq_iff_eq, beq_eq_false_iff_ne, ne_eq] at hd3
     exact dbarj5_A xx _ h
  ·skip
   have hd1 := hc1; try simp only [Bool.and_eq_true, Bool.or_eq_true, Bool.and_eq_false_iff, Bool.or_eq_false_iff, Bool.not_eq_true', Bool.not_eq_false', decide_eq_true_eq, decide_eq_false_iff_not, beq_iff_eq, beq_eq_false_iff_ne, ne_eq] at hd1
   refine ⟨fun hc2 => ?_, fun hc2 => ?_⟩
   ·skip
    have hd2 := hc2; try simp only [Bool.and_eq_true, Bool.or_eq_true, Bool.and_eq_false_iff, Bool.or_eq_false_iff, Bool.not_eq_true', Bool.not_eq_false', decide_eq_true_eq, decide_eq_false_iff_not, beq_iff_eq, beq_eq_false_iff_ne, ne_eq] at hd2
    refine ⟨fun hc3 => ?_, fun hc3 => ?_⟩
    ·skip
     have hd3 := hc3; try simp only [Bool.and_eq_true, Bool.or_eq_true, Bool.and_eq_false_iff, Bool.or_eq_false_iff, Bool.not_eq_true', Bool.not_eq_false', decide_eq_true_eq, decide_eq_false_iff_not, beq_iff_eq, beq_eq_false_iff_ne, ne_eq] at hd3
     refine ⟨fun hc4 => ?_, fun hc4 => ?_⟩
     ·skip
      exact dbarj5_A xx _ h
     ·skip
      exact dbarj5_A xx _ h
    ·skip
     have hd3 := hc3; try simp only [Bool.and_eq_true, Bool.or_eq_true, Bool.and_eq_false_iff, Bool.or_eq_false_iff, Bool.not_eq_true', Bool.not_eq_false', decide_eq_true_eq, decide_eq_false_iff_not, beq_iff_eq, beq_eq_false_iff_ne, ne_eq] at hd3
     refine ⟨fun hc4 => ?_, fun hc4 => ?_⟩
     ·skip
      have hd4 := hc4; try simp only [Bool.and_eq_true, Bool.or_eq_true, Bool.and_eq_false_iff, Bool.or_eq_false_iff, Bool.not_eq_true', Bool.not_eq_false', decide_eq_true_eq, decide_eq_false_iff_not, beq_iff_eq, beq_eq_false_iff_ne, ne_eq] at hd4
      refine ⟨fun hc5 => ?_, fun hc5 => ?_⟩
      ·skip
       exact dbarj5_A xx _ h
      ·skip
       exact dbarj5_A xx _ h
     ·skip
      have hd4 := hc4; try simp only [Bool.and_eq_true, Bool.or_eq_true, Bool.and_eq_false_iff, Bool.or_eq_false_iff, Bool.not_eq_true', Bool.not_eq_false', decide_eq_true_eq, decide_eq_false_iff_not, beq_iff_eq, beq_eq_false_iff_ne, ne_eq] at hd4
      exact dbarj5_A xx _ h
   ·skip
    have hd2 := hc2; try simp only [Bool.and_eq_true, Bool.or_eq_true, Bool.and_eq_false_iff, Bool.or_eq_false_iff, Bool.not_eq_true', Bool.not_eq_false', decide_eq_true_eq, decide_eq_false_iff_not, beq_iff_eq, beq_eq_false_iff_ne, ne_eq] at hd2
    exact dbarj5_A xx _ h
 ·skip
  have hd0 := hc0; try simp only [Bool.and_eq_true, Bool.or_eq_true, Bool.and_eq_false_iff, Bool.or_eq_false_iff, Bool.not_eq_true', Bool.not_eq_false', decide_eq_true_eq, decide_eq_false_iff_not, beq_iff_eq, beq_eq_false_iff_ne, ne_eq] at hd0
  refine ⟨fun hc1 => ?_, fun hc1 => ?_⟩
  ·skip
   have hd1 := hc1; try simp only [Bool.and_eq_true, Bool.or_eq_true, Bool.and_eq_false_iff, Bool.or_eq_false_iff, Bool.not_eq_true', Bool.not_eq_false', decide_eq_true_eq, decide_eq_false_iff_not, beq_iff_eq, beq_eq_false_iff_ne, ne_eq] at hd1
   refine ⟨fun hc2 => ?_, fun hc2 => ?_⟩
   ·skip
    have hd2 := hc2; try simp only [Bool.and_eq_true, Bool.or_eq_true, Bool.and_eq_false_iff, Bool.or_eq_false_iff, Bool.not_eq_true', Bool.not_eq_false', decide_eq_true_eq, decide_eq_false_iff_not, beq_iff_eq, beq_eq_false_iff_ne, ne_eq] at hd2
    refine ⟨fun hc3 => ?_, fun hc3 => ?_⟩
    ·skip
     have hd3 := hc3; try simp only [Bool.and_eq_true, Bool.or_eq_true, Bool.and_eq_false_iff, Bool.or_eq_false_iff, Bool.not_eq_true', Bool.not_eq_false', decide_eq_true_eq, decide_eq_false_iff_not, beq_iff_eq, beq_eq_false_iff_ne, ne_eq] at hd3
     refine ⟨fun hc4 => ?_, fun hc4 => ?_⟩
     ·skip
      exact dbarj5_A xx _ h
     ·skip
      exact dbarj5_A xx _ h
    ·skip
     have hd3 := hc3; try simp only [Bool.and_eq_true, Bool.or_eq_true, Bool.and_eq_false_iff, Bool.or_eq_false_iff, Bool.not_eq_true', Bool.not_eq_false', decide_eq_true_eq, decide_eq_false_iff_not, beq_iff_eq, beq_eq_false_iff_ne, ne_eq] at hd3
     refine ⟨fun hc4 => ?_, fun hc4 => ?_⟩
     ·skip
      have hd4 := hc4; try simp only [Bool.and_eq_true, Bool.or_eq_true, Bool.and_eq_false_iff, Bool.or_eq_false_iff, Bool.not_eq_true', Bool.not_eq_false', decide_eq_true_eq, decide_eq_false_iff_not, beq_iff_eq, beq_eq_false_iff_ne, ne_eq] at hd4
      refine ⟨fun hc5 => ?_, fun hc5 => ?_⟩
      ·skip
       exact dbarj5_A xx _ h
      ·skip
       exact dbarj5_A xx _ h
     ·skip
      have hd4 := hc4; try simp only [Bool.and_eq_true, Bool.or_eq_true, Bool.and_eq_false_iff, Bool.or_eq_false_iff, Bool.not_eq_true', Bool.not_eq_false', decide_eq_true_eq, decide_eq_false_iff_not, beq_iff_eq, beq_eq_false_iff_ne, ne_eq] at hd4
      exact dbarj5_A xx _ h
   ·skip
    have hd2 := hc2; try simp only [Bool.and_eq_true, Bool.or_eq_true, Bool.and_eq_false_iff, Bool.or_eq_false_iff, Bool.not_eq_true', Bool.not_eq_false', decide_eq_true_eq, decide_eq_false_iff_not, beq_iff_eq, beq_eq_false_iff_ne, ne_eq] at hd2
    refine ⟨fun hc3 => ?_, fun hc3 => ?_⟩
    ·skip
     have hd3 := hc3; try simp only [Bool.and_eq_true, Bool.or_eq_true, Bool.and_eq_false_iff, Bool.or_eq_false_iff, Bool.not_eq_true', Bool.not_eq_false', decide_eq_true_eq, decide_eq_false_iff_not, beq_iff_eq, beq_eq_false_iff_ne, ne_eq] at hd3
     refine ⟨fun hc4 => ?_, fun hc4 => ?_⟩
     ·skip
      have hd4 := hc4; try simp only [Bool.and_eq_true, Bool.or_eq_true, Bool.and_eq_false_iff, Bool.or_eq_false_iff, Bool.not_eq_true', Bool.not_eq_false', decide_eq_true_eq, decide_eq_false_iff_not, beq_iff_eq, beq_eq_false_iff_ne, ne_eq] at hd4
      refine ⟨fun hc5 => ?_, fun hc5 => ?_⟩
      ·skip
       exact dbarj5_A xx _ h
      ·skip
       exact dbarj5_A xx _ h
     ·skip
      have hd4 := hc4; try simp only [Bool.and_eq_true, Bool.or_eq_true, Bool.and_eq_false_iff, Bool.or_eq_false_iff, Bool.not_eq_true', Bool.not_eq_false', decide_eq_true_eq, decide_eq_false_iff_not, beq_iff_eq, beq_eq_false_iff_ne, ne_eq] at hd4
      refine ⟨fun hc5 => ?_, fun hc5 => ?_⟩
      ·skip
       have hd5 := hc5; try simp only [Bool.and_eq_true, Bool.or_eq_true, Bool.and_eq_false_iff, Bool.or_eq_false_iff, Bool.not_eq_true', Bool.not_eq_false', decide_eq_true_eq, decide_eq_false_iff_not, beq_iff_eq, beq_eq_false_iff_ne, ne_eq] at hd5
       refine ⟨fun hc6 => ?_, fun hc6 => ?_⟩
       ·skip
        exact dbarj5_A xx _ h
       ·skip
        exact dbarj5_A xx _ h
      ·skip
       have hd5 := hc5; try simp only [Bool.and_eq_true, Bool.or_eq_true, Bool.and_eq_false_iff, Bool.or_eq_false_iff, Bool.not_eq_true', Bool.not_eq_false', decide_eq_true_eq, decide_eq_false_iff_not, beq_iff_eq, beq_eq_false_iff_ne, ne_eq] at hd5
       exact dbarj5_A xx _ h
    ·skip
     have hd3 := hc3; try simp only [Bool.and_eq_true, Bool.or_eq_true, Bool.and_eq_false_iff, Bool.or_eq_false_iff, Bool.not_eq_true', Bool.not_eq_false', decide_eq_true_eq, decide_eq_false_iff_not, beq_iff_eq, beq_eq_false_iff_ne, ne_eq] at hd3
     exact dbarj5_A xx _ h
  ·skip
   have hd1 := hc1; try simp only [Bool.and_eq_true, Bool.or_eq_true, Bool.and_eq_false_iff, Bool.or_eq_false_iff, Bool.not_eq_true', Bool.not_eq_false', decide_eq_true_eq, decide_eq_false_iff_not, beq_iff_eq, beq_eq_false_iff_ne, ne_eq] at hd1
   refine ⟨fun hc2 => ?_, fun hc2 => ?_⟩
   ·skip
    have hd2 := hc2; try simp only [Bool.and_eq_true, Bool.or_eq_true, Bool.and_eq_false_iff, Bool.or_eq_false_iff, Bool.not_eq_true', Bool.not_eq_false', decide_eq_true_eq, decide_eq_false_iff_not, beq_iff_eq, beq_eq_false_iff_ne, ne_eq] at hd2
    refine ⟨fun hc3 => ?_, fun hc3 => ?_⟩
    ·skip
     have hd3 := hc3; try simp only [Bool.and_eq_true, Bool.or_eq_true, Bool.and_eq_false_iff, Bool.or_eq_false_iff, Bool.not_eq_true', Bool.not_eq_false', decide_eq_true_eq, decide_eq_false_iff_not, beq_iff_eq, beq_eq_false_iff_ne, ne_eq] at hd3
     refine ⟨fun hc4 => ?_, fun hc4 => ?_⟩
     ·skip
      have hd4 := hc4; try simp only [Bool.and_eq_true, Bool.or_eq_true, Bool.and_eq_false_iff, Bool.or_eq_false_iff, Bool.not_eq_true', Bool.not_eq_false', decide_eq_true_eq, decide_eq_false_iff_not, beq_iff_eq, beq_eq_false_iff_ne, ne_eq] at hd4
      refine ⟨fun hc5 => ?_, fun hc5 => ?_⟩
      ·skip
       exact dbarj5_A xx _ h
      ·skip
       exact dbarj5_A xx _ h
     ·skip
      have hd4 := hc4; try simp only [Bool.and_eq_true, Bool.or_eq_true, Bool.and_eq_false_iff, Bool.or_eq_false_iff, Bool.not_eq_true', Bool.not_eq_false', decide_eq_true_eq, decide_eq_false_iff_not, beq_iff_eq, beq_eq_false_iff_ne, ne_eq] at hd4
      refine ⟨fun hc5 => ?_, fun hc5 => ?_⟩
      ·skip
       have hd5 := hc5; try simp only [Bool.and_eq_true, Bool.or_eq_true, Bool.and_eq_false_iff, Bool.or_eq_false_iff, Bool.not_eq_true', Bool.not_eq_false', decide_eq_true_eq, decide_eq_false_iff_not, beq_iff_eq, beq_eq_false_iff_ne, ne_eq] at hd5
       refine ⟨fun hc6 => ?_, fun hc6 => ?_⟩
       ·skip
        exact dbarj5_A xx _ h
       ·skip
        exact dbarj5_A xx _ h
      ·skip
       have hd5 := hc5; try simp only [Bool.and_eq_true, Bool.or_eq_true, Bool.and_eq_false_iff, Bool.or_eq_false_iff, Bool.not_eq_true', Bool.not_eq_false', decide_eq_true_eq, decide_eq_false_iff_not, beq_iff_eq, beq_eq_false_iff_ne, ne_eq] at hd5
       exact dbarj5_A xx _ h
    ·skip
     have hd3 := hc3; try simp only [Bool.and_eq_true, Bool.or_eq_true, Bool.and_eq_false_iff, Bool.or_eq_false_iff, Bool.not_eq_true', Bool.not_eq_false', decide_eq_true_eq, decide_eq_false_iff_not, beq_iff_eq, beq_eq_false_iff_ne, ne_eq] at hd3
     refine ⟨fun hc4 => ?_, fun hc4 => ?_⟩
     ·skip
      have hd4 := hc4; try simp only [Bool.and_eq_true, Bool.or_eq_true, Bool.and_eq_false_iff, Bool.or_eq_false_iff, Bool.not_eq_true', Bool.not_eq_false', decide_eq_true_eq, decide_eq_false_iff_not, beq_iff_eq, beq_eq_false_iff_ne, ne_eq] at hd4
      refine ⟨fun hc5 => ?_, fun hc5 => ?_⟩
      ·skip
       have hd5 := hc5; try simp only [Bool.and_eq_true, Bool.or_eq_true, Bool.and_eq_false_iff, Bool.or_eq_false_iff, Bool.not_eq_true', Bool.not_eq_false', decide_eq_true_eq, decide_eq_false_iff_not, beq_iff_eq, beq_eq_false_iff_ne, ne_eq] at hd5
       refine ⟨fun hc6 => ?_, fun hc6 => ?_⟩
       ·skip
        exact dbarj5_A xx _ h
       ·skip
        exact dbarj5_A xx _ h
      ·skip
       have hd5 := hc5; try simp only [Bool.and_eq_true, Bool.or_eq_true, Bool.and_eq_false_iff, Bool.or_eq_false_iff, Bool.not_eq_true', Bool.not_eq_false', decide_eq_true_eq, decide_eq_false_iff_not, beq_iff_eq, beq_eq_false_iff_ne, ne_eq] at hd5
       refine ⟨fun hc6 => ?_, fun hc6 => ?_⟩
       ·skip
        have hd6 := hc6; try simp only [Bool.and_eq_true, Bool.or_eq_true, Bool.and_eq_false_iff, Bool.or_eq_false_iff, Bool.not_eq_true', Bool.not_eq_false', decide_eq_true_eq, decide_eq_false_iff_not, beq_iff_eq, beq_eq_false_iff_ne, ne_eq] at hd6
        refine ⟨fun hc7 => ?_, fun hc7 => ?_⟩
        ·skip
         exact dbarj5_A xx _ h
        ·skip
         exact dbarj5_A xx _ h
       ·skip
        have hd6 := hc6; try simp only [Bool.and_eq_true, Bool.or_eq_true, Bool.and_eq_false_iff, Bool.or_eq_false_iff, Bool.not_eq_true', Bool.not_eq_false', decide_eq_true_eq, decide_eq_false_iff_not, beq_iff_eq, beq_eq_false_iff_ne, ne_eq] at hd6
        exact dbarj5_A xx _ h
     ·skip
      have hd4 := hc4; try simp only [Bool.and_eq_true, Bool.or_eq_true, Bool.and_eq_false_iff, Bool.or_eq_false_iff, Bool.not_eq_true', Bool.not_eq_false', decide_eq_true_eq, decide_eq_false_iff_not, beq_iff_eq, beq_eq_false_iff_ne, ne_eq] at hd4
      exact dbarj5_A xx _ h
   ·skip
    have hd2 := hc2; try simp only [Bool.and_eq_true, Bool.or_eq_true, Bool.and_eq_false_iff, Bool.or_eq_false_iff, Bool.not_eq_true', Bool.not_eq_false', decide_eq_true_eq, decide_eq_false_iff_not, beq_iff_eq, beq_eq_false_iff_ne, ne_eq] at hd2
    exact dbarj5_A xx _ h
def dbarM (xx : Int × Bs × (List (Bs × Bs)) × Bs × Int × List (Int)) : Bool := (dbarj3M xx)
theorem dbarF_A (xx : Int × Bs × (List (Bs × Bs)) × Bs × Int × List (Int)) (P : Bool → Prop) (h : P (dbarM xx)) : dbarF xx (fun k0 => P k0) := by
 unfold dbarM at h
 unfold dbarF
 refine ⟨fun hc0 => ?_, fun hc0 => ?_⟩
 ·skip
  have hd0 := hc0; try simp only [Bool.and_eq_true, Bool.or_eq_true, Bool.and_eq_false_iff, Bool.or_eq_false_iff, Bool.not_eq_true', Bool.not_eq_false', decide_eq_true_eq, decide_eq_false_iff_not, beq_iff_eq, beq_eq_false_iff_ne, ne_eq] at hd0
  exact dbarj3_A xx _ h
 ·skip
  have hd0 := hc0; try simp only [Bool.and_eq_true, Bool.or_eq_true, Bool.and_eq_false_iff, Bool.or_eq_false_iff, Bool.not_eq_true', Bool.not_eq_false', decide_eq_true_eq, decide_eq_false_iff_not, beq_iff_eq, beq_eq_false_iff_ne, ne_eq] at hd0
  exact dbarj3_A xx _ h
theorem dbar_F (xx : Int × Bs × (List (Bs × Bs)) × Bs × Int × List (Int)) : dbarF xx (fun k0 => k0 = dbarM xx) :=
 dbarF_A xx (fun z => z = dbarM xx) rfl
theorem dbar_c {g : Ghost} {axx_0 : Option Addr} {cxx_0 : Nat} {axx_1 : Option Addr} {cxx_1 : Nat} (xx : Int × Bs × (List (Bs × Bs)) × Bs × Int × List (Int)) (hRxx_0 : Rep g (.slice (.pair (.str) (.str))) [.slice axx_0 xx.2.2.1.length cxx_0] xx.2.2.1) (hRxx_1 : Rep g (.slice (.int .i64)) [.slice axx_1 xx.2.2.2.2.2.length cxx_1] xx.2.2.2.2.2)  : CallsG Tryd.prog 30 #[.agg #[.int .i64 xx.1, sv xx.2.1, .slice axx_0 xx.2.2.1.length cxx_0, sv xx.2.2.2.1, .int .i64 xx.2.2.2.2.1, .slice axx_1 xx.2.2.2.2.2.length cxx_1]] g (.bool (dbarM xx)) :=
 (dbar_ok xx hRxx_0 hRxx_1 _ (dbar_F xx)).gives (by rintro g' H' v _ ⟨r0, rfl, rfl, hK⟩; subst hK; rfl)
def donej29 (xx : Int × Bs × (List (Bs × Bs)) × Bs × Int × List (Int)) (K : Int → Prop) : Prop :=
 ((((decide ((xx.2.2.2.1.length : Int) > 400)) || (decide ((xx.2.1.length : Int) > 400)))) = true → K 2) ∧ ((((decide ((xx.2.2.2.1.length : Int) > 400)) || (decide ((xx.2.1.length : Int) > 400)))) = false → K 0)
def donej11 (xx : Int × Bs × (List (Bs × Bs)) × Bs × Int × List (Int)) (K : Int → Prop) : Prop :=
 ((((xx.1 == 2) && (!(dNamM xx.2.1)))) = true → K 3) ∧ ((((xx.1 == 2) && (!(dNamM xx.2.1)))) = false → ((((dattS xx.2.2.1) != 0)) = true → K (dattS xx.2.2.1)) ∧ ((((dattS xx.2.2.1) != 0)) = false → ((decide ((xx.2.2.2.1.length : Int) > 400)) = true → donej29 xx K) ∧ ((decide ((xx.2.2.2.1.length : Int) > 400)) = false → donej29 xx K)))
def donej5 (xx : Int × Bs × (List (Bs × Bs)) × Bs × Int × List (Int)) (K : Int → Prop) : Prop :=
 ((((decide (xx.1 < 1)) || ((decide (xx.1 > 5)) || (!(dbarM xx))))) = true → K 7) ∧ ((((decide (xx.1 < 1)) || ((decide (xx.1 > 5)) || (!(dbarM xx))))) = false → (((xx.1 == 2)) = true → donej11 xx K) ∧ (((xx.1 == 2)) = false → donej11 xx K))
def doneF (xx : Int × Bs × (List (Bs × Bs)) × Bs × Int × List (Int)) (K : Int → Prop) : Prop :=
 ((decide (xx.1 < 1)) = true → donej5 xx K) ∧ ((decide (xx.1 < 1)) = false → ((decide (xx.1 > 5)) = true → donej5 xx K) ∧ ((decide (xx.1 > 5)) = false → donej5 xx K))
theorem done_ok {g : Ghost} {axx_0 : Option Addr} {cxx_0 : Nat} {axx_1 : Option Addr} {cxx_1 : Nat} (xx : Int × Bs × (List (Bs × Bs)) × Bs × Int × List (Int)) (hRxx_0 : Rep g (.slice (.pair (.str) (.str))) [.slice axx_0 xx.2.2.1.length cxx_0] xx.2.2.1) (hRxx_1 : Rep g (.slice (.int .i64)) [.slice axx_1 xx.2.2.2.2.2.length cxx_1] xx.2.2.2.2.2) (K : Int → Prop)
  (hF : doneF xx K) : CallsH Tryd.prog 23 #[.agg #[.int .i64 xx.1, sv xx.2.1, .slice axx_0 xx.2.2.1.length cxx_0, sv xx.2.2.2.1, .int .i64 xx.2.2.2.2.1, .slice axx_1 xx.2.2.2.2.2.length cxx_1]] g [] (fun g' H' v => ∃ (r0 : Int), v = .int .i64 r0 ∧ H' = [] ∧ K r0) := by
 refine CallsH.enter 44 [(0, .agg #[.int .i64 xx.1, sv xx.2.1, .slice axx_0 xx.2.2.1.length cxx_0, sv xx.2.2.2.1, .int .i64 xx.2.2.2.2.1, .slice axx_1 xx.2.2.2.2.2.length cxx_1])] Tryd.func23 rfl (by kernel_rfl) (by kernel_rfl) (by kernel_rfl) fun w0 => ?_
 refine Ok.seq (Ok.region (Ok.op rfl (OpOk.box (v := .agg #[.int .i64 xx.1, sv xx.2.1, .slice axx_0 xx.2.2.1.length cxx_0, sv xx.2.2.2.1, .int .i64 xx.2.2.2.2.1, .slice axx_1 xx.2.2.2.2.2.length cxx_1]) (cs := #[.int .i64 xx.1, sv xx.2.1, .slice axx_0 xx.2.2.1.length cxx_0, sv xx.2.2.2.1, .int .i64 xx.2.2.2.2.1, .slice axx_1 xx.2.2.2.2.2.length cxx_1]) rfl (by kernel_rfl) rfl fun b1 => ?_)))
 refine Ok.batch 1 [(1, pv b1 0)] (by kernel_rfl) (Ok.nil (Ok.thenN (Ok.seq (Ok.block (Ok.cut (fun a W => StA 44 [(1, pv b1 0), (4, .bool ((decide (xx.1 < 1)) || ((decide (xx.1 > 5)) || (!(dbarM xx)))))] a ∧ StW w0 [.blk b1 (.cells #[.int .i64 xx.1, sv xx.2.1, .slice axx_0 xx.2.2.1.length cxx_0, sv xx.2.2.2.1, .int .i64 xx.2.2.2.2.1, .slice axx_1 xx.2.2.2.2.2.length cxx_1] 46)] g W ∧ donej5 xx K) ?_ ?_)))))
 ·
  refine Ok.region (Ok.bat 1 [1] [(5, pv b1 0)] ?_)
  refine Ok.op rfl (OpOk.step (v := .int .i64 xx.1) (Yields.load 0 rfl rfl Tryd.underlying3 rfl (by kernel_rfl)) rfl rfl (Ok.bat 2 [1] [(8, .bool (decide (xx.1 < 1)))] ?_))
  refine Ok.boolAt 8 (decide (xx.1 < 1)) rfl (fun hc8 => ?_) (fun hc8 => ?_)
  ·replace hF := hF.1 hc8
   refine Ok.bat 10 [1] [(4, .bool true)] ?_
   refine Ok.nil (Ok.thenN (Ok.reval 4 rfl (show (.bool true : Value) = .bool ((decide (xx.1 < 1)) || ((decide (xx.1 > 5)) || (!(dbarM xx)))) from congrArg (Value.bool) (mor_t hc8)) ?_))
   exact fun a W hA hW => ⟨hA.sub (by kernel_rfl), hW, hF⟩
  ·replace hF := hF.2 hc8
   refine Ok.bat 1 [1] [(8, .bool false), (9, pv b1 0)] ?_
   refine Ok.opYes (j := 3) (d := 8) (want := false) (b := false) rfl (by kernel_rfl) (by kernel_rfl) rfl (OpOk.step (v := .int .i64 xx.1) (Yields.load 0 rfl rfl Tryd.underlying3 rfl (by kernel_rfl)) rfl rfl (Ok.bat 3 [1] [(13, .bool (decide (xx.1 > 5)))] ?_))
   refine Ok.boolAt 13 (decide (xx.1 > 5)) rfl (fun hc9 => ?_) (fun hc9 => ?_)
   ·replace hF := hF.1 hc9
    refine Ok.bat 5 [1] [(4, .bool true)] ?_
    refine Ok.nil (Ok.thenN (Ok.reval 4 rfl (show (.bool true : Value) = .bool ((decide (xx.1 < 1)) || ((decide (xx.1 > 5)) || (!(dbarM xx)))) from congrArg (Value.bool) ((Eq.trans (mor_t hc9) (mor_f hc8)))) ?_))
    exact fun a W hA hW => ⟨hA.sub (by kernel_rfl), hW, hF⟩
   ·replace hF := hF.2 hc9
    refine Ok.opYes (j := 8) (d := 13) (want := false) (b := false) rfl (by kernel_rfl) (by kernel_rfl) rfl (OpOk.step (v := .agg #[.int .i64 xx.1, sv xx.2.1, .slice axx_0 xx.2.2.1.length cxx_0, sv xx.2.2.2.1, .int .i64 xx.2.2.2.2.1, .slice axx_1 xx.2.2.2.2.2.length cxx_1]) (Yields.loadAgg 0 6 #[.int .i64 xx.1, sv xx.2.1, .slice axx_0 xx.2.2.1.length cxx_0, sv xx.2.2.2.1, .int .i64 xx.2.2.2.2.1, .slice axx_1 xx.2.2.2.2.2.length cxx_1] rfl rfl Tryd.underlying46 rfl (by kernel_rfl) (by kernel_rfl) (by kernel_rfl)) rfl rfl (Ok.opYes (j := 8) (d := 13) (want := false) (b := false) rfl (by kernel_rfl) (by kernel_rfl) rfl (OpOk.callG (v := .bool (dbarM xx)) enr (fun W hW => dbar_c xx (hRxx_0.mono hW.sees) (hRxx_1.mono hW.sees)) rfl ?_)))
    refine Ok.bat 3 [1] [(4, .bool (!(dbarM xx)))] ?_
    refine Ok.nil (Ok.thenN (Ok.reval 4 rfl (show (.bool (!(dbarM xx)) : Value) = .bool ((decide (xx.1 < 1)) || ((decide (xx.1 > 5)) || (!(dbarM xx)))) from congrArg (Value.bool) ((Eq.trans (mor_f hc9) (mor_f hc8)))) ?_))
    exact fun a W hA hW => ⟨hA.sub (by kernel_rfl), hW, hF⟩
 ·
  clear hF
  rintro a W ⟨hA, hW, hF⟩
  refine (?_ : Ok _ _ _ _ _ _) a W hA hW
  clear hA hW
  refine Ok.cond (b := ((decide (xx.1 < 1)) || ((decide (xx.1 > 5)) || (!(dbarM xx))))) rfl (fun hc2 => ?_) (fun hc2 => ?_)
  ·replace hF := hF.1 hc2
   refine Ok.seq (Ok.region (Ok.batch 1 [(2, .int .i64 7)] (by kernel_rfl) (Ok.nil (Ok.thenN (Ok.ret (Ok.blockR (Ok.thenR ?_)))))))
   exact Ok.resP (vs := [.int .i64 7]) [] [] (by decide) rfl (.inl rfl) rfl (.cons (.tmp rfl) .nil) (Gext.refl w0 g) ⟨7, rfl, rfl, hF⟩
  ·replace hF := hF.2 hc2
   refine Ok.cut (fun a W => StA 44 [(1, pv b1 0), (18, .bool ((xx.1 == 2) && (!(dNamM xx.2.1))))] a ∧ StW w0 [.blk b1 (.cells #[.int .i64 xx.1, sv xx.2.1, .slice axx_0 xx.2.2.1.length cxx_0, sv xx.2.2.2.1, .int .i64 xx.2.2.2.2.1, .slice axx_1 xx.2.2.2.2.2.length cxx_1] 46)] g W ∧ donej11 xx K) ?_ ?_
   ·
    refine Ok.region (Ok.bat 1 [1] [(19, pv b1 0)] ?_)
    refine Ok.op rfl (OpOk.step (v := .int .i64 xx.1) (Yields.load 0 rfl rfl Tryd.underlying3 rfl (by kernel_rfl)) rfl rfl (Ok.bat 2 [1] [(22, .bool (xx.1 == 2))] ?_))
    refine Ok.boolAt 22 ((xx.1 == 2)) rfl (fun hc7 => ?_) (fun hc7 => ?_)
    ·replace hF := hF.1 hc7
     refine Ok.bat 1 [1] [(22, .bool true), (23, pv b1 1)] ?_
     refine Ok.opYes (j := 3) (d := 22) (want := true) (b := true) rfl (by kernel_rfl) (by kernel_rfl) rfl (OpOk.step (v := sv xx.2.1) (Yields.load 0 rfl rfl Tryd.underlying9 rfl (by kernel_rfl)) rfl rfl (Ok.opYes (j := 3) (d := 22) (want := true) (b := true) rfl (by kernel_rfl) (by kernel_rfl) rfl (OpOk.callG (v := .bool (dNamM xx.2.1)) enr (fun W hW => dNam_c xx.2.1) rfl ?_)))
     refine Ok.bat 3 [1] [(18, .bool (!(dNamM xx.2.1)))] ?_
     refine Ok.nil (Ok.thenN (Ok.reval 18 rfl (show (.bool (!(dNamM xx.2.1)) : Value) = .bool ((xx.1 == 2) && (!(dNamM xx.2.1))) from congrArg (Value.bool) (mand_t hc7)) ?_))
     exact fun a W hA hW => ⟨hA.sub (by kernel_rfl), hW, hF⟩
    ·replace hF := hF.2 hc7
     refine Ok.bat 6 [1] [(18, .bool false)] ?_
     refine Ok.nil (Ok.thenN (Ok.reval 18 rfl (show (.bool false : Value) = .bool ((xx.1 == 2) && (!(dNamM xx.2.1))) from congrArg (Value.bool) (mand_f hc7)) ?_))
     exact fun a W hA hW => ⟨hA.sub (by kernel_rfl), hW, hF⟩
   ·
    clear hF
    rintro a W ⟨hA, hW, hF⟩
    refine (?_ : Ok _ _ _ _ _ _) a W hA hW
    clear hA hW
    refine Ok.cond (b := ((xx.1 == 2) && (!(dNamM xx.2.1)))) rfl (fun hc3 => ?_) (fun hc3 => ?_)
    ·replace hF := hF.1 hc3
     refine Ok.seq (Ok.region (Ok.batch 1 [(2, .int .i64 3)] (by kernel_rfl) (Ok.nil (Ok.thenN (Ok.ret (Ok.blockR (Ok.thenR ?_)))))))
     exact Ok.resP (vs := [.int .i64 3]) [] [] (by decide) rfl (.inl rfl) rfl (.cons (.tmp rfl) .nil) (Gext.refl w0 g) ⟨3, rfl, rfl, hF⟩
    ·replace hF := hF.2 hc3
     refine Ok.skip (Ok.blockN (Ok.thenN (Ok.seq (Ok.seq (Ok.region (Ok.bat 1 [1] [(28, pv b1 2)] ?_))))))
     refine Ok.op rfl (OpOk.step (v := .slice axx_0 xx.2.2.1.length cxx_0) (Yields.load 0 rfl rfl Tryd.underlying44 rfl (by kernel_rfl)) rfl rfl (Ok.op rfl (OpOk.callG (v := .int .i64 (dattS xx.2.2.1)) enr (fun W hW => datt_c xx.2.2.1 (hRxx_0.mono hW.sees)) rfl ?_)))
     refine Ok.bat 1 [1] [(3, .int .i64 (dattS xx.2.2.1))] ?_
     refine Ok.nil (Ok.thenN (Ok.seq (Ok.region (Ok.bat 2 [1, 3] [(32, .bool ((dattS xx.2.2.1) != 0))] ?_))))
     refine Ok.nil (Ok.thenN (Ok.cond (b := ((dattS xx.2.2.1) != 0)) rfl (fun hc4 => ?_) (fun hc4 => ?_)))
     ·replace hF := hF.1 hc4
      refine Ok.seq (Ok.region (Ok.batch 2 [(2, .int .i64 (dattS xx.2.2.1))] (by kernel_rfl) (Ok.nil (Ok.thenN (Ok.ret (Ok.thenR ?_))))))
      exact Ok.resP (vs := [.int .i64 (dattS xx.2.2.1)]) [] [] (by decide) rfl (.inl rfl) rfl (.cons (.tmp rfl) .nil) (Gext.refl w0 g) ⟨(dattS xx.2.2.1), rfl, rfl, hF⟩
     ·replace hF := hF.2 hc4
      refine Ok.skip (Ok.thenN (Ok.seq (Ok.cut (fun a W => StA 44 [(43, .bool ((decide ((xx.2.2.2.1.length : Int) > 400)) || (decide ((xx.2.1.length : Int) > 400))))] a ∧ StW w0 [] g W ∧ donej29 xx K) ?_ ?_)))
      ·
       refine Ok.region (Ok.bat 1 [1] [(34, pv b1 3)] ?_)
       refine Ok.op rfl (OpOk.step (v := sv xx.2.2.2.1) (Yields.load 0 rfl rfl Tryd.underlying9 rfl (by kernel_rfl)) rfl rfl (Ok.bat 3 [1] [(38, .bool (decide ((xx.2.2.2.1.length : Int) > 400)))] ?_))
       refine Ok.boolAt 38 (decide ((xx.2.2.2.1.length : Int) > 400)) rfl (fun hc6 => ?_) (fun hc6 => ?_)
       ·replace hF := hF.1 hc6
        refine Ok.batch 5 [(43, .bool true)] (by kernel_rfl) (Ok.nil (Ok.thenN (Ok.reval 43 rfl (show (.bool true : Value) = .bool ((decide ((xx.2.2.2.1.length : Int) > 400)) || (decide ((xx.2.1.length : Int) > 400))) from congrArg (Value.bool) (mor_t hc6)) ?_)))
        exact fun a W hA hW => ⟨hA.sub (by kernel_rfl), hW.sub (.cons _ .slnil), hF⟩
       ·replace hF := hF.2 hc6
        refine Ok.batch 1 [(38, .bool false), (39, pv b1 1)] (by kernel_rfl) (Ok.opYes (j := 4) (d := 38) (want := false) (b := false) rfl (by kernel_rfl) (by kernel_rfl) rfl (OpOk.step (v := sv xx.2.1) (Yields.load 0 rfl rfl Tryd.underlying9 rfl (by kernel_rfl)) rfl rfl (Ok.batch 3 [(43, .bool (decide ((xx.2.1.length : Int) > 400)))] (by kernel_rfl) (Ok.nil (Ok.thenN (Ok.reval 43 rfl (show (.bool (decide ((xx.2.1.length : Int) > 400)) : Value) = .bool ((decide ((xx.2.2.2.1.length : Int) > 400)) || (decide ((xx.2.1.length : Int) > 400))) from congrArg (Value.bool) (mor_f hc6)) ?_))))))
        exact fun a W hA hW => ⟨hA.sub (by kernel_rfl), hW.sub (.cons _ .slnil), hF⟩
      ·
       clear hF
       rintro a W ⟨hA, hW, hF⟩
       refine (?_ : Ok _ _ _ _ _ _) a W hA hW
       clear hA hW
       refine Ok.cond (b := ((decide ((xx.2.2.2.1.length : Int) > 400)) || (decide ((xx.2.1.length : Int) > 400)))) rfl (fun hc5 => ?_) (fun hc5 => ?_)
       ·replace hF := hF.1 hc5
        refine Ok.seq (Ok.region (Ok.batch 1 [(2, .int .i64 2)] (by kernel_rfl) (Ok.nil (Ok.thenN (Ok.ret (Ok.thenR ?_))))))
        exact Ok.resH (vs := [.int .i64 2]) (.inl rfl) rfl (.cons (.tmp rfl) .nil) (Gext.refl w0 g) ⟨2, rfl, rfl, hF⟩
       ·replace hF := hF.2 hc5
        refine Ok.skip (Ok.thenN (Ok.seq (Ok.region (Ok.batch 1 [(2, .int .i64 0)] (by kernel_rfl) (Ok.nil (Ok.thenN (Ok.ret ?_)))))))
        exact Ok.resH (vs := [.int .i64 0]) (.inl rfl) rfl (.cons (.tmp rfl) .nil) (Gext.refl w0 g) ⟨0, rfl, rfl, hF⟩
theorem done_ex (x : (Int × Bs × (List (Bs × Bs)) × Bs × Int × List (Int))) : ∃ e, doneF x (fun r => r = e) ∧ (e = 0 → AGood x.2.2.1) := by
 have no : ∀ {e : Int}, e ≠ 0 → (e = 0 → AGood x.2.2.1) := fun h h0 => absurd h0 h
 have j29 : dattS x.2.2.1 = 0 → ∃ e, donej29 x (fun r => r = e) ∧ (e = 0 → AGood x.2.2.1) := fun h0 => ex_if (fun _ => ex_k (no (by decide))) fun _ => ex_k fun _ => (datt_sp x.2.2.1).2 h0
 have j11 : ∃ e, donej11 x (fun r => r = e) ∧ (e = 0 → AGood x.2.2.1) := ex_if (fun _ => ex_k (no (by decide))) fun _ => ex_if (fun hn => ex_k (no (by simpa using hn))) fun hz => ex_if (fun _ => j29 (by simpa using hz)) fun _ => j29 (by simpa using hz)
 have j5 : ∃ e, donej5 x (fun r => r = e) ∧ (e = 0 → AGood x.2.2.1) := ex_if (fun _ => ex_k (no (by decide))) fun _ => ex_if (fun _ => j11) fun _ => j11
 exact ex_if (fun _ => j5) fun _ => ex_if (fun _ => j5) fun _ => j5
noncomputable def doneS (x : (Int × Bs × (List (Bs × Bs)) × Bs × Int × List (Int))) : Int := pickE fun e => doneF x (fun r => r = e) ∧ (e = 0 → AGood x.2.2.1)
theorem done_sp (x : (Int × Bs × (List (Bs × Bs)) × Bs × Int × List (Int))) : doneF x (fun r => r = doneS x) ∧ (doneS x = 0 → AGood x.2.2.1) := pickE_ok (A := fun e => doneF x (fun r => r = e) ∧ (e = 0 → AGood x.2.2.1)) (done_ex x)
theorem done_F (x : (Int × Bs × (List (Bs × Bs)) × Bs × Int × List (Int))) : doneF x (fun r => r = doneS x) := (done_sp x).1
theorem done_c {g : Ghost} {axx_0 : Option Addr} {cxx_0 : Nat} {axx_1 : Option Addr} {cxx_1 : Nat} (xx : Int × Bs × (List (Bs × Bs)) × Bs × Int × List (Int)) (hRxx_0 : Rep g (.slice (.pair (.str) (.str))) [.slice axx_0 xx.2.2.1.length cxx_0] xx.2.2.1) (hRxx_1 : Rep g (.slice (.int .i64)) [.slice axx_1 xx.2.2.2.2.2.length cxx_1] xx.2.2.2.2.2)  : CallsG Tryd.prog 23 #[.agg #[.int .i64 xx.1, sv xx.2.1, .slice axx_0 xx.2.2.1.length cxx_0, sv xx.2.2.2.1, .int .i64 xx.2.2.2.2.1, .slice axx_1 xx.2.2.2.2.2.length cxx_1]] g (.int .i64 (doneS xx)) :=
 (done_ok xx hRxx_0 hRxx_1 _ (done_F xx)).gives (by rintro g' H' v _ ⟨r0, rfl, rfl, hK⟩; subst hK; rfl)
end Go.Proofs.YtbifbljdmndjbaaDoor.Do
