/- csstok: numbers, names, and the first token of a text. -/
import Derived.Test.YtcnhdkhkadiohaaGreatDoorCss
import Derived.Test.YtcnhdkhkadiohaaGreatDoorTrm
namespace Go.Proofs.YtcnhdkhkadiohaaGreatDoor.Css
open Go Go.Eng Bld Trm
set_option maxHeartbeats 4000000
set_option maxRecDepth 100000
set_option linter.unusedSimpArgs false
set_option linter.unusedVariables false
def slhpj3 (xs : Bs) (xprefix : Bs) (K : Bool → Prop) : Prop :=
 K ((decide ((xs.length : Int) ≥ (xprefix.length : Int))) && ((xs.take (Int.toNat (xprefix.length : Int))) == xprefix))
def slhpF (xs : Bs) (xprefix : Bs) (K : Bool → Prop) : Prop :=
 ((decide ((xs.length : Int) ≥ (xprefix.length : Int))) = true → (0 : Int) ≤ 0 ∧ (0 : Int) ≤ (xprefix.length : Int) ∧ (xprefix.length : Int) ≤ (xs.length : Int) ∧ slhpj3 xs xprefix K) ∧ ((decide ((xs.length : Int) ≥ (xprefix.length : Int))) = false → slhpj3 xs xprefix K)
theorem slhp_ok {g : Ghost} (xs : Bs) (xprefix : Bs) (K : Bool → Prop)
  (hF : slhpF xs xprefix K) : CallsH Tryz.prog 100 #[sv xs, sv xprefix] g [] (fun g' H' v => ∃ (r0 : Bool), v = .bool r0 ∧ H' = [] ∧ K r0) := by
 refine CallsH.enter 18 [(0, sv xs), (1, sv xprefix)] Tryz.func100 rfl (by kernel_rfl) (by kernel_rfl) (by kernel_rfl) fun w0 => ?_
 refine Ok.seq (Ok.region (Ok.batch 1 [(0, sv xs), (1, sv xprefix)] (by kernel_rfl) (Ok.nil (Ok.thenN (Ok.cut (fun a W => StA 18 [(4, .bool ((decide ((xs.length : Int) ≥ (xprefix.length : Int))) && ((xs.take (Int.toNat (xprefix.length : Int))) == xprefix)))] a ∧ StW w0 [] g W ∧ slhpj3 xs xprefix K) ?_ ?_)))))
 ·
  refine Ok.region (Ok.bat 6 [0, 1] [(10, .bool (decide ((xs.length : Int) ≥ (xprefix.length : Int))))] ?_)
  refine Ok.boolAt 10 (decide ((xs.length : Int) ≥ (xprefix.length : Int))) rfl (fun hc1 => ?_) (fun hc1 => ?_)
  ·replace hF := hF.1 hc1
   refine Ok.bat 3 [1] [(10, .bool true), (11, sv xs), (13, .int .i64 (xprefix.length : Int))] ?_
   obtain ⟨h02, h12, h22, hF⟩ := hF
   refine Ok.opYes (j := 5) (d := 10) (want := true) (b := true) rfl (by kernel_rfl) (by kernel_rfl) rfl (OpOk.step (v := sv (xs.take (Int.toNat (xprefix.length : Int)))) (Yields.sliceStr (s := xs) (l := 0) (h := (xprefix.length : Int)) (by kernel_rfl) Tryz.underlying9 (.inr ⟨rfl, rfl⟩) (.inl ⟨_, _, rfl, rfl⟩) h02 h12 h22 (xs.take (Int.toNat (xprefix.length : Int))) (by simp)) rfl rfl (Ok.bat 1 [10] [(14, sv (xs.take (Int.toNat (xprefix.length : Int)))), (15, sv xprefix)] ?_))
   refine Ok.opYes (j := 5) (d := 10) (want := true) (b := true) rfl (by kernel_rfl) (by kernel_rfl) rfl (OpOk.step (v := .bool ((xs.take (Int.toNat (xprefix.length : Int))) == xprefix)) (Yields.strCmp (f := .eql) (a := (xs.take (Int.toNat (xprefix.length : Int)))) (b := xprefix) (by kernel_rfl) (by kernel_rfl) rfl) rfl rfl (Ok.batch 2 [(4, .bool ((xs.take (Int.toNat (xprefix.length : Int))) == xprefix))] (by kernel_rfl) (Ok.nil (Ok.thenN (Ok.reval 4 rfl (show (.bool ((xs.take (Int.toNat (xprefix.length : Int))) == xprefix) : Value) = .bool ((decide ((xs.length : Int) ≥ (xprefix.length : Int))) && ((xs.take (Int.toNat (xprefix.length : Int))) == xprefix)) from congrArg (Value.bool) (mand_t hc1)) ?_)))))
   exact fun a W hA hW => ⟨hA.sub (by kernel_rfl), hW, hF⟩
  ·replace hF := hF.2 hc1
   refine Ok.batch 8 [(4, .bool false)] (by kernel_rfl) (Ok.nil (Ok.thenN (Ok.reval 4 rfl (show (.bool false : Value) = .bool ((decide ((xs.length : Int) ≥ (xprefix.length : Int))) && ((xs.take (Int.toNat (xprefix.length : Int))) == xprefix)) from congrArg (Value.bool) (mand_f hc1)) ?_)))
   exact fun a W hA hW => ⟨hA.sub (by kernel_rfl), hW, hF⟩
 ·
  clear hF
  rintro a W ⟨hA, hW, hF⟩
  refine (?_ : Ok _ _ _ _ _ _) a W hA hW
  clear hA hW
  refine Ok.ret ?_
  exact Ok.resH (vs := [.bool ((decide ((xs.length : Int) ≥ (xprefix.length : Int))) && ((xs.take (Int.toNat (xprefix.length : Int))) == xprefix))]) (.inl rfl) rfl (.cons (.tmp rfl) .nil) (Gext.refl w0 g) ⟨((decide ((xs.length : Int) ≥ (xprefix.length : Int))) && ((xs.take (Int.toNat (xprefix.length : Int))) == xprefix)), rfl, rfl, hF⟩
def slhpj3M (xs : Bs) (xprefix : Bs) : Bool := ((decide ((xs.length : Int) ≥ (xprefix.length : Int))) && ((xs.take (Int.toNat (xprefix.length : Int))) == xprefix))
theorem slhpj3_A (xs : Bs) (xprefix : Bs) (P : Bool → Prop) (h : P (slhpj3M xs xprefix)) : slhpj3 xs xprefix (fun k0 => P k0) := by
 unfold slhpj3M at h
 unfold slhpj3
 exact h
def slhpM (xs : Bs) (xprefix : Bs) : Bool := (slhpj3M xs xprefix)
theorem slhpF_A (xs : Bs) (xprefix : Bs) (P : Bool → Prop) (h : P (slhpM xs xprefix)) : slhpF xs xprefix (fun k0 => P k0) := by
 unfold slhpM at h
 unfold slhpF
 refine ⟨fun hc0 => ?_, fun hc0 => ?_⟩
 ·skip
  have hd0 := of_decide_eq_true hc0
  refine ⟨?_, ?_, ?_, ?_⟩
  ·first | omega | assumption | exact trivial | (have h0 := List.length_pos_iff.mpr (by assumption); omega) | (simp; omega) | (simp at *; omega)
  ·first | omega | assumption | exact trivial | (have h0 := List.length_pos_iff.mpr (by assumption); omega) | (simp; omega) | (simp at *; omega)
  ·first | omega | assumption | exact trivial | (have h0 := List.length_pos_iff.mpr (by assumption); omega) | (simp; omega) | (simp at *; omega)
  exact slhpj3_A xs xprefix _ h
 ·skip
  have hd0 := of_decide_eq_false hc0
  exact slhpj3_A xs xprefix _ h
theorem slhp_F (xs : Bs) (xprefix : Bs) : slhpF xs xprefix (fun k0 => k0 = slhpM xs xprefix) :=
 slhpF_A xs xprefix (fun z => z = slhpM xs xprefix) rfl
theorem slhp_c {g : Ghost} (xs : Bs) (xprefix : Bs)  : CallsG Tryz.prog 100 #[sv xs, sv xprefix] g (.bool (slhpM xs xprefix)) :=
 (slhp_ok xs xprefix _ (slhp_F xs xprefix)).gives (by rintro g' H' v _ ⟨r0, rfl, rfl, hK⟩; subst hK; rfl)
def hpF (xs : Bs) (xprefix : Bs) (K : Bool → Prop) : Prop :=
 K (slhpM xs xprefix)
theorem hp_ok {g : Ghost} (xs : Bs) (xprefix : Bs) (K : Bool → Prop)
  (hF : hpF xs xprefix K) : CallsH Tryz.prog 71 #[sv xs, sv xprefix] g [] (fun g' H' v => ∃ (r0 : Bool), v = .bool r0 ∧ H' = [] ∧ K r0) := by
 refine CallsH.enter 8 [(0, sv xs), (1, sv xprefix)] Tryz.func71 rfl (by kernel_rfl) (by kernel_rfl) (by kernel_rfl) fun w0 => ?_
 refine Ok.seq (Ok.region (Ok.batch 1 [(0, sv xs), (1, sv xprefix)] (by kernel_rfl) (Ok.nil (Ok.thenN (Ok.seq (Ok.region (Ok.batch 2 [(5, sv xs), (6, sv xprefix)] (by kernel_rfl) (Ok.op rfl (OpOk.callG (v := .bool (slhpM xs xprefix)) enr (fun W hW => slhp_c xs xprefix) rfl ?_)))))))))
 refine Ok.batch 1 [(4, .bool (slhpM xs xprefix))] (by kernel_rfl) (Ok.nil (Ok.thenN (Ok.ret ?_)))
 exact Ok.resH (vs := [.bool (slhpM xs xprefix)]) (.inl rfl) rfl (.cons (.tmp rfl) .nil) (Gext.refl w0 g) ⟨(slhpM xs xprefix), rfl, rfl, hF⟩
def hpM (xs : Bs) (xprefix : Bs) : Bool := (slhpM xs xprefix)
theorem hpF_A (xs : Bs) (xprefix : Bs) (P : Bool → Prop) (h : P (hpM xs xprefix)) : hpF xs xprefix (fun k0 => P k0) := by
 unfold hpM at h
 unfold hpF
 exact h
theorem hp_F (xs : Bs) (xprefix : Bs) : hpF xs xprefix (fun k0 => k0 = hpM xs xprefix) :=
 hpF_A xs xprefix (fun z => z = hpM xs xprefix) rfl
theorem hp_c {g : Ghost} (xs : Bs) (xprefix : Bs)  : CallsG Tryz.prog 71 #[sv xs, sv xprefix] g (.bool (hpM xs xprefix)) :=
 (hp_ok xs xprefix _ (hp_F xs xprefix)).gives (by rintro g' H' v _ ⟨r0, rfl, rfl, hK⟩; subst hK; rfl)
theorem slhp_len {s p : Bs} (h : slhpM s p = true) : p.length ≤ s.length := by
 unfold slhpM slhpj3M at h
 simp at h
 omega
def slcpF (xs : Bs) (xprefix : Bs) (K : Bs → Bool → Prop) : Prop :=
 ((!(slhpM xs xprefix)) = true → K xs false) ∧ ((!(slhpM xs xprefix)) = false → (0 : Int) ≤ (xprefix.length : Int) ∧ ((xprefix.length : Int) : Int) ≤ (xs.length : Int) ∧ (xs.length : Int) ≤ (xs.length : Int) ∧ K (xs.drop (Int.toNat (xprefix.length : Int))) true)
theorem slcp_ok {g : Ghost} (xs : Bs) (xprefix : Bs) (K : Bs → Bool → Prop)
  (hF : slcpF xs xprefix K) : CallsH Tryz.prog 92 #[sv xs, sv xprefix] g [] (fun g' H' v => ∃ (r0 : Bs), ∃ (r1 : Bool), v = .tuple #[sv r0, .bool r1] ∧ H' = [] ∧ K r0 r1) := by
 refine CallsH.enter 15 [(0, sv xs), (1, sv xprefix)] Tryz.func92 rfl (by kernel_rfl) (by kernel_rfl) (by kernel_rfl) fun w0 => ?_
 refine Ok.seq (Ok.region (Ok.batch 2 [(0, sv xs), (1, sv xprefix)] (by kernel_rfl) (Ok.nil (Ok.thenN (Ok.seq (Ok.seq (Ok.region (Ok.bat 2 [0, 1] [(6, sv xs), (7, sv xprefix)] ?_))))))))
 refine Ok.op rfl (OpOk.callG (v := .bool (slhpM xs xprefix)) enr (fun W hW => slhp_c xs xprefix) rfl ?_)
 refine Ok.bat 1 [0, 1] [(9, .bool (!(slhpM xs xprefix)))] ?_
 refine Ok.nil (Ok.thenN (Ok.cond (b := !(slhpM xs xprefix)) rfl (fun hc1 => ?_) (fun hc1 => ?_)))
 ·replace hF := hF.1 hc1
  refine Ok.seq (Ok.region (Ok.batch 3 [(4, sv xs), (5, .bool false)] (by kernel_rfl) (Ok.nil (Ok.thenN (Ok.ret (Ok.thenR ?_))))))
  exact Ok.resH (vs := [sv xs, .bool false]) (.inl rfl) rfl (.cons (.tmp rfl) (.cons (.tmp rfl) .nil)) (Gext.refl w0 g) ⟨xs, false, rfl, rfl, hF⟩
 ·replace hF := hF.2 hc1
  refine Ok.skip (Ok.thenN (Ok.seq (Ok.region (Ok.batch 3 [(11, sv xs), (13, .int .i64 (xprefix.length : Int))] (by kernel_rfl) ?_))))
  obtain ⟨h02, h12, h22, hF⟩ := hF
  refine Ok.op rfl (OpOk.step (v := sv (xs.drop (Int.toNat (xprefix.length : Int)))) (Yields.sliceStr (s := xs) (l := (xprefix.length : Int)) (h := (xs.length : Int)) (by kernel_rfl) Tryz.underlying9 (.inl ⟨_, _, rfl, rfl⟩) (.inr ⟨rfl, rfl⟩) h02 h12 h22 (xs.drop (Int.toNat (xprefix.length : Int))) (by rw [show ((xs.length : Int)).toNat = xs.length from Int.toNat_natCast _, List.take_length])) rfl rfl (Ok.batch 2 [(4, sv (xs.drop (Int.toNat (xprefix.length : Int)))), (5, .bool true)] (by kernel_rfl) (Ok.nil (Ok.thenN (Ok.ret ?_)))))
  exact Ok.resH (vs := [sv (xs.drop (Int.toNat (xprefix.length : Int))), .bool true]) (.inl rfl) rfl (.cons (.tmp rfl) (.cons (.tmp rfl) .nil)) (Gext.refl w0 g) ⟨(xs.drop (Int.toNat (xprefix.length : Int))), true, rfl, rfl, hF⟩
def slcpM (xs : Bs) (xprefix : Bs) : Bs × Bool := (if (!(slhpM xs xprefix)) = true then (xs, false) else (xs.drop (Int.toNat (xprefix.length : Int)), true))
theorem slcpF_A (xs : Bs) (xprefix : Bs) (P : Bs × Bool → Prop) (h : P (slcpM xs xprefix)) : slcpF xs xprefix (fun k0 k1 => P (k0, k1)) := by
 unfold slcpM at h
 unfold slcpF
 refine ⟨fun hc0 => ?_, fun hc0 => ?_⟩
 ·rw [if_t hc0] at h
  exact h
 ·rw [if_f hc0] at h
  refine ⟨?_, ?_, ?_, ?_⟩
  ·first | (have h7 := slhp_len (by simpa using hc0); omega) | omega | assumption | exact trivial | (have h0 := List.length_pos_iff.mpr (by assumption); omega) | (simp; omega) | (simp at *; omega)
  ·first | (have h7 := slhp_len (by simpa using hc0); omega) | omega | assumption | exact trivial | (have h0 := List.length_pos_iff.mpr (by assumption); omega) | (simp; omega) | (simp at *; omega)
  ·first | (have h7 := slhp_len (by simpa using hc0); omega) | omega | assumption | exact trivial | (have h0 := List.length_pos_iff.mpr (by assumption); omega) | (simp; omega) | (simp at *; omega)
  exact h
theorem slcp_F (xs : Bs) (xprefix : Bs) : slcpF xs xprefix (fun k0 k1 => (k0, k1) = slcpM xs xprefix) :=
 slcpF_A xs xprefix (fun z => z = slcpM xs xprefix) rfl
theorem slcp_c {g : Ghost} (xs : Bs) (xprefix : Bs)  : CallsG Tryz.prog 92 #[sv xs, sv xprefix] g (.tuple #[sv ((slcpM xs xprefix).1), .bool (slcpM xs xprefix).2]) :=
 (slcp_ok xs xprefix _ (slcp_F xs xprefix)).gives (by rintro g' H' v _ ⟨r0, r1, rfl, rfl, hK⟩; obtain ⟨rfl, rfl⟩ : r0 = (slcpM xs xprefix).1 ∧ r1 = (slcpM xs xprefix).2 := ⟨congrArg (fun z => z.1) hK, congrArg (fun z => z.2) hK⟩; rfl)
def cpF (xs : Bs) (xprefix : Bs) (K : Bs → Bool → Prop) : Prop :=
 K (slcpM xs xprefix).1 (slcpM xs xprefix).2
theorem cp_ok {g : Ghost} (xs : Bs) (xprefix : Bs) (K : Bs → Bool → Prop)
  (hF : cpF xs xprefix K) : CallsH Tryz.prog 62 #[sv xs, sv xprefix] g [] (fun g' H' v => ∃ (r0 : Bs), ∃ (r1 : Bool), v = .tuple #[sv r0, .bool r1] ∧ H' = [] ∧ K r0 r1) := by
 refine CallsH.enter 11 [(0, sv xs), (1, sv xprefix)] Tryz.func62 rfl (by kernel_rfl) (by kernel_rfl) (by kernel_rfl) fun w0 => ?_
 refine Ok.seq (Ok.region (Ok.batch 2 [(0, sv xs), (1, sv xprefix)] (by kernel_rfl) (Ok.nil (Ok.thenN (Ok.seq (Ok.region (Ok.batch 2 [(6, sv xs), (7, sv xprefix)] (by kernel_rfl) (Ok.op rfl (OpOk.callG (v := .tuple #[sv ((slcpM xs xprefix).1), .bool (slcpM xs xprefix).2]) enr (fun W hW => slcp_c xs xprefix) rfl ?_)))))))))
 refine Ok.batch 4 [(4, sv ((slcpM xs xprefix).1)), (5, .bool (slcpM xs xprefix).2)] (by kernel_rfl) (Ok.nil (Ok.thenN (Ok.ret ?_)))
 exact Ok.resH (vs := [sv ((slcpM xs xprefix).1), .bool (slcpM xs xprefix).2]) (.inl rfl) rfl (.cons (.tmp rfl) (.cons (.tmp rfl) .nil)) (Gext.refl w0 g) ⟨(slcpM xs xprefix).1, (slcpM xs xprefix).2, rfl, rfl, hF⟩
def cpM (xs : Bs) (xprefix : Bs) : Bs × Bool := ((slcpM xs xprefix).1, (slcpM xs xprefix).2)
theorem cpF_A (xs : Bs) (xprefix : Bs) (P : Bs × Bool → Prop) (h : P (cpM xs xprefix)) : cpF xs xprefix (fun k0 k1 => P (k0, k1)) := by
 unfold cpM at h
 unfold cpF
 exact h
theorem cp_F (xs : Bs) (xprefix : Bs) : cpF xs xprefix (fun k0 k1 => (k0, k1) = cpM xs xprefix) :=
 cpF_A xs xprefix (fun z => z = cpM xs xprefix) rfl
theorem cp_c {g : Ghost} (xs : Bs) (xprefix : Bs)  : CallsG Tryz.prog 62 #[sv xs, sv xprefix] g (.tuple #[sv ((cpM xs xprefix).1), .bool (cpM xs xprefix).2]) :=
 (cp_ok xs xprefix _ (cp_F xs xprefix)).gives (by rintro g' H' v _ ⟨r0, r1, rfl, rfl, hK⟩; obtain ⟨rfl, rfl⟩ : r0 = (cpM xs xprefix).1 ∧ r1 = (cpM xs xprefix).2 := ⟨congrArg (fun z => z.1) hK, congrArg (fun z => z.2) hK⟩; rfl)
def digitsF (xs : Bs) (K : Int → Prop) : Prop :=
 tlP xs ([48, 49, 50, 51, 52, 53, 54, 55, 56, 57] : Bs) ∧ K (w6 ((xs.length : Int) - ((tlS xs ([48, 49, 50, 51, 52, 53, 54, 55, 56, 57] : Bs)).length : Int)))
theorem digits_ok {g : Ghost} (xs : Bs) (K : Int → Prop)
  (hF : digitsF xs K) : CallsH Tryz.prog 97 #[sv xs] g [] (fun g' H' v => ∃ (r0 : Int), v = .int .i64 r0 ∧ H' = [] ∧ K r0) := by
 refine CallsH.enter 9 [(0, sv xs)] Tryz.func97 rfl (by kernel_rfl) (by kernel_rfl) (by kernel_rfl) fun w0 => ?_
 refine Ok.seq (Ok.region (Ok.batch 1 [(0, sv xs)] (by kernel_rfl) (Ok.nil (Ok.thenN (Ok.seq (Ok.region (Ok.batch 3 [(4, .int .i64 (xs.length : Int)), (5, sv xs)] (by kernel_rfl) ?_)))))))
 obtain ⟨hp1, hF⟩ := hF
 refine Ok.op rfl (OpOk.callG (v := sv (tlS xs ([48, 49, 50, 51, 52, 53, 54, 55, 56, 57] : Bs))) enr (fun W hW => tl_c xs ([48, 49, 50, 51, 52, 53, 54, 55, 56, 57] : Bs) hp1) rfl ?_)
 refine Ok.batch 3 [(2, .int .i64 (w6 ((xs.length : Int) - ((tlS xs ([48, 49, 50, 51, 52, 53, 54, 55, 56, 57] : Bs)).length : Int))))] (by kernel_rfl) (Ok.nil (Ok.thenN (Ok.ret ?_)))
 exact Ok.resH (vs := [.int .i64 (w6 ((xs.length : Int) - ((tlS xs ([48, 49, 50, 51, 52, 53, 54, 55, 56, 57] : Bs)).length : Int)))]) (.inl rfl) rfl (.cons (.tmp rfl) .nil) (Gext.refl w0 g) ⟨(w6 ((xs.length : Int) - ((tlS xs ([48, 49, 50, 51, 52, 53, 54, 55, 56, 57] : Bs)).length : Int))), rfl, rfl, hF⟩
def digitsM (xs : Bs) : Int := (w6 ((xs.length : Int) - ((tlS xs ([48, 49, 50, 51, 52, 53, 54, 55, 56, 57] : Bs)).length : Int)))
theorem digitsF_A (xs : Bs) (P : Int → Prop) (h : P (digitsM xs)) : digitsF xs (fun k0 => P k0) := by
 unfold digitsM at h
 unfold digitsF
 refine ⟨?_, ?_⟩
 ·first | exact ⟨by decide, by decide, by decide⟩ | omega | assumption | exact trivial | (have h0 := List.length_pos_iff.mpr (by assumption); omega) | (simp; omega) | (simp at *; omega)
 exact h
theorem digits_F (xs : Bs) : digitsF xs (fun k0 => k0 = digitsM xs) :=
 digitsF_A xs (fun z => z = digitsM xs) rfl
theorem digits_c {g : Ghost} (xs : Bs)  : CallsG Tryz.prog 97 #[sv xs] g (.int .i64 (digitsM xs)) :=
 (digits_ok xs _ (digits_F xs)).gives (by rintro g' H' v _ ⟨r0, rfl, rfl, hK⟩; subst hK; rfl)
def numbV0 (xs : Bs) : Bool :=
 ((!(xs == ([] : Bs))) && ((((xs.getD (Int.toNat 0) 0).toNat : Int) == 43) || (((xs.getD (Int.toNat 0) 0).toNat : Int) == 45)))
def numbV1 (xs : Bs) : Int :=
 (if (numbV0 xs) = true then 1 else 0)
def numbV2 (xs : Bs) : Int :=
 (if (hpM (xs.drop (Int.toNat (w6 ((numbV1 xs) + (digitsM (xs.drop (Int.toNat (numbV1 xs)))))))) ([46] : Bs)) = true then (digitsM ((xs.drop (Int.toNat (w6 ((numbV1 xs) + (digitsM (xs.drop (Int.toNat (numbV1 xs)))))))).drop (Int.toNat 1))) else 0)
def numbV3 (xs : Bs) : Int :=
 (if (decide ((numbV2 xs) > 0)) = true then w6 ((w6 ((numbV1 xs) + (digitsM (xs.drop (Int.toNat (numbV1 xs)))))) + (w6 (1 + (numbV2 xs)))) else w6 ((numbV1 xs) + (digitsM (xs.drop (Int.toNat (numbV1 xs))))))
def numbV4 (xs : Bs) : Bs :=
 (if (decide ((numbV2 xs) > 0)) = true then (xs.take (Int.toNat (w6 ((w6 ((w6 ((numbV1 xs) + (digitsM (xs.drop (Int.toNat (numbV1 xs)))))) + 1)) + (numbV2 xs))))).drop (Int.toNat (w6 ((w6 ((numbV1 xs) + (digitsM (xs.drop (Int.toNat (numbV1 xs)))))) + 1))) else ([] : Bs))
def numbV6 (xs : Bs) (x79l68 : Int) (ybs8_0l68 : Int) : Int :=
 (if (decide (x79l68 < ((numbV4 xs).length : Int))) = true then (if 1000000000 < (w6 ((w6 (10 * ybs8_0l68)) + (w6 (IntKind.wrap .u8 ((((numbV4 xs).getD (Int.toNat x79l68) 0).toNat : Int) - 48))))) then 1000000000 else (w6 ((w6 (10 * ybs8_0l68)) + (w6 (IntKind.wrap .u8 ((((numbV4 xs).getD (Int.toNat x79l68) 0).toNat : Int) - 48)))))) else (if 1000000000 < (w6 ((w6 (10 * ybs8_0l68)) + (w6 (IntKind.wrap .u8 (48 - 48))))) then 1000000000 else (w6 ((w6 (10 * ybs8_0l68)) + (w6 (IntKind.wrap .u8 (48 - 48)))))))
def numbV9 (xs : Bs) (ybs8_0l68 : Int) : Int :=
 (if (((xs.getD (Int.toNat 0) 0).toNat : Int) == 45) = true then w6 (0 - ybs8_0l68) else ybs8_0l68)
def numbj75 (xs : Bs) (x79l68 : Int) (ybs8_0l68 : Int) (C68 : Int → Int → Prop) : Prop :=
 C68 (w6 (x79l68 + 1)) (numbV6 xs x79l68 ybs8_0l68)
def numbj85 (xs : Bs) (K : Int → Int → Prop) (ybs8_0l68 : Int) : Prop :=
 K (numbV9 xs ybs8_0l68) (numbV3 xs)
def numbl68b (xs : Bs) (K : Int → Int → Prop) (x79l68 : Int) (ybs8_0l68 : Int) (C68 : Int → Int → Prop) : Prop :=
 ((decide (x79l68 < 3)) = true → ((decide (x79l68 < ((numbV4 xs).length : Int))) = true → (0 : Int) ≤ x79l68 ∧ Int.toNat x79l68 < (numbV4 xs).length ∧ numbj75 xs x79l68 ybs8_0l68 C68) ∧ ((decide (x79l68 < ((numbV4 xs).length : Int))) = false → numbj75 xs x79l68 ybs8_0l68 C68)) ∧ ((decide (x79l68 < 3)) = false → (0 : Int) ≤ 0 ∧ Int.toNat 0 < xs.length ∧ (((((xs.getD (Int.toNat 0) 0).toNat : Int) == 45)) = true → numbj85 xs K ybs8_0l68) ∧ (((((xs.getD (Int.toNat 0) 0).toNat : Int) == 45)) = false → numbj85 xs K ybs8_0l68))
def numbl68 (xs : Bs) (K : Int → Int → Prop) : Nat → Int → Int → Prop
 | 0, _, _ => False
 | k + 1, x79l68, ybs8_0l68 => numbl68b xs K x79l68 ybs8_0l68 (numbl68 xs K k)
def numbj56 (xs : Bs) (K : Int → Int → Prop) (ybs8_0l39 : Int) : Prop :=
 ∃ k, numbl68 xs K k 0 ybs8_0l39
def numbl39b (xs : Bs) (K : Int → Int → Prop) (x54l39 : Int) (ybs8_0l39 : Int) (C39 : Int → Int → Prop) : Prop :=
 ((decide (x54l39 < ((intsOf ((xs.take (Int.toNat (w6 ((numbV1 xs) + (digitsM (xs.drop (Int.toNat (numbV1 xs)))))))).drop (Int.toNat (numbV1 xs)))).length : Int))) = true → (0 : Int) ≤ x54l39 ∧ Int.toNat x54l39 < (intsOf ((xs.take (Int.toNat (w6 ((numbV1 xs) + (digitsM (xs.drop (Int.toNat (numbV1 xs)))))))).drop (Int.toNat (numbV1 xs)))).length ∧ C39 (w6 (x54l39 + 1)) (if 1000000000 < (w6 ((w6 (10 * ybs8_0l39)) + (w6 (IntKind.wrap .u8 (((intsOf ((xs.take (Int.toNat (w6 ((numbV1 xs) + (digitsM (xs.drop (Int.toNat (numbV1 xs)))))))).drop (Int.toNat (numbV1 xs)))).getD (Int.toNat x54l39) default) - 48))))) then 1000000000 else (w6 ((w6 (10 * ybs8_0l39)) + (w6 (IntKind.wrap .u8 (((intsOf ((xs.take (Int.toNat (w6 ((numbV1 xs) + (digitsM (xs.drop (Int.toNat (numbV1 xs)))))))).drop (Int.toNat (numbV1 xs)))).getD (Int.toNat x54l39) default) - 48))))))) ∧ ((decide (x54l39 < ((intsOf ((xs.take (Int.toNat (w6 ((numbV1 xs) + (digitsM (xs.drop (Int.toNat (numbV1 xs)))))))).drop (Int.toNat (numbV1 xs)))).length : Int))) = false → ((decide ((numbV2 xs) > 0)) = true → (0 : Int) ≤ (w6 ((w6 ((numbV1 xs) + (digitsM (xs.drop (Int.toNat (numbV1 xs)))))) + 1)) ∧ ((w6 ((w6 ((numbV1 xs) + (digitsM (xs.drop (Int.toNat (numbV1 xs)))))) + 1)) : Int) ≤ (w6 ((w6 ((w6 ((numbV1 xs) + (digitsM (xs.drop (Int.toNat (numbV1 xs)))))) + 1)) + (numbV2 xs))) ∧ (w6 ((w6 ((w6 ((numbV1 xs) + (digitsM (xs.drop (Int.toNat (numbV1 xs)))))) + 1)) + (numbV2 xs))) ≤ (xs.length : Int) ∧ numbj56 xs K ybs8_0l39) ∧ ((decide ((numbV2 xs) > 0)) = false → numbj56 xs K ybs8_0l39))
def numbl39 (xs : Bs) (K : Int → Int → Prop) : Nat → Int → Int → Prop
 | 0, _, _ => False
 | k + 1, x54l39, ybs8_0l39 => numbl39b xs K x54l39 ybs8_0l39 (numbl39 xs K k)
def numbj15 (xs : Bs) (K : Int → Int → Prop) : Prop :=
 ((((w6 ((digitsM (xs.drop (Int.toNat (numbV1 xs)))) + (numbV2 xs))) == 0)) = true → K 0 0) ∧ ((((w6 ((digitsM (xs.drop (Int.toNat (numbV1 xs)))) + (numbV2 xs))) == 0)) = false → (0 : Int) ≤ (numbV1 xs) ∧ ((numbV1 xs) : Int) ≤ (w6 ((numbV1 xs) + (digitsM (xs.drop (Int.toNat (numbV1 xs)))))) ∧ (w6 ((numbV1 xs) + (digitsM (xs.drop (Int.toNat (numbV1 xs)))))) ≤ (xs.length : Int) ∧ ((xs.take (Int.toNat (w6 ((numbV1 xs) + (digitsM (xs.drop (Int.toNat (numbV1 xs)))))))).drop (Int.toNat (numbV1 xs))).length ≤ maxLen ∧ ∃ k, numbl39 xs K k 0 0)
def numbj5 (xs : Bs) (K : Int → Int → Prop) : Prop :=
 (0 : Int) ≤ (numbV1 xs) ∧ ((numbV1 xs) : Int) ≤ (xs.length : Int) ∧ (xs.length : Int) ≤ (xs.length : Int) ∧ (0 : Int) ≤ (w6 ((numbV1 xs) + (digitsM (xs.drop (Int.toNat (numbV1 xs)))))) ∧ ((w6 ((numbV1 xs) + (digitsM (xs.drop (Int.toNat (numbV1 xs)))))) : Int) ≤ (xs.length : Int) ∧ (xs.length : Int) ≤ (xs.length : Int) ∧ (((hpM (xs.drop (Int.toNat (w6 ((numbV1 xs) + (digitsM (xs.drop (Int.toNat (numbV1 xs)))))))) ([46] : Bs))) = true → (0 : Int) ≤ 1 ∧ (1 : Int) ≤ ((xs.drop (Int.toNat (w6 ((numbV1 xs) + (digitsM (xs.drop (Int.toNat (numbV1 xs)))))))).length : Int) ∧ ((xs.drop (Int.toNat (w6 ((numbV1 xs) + (digitsM (xs.drop (Int.toNat (numbV1 xs)))))))).length : Int) ≤ ((xs.drop (Int.toNat (w6 ((numbV1 xs) + (digitsM (xs.drop (Int.toNat (numbV1 xs)))))))).length : Int) ∧ numbj15 xs K) ∧ (((hpM (xs.drop (Int.toNat (w6 ((numbV1 xs) + (digitsM (xs.drop (Int.toNat (numbV1 xs)))))))) ([46] : Bs))) = false → numbj15 xs K)
def numbj6 (xs : Bs) (K : Int → Int → Prop) : Prop :=
 (((numbV0 xs)) = true → numbj5 xs K) ∧ (((numbV0 xs)) = false → numbj5 xs K)
def numbF (xs : Bs) (K : Int → Int → Prop) : Prop :=
 ((!(xs == ([] : Bs))) = true → (0 : Int) ≤ 0 ∧ Int.toNat 0 < xs.length ∧ (((((xs.getD (Int.toNat 0) 0).toNat : Int) == 43)) = true → numbj6 xs K) ∧ (((((xs.getD (Int.toNat 0) 0).toNat : Int) == 43)) = false → numbj6 xs K)) ∧ ((!(xs == ([] : Bs))) = false → numbj6 xs K)
theorem numb_ok {g : Ghost} (xs : Bs) (K : Int → Int → Prop)
  (hF : numbF xs K) : CallsH Tryz.prog 69 #[sv xs] g [] (fun g' H' v => ∃ (r0 : Int), ∃ (r1 : Int), v = .tuple #[.int .i64 r0, .int .i64 r1] ∧ H' = [] ∧ K r0 r1) := by
 refine CallsH.enter 101 [(0, sv xs)] Tryz.func69 rfl (by kernel_rfl) (by kernel_rfl) (by kernel_rfl) fun w0 => ?_
 refine Ok.seq (Ok.region (Ok.batch 2 [(0, sv xs)] (by kernel_rfl) (Ok.nil (Ok.thenN (Ok.seq (Ok.region (Ok.bat 1 [0] [(4, .int .i64 0)] ?_)))))))
 refine Ok.nil (Ok.thenN (Ok.cut (fun a W => ∃ gj5 : Ghost, Gext w0 g gj5 ∧ StA 101 [(0, sv xs), (4, .int .i64 (numbV1 xs))] a ∧ StW w0 [] gj5 W ∧ numbj5 xs K) ?_ ?_))
 ·
  refine Ok.cut (fun a W => ∃ gj6 : Ghost, Gext w0 g gj6 ∧ StA 101 [(0, sv xs), (4, .int .i64 0), (26, .bool (numbV0 xs))] a ∧ StW w0 [] gj6 W ∧ numbj6 xs K) ?_ ?_
  ·
   refine Ok.region (Ok.bat 1 [0, 4] [(15, sv xs)] ?_)
   refine Ok.op rfl (OpOk.step (v := .bool (!(xs == ([] : Bs)))) (Yields.strCmp (f := .neq) (a := xs) (b := ([] : Bs)) (by kernel_rfl) (by kernel_rfl) rfl) rfl rfl (Ok.bat 1 [0, 4] [(17, .bool (!(xs == ([] : Bs))))] ?_))
   refine Ok.boolAt 17 (!(xs == ([] : Bs))) rfl (fun hc20 => ?_) (fun hc20 => ?_)
   ·replace hF := hF.1 hc20
    refine Ok.bat 1 [0, 4] [(17, .bool true), (18, sv xs)] ?_
    obtain ⟨h021, h121, hF⟩ := hF
    have he21 := get_of (l := xs) (0 : UInt8) h121
    generalize hg21 : (xs.getD (Int.toNat 0) 0) = e21 at he21 hF ⊢
    refine Ok.opYes (j := 2) (d := 17) (want := true) (b := true) rfl (by kernel_rfl) (by kernel_rfl) rfl (OpOk.step (v := .int .u8 (e21.toNat : Int)) (Yields.indexStr (k := .i64) (i := 0) (s := xs) (b := e21) (by kernel_rfl) (by kernel_rfl) Tryz.underlying9 h021 he21) rfl rfl (Ok.bat 2 [0, 4, 17] [(21, .bool ((e21.toNat : Int) == 43))] ?_))
    refine Ok.boolAt 21 (((e21.toNat : Int) == 43)) rfl (fun hc22 => ?_) (fun hc22 => ?_)
    ·replace hF := hF.1 hc22
     refine Ok.bat 5 [0, 4] [(26, .bool true)] ?_
     refine Ok.nil (Ok.thenN ?_)
     subst hg21
     refine Ok.reval 26 rfl (show (.bool true : Value) = .bool (numbV0 xs) from congrArg (Value.bool) ((Eq.trans (mor_t hc22) (mand_t hc20)))) ?_
     exact fun a W hA hW => ⟨g, (Gext.refl w0 g), hA.sub (by kernel_rfl), hW, hF⟩
    ·replace hF := hF.2 hc22
     refine Ok.bat 1 [0, 4, 17] [(21, .bool false), (22, sv xs)] ?_
     refine Ok.opYes (j := 6) (d := 21) (want := false) (b := false) rfl (by kernel_rfl) (by kernel_rfl) rfl (OpOk.step (v := .int .u8 (e21.toNat : Int)) (Yields.indexStr (k := .i64) (i := 0) (s := xs) (b := e21) (by kernel_rfl) (by kernel_rfl) Tryz.underlying9 h021 he21) rfl rfl (Ok.bat 3 [0, 4] [(26, .bool ((e21.toNat : Int) == 45))] ?_))
     refine Ok.nil (Ok.thenN ?_)
     subst hg21
     refine Ok.reval 26 rfl (show (.bool (((xs.getD (Int.toNat 0) 0).toNat : Int) == 45) : Value) = .bool (numbV0 xs) from congrArg (Value.bool) ((Eq.trans (mor_f hc22) (mand_t hc20)))) ?_
     exact fun a W hA hW => ⟨g, (Gext.refl w0 g), hA.sub (by kernel_rfl), hW, hF⟩
   ·replace hF := hF.2 hc20
    refine Ok.bat 9 [0, 4] [(26, .bool false)] ?_
    refine Ok.nil (Ok.thenN (Ok.reval 26 rfl (show (.bool false : Value) = .bool (numbV0 xs) from congrArg (Value.bool) (mand_f hc20)) ?_))
    exact fun a W hA hW => ⟨g, (Gext.refl w0 g), hA.sub (by kernel_rfl), hW, hF⟩
  ·
   clear hF
   rintro a W ⟨gj6, hxj6, hA, hW, hF⟩
   refine (?_ : Ok _ _ _ _ _ _) a W hA hW
   clear hA hW
   refine Ok.cond (b := (numbV0 xs)) rfl (fun hc19 => ?_) (fun hc19 => ?_)
   ·replace hF := hF.1 hc19
    refine Ok.region (Ok.bat 1 [0] [(4, .int .i64 1)] ?_)
    refine Ok.nil (Ok.thenN (Ok.reval 4 rfl (show (.int .i64 1 : Value) = .int .i64 (numbV1 xs) from congrArg (Value.int .i64) ((if_t hc19).symm)) ?_))
    exact fun a W hA hW => ⟨gj6, hxj6, hA.sub (by kernel_rfl), hW, hF⟩
   ·replace hF := hF.2 hc19
    refine Ok.skip (Ok.thenN (Ok.reval 4 rfl (show (.int .i64 0 : Value) = .int .i64 (numbV1 xs) from congrArg (Value.int .i64) ((if_f hc19).symm)) ?_))
    exact fun a W hA hW => ⟨gj6, hxj6, hA.sub (by kernel_rfl), hW, hF⟩
 ·
  clear hF
  rintro a W ⟨gj5, hxj5, hA, hW, hF⟩
  refine (?_ : Ok _ _ _ _ _ _) a W hA hW
  clear hA hW
  refine Ok.seq (Ok.region (Ok.bat 2 [0, 4] [(27, sv xs), (28, .int .i64 (numbV1 xs))] ?_))
  obtain ⟨h01, h11, h21, hF⟩ := hF
  refine Ok.op rfl (OpOk.step (v := sv (xs.drop (Int.toNat (numbV1 xs)))) (Yields.sliceStr (s := xs) (l := (numbV1 xs)) (h := (xs.length : Int)) (by kernel_rfl) Tryz.underlying9 (.inl ⟨_, _, rfl, rfl⟩) (.inr ⟨rfl, rfl⟩) h01 h11 h21 (xs.drop (Int.toNat (numbV1 xs))) (by rw [show ((xs.length : Int)).toNat = xs.length from Int.toNat_natCast _, List.take_length])) rfl rfl (Ok.op rfl (OpOk.callG (v := .int .i64 (digitsM (xs.drop (Int.toNat (numbV1 xs))))) enr (fun W hW => digits_c (xs.drop (Int.toNat (numbV1 xs)))) rfl ?_)))
  refine Ok.bat 1 [0, 4] [(5, .int .i64 (digitsM (xs.drop (Int.toNat (numbV1 xs)))))] ?_
  refine Ok.nil (Ok.thenN (Ok.seq (Ok.region (Ok.bat 1 [0, 4, 5] [(6, .int .i64 0)] ?_))))
  refine Ok.nil (Ok.thenN (Ok.cut (fun a W => ∃ gj15 : Ghost, Gext w0 gj5 gj15 ∧ StA 101 [(0, sv xs), (4, .int .i64 (numbV1 xs)), (5, .int .i64 (digitsM (xs.drop (Int.toNat (numbV1 xs))))), (6, .int .i64 (numbV2 xs))] a ∧ StW w0 [] gj15 W ∧ numbj15 xs K) ?_ ?_))
  ·
   refine Ok.seq (Ok.region (Ok.bat 4 [0, 4, 5, 6] [(31, sv xs), (34, .int .i64 (w6 ((numbV1 xs) + (digitsM (xs.drop (Int.toNat (numbV1 xs)))))))] ?_))
   obtain ⟨h016, h116, h216, hF⟩ := hF
   refine Ok.op rfl (OpOk.step (v := sv (xs.drop (Int.toNat (w6 ((numbV1 xs) + (digitsM (xs.drop (Int.toNat (numbV1 xs))))))))) (Yields.sliceStr (s := xs) (l := (w6 ((numbV1 xs) + (digitsM (xs.drop (Int.toNat (numbV1 xs))))))) (h := (xs.length : Int)) (by kernel_rfl) Tryz.underlying9 (.inl ⟨_, _, rfl, rfl⟩) (.inr ⟨rfl, rfl⟩) h016 h116 h216 (xs.drop (Int.toNat (w6 ((numbV1 xs) + (digitsM (xs.drop (Int.toNat (numbV1 xs)))))))) (by rw [show ((xs.length : Int)).toNat = xs.length from Int.toNat_natCast _, List.take_length])) rfl rfl (Ok.bat 1 [0, 4, 5, 6] [(7, sv (xs.drop (Int.toNat (w6 ((numbV1 xs) + (digitsM (xs.drop (Int.toNat (numbV1 xs)))))))))] ?_))
   refine Ok.nil (Ok.thenN (Ok.seq (Ok.region (Ok.bat 1 [0, 4, 5, 6, 7] [(36, sv (xs.drop (Int.toNat (w6 ((numbV1 xs) + (digitsM (xs.drop (Int.toNat (numbV1 xs)))))))))] ?_))))
   refine Ok.op rfl (OpOk.callG (v := .bool (hpM (xs.drop (Int.toNat (w6 ((numbV1 xs) + (digitsM (xs.drop (Int.toNat (numbV1 xs)))))))) ([46] : Bs))) enr (fun W hW => hp_c (xs.drop (Int.toNat (w6 ((numbV1 xs) + (digitsM (xs.drop (Int.toNat (numbV1 xs)))))))) ([46] : Bs)) rfl ?_)
   refine Ok.nil (Ok.thenN (Ok.cond (b := (hpM (xs.drop (Int.toNat (w6 ((numbV1 xs) + (digitsM (xs.drop (Int.toNat (numbV1 xs)))))))) ([46] : Bs))) rfl (fun hc17 => ?_) (fun hc17 => ?_)))
   ·replace hF := hF.1 hc17
    refine Ok.region (Ok.bat 1 [0, 4, 5] [(38, sv (xs.drop (Int.toNat (w6 ((numbV1 xs) + (digitsM (xs.drop (Int.toNat (numbV1 xs)))))))))] ?_)
    obtain ⟨h018, h118, h218, hF⟩ := hF
    refine Ok.op rfl (OpOk.step (v := sv ((xs.drop (Int.toNat (w6 ((numbV1 xs) + (digitsM (xs.drop (Int.toNat (numbV1 xs)))))))).drop (Int.toNat 1))) (Yields.sliceStr (s := (xs.drop (Int.toNat (w6 ((numbV1 xs) + (digitsM (xs.drop (Int.toNat (numbV1 xs))))))))) (l := 1) (h := ((xs.drop (Int.toNat (w6 ((numbV1 xs) + (digitsM (xs.drop (Int.toNat (numbV1 xs)))))))).length : Int)) (by kernel_rfl) Tryz.underlying9 (.inl ⟨_, _, rfl, rfl⟩) (.inr ⟨rfl, rfl⟩) h018 h118 h218 ((xs.drop (Int.toNat (w6 ((numbV1 xs) + (digitsM (xs.drop (Int.toNat (numbV1 xs)))))))).drop (Int.toNat 1)) (by rw [show (((xs.drop (Int.toNat (w6 ((numbV1 xs) + (digitsM (xs.drop (Int.toNat (numbV1 xs)))))))).length : Int)).toNat = (xs.drop (Int.toNat (w6 ((numbV1 xs) + (digitsM (xs.drop (Int.toNat (numbV1 xs)))))))).length from Int.toNat_natCast _, List.take_length])) rfl rfl (Ok.op rfl (OpOk.callG (v := .int .i64 (digitsM ((xs.drop (Int.toNat (w6 ((numbV1 xs) + (digitsM (xs.drop (Int.toNat (numbV1 xs)))))))).drop (Int.toNat 1)))) enr (fun W hW => digits_c ((xs.drop (Int.toNat (w6 ((numbV1 xs) + (digitsM (xs.drop (Int.toNat (numbV1 xs)))))))).drop (Int.toNat 1))) rfl ?_)))
    refine Ok.bat 1 [0, 4, 5] [(6, .int .i64 (digitsM ((xs.drop (Int.toNat (w6 ((numbV1 xs) + (digitsM (xs.drop (Int.toNat (numbV1 xs)))))))).drop (Int.toNat 1))))] ?_
    refine Ok.nil (Ok.thenN (Ok.reval 6 rfl (show (.int .i64 (digitsM ((xs.drop (Int.toNat (w6 ((numbV1 xs) + (digitsM (xs.drop (Int.toNat (numbV1 xs)))))))).drop (Int.toNat 1))) : Value) = .int .i64 (numbV2 xs) from congrArg (Value.int .i64) ((if_t hc17).symm)) ?_))
    exact fun a W hA hW => ⟨gj5, (Gext.refl w0 gj5), hA.sub (by kernel_rfl), hW, hF⟩
   ·replace hF := hF.2 hc17
    refine Ok.skip (Ok.thenN (Ok.reval 6 rfl (show (.int .i64 0 : Value) = .int .i64 (numbV2 xs) from congrArg (Value.int .i64) ((if_f hc17).symm)) ?_))
    exact fun a W hA hW => ⟨gj5, (Gext.refl w0 gj5), hA.sub (by kernel_rfl), hW, hF⟩
  ·
   clear hF
   rintro a W ⟨gj15, hxj15, hA, hW, hF⟩
   refine (?_ : Ok _ _ _ _ _ _) a W hA hW
   clear hA hW
   refine Ok.seq (Ok.seq (Ok.region (Ok.bat 4 [0, 4, 5, 6] [(44, .bool ((w6 ((digitsM (xs.drop (Int.toNat (numbV1 xs)))) + (numbV2 xs))) == 0))] ?_)))
   refine Ok.nil (Ok.thenN (Ok.cond (b := ((w6 ((digitsM (xs.drop (Int.toNat (numbV1 xs)))) + (numbV2 xs))) == 0)) rfl (fun hc2 => ?_) (fun hc2 => ?_)))
   ·replace hF := hF.1 hc2
    refine Ok.seq (Ok.region (Ok.batch 2 [(2, .int .i64 0), (3, .int .i64 0)] (by kernel_rfl) (Ok.nil (Ok.thenN (Ok.ret (Ok.thenR ?_))))))
    exact Ok.resH (vs := [.int .i64 0, .int .i64 0]) (.inl rfl) rfl (.cons (.tmp rfl) (.cons (.tmp rfl) .nil)) (hxj5.trans hxj15) ⟨0, 0, rfl, rfl, hF⟩
   ·replace hF := hF.2 hc2
    refine Ok.skip (Ok.thenN (Ok.seq (Ok.region (Ok.op rfl (OpOk.alloc (z := .int .i64 0) (cs := #[.int .i64 0]) (by kernel_rfl) (by kernel_rfl) rfl fun bs8 => ?_)))))
    refine Ok.op rfl (OpOk.sto (k := 1) (v := .int .i64 0) 0 #[.int .i64 0] rfl rfl rfl ?_)
    refine Ok.nil (Ok.thenN (Ok.seq (Ok.region (Ok.bat 2 [0, 4, 5, 6] [(8, pv bs8 0), (9, .func (.func 98) #[] #[pv bs8 0])] ?_))))
    refine Ok.nil (Ok.thenN (Ok.seq (Ok.seq (Ok.region (Ok.bat 5 [0, 4, 5, 6, 8, 9] [(46, sv xs), (47, .int .i64 (numbV1 xs)), (50, .int .i64 (w6 ((numbV1 xs) + (digitsM (xs.drop (Int.toNat (numbV1 xs)))))))] ?_)))))
    obtain ⟨h04, h14, h24, hF⟩ := hF
    refine Ok.op rfl (OpOk.step (v := sv ((xs.take (Int.toNat (w6 ((numbV1 xs) + (digitsM (xs.drop (Int.toNat (numbV1 xs)))))))).drop (Int.toNat (numbV1 xs)))) (Yields.sliceStr (s := xs) (l := (numbV1 xs)) (h := (w6 ((numbV1 xs) + (digitsM (xs.drop (Int.toNat (numbV1 xs))))))) (by kernel_rfl) Tryz.underlying9 (.inl ⟨_, _, rfl, rfl⟩) (.inl ⟨_, _, rfl, rfl⟩) h04 h14 h24 ((xs.take (Int.toNat (w6 ((numbV1 xs) + (digitsM (xs.drop (Int.toNat (numbV1 xs)))))))).drop (Int.toNat (numbV1 xs))) rfl) rfl rfl ?_)
    obtain ⟨hm5, hF⟩ := hF
    refine Ok.op rfl (OpOk.bytesRo (s := (xs.take (Int.toNat (w6 ((numbV1 xs) + (digitsM (xs.drop (Int.toNat (numbV1 xs)))))))).drop (Int.toNat (numbV1 xs))) (by kernel_rfl) Tryz.underlying9 Tryz.underlying23 Tryz.underlying5 hm5 rfl fun g5 a5 c5 hx5 hR5 => ?_)
    refine Ok.bat 2 [0, 4, 5, 6, 8, 9] [(52, .slice a5 (intsOf ((xs.take (Int.toNat (w6 ((numbV1 xs) + (digitsM (xs.drop (Int.toNat (numbV1 xs)))))))).drop (Int.toNat (numbV1 xs)))).length c5), (53, .int .i64 ((intsOf ((xs.take (Int.toNat (w6 ((numbV1 xs) + (digitsM (xs.drop (Int.toNat (numbV1 xs)))))))).drop (Int.toNat (numbV1 xs)))).length : Int)), (54, .int .i64 0)] ?_
    refine Ok.nil (Ok.thenN (Ok.block ?_))
    obtain ⟨k, hF⟩ := hF
    refine Ok.loop (fun k a W => ∃ gl39 : Ghost, Gext w0 g5 gl39 ∧ ∃ (x54l39 : Int) (ybs8_0l39 : Int), StA 101 [(0, sv xs), (4, .int .i64 (numbV1 xs)), (5, .int .i64 (digitsM (xs.drop (Int.toNat (numbV1 xs))))), (6, .int .i64 (numbV2 xs)), (8, pv bs8 0), (9, .func (.func 98) #[] #[pv bs8 0]), (52, .slice a5 (intsOf ((xs.take (Int.toNat (w6 ((numbV1 xs) + (digitsM (xs.drop (Int.toNat (numbV1 xs)))))))).drop (Int.toNat (numbV1 xs)))).length c5), (53, .int .i64 ((intsOf ((xs.take (Int.toNat (w6 ((numbV1 xs) + (digitsM (xs.drop (Int.toNat (numbV1 xs)))))))).drop (Int.toNat (numbV1 xs)))).length : Int)), (54, .int .i64 x54l39)] a ∧ StW w0 [.blk bs8 (.cells #[.int .i64 ybs8_0l39] 3)] gl39 W ∧ numbl39 xs K k x54l39 ybs8_0l39) k ?_ ?_
    ·
     exact fun a W hA hW => ⟨g5, (Gext.refl w0 g5), 0, 0, hA.sub (by kernel_rfl), hW, hF⟩
    ·
     clear hF
     rintro k39 a W ⟨gl39, hxl39, x54l39, ybs8_0l39, hA, hW, hF⟩
     cases k39 with
     | zero => exact (hF : False).elim
     | succ k39 =>
      refine (?_ : Ok _ _ _ _ _ _) a W hA hW
      clear hA hW
      replace hR5 := hR5.mono hxl39.1
      refine Ok.seq (Ok.region (Ok.bat 1 [0, 4, 5, 6, 8, 9, 52, 53, 54] [(55, .bool (decide (x54l39 < ((intsOf ((xs.take (Int.toNat (w6 ((numbV1 xs) + (digitsM (xs.drop (Int.toNat (numbV1 xs)))))))).drop (Int.toNat (numbV1 xs)))).length : Int))))] ?_))
      refine Ok.nil (Ok.thenN (Ok.seq (Ok.cond (b := decide (x54l39 < ((intsOf ((xs.take (Int.toNat (w6 ((numbV1 xs) + (digitsM (xs.drop (Int.toNat (numbV1 xs)))))))).drop (Int.toNat (numbV1 xs)))).length : Int))) rfl (fun hc6 => ?_) (fun hc6 => ?_))))
      ·replace hF := hF.1 hc6
       refine Ok.skip (Ok.thenN (Ok.seq (Ok.block (Ok.seq (Ok.region ?_)))))
       obtain ⟨h08, h18, hF⟩ := hF
       have he8 := get_of (l := (intsOf ((xs.take (Int.toNat (w6 ((numbV1 xs) + (digitsM (xs.drop (Int.toNat (numbV1 xs)))))))).drop (Int.toNat (numbV1 xs))))) (default : Int) h18
       generalize hg8 : ((intsOf ((xs.take (Int.toNat (w6 ((numbV1 xs) + (digitsM (xs.drop (Int.toNat (numbV1 xs)))))))).drop (Int.toNat (numbV1 xs)))).getD (Int.toNat x54l39) default) = e8 at he8 hF ⊢
       refine Ok.op rfl (OpOk.indexRo (e := .int .u8) (i := x54l39) (el := e8) rfl rfl Tryz.underlying23 (by kernel_rfl) hR5 h08 he8 rfl fun q7 o7 cs7 _ hat7 hr7 => ?_)
       obtain rfl := hr7
       replace hat7 : At gl39 q7 o7 [.int .u8 e8] := hat7
       refine Ok.op rfl (OpOk.step (v := .int .u8 e8) (Yields.loadRo 0 hat7 (by kernel_rfl) Tryz.underlying5 rfl (by kernel_rfl)) rfl rfl (Ok.bat 1 [0, 4, 5, 6, 8, 9, 52, 53, 54] [(11, .int .u8 e8)] ?_))
       refine Ok.nil (Ok.thenN (Ok.region (Ok.bat 2 [0, 4, 5, 6, 8, 9, 52, 53, 54] [(58, .func (.func 98) #[] #[pv bs8 0]), (59, .int .u8 e8)] ?_)))
       refine Ok.op rfl (OpOk.inline (args := #[.int .u8 e8, pv bs8 0]) 10 [(0, .int .u8 e8), (1, pv bs8 0)] enr Tryz.func98 rfl rfl rfl rfl (Ok.region (Ok.op rfl (OpOk.step (v := .int .i64 ybs8_0l39) (Yields.load 0 rfl rfl Tryz.underlying3 rfl (by kernel_rfl)) rfl rfl (Ok.batch 6 [(1, pv bs8 0), (9, .int .i64 (if 1000000000 < (w6 ((w6 (10 * ybs8_0l39)) + (w6 (IntKind.wrap .u8 (e8 - 48))))) then 1000000000 else (w6 ((w6 (10 * ybs8_0l39)) + (w6 (IntKind.wrap .u8 (e8 - 48)))))))] (by kernel_rfl) (Ok.op rfl (OpOk.sto (k := 1) (v := .int .i64 (if 1000000000 < (w6 ((w6 (10 * ybs8_0l39)) + (w6 (IntKind.wrap .u8 (e8 - 48))))) then 1000000000 else (w6 ((w6 (10 * ybs8_0l39)) + (w6 (IntKind.wrap .u8 (e8 - 48))))))) 0 #[.int .i64 (if 1000000000 < (w6 ((w6 (10 * ybs8_0l39)) + (w6 (IntKind.wrap .u8 (e8 - 48))))) then 1000000000 else (w6 ((w6 (10 * ybs8_0l39)) + (w6 (IntKind.wrap .u8 (e8 - 48))))))] rfl rfl rfl ?_)))))))
       refine Ok.nil (Ok.back (vs := []) (.inr rfl) rfl .nil rfl (Ok.nil (Ok.blockN (Ok.thenN (Ok.region (Ok.batch 2 [(0, sv xs), (4, .int .i64 (numbV1 xs)), (5, .int .i64 (digitsM (xs.drop (Int.toNat (numbV1 xs))))), (6, .int .i64 (numbV2 xs)), (8, pv bs8 0), (9, .func (.func 98) #[] #[pv bs8 0]), (52, .slice a5 (intsOf ((xs.take (Int.toNat (w6 ((numbV1 xs) + (digitsM (xs.drop (Int.toNat (numbV1 xs)))))))).drop (Int.toNat (numbV1 xs)))).length c5), (53, .int .i64 ((intsOf ((xs.take (Int.toNat (w6 ((numbV1 xs) + (digitsM (xs.drop (Int.toNat (numbV1 xs)))))))).drop (Int.toNat (numbV1 xs)))).length : Int)), (54, .int .i64 (w6 (x54l39 + 1)))] (by kernel_rfl) (Ok.nil (Ok.thenN ?_))))))))
       subst hg8
       exact fun a W hA hW => ⟨k39, Nat.lt_succ_self _, gl39, hxl39, w6 (x54l39 + 1), (if 1000000000 < (w6 ((w6 (10 * ybs8_0l39)) + (w6 (IntKind.wrap .u8 (((intsOf ((xs.take (Int.toNat (w6 ((numbV1 xs) + (digitsM (xs.drop (Int.toNat (numbV1 xs)))))))).drop (Int.toNat (numbV1 xs)))).getD (Int.toNat x54l39) default) - 48))))) then 1000000000 else (w6 ((w6 (10 * ybs8_0l39)) + (w6 (IntKind.wrap .u8 (((intsOf ((xs.take (Int.toNat (w6 ((numbV1 xs) + (digitsM (xs.drop (Int.toNat (numbV1 xs)))))))).drop (Int.toNat (numbV1 xs)))).getD (Int.toNat x54l39) default) - 48)))))), hA.sub (by kernel_rfl), hW, hF⟩
      ·replace hF := hF.2 hc6
       refine Ok.exit (Ok.thenE (Ok.thenE (Ok.blockHit (Ok.thenN (Ok.seq (Ok.region (Ok.bat 4 [0, 6, 8, 9] [(12, .int .i64 (w6 ((numbV1 xs) + (digitsM (xs.drop (Int.toNat (numbV1 xs)))))))] ?_)))))))
       refine Ok.nil (Ok.thenN (Ok.seq (Ok.region (Ok.bat 1 [0, 6, 8, 9, 12] [(13, sv ([] : Bs))] ?_))))
       refine Ok.nil (Ok.thenN (Ok.cut (fun a W => ∃ gj56 : Ghost, Gext w0 gl39 gj56 ∧ StA 101 [(0, sv xs), (8, pv bs8 0), (9, .func (.func 98) #[] #[pv bs8 0]), (12, .int .i64 (numbV3 xs)), (13, sv (numbV4 xs))] a ∧ StW w0 [.blk bs8 (.cells #[.int .i64 ybs8_0l39] 3)] gj56 W ∧ numbj56 xs K ybs8_0l39) ?_ ?_))
       ·
        refine Ok.seq (Ok.region (Ok.bat 2 [0, 6, 8, 9, 12, 13] [(66, .bool (decide ((numbV2 xs) > 0)))] ?_))
        refine Ok.nil (Ok.thenN (Ok.cond (b := decide ((numbV2 xs) > 0)) rfl (fun hc14 => ?_) (fun hc14 => ?_)))
        ·replace hF := hF.1 hc14
         refine Ok.seq (Ok.region (Ok.bat 7 [0, 6, 8, 9, 12] [(67, sv xs), (69, .int .i64 (w6 ((w6 ((numbV1 xs) + (digitsM (xs.drop (Int.toNat (numbV1 xs)))))) + 1))), (73, .int .i64 (w6 ((w6 ((w6 ((numbV1 xs) + (digitsM (xs.drop (Int.toNat (numbV1 xs)))))) + 1)) + (numbV2 xs))))] ?_))
         obtain ⟨h015, h115, h215, hF⟩ := hF
         refine Ok.op rfl (OpOk.step (v := sv ((xs.take (Int.toNat (w6 ((w6 ((w6 ((numbV1 xs) + (digitsM (xs.drop (Int.toNat (numbV1 xs)))))) + 1)) + (numbV2 xs))))).drop (Int.toNat (w6 ((w6 ((numbV1 xs) + (digitsM (xs.drop (Int.toNat (numbV1 xs)))))) + 1))))) (Yields.sliceStr (s := xs) (l := (w6 ((w6 ((numbV1 xs) + (digitsM (xs.drop (Int.toNat (numbV1 xs)))))) + 1))) (h := (w6 ((w6 ((w6 ((numbV1 xs) + (digitsM (xs.drop (Int.toNat (numbV1 xs)))))) + 1)) + (numbV2 xs)))) (by kernel_rfl) Tryz.underlying9 (.inl ⟨_, _, rfl, rfl⟩) (.inl ⟨_, _, rfl, rfl⟩) h015 h115 h215 ((xs.take (Int.toNat (w6 ((w6 ((w6 ((numbV1 xs) + (digitsM (xs.drop (Int.toNat (numbV1 xs)))))) + 1)) + (numbV2 xs))))).drop (Int.toNat (w6 ((w6 ((numbV1 xs) + (digitsM (xs.drop (Int.toNat (numbV1 xs)))))) + 1)))) rfl) rfl rfl (Ok.bat 1 [0, 6, 8, 9, 12] [(13, sv ((xs.take (Int.toNat (w6 ((w6 ((w6 ((numbV1 xs) + (digitsM (xs.drop (Int.toNat (numbV1 xs)))))) + 1)) + (numbV2 xs))))).drop (Int.toNat (w6 ((w6 ((numbV1 xs) + (digitsM (xs.drop (Int.toNat (numbV1 xs)))))) + 1)))))] ?_))
         refine Ok.nil (Ok.thenN (Ok.region (Ok.bat 5 [0, 8, 9, 13] [(12, .int .i64 (w6 ((w6 ((numbV1 xs) + (digitsM (xs.drop (Int.toNat (numbV1 xs)))))) + (w6 (1 + (numbV2 xs))))))] ?_)))
         refine Ok.nil (Ok.thenN (Ok.reval 12 rfl (show (.int .i64 (w6 ((w6 ((numbV1 xs) + (digitsM (xs.drop (Int.toNat (numbV1 xs)))))) + (w6 (1 + (numbV2 xs))))) : Value) = .int .i64 (numbV3 xs) from congrArg (Value.int .i64) ((if_t hc14).symm)) (Ok.reval 13 rfl (show (sv ((xs.take (Int.toNat (w6 ((w6 ((w6 ((numbV1 xs) + (digitsM (xs.drop (Int.toNat (numbV1 xs)))))) + 1)) + (numbV2 xs))))).drop (Int.toNat (w6 ((w6 ((numbV1 xs) + (digitsM (xs.drop (Int.toNat (numbV1 xs)))))) + 1)))) : Value) = sv (numbV4 xs) from congrArg ((fun s : Bs => Value.string ⟨⟨s⟩⟩)) ((if_t hc14).symm)) ?_)))
         exact fun a W hA hW => ⟨gl39, (Gext.refl w0 gl39), hA.sub (by kernel_rfl), hW, hF⟩
        ·replace hF := hF.2 hc14
         refine Ok.skip (Ok.thenN (Ok.reval 12 rfl (show (.int .i64 (w6 ((numbV1 xs) + (digitsM (xs.drop (Int.toNat (numbV1 xs)))))) : Value) = .int .i64 (numbV3 xs) from congrArg (Value.int .i64) ((if_f hc14).symm)) (Ok.reval 13 rfl (show (sv ([] : Bs) : Value) = sv (numbV4 xs) from congrArg ((fun s : Bs => Value.string ⟨⟨s⟩⟩)) ((if_f hc14).symm)) ?_)))
         exact fun a W hA hW => ⟨gl39, (Gext.refl w0 gl39), hA.sub (by kernel_rfl), hW, hF⟩
       ·
        clear hF
        rintro a W ⟨gj56, hxj56, hA, hW, hF⟩
        refine (?_ : Ok _ _ _ _ _ _) a W hA hW
        clear hA hW
        refine Ok.seq (Ok.seq (Ok.region (Ok.bat 1 [0, 8, 9, 12, 13] [(79, .int .i64 0)] ?_)))
        refine Ok.nil (Ok.thenN (Ok.block ?_))
        obtain ⟨k, hF⟩ := hF
        refine Ok.loop (fun k a W => ∃ gl68 : Ghost, Gext w0 gj56 gl68 ∧ ∃ (x79l68 : Int) (ybs8_0l68 : Int), StA 101 [(0, sv xs), (8, pv bs8 0), (9, .func (.func 98) #[] #[pv bs8 0]), (12, .int .i64 (numbV3 xs)), (13, sv (numbV4 xs)), (79, .int .i64 x79l68)] a ∧ StW w0 [.blk bs8 (.cells #[.int .i64 ybs8_0l68] 3)] gl68 W ∧ numbl68 xs K k x79l68 ybs8_0l68) k ?_ ?_
        ·
         exact fun a W hA hW => ⟨gj56, (Gext.refl w0 gj56), 0, ybs8_0l39, hA.sub (by kernel_rfl), hW, hF⟩
        ·
         clear hF
         rintro k68 a W ⟨gl68, hxl68, x79l68, ybs8_0l68, hA, hW, hF⟩
         cases k68 with
         | zero => exact (hF : False).elim
         | succ k68 =>
          refine (?_ : Ok _ _ _ _ _ _) a W hA hW
          clear hA hW
          refine Ok.seq (Ok.region (Ok.bat 1 [0, 8, 9, 12, 13, 79] [(80, .bool (decide (x79l68 < 3)))] ?_))
          refine Ok.nil (Ok.thenN (Ok.seq (Ok.cond (b := decide (x79l68 < 3)) rfl (fun hc9 => ?_) (fun hc9 => ?_))))
          ·replace hF := hF.1 hc9
           refine Ok.skip (Ok.thenN (Ok.cut (fun a W => ∃ gj75 : Ghost, Gext w0 gl68 gj75 ∧ StA 101 [(0, sv xs), (8, pv bs8 0), (9, .func (.func 98) #[] #[pv bs8 0]), (12, .int .i64 (numbV3 xs)), (13, sv (numbV4 xs)), (79, .int .i64 x79l68)] a ∧ StW w0 [.blk bs8 (.cells #[.int .i64 (numbV6 xs x79l68 ybs8_0l68)] 3)] gj75 W ∧ numbj75 xs x79l68 ybs8_0l68 (numbl68 xs K k68)) ?_ ?_))
           ·
            refine Ok.block (Ok.seq (Ok.region (Ok.bat 2 [0, 8, 9, 12, 13, 79] [(14, .int .i64 x79l68)] ?_)))
            refine Ok.nil (Ok.thenN (Ok.seq (Ok.region (Ok.bat 4 [0, 8, 9, 12, 13, 14, 79] [(85, .bool (decide (x79l68 < ((numbV4 xs).length : Int))))] ?_))))
            refine Ok.nil (Ok.thenN (Ok.cond (b := decide (x79l68 < ((numbV4 xs).length : Int))) rfl (fun hc10 => ?_) (fun hc10 => ?_)))
            ·replace hF := hF.1 hc10
             refine Ok.region (Ok.bat 3 [0, 8, 9, 12, 13, 79] [(86, .func (.func 98) #[] #[pv bs8 0]), (87, sv (numbV4 xs)), (88, .int .i64 x79l68)] ?_)
             obtain ⟨h011, h111, hF⟩ := hF
             have he11 := get_of (l := (numbV4 xs)) (0 : UInt8) h111
             generalize hg11 : ((numbV4 xs).getD (Int.toNat x79l68) 0) = e11 at he11 hF ⊢
             refine Ok.op rfl (OpOk.step (v := .int .u8 (e11.toNat : Int)) (Yields.indexStr (k := .i64) (i := x79l68) (s := (numbV4 xs)) (b := e11) (by kernel_rfl) (by kernel_rfl) Tryz.underlying9 h011 he11) rfl rfl (Ok.op rfl (OpOk.inline (args := #[.int .u8 (e11.toNat : Int), pv bs8 0]) 10 [(0, .int .u8 (e11.toNat : Int)), (1, pv bs8 0)] enr Tryz.func98 rfl rfl rfl rfl (Ok.region (Ok.op rfl (OpOk.step (v := .int .i64 ybs8_0l68) (Yields.load 0 rfl rfl Tryz.underlying3 rfl (by kernel_rfl)) rfl rfl (Ok.batch 6 [(1, pv bs8 0), (9, .int .i64 (if 1000000000 < (w6 ((w6 (10 * ybs8_0l68)) + (w6 (IntKind.wrap .u8 ((e11.toNat : Int) - 48))))) then 1000000000 else (w6 ((w6 (10 * ybs8_0l68)) + (w6 (IntKind.wrap .u8 ((e11.toNat : Int) - 48)))))))] (by kernel_rfl) (Ok.op rfl (OpOk.sto (k := 1) (v := .int .i64 (if 1000000000 < (w6 ((w6 (10 * ybs8_0l68)) + (w6 (IntKind.wrap .u8 ((e11.toNat : Int) - 48))))) then 1000000000 else (w6 ((w6 (10 * ybs8_0l68)) + (w6 (IntKind.wrap .u8 ((e11.toNat : Int) - 48))))))) 0 #[.int .i64 (if 1000000000 < (w6 ((w6 (10 * ybs8_0l68)) + (w6 (IntKind.wrap .u8 ((e11.toNat : Int) - 48))))) then 1000000000 else (w6 ((w6 (10 * ybs8_0l68)) + (w6 (IntKind.wrap .u8 ((e11.toNat : Int) - 48))))))] rfl rfl rfl ?_)))))))))
             refine Ok.nil (Ok.back (vs := []) (.inr rfl) rfl .nil rfl (Ok.nil (Ok.blockN (Ok.thenN ?_))))
             subst hg11
             refine Ok.heapEq (H' := [.blk bs8 (.cells #[.int .i64 (numbV6 xs x79l68 ybs8_0l68)] 3)]) (econs (congrArg (fun l : List Value => Ent.blk bs8 (.cells ⟨l⟩ 3)) (lcons (congrArg (Value.int .i64) ((if_t hc10).symm)) rfl)) rfl) ?_
             exact fun a W hA hW => ⟨gl68, (Gext.refl w0 gl68), hA.sub (by kernel_rfl), hW, hF⟩
            ·replace hF := hF.2 hc10
             refine Ok.region (Ok.bat 1 [0, 8, 9, 12, 13, 79] [(91, .func (.func 98) #[] #[pv bs8 0])] ?_)
             refine Ok.op rfl (OpOk.inline (args := #[.int .u8 48, pv bs8 0]) 10 [(0, .int .u8 48), (1, pv bs8 0)] enr Tryz.func98 rfl rfl rfl rfl (Ok.region (Ok.op rfl (OpOk.step (v := .int .i64 ybs8_0l68) (Yields.load 0 rfl rfl Tryz.underlying3 rfl (by kernel_rfl)) rfl rfl (Ok.batch 6 [(1, pv bs8 0), (9, .int .i64 (if 1000000000 < (w6 ((w6 (10 * ybs8_0l68)) + (w6 (IntKind.wrap .u8 (48 - 48))))) then 1000000000 else (w6 ((w6 (10 * ybs8_0l68)) + (w6 (IntKind.wrap .u8 (48 - 48)))))))] (by kernel_rfl) (Ok.op rfl (OpOk.sto (k := 1) (v := .int .i64 (if 1000000000 < (w6 ((w6 (10 * ybs8_0l68)) + (w6 (IntKind.wrap .u8 (48 - 48))))) then 1000000000 else (w6 ((w6 (10 * ybs8_0l68)) + (w6 (IntKind.wrap .u8 (48 - 48))))))) 0 #[.int .i64 (if 1000000000 < (w6 ((w6 (10 * ybs8_0l68)) + (w6 (IntKind.wrap .u8 (48 - 48))))) then 1000000000 else (w6 ((w6 (10 * ybs8_0l68)) + (w6 (IntKind.wrap .u8 (48 - 48))))))] rfl rfl rfl ?_)))))))
             refine Ok.nil (Ok.back (vs := []) (.inr rfl) rfl .nil rfl (Ok.nil (Ok.blockN (Ok.thenN (Ok.heapEq (H' := [.blk bs8 (.cells #[.int .i64 (numbV6 xs x79l68 ybs8_0l68)] 3)]) (econs (congrArg (fun l : List Value => Ent.blk bs8 (.cells ⟨l⟩ 3)) (lcons (congrArg (Value.int .i64) ((if_f hc10).symm)) rfl)) rfl) ?_)))))
             exact fun a W hA hW => ⟨gl68, (Gext.refl w0 gl68), hA.sub (by kernel_rfl), hW, hF⟩
           ·
            clear hF
            rintro a W ⟨gj75, hxj75, hA, hW, hF⟩
            refine (?_ : Ok _ _ _ _ _ _) a W hA hW
            clear hA hW
            refine Ok.region (Ok.bat 2 [0, 8, 9, 12, 13] [(79, .int .i64 (w6 (x79l68 + 1)))] ?_)
            refine Ok.nil (Ok.thenN ?_)
            exact fun a W hA hW => ⟨k68, Nat.lt_succ_self _, gj75, (hxl68.trans hxj75), w6 (x79l68 + 1), (numbV6 xs x79l68 ybs8_0l68), hA.sub (by kernel_rfl), hW, hF⟩
          ·replace hF := hF.2 hc9
           refine Ok.exit (Ok.thenE (Ok.thenE (Ok.blockHit (Ok.thenN (Ok.cut (fun a W => ∃ gj85 : Ghost, Gext w0 gl68 gj85 ∧ StA 101 [(8, pv bs8 0), (12, .int .i64 (numbV3 xs))] a ∧ StW w0 [.blk bs8 (.cells #[.int .i64 (numbV9 xs ybs8_0l68)] 3)] gj85 W ∧ numbj85 xs K ybs8_0l68) ?_ ?_)))))
           ·
            refine Ok.seq (Ok.region (Ok.bat 1 [8, 12] [(94, sv xs)] ?_))
            obtain ⟨h012, h112, hF⟩ := hF
            have he12 := get_of (l := xs) (0 : UInt8) h112
            generalize hg12 : (xs.getD (Int.toNat 0) 0) = e12 at he12 hF ⊢
            refine Ok.op rfl (OpOk.step (v := .int .u8 (e12.toNat : Int)) (Yields.indexStr (k := .i64) (i := 0) (s := xs) (b := e12) (by kernel_rfl) (by kernel_rfl) Tryz.underlying9 h012 he12) rfl rfl (Ok.bat 1 [8, 12] [(96, .bool ((e12.toNat : Int) == 45))] ?_))
            refine Ok.nil (Ok.thenN (Ok.cond (b := ((e12.toNat : Int) == 45)) rfl (fun hc13 => ?_) (fun hc13 => ?_)))
            ·replace hF := hF.1 hc13
             refine Ok.region (Ok.op rfl (OpOk.step (v := .int .i64 ybs8_0l68) (Yields.load 0 rfl rfl Tryz.underlying3 rfl (by kernel_rfl)) rfl rfl (Ok.bat 1 [8, 12] [(98, .int .i64 (w6 (0 - ybs8_0l68)))] ?_)))
             refine Ok.op rfl (OpOk.sto (k := 1) (v := .int .i64 (w6 (0 - ybs8_0l68))) 0 #[.int .i64 (w6 (0 - ybs8_0l68))] rfl rfl rfl ?_)
             refine Ok.nil (Ok.thenN ?_)
             subst hg12
             refine Ok.heapEq (H' := [.blk bs8 (.cells #[.int .i64 (numbV9 xs ybs8_0l68)] 3)]) (econs (congrArg (fun l : List Value => Ent.blk bs8 (.cells ⟨l⟩ 3)) (lcons (congrArg (Value.int .i64) ((if_t hc13).symm)) rfl)) rfl) ?_
             exact fun a W hA hW => ⟨gl68, (Gext.refl w0 gl68), hA.sub (by kernel_rfl), hW, hF⟩
            ·replace hF := hF.2 hc13
             refine Ok.skip (Ok.thenN ?_)
             subst hg12
             refine Ok.heapEq (H' := [.blk bs8 (.cells #[.int .i64 (numbV9 xs ybs8_0l68)] 3)]) (econs (congrArg (fun l : List Value => Ent.blk bs8 (.cells ⟨l⟩ 3)) (lcons (congrArg (Value.int .i64) ((if_f hc13).symm)) rfl)) rfl) ?_
             exact fun a W hA hW => ⟨gl68, (Gext.refl w0 gl68), hA.sub (by kernel_rfl), hW, hF⟩
           ·
            clear hF
            rintro a W ⟨gj85, hxj85, hA, hW, hF⟩
            refine (?_ : Ok _ _ _ _ _ _) a W hA hW
            clear hA hW
            refine Ok.seq (Ok.region (Ok.op rfl (OpOk.step (v := .int .i64 (numbV9 xs ybs8_0l68)) (Yields.load 0 rfl rfl Tryz.underlying3 rfl (by kernel_rfl)) rfl rfl (Ok.batch 3 [(2, .int .i64 (numbV9 xs ybs8_0l68)), (3, .int .i64 (numbV3 xs))] (by kernel_rfl) (Ok.nil (Ok.thenN (Ok.ret ?_)))))))
            exact Ok.resP (vs := [.int .i64 (numbV9 xs ybs8_0l68), .int .i64 (numbV3 xs)]) [] [] (by decide) rfl (.inl rfl) rfl (.cons (.tmp rfl) (.cons (.tmp rfl) .nil)) ((((((hxj5.trans hxj15).trans hx5).trans hxl39).trans hxj56).trans hxl68).trans hxj85) ⟨(numbV9 xs ybs8_0l68), (numbV3 xs), rfl, rfl, hF⟩
end Go.Proofs.YtcnhdkhkadiohaaGreatDoor.Css
