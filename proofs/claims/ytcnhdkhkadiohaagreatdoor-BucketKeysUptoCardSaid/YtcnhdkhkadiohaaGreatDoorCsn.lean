/- csstok: numbers, names, and the first token of a text. -/
import Derived.Test.YtcnhdkhkadiohaaGreatDoorCss
import Derived.Test.YtcnhdkhkadiohaaGreatDoorTrm
namespace Go.Proofs.YtcnhdkhkadiohaaGreatDoor.Css
open Go Go.Eng Bld Trm
set_option maxHeartbeats 4000000
set_option maxRecDepth 100000
set_option linter.unusedSimpArgs false
set_option linter.unusedVariables false
def slhpj3 (xs : Bs) (xprefix : Bs) (K : Bool → Prop) : Prop :=
 K ((decide ((xs.length : Int) ≥ (xprefix.length : Int))) && ((xs.take (Int.toNat (xprefix.length : Int))) == xprefix))
def slhpF (xs : Bs) (xprefix : Bs) (K : Bool → Prop) : Prop :=
 ((decide ((xs.length : Int) ≥ (xprefix.length : Int))) = true → (0 : Int) ≤ 0 ∧ 0 ≤ (xprefix.length : Int) ∧ (xprefix.length : Int) ≤ (xs.length : Int) ∧ slhpj3 xs xprefix K) ∧ ((decide ((xs.length : Int) ≥ (xprefix.length : Int))) = false → slhpj3 xs xprefix K)
theorem slhp_ok {g : Ghost} (xs : Bs) (xprefix : Bs) (K : Bool → Prop)
  (hF : slhpF xs xprefix K) : CallsH Tryz.prog 100 #[sv xs, sv xprefix] g [] (fun g' H' v => ∃ (r0 : Bool), v = .bool r0 ∧ H' = [] ∧ K r0) := by
 refine CallsH.enter 18 [(0, sv xs), (1, sv xprefix)] Tryz.func100 rfl kr kr kr fun w0 => ?_
 refine Ok.sr ((Ok.B 1 [(0, sv xs), (1, sv xprefix)] kr (Ok.nt ((Ok.cut (fun a W => StA 18 [(4, .bool ((decide ((xs.length : Int) ≥ (xprefix.length : Int))) && ((xs.take (Int.toNat (xprefix.length : Int))) == xprefix)))] a ∧ StW w0 [] g W ∧ slhpj3 xs xprefix K) ?_ ?_)))))
 ·
  refine Ok.r (Ok.b 6 [0, 1] [(10, .bool (decide ((xs.length : Int) ≥ (xprefix.length : Int))))] ?_)
  refine Ok.a 10 (decide ((xs.length : Int) ≥ (xprefix.length : Int))) rfl (fun hc1 => ?_) (fun hc1 => ?_)
  ·replace hF := hF.1 hc1
   refine Ok.b 3 [1] [(10, .bool true), (11, sv xs), (13, iv (xprefix.length : Int))] ?_
   obtain ⟨h02, h12, h22, hF⟩ := hF
   refine Ok.y (j := 5) (d := 10) (want := true) (b := true) rfl kr kr rfl (OpOk.s (v := sv (xs.take (Int.toNat (xprefix.length : Int)))) (Yields.ss (s := xs) (l := 0) (h := (xprefix.length : Int)) kr Tryz.underlying9 (.inr ⟨rfl, rfl⟩) (.inl ⟨_, _, rfl, rfl⟩) h02 h12 h22 (xs.take (Int.toNat (xprefix.length : Int))) (by simp)) rfl rfl (Ok.b 1 [10] [(14, sv (xs.take (Int.toNat (xprefix.length : Int)))), (15, sv xprefix)] ?_))
   refine Ok.y (j := 5) (d := 10) (want := true) (b := true) rfl kr kr rfl (OpOk.s (v := .bool ((xs.take (Int.toNat (xprefix.length : Int))) == xprefix)) (Yields.sc (f := .eql) (a := (xs.take (Int.toNat (xprefix.length : Int)))) (b := xprefix) kr kr rfl) rfl rfl (Ok.B 2 [(4, .bool ((xs.take (Int.toNat (xprefix.length : Int))) == xprefix))] kr (Ok.nt ((Ok.v 4 rfl (show (.bool ((xs.take (Int.toNat (xprefix.length : Int))) == xprefix) : Value) = .bool ((decide ((xs.length : Int) ≥ (xprefix.length : Int))) && ((xs.take (Int.toNat (xprefix.length : Int))) == xprefix)) from congrArg (Value.bool) (mand_t hc1)) ?_)))))
   exact fun a W hA hW => ⟨hA.sub kr, hW, hF⟩
  replace hF := hF.2 hc1
  refine Ok.B 8 [(4, .bool false)] kr (Ok.nt ((Ok.v 4 rfl (show (.bool false : Value) = .bool ((decide ((xs.length : Int) ≥ (xprefix.length : Int))) && ((xs.take (Int.toNat (xprefix.length : Int))) == xprefix)) from congrArg (Value.bool) (mand_f hc1)) ?_)))
  exact fun a W hA hW => ⟨hA.sub kr, hW, hF⟩
 clear hF
 rintro a W ⟨hA, hW, hF⟩
 refine (?_ : Ok _ _ _ _ _ _) a W hA hW
 clear hA hW
 refine Ok.ret ?_
 exact Ok.resH (vs := [.bool ((decide ((xs.length : Int) ≥ (xprefix.length : Int))) && ((xs.take (Int.toNat (xprefix.length : Int))) == xprefix))]) (.inl rfl) rfl (.cons (.tmp rfl) .nil) (Gext.r w0 g) ⟨((decide ((xs.length : Int) ≥ (xprefix.length : Int))) && ((xs.take (Int.toNat (xprefix.length : Int))) == xprefix)), rfl, rfl, hF⟩
def slhpj3M (xs : Bs) (xprefix : Bs) : Bool := ((decide ((xs.length : Int) ≥ (xprefix.length : Int))) && ((xs.take (Int.toNat (xprefix.length : Int))) == xprefix))
theorem slhpj3_A (xs : Bs) (xprefix : Bs) (P : Bool → Prop) (h : P (slhpj3M xs xprefix)) : slhpj3 xs xprefix (fun k0 => P k0) := by
 unfold slhpj3M at h
 unfold slhpj3
 exact h
def slhpM (xs : Bs) (xprefix : Bs) : Bool := (slhpj3M xs xprefix)
theorem slhpF_A (xs : Bs) (xprefix : Bs) (P : Bool → Prop) (h : P (slhpM xs xprefix)) : slhpF xs xprefix (fun k0 => P k0) := by
 unfold slhpM at h
 unfold slhpF
 refine ⟨fun hc0 => ?_, fun hc0 => ?_⟩
 ·skip
  have hd0 := of_decide_eq_true hc0
  refine ⟨?_, ?_, ?_, ?_⟩
  ·first | omega | assumption | exact trivial | (have h0 := List.length_pos_iff.mpr asm; omega) | (simp; omega) | (simp at *; omega)
  ·first | omega | assumption | exact trivial | (have h0 := List.length_pos_iff.mpr asm; omega) | (simp; omega) | (simp at *; omega)
  ·first | omega | assumption | exact trivial | (have h0 := List.length_pos_iff.mpr asm; omega) | (simp; omega) | (simp at *; omega)
  exact slhpj3_A xs xprefix _ h
 skip
 have hd0 := of_decide_eq_false hc0
 exact slhpj3_A xs xprefix _ h
theorem slhp_F (xs : Bs) (xprefix : Bs) : slhpF xs xprefix (fun k0 => k0 = slhpM xs xprefix) :=
 slhpF_A xs xprefix (fun z => z = slhpM xs xprefix) rfl
theorem slhp_c {g : Ghost} (xs : Bs) (xprefix : Bs)  : CallsG Tryz.prog 100 #[sv xs, sv xprefix] g (.bool (slhpM xs xprefix)) :=
 (slhp_ok xs xprefix _ (slhp_F xs xprefix)).gives (by rintro g' H' v _ ⟨r0, rfl, rfl, hK⟩; subst hK; rfl)
def hpF (xs : Bs) (xprefix : Bs) (K : Bool → Prop) : Prop :=
 K (slhpM xs xprefix)
theorem hp_ok {g : Ghost} (xs : Bs) (xprefix : Bs) (K : Bool → Prop)
  (hF : hpF xs xprefix K) : CallsH Tryz.prog 71 #[sv xs, sv xprefix] g [] (fun g' H' v => ∃ (r0 : Bool), v = .bool r0 ∧ H' = [] ∧ K r0) := by
 refine CallsH.enter 8 [(0, sv xs), (1, sv xprefix)] Tryz.func71 rfl kr kr kr fun w0 => ?_
 refine Ok.sr ((Ok.B 1 [(0, sv xs), (1, sv xprefix)] kr (Ok.nt ((Ok.sr ((Ok.B 2 [(5, sv xs), (6, sv xprefix)] kr (Ok.op rfl (OpOk.f enr (fun W hW => slhp_c xs xprefix) rfl ?_)))))))))
 refine Ok.B 1 [(4, .bool (slhpM xs xprefix))] kr (Ok.nt ((Ok.ret ?_)))
 exact Ok.resH (vs := [.bool (slhpM xs xprefix)]) (.inl rfl) rfl (.cons (.tmp rfl) .nil) (Gext.r w0 g) ⟨(slhpM xs xprefix), rfl, rfl, hF⟩
def hpM (xs : Bs) (xprefix : Bs) : Bool := (slhpM xs xprefix)
theorem hpF_A (xs : Bs) (xprefix : Bs) (P : Bool → Prop) (h : P (hpM xs xprefix)) : hpF xs xprefix (fun k0 => P k0) := by
 unfold hpM at h
 unfold hpF
 exact h
theorem hp_F (xs : Bs) (xprefix : Bs) : hpF xs xprefix (fun k0 => k0 = hpM xs xprefix) :=
 hpF_A xs xprefix (fun z => z = hpM xs xprefix) rfl
theorem hp_c {g : Ghost} (xs : Bs) (xprefix : Bs)  : CallsG Tryz.prog 71 #[sv xs, sv xprefix] g (.bool (hpM xs xprefix)) :=
 (hp_ok xs xprefix _ (hp_F xs xprefix)).gives (by rintro g' H' v _ ⟨r0, rfl, rfl, hK⟩; subst hK; rfl)
theorem slhp_len {s p : Bs} (h : slhpM s p = true) : p.length ≤ s.length := by
 unfold slhpM slhpj3M at h
 simp at h
 omega
def slcpF (xs : Bs) (xprefix : Bs) (K : Bs → Bool → Prop) : Prop :=
 ((!(slhpM xs xprefix)) = true → K xs false) ∧ ((!(slhpM xs xprefix)) = false → 0 ≤ (xprefix.length : Int) ∧ ((xprefix.length : Int) : Int) ≤ (xs.length : Int) ∧ (xs.length : Int) ≤ (xs.length : Int) ∧ K (xs.drop (Int.toNat (xprefix.length : Int))) true)
theorem slcp_ok {g : Ghost} (xs : Bs) (xprefix : Bs) (K : Bs → Bool → Prop)
  (hF : slcpF xs xprefix K) : CallsH Tryz.prog 92 #[sv xs, sv xprefix] g [] (fun g' H' v => ∃ (r0 : Bs), ∃ (r1 : Bool), v = .tuple #[sv r0, .bool r1] ∧ H' = [] ∧ K r0 r1) := by
 refine CallsH.enter 15 [(0, sv xs), (1, sv xprefix)] Tryz.func92 rfl kr kr kr fun w0 => ?_
 refine Ok.sr ((Ok.B 2 [(0, sv xs), (1, sv xprefix)] kr (Ok.nt ((Ok.q (Ok.sr ((Ok.b 2 [0, 1] [(6, sv xs), (7, sv xprefix)] ?_))))))))
 refine Ok.op rfl (OpOk.f enr (fun W hW => slhp_c xs xprefix) rfl ?_)
 refine Ok.b 1 [0, 1] [(9, .bool (!(slhpM xs xprefix)))] ?_
 refine Ok.nt ((Ok.cn hF rfl (fun hc1 => ?_) (fun hc1 => ?_)))
 ·replace hF := hF.1 hc1
  refine Ok.sr ((Ok.B 3 [(4, sv xs), (5, .bool false)] kr (Ok.nt ((Ok.ret (Ok.tr ?_))))))
  exact Ok.resH (vs := [sv xs, .bool false]) (.inl rfl) rfl (.cons (.tmp rfl) (.cons (.tmp rfl) .nil)) (Gext.r w0 g) ⟨xs, false, rfl, rfl, hF⟩
 replace hF := hF.2 hc1
 refine Ok.k (Ok.t (Ok.sr ((Ok.B 3 [(11, sv xs), (13, iv (xprefix.length : Int))] kr ?_))))
 obtain ⟨h02, h12, h22, hF⟩ := hF
 refine Ok.op rfl (OpOk.s (v := sv (xs.drop (Int.toNat (xprefix.length : Int)))) (Yields.ss (s := xs) (l := (xprefix.length : Int)) (h := (xs.length : Int)) kr Tryz.underlying9 (.inl ⟨_, _, rfl, rfl⟩) (.inr ⟨rfl, rfl⟩) h02 h12 h22 (xs.drop (Int.toNat (xprefix.length : Int))) (by rw [show ((xs.length : Int)).toNat = xs.length from Int.toNat_natCast _, List.take_length])) rfl rfl (Ok.B 2 [(4, sv (xs.drop (Int.toNat (xprefix.length : Int)))), (5, .bool true)] kr (Ok.nt ((Ok.ret ?_)))))
 exact Ok.resH (vs := [sv (xs.drop (Int.toNat (xprefix.length : Int))), .bool true]) (.inl rfl) rfl (.cons (.tmp rfl) (.cons (.tmp rfl) .nil)) (Gext.r w0 g) ⟨(xs.drop (Int.toNat (xprefix.length : Int))), true, rfl, rfl, hF⟩
def slcpM (xs : Bs) (xprefix : Bs) : Bs × Bool := (if (!(slhpM xs xprefix)) = true then (xs, false) else (xs.drop (Int.toNat (xprefix.length : Int)), true))
theorem slcpF_A (xs : Bs) (xprefix : Bs) (P : Bs × Bool → Prop) (h : P (slcpM xs xprefix)) : slcpF xs xprefix (fun k0 k1 => P (k0, k1)) := by
 unfold slcpM at h
 unfold slcpF
 refine ⟨fun hc0 => ?_, fun hc0 => ?_⟩
 ·rw [if_t hc0] at h
  exact h
 rw [if_f hc0] at h
 refine ⟨?_, ?_, ?_, ?_⟩
 ·first | (have h7 := slhp_len (by simpa using hc0); omega) | omega | assumption | exact trivial | (have h0 := List.length_pos_iff.mpr asm; omega) | (simp; omega) | (simp at *; omega)
 ·first | (have h7 := slhp_len (by simpa using hc0); omega) | omega | assumption | exact trivial | (have h0 := List.length_pos_iff.mpr asm; omega) | (simp; omega) | (simp at *; omega)
 ·first | (have h7 := slhp_len (by simpa using hc0); omega) | omega | assumption | exact trivial | (have h0 := List.length_pos_iff.mpr asm; omega) | (simp; omega) | (simp at *; omega)
 exact h
theorem slcp_F (xs : Bs) (xprefix : Bs) : slcpF xs xprefix (fun k0 k1 => (k0, k1) = slcpM xs xprefix) :=
 slcpF_A xs xprefix (fun z => z = slcpM xs xprefix) rfl
theorem slcp_c {g : Ghost} (xs : Bs) (xprefix : Bs)  : CallsG Tryz.prog 92 #[sv xs, sv xprefix] g (.tuple #[sv ((slcpM xs xprefix).1), .bool (slcpM xs xprefix).2]) :=
 (slcp_ok xs xprefix _ (slcp_F xs xprefix)).gives (by rintro g' H' v _ ⟨r0, r1, rfl, rfl, hK⟩; obtain ⟨rfl, rfl⟩ : r0 = (slcpM xs xprefix).1 ∧ r1 = (slcpM xs xprefix).2 := ⟨congrArg (fun z => z.1) hK, congrArg (fun z => z.2) hK⟩; rfl)
def cpF (xs : Bs) (xprefix : Bs) (K : Bs → Bool → Prop) : Prop :=
 K (slcpM xs xprefix).1 (slcpM xs xprefix).2
theorem cp_ok {g : Ghost} (xs : Bs) (xprefix : Bs) (K : Bs → Bool → Prop)
  (hF : cpF xs xprefix K) : CallsH Tryz.prog 62 #[sv xs, sv xprefix] g [] (fun g' H' v => ∃ (r0 : Bs), ∃ (r1 : Bool), v = .tuple #[sv r0, .bool r1] ∧ H' = [] ∧ K r0 r1) := by
 refine CallsH.enter 11 [(0, sv xs), (1, sv xprefix)] Tryz.func62 rfl kr kr kr fun w0 => ?_
 refine Ok.sr ((Ok.B 2 [(0, sv xs), (1, sv xprefix)] kr (Ok.nt ((Ok.sr ((Ok.B 2 [(6, sv xs), (7, sv xprefix)] kr (Ok.op rfl (OpOk.f enr (fun W hW => slcp_c xs xprefix) rfl ?_)))))))))
 refine Ok.B 4 [(4, sv ((slcpM xs xprefix).1)), (5, .bool (slcpM xs xprefix).2)] kr (Ok.nt ((Ok.ret ?_)))
 exact Ok.resH (vs := [sv ((slcpM xs xprefix).1), .bool (slcpM xs xprefix).2]) (.inl rfl) rfl (.cons (.tmp rfl) (.cons (.tmp rfl) .nil)) (Gext.r w0 g) ⟨(slcpM xs xprefix).1, (slcpM xs xprefix).2, rfl, rfl, hF⟩
def cpM (xs : Bs) (xprefix : Bs) : Bs × Bool := ((slcpM xs xprefix).1, (slcpM xs xprefix).2)
theorem cpF_A (xs : Bs) (xprefix : Bs) (P : Bs × Bool → Prop) (h : P (cpM xs xprefix)) : cpF xs xprefix (fun k0 k1 => P (k0, k1)) := by
 unfold cpM at h
 unfold cpF
 exact h
theorem cp_F (xs : Bs) (xprefix : Bs) : cpF xs xprefix (fun k0 k1 => (k0, k1) = cpM xs xprefix) :=
 cpF_A xs xprefix (fun z => z = cpM xs xprefix) rfl
theorem cp_c {g : Ghost} (xs : Bs) (xprefix : Bs)  : CallsG Tryz.prog 62 #[sv xs, sv xprefix] g (.tuple #[sv ((cpM xs xprefix).1), .bool (cpM xs xprefix).2]) :=
 (cp_ok xs xprefix _ (cp_F xs xprefix)).gives (by rintro g' H' v _ ⟨r0, r1, rfl, rfl, hK⟩; obtain ⟨rfl, rfl⟩ : r0 = (cpM xs xprefix).1 ∧ r1 = (cpM xs xprefix).2 := ⟨congrArg (fun z => z.1) hK, congrArg (fun z => z.2) hK⟩; rfl)
def digitsF (xs : Bs) (K : Int → Prop) : Prop :=
 tlP xs ([48, 49, 50, 51, 52, 53, 54, 55, 56, 57] : Bs) ∧ K (w6 ((xs.length : Int) - ((tlS xs ([48, 49, 50, 51, 52, 53, 54, 55, 56, 57] : Bs)).length : Int)))
theorem digits_ok {g : Ghost} (xs : Bs) (K : Int → Prop)
  (hF : digitsF xs K) : CallsH Tryz.prog 97 #[sv xs] g [] (fun g' H' v => ∃ (r0 : Int), v = iv r0 ∧ H' = [] ∧ K r0) := by
 refine CallsH.enter 9 [(0, sv xs)] Tryz.func97 rfl kr kr kr fun w0 => ?_
 refine Ok.sr ((Ok.B 1 [(0, sv xs)] kr (Ok.nt ((Ok.sr ((Ok.B 3 [(4, iv (xs.length : Int)), (5, sv xs)] kr ?_)))))))
 obtain ⟨hp1, hF⟩ := hF
 refine Ok.op rfl (OpOk.f enr (fun W hW => tl_c xs ([48, 49, 50, 51, 52, 53, 54, 55, 56, 57] : Bs) hp1) rfl ?_)
 refine Ok.B 3 [(2, iv (w6 ((xs.length : Int) - ((tlS xs ([48, 49, 50, 51, 52, 53, 54, 55, 56, 57] : Bs)).length : Int))))] kr (Ok.nt ((Ok.ret ?_)))
 exact Ok.resH (vs := [iv (w6 ((xs.length : Int) - ((tlS xs ([48, 49, 50, 51, 52, 53, 54, 55, 56, 57] : Bs)).length : Int)))]) (.inl rfl) rfl (.cons (.tmp rfl) .nil) (Gext.r w0 g) ⟨(w6 ((xs.length : Int) - ((tlS xs ([48, 49, 50, 51, 52, 53, 54, 55, 56, 57] : Bs)).length : Int))), rfl, rfl, hF⟩
def digitsM (xs : Bs) : Int := (w6 ((xs.length : Int) - ((tlS xs ([48, 49, 50, 51, 52, 53, 54, 55, 56, 57] : Bs)).length : Int)))
theorem digitsF_A (xs : Bs) (P : Int → Prop) (h : P (digitsM xs)) : digitsF xs (fun k0 => P k0) := by
 unfold digitsM at h
 unfold digitsF
 refine ⟨?_, ?_⟩
 ·first | exact ⟨by decide, by decide, by decide⟩ | omega | assumption | exact trivial | (have h0 := List.length_pos_iff.mpr asm; omega) | (simp; omega) | (simp at *; omega)
 exact h
theorem digits_F (xs : Bs) : digitsF xs (fun k0 => k0 = digitsM xs) :=
 digitsF_A xs (fun z => z = digitsM xs) rfl
theorem digits_c {g : Ghost} (xs : Bs)  : CallsG Tryz.prog 97 #[sv xs] g (iv (digitsM xs)) :=
 (digits_ok xs _ (digits_F xs)).gives (by rintro g' H' v _ ⟨r0, rfl, rfl, hK⟩; subst hK; rfl)
def numbV0 (xs : Bs) : Bool :=
 ((!(xs == ([] : Bs))) && ((((xs.getD (Int.toNat 0) 0).toNat : Int) == 43) || (((xs.getD (Int.toNat 0) 0).toNat : Int) == 45)))
def numbV1 (xs : Bs) : Int :=
 (if (numbV0 xs) = true then 1 else 0)
def numbV2 (xs : Bs) : Int :=
 (if (hpM (xs.drop (Int.toNat (w6 ((numbV1 xs) + (digitsM (xs.drop (Int.toNat (numbV1 xs)))))))) ([46] : Bs)) = true then (digitsM ((xs.drop (Int.toNat (w6 ((numbV1 xs) + (digitsM (xs.drop (Int.toNat (numbV1 xs)))))))).drop (Int.toNat 1))) else 0)
def numbV3 (xs : Bs) : Int :=
 (if (decide ((numbV2 xs) > 0)) = true then w6 ((w6 ((numbV1 xs) + (digitsM (xs.drop (Int.toNat (numbV1 xs)))))) + (w6 (1 + (numbV2 xs)))) else w6 ((numbV1 xs) + (digitsM (xs.drop (Int.toNat (numbV1 xs))))))
def numbV4 (xs : Bs) : Bs :=
 (if (decide ((numbV2 xs) > 0)) = true then (xs.take (Int.toNat (w6 ((w6 ((w6 ((numbV1 xs) + (digitsM (xs.drop (Int.toNat (numbV1 xs)))))) + 1)) + (numbV2 xs))))).drop (Int.toNat (w6 ((w6 ((numbV1 xs) + (digitsM (xs.drop (Int.toNat (numbV1 xs)))))) + 1))) else ([] : Bs))
def numbV6 (xs : Bs) (q0 : Int) (z0 : Int) : Int :=
 (if (decide (q0 < ((numbV4 xs).length : Int))) = true then (if 1000000000 < (w6 ((w6 (10 * z0)) + (w6 (IntKind.wrap .u8 ((((numbV4 xs).getD (Int.toNat q0) 0).toNat : Int) - 48))))) then 1000000000 else (w6 ((w6 (10 * z0)) + (w6 (IntKind.wrap .u8 ((((numbV4 xs).getD (Int.toNat q0) 0).toNat : Int) - 48)))))) else (if 1000000000 < (w6 ((w6 (10 * z0)) + (w6 (IntKind.wrap .u8 (48 - 48))))) then 1000000000 else (w6 ((w6 (10 * z0)) + (w6 (IntKind.wrap .u8 (48 - 48)))))))
def numbV9 (xs : Bs) (z0 : Int) : Int :=
 (if (((xs.getD (Int.toNat 0) 0).toNat : Int) == 45) = true then w6 (0 - z0) else z0)
def numbj75 (xs : Bs) (q0 : Int) (z0 : Int) (C68 : Int → Int → Prop) : Prop :=
 C68 (w6 (q0 + 1)) (numbV6 xs q0 z0)
def numbj85 (xs : Bs) (K : Int → Int → Prop) (z0 : Int) : Prop :=
 K (numbV9 xs z0) (numbV3 xs)
def numbl68b (xs : Bs) (K : Int → Int → Prop) (q0 : Int) (z0 : Int) (C68 : Int → Int → Prop) : Prop :=
 ((decide (q0 < 3)) = true → ((decide (q0 < ((numbV4 xs).length : Int))) = true → 0 ≤ q0 ∧ Int.toNat q0 < (numbV4 xs).length ∧ numbj75 xs q0 z0 C68) ∧ ((decide (q0 < ((numbV4 xs).length : Int))) = false → numbj75 xs q0 z0 C68)) ∧ ((decide (q0 < 3)) = false → (0 : Int) ≤ 0 ∧ Int.toNat 0 < xs.length ∧ (((((xs.getD (Int.toNat 0) 0).toNat : Int) == 45)) = true → numbj85 xs K z0) ∧ (((((xs.getD (Int.toNat 0) 0).toNat : Int) == 45)) = false → numbj85 xs K z0))
def numbl68 (xs : Bs) (K : Int → Int → Prop) : Nat → Int → Int → Prop
 | 0, _, _ => False
 | k + 1, q0, z0 => numbl68b xs K q0 z0 (numbl68 xs K k)
def numbj56 (xs : Bs) (K : Int → Int → Prop) (v0 : Int) : Prop :=
 ∃ k, numbl68 xs K k 0 v0
def numbl39b (xs : Bs) (K : Int → Int → Prop) (y0 : Int) (v0 : Int) (C39 : Int → Int → Prop) : Prop :=
 ((decide (y0 < ((intsOf ((xs.take (Int.toNat (w6 ((numbV1 xs) + (digitsM (xs.drop (Int.toNat (numbV1 xs)))))))).drop (Int.toNat (numbV1 xs)))).length : Int))) = true → 0 ≤ y0 ∧ Int.toNat y0 < (intsOf ((xs.take (Int.toNat (w6 ((numbV1 xs) + (digitsM (xs.drop (Int.toNat (numbV1 xs)))))))).drop (Int.toNat (numbV1 xs)))).length ∧ C39 (w6 (y0 + 1)) (if 1000000000 < (w6 ((w6 (10 * v0)) + (w6 (IntKind.wrap .u8 (((intsOf ((xs.take (Int.toNat (w6 ((numbV1 xs) + (digitsM (xs.drop (Int.toNat (numbV1 xs)))))))).drop (Int.toNat (numbV1 xs)))).getD (Int.toNat y0) default) - 48))))) then 1000000000 else (w6 ((w6 (10 * v0)) + (w6 (IntKind.wrap .u8 (((intsOf ((xs.take (Int.toNat (w6 ((numbV1 xs) + (digitsM (xs.drop (Int.toNat (numbV1 xs)))))))).drop (Int.toNat (numbV1 xs)))).getD (Int.toNat y0) default) - 48))))))) ∧ ((decide (y0 < ((intsOf ((xs.take (Int.toNat (w6 ((numbV1 xs) + (digitsM (xs.drop (Int.toNat (numbV1 xs)))))))).drop (Int.toNat (numbV1 xs)))).length : Int))) = false → ((decide ((numbV2 xs) > 0)) = true → 0 ≤ (w6 ((w6 ((numbV1 xs) + (digitsM (xs.drop (Int.toNat (numbV1 xs)))))) + 1)) ∧ ((w6 ((w6 ((numbV1 xs) + (digitsM (xs.drop (Int.toNat (numbV1 xs)))))) + 1)) : Int) ≤ (w6 ((w6 ((w6 ((numbV1 xs) + (digitsM (xs.drop (Int.toNat (numbV1 xs)))))) + 1)) + (numbV2 xs))) ∧ (w6 ((w6 ((w6 ((numbV1 xs) + (digitsM (xs.drop (Int.toNat (numbV1 xs)))))) + 1)) + (numbV2 xs))) ≤ (xs.length : Int) ∧ numbj56 xs K v0) ∧ ((decide ((numbV2 xs) > 0)) = false → numbj56 xs K v0))
def numbl39 (xs : Bs) (K : Int → Int → Prop) : Nat → Int → Int → Prop
 | 0, _, _ => False
 | k + 1, y0, v0 => numbl39b xs K y0 v0 (numbl39 xs K k)
def numbj15 (xs : Bs) (K : Int → Int → Prop) : Prop :=
 ((((w6 ((digitsM (xs.drop (Int.toNat (numbV1 xs)))) + (numbV2 xs))) == 0)) = true → K 0 0) ∧ ((((w6 ((digitsM (xs.drop (Int.toNat (numbV1 xs)))) + (numbV2 xs))) == 0)) = false → 0 ≤ (numbV1 xs) ∧ ((numbV1 xs) : Int) ≤ (w6 ((numbV1 xs) + (digitsM (xs.drop (Int.toNat (numbV1 xs)))))) ∧ (w6 ((numbV1 xs) + (digitsM (xs.drop (Int.toNat (numbV1 xs)))))) ≤ (xs.length : Int) ∧ ((xs.take (Int.toNat (w6 ((numbV1 xs) + (digitsM (xs.drop (Int.toNat (numbV1 xs)))))))).drop (Int.toNat (numbV1 xs))).length ≤ maxLen ∧ ∃ k, numbl39 xs K k 0 0)
def numbj5 (xs : Bs) (K : Int → Int → Prop) : Prop :=
 0 ≤ (numbV1 xs) ∧ ((numbV1 xs) : Int) ≤ (xs.length : Int) ∧ (xs.length : Int) ≤ (xs.length : Int) ∧ 0 ≤ (w6 ((numbV1 xs) + (digitsM (xs.drop (Int.toNat (numbV1 xs)))))) ∧ ((w6 ((numbV1 xs) + (digitsM (xs.drop (Int.toNat (numbV1 xs)))))) : Int) ≤ (xs.length : Int) ∧ (xs.length : Int) ≤ (xs.length : Int) ∧ (((hpM (xs.drop (Int.toNat (w6 ((numbV1 xs) + (digitsM (xs.drop (Int.toNat (numbV1 xs)))))))) ([46] : Bs))) = true → (0 : Int) ≤ 1 ∧ (1 : Int) ≤ ((xs.drop (Int.toNat (w6 ((numbV1 xs) + (digitsM (xs.drop (Int.toNat (numbV1 xs)))))))).length : Int) ∧ ((xs.drop (Int.toNat (w6 ((numbV1 xs) + (digitsM (xs.drop (Int.toNat (numbV1 xs)))))))).length : Int) ≤ ((xs.drop (Int.toNat (w6 ((numbV1 xs) + (digitsM (xs.drop (Int.toNat (numbV1 xs)))))))).length : Int) ∧ numbj15 xs K) ∧ (((hpM (xs.drop (Int.toNat (w6 ((numbV1 xs) + (digitsM (xs.drop (Int.toNat (numbV1 xs)))))))) ([46] : Bs))) = false → numbj15 xs K)
def numbj6 (xs : Bs) (K : Int → Int → Prop) : Prop :=
 (((numbV0 xs)) = true → numbj5 xs K) ∧ (((numbV0 xs)) = false → numbj5 xs K)
def numbF (xs : Bs) (K : Int → Int → Prop) : Prop :=
 ((!(xs == ([] : Bs))) = true → (0 : Int) ≤ 0 ∧ Int.toNat 0 < xs.length ∧ (((((xs.getD (Int.toNat 0) 0).toNat : Int) == 43)) = true → numbj6 xs K) ∧ (((((xs.getD (Int.toNat 0) 0).toNat : Int) == 43)) = false → numbj6 xs K)) ∧ ((!(xs == ([] : Bs))) = false → numbj6 xs K)
theorem numb_ok {g : Ghost} (xs : Bs) (K : Int → Int → Prop)
  (hF : numbF xs K) : CallsH Tryz.prog 69 #[sv xs] g [] (fun g' H' v => ∃ (r0 : Int), ∃ (r1 : Int), v = .tuple #[iv r0, iv r1] ∧ H' = [] ∧ K r0 r1) := by
 refine CallsH.enter 101 [(0, sv xs)] Tryz.func69 rfl kr kr kr fun w0 => ?_
 refine Ok.sr ((Ok.B 2 [(0, sv xs)] kr (Ok.nt ((Ok.sr ((Ok.b 1 [0] [(4, iv 0)] ?_)))))))
 refine Ok.nt ((Ok.cut (fun a W => ∃ gj5 : Ghost, Gext w0 g gj5 ∧ StA 101 [(0, sv xs), (4, iv (numbV1 xs))] a ∧ StW w0 [] gj5 W ∧ numbj5 xs K) ?_ ?_))
 ·
  refine Ok.cut (fun a W => ∃ gj6 : Ghost, Gext w0 g gj6 ∧ StA 101 [(0, sv xs), (4, iv 0), (26, .bool (numbV0 xs))] a ∧ StW w0 [] gj6 W ∧ numbj6 xs K) ?_ ?_
  ·
   refine Ok.r (Ok.b 1 [0, 4] [(15, sv xs)] ?_)
   refine Ok.op rfl (OpOk.s (v := .bool (!(xs == ([] : Bs)))) (Yields.sc (f := .neq) (a := xs) (b := ([] : Bs)) kr kr rfl) rfl rfl (Ok.b 1 [0, 4] [(17, .bool (!(xs == ([] : Bs))))] ?_))
   refine Ok.a 17 (!(xs == ([] : Bs))) rfl (fun s0 => ?_) (fun s0 => ?_)
   ·replace hF := hF.1 s0
    refine Ok.b 1 [0, 4] [(17, .bool true), (18, sv xs)] ?_
    obtain ⟨V0, h121, hF⟩ := hF
    have t0 := get_of (l := xs) (0 : UInt8) h121
    generalize Q0 : (xs.getD (Int.toNat 0) 0) = e21 at t0 hF ⊢
    refine Ok.y (j := 2) (d := 17) (want := true) (b := true) rfl kr kr rfl (OpOk.s (v := .int .u8 (e21.toNat : Int)) (Yields.ix (k := .i64) (i := 0) (s := xs) (b := e21) kr kr Tryz.underlying9 V0 t0) rfl rfl (Ok.b 2 [0, 4, 17] [(21, .bool ((e21.toNat : Int) == 43))] ?_))
    refine Ok.a 21 (((e21.toNat : Int) == 43)) rfl (fun c0 => ?_) (fun c0 => ?_)
    ·replace hF := hF.1 c0
     refine Ok.b 5 [0, 4] [(26, .bool true)] ?_
     refine Ok.j (Ok.t ?_)
     subst Q0
     refine Ok.v 26 rfl (show (.bool true : Value) = .bool (numbV0 xs) from congrArg (Value.bool) ((Eq.trans (mor_t c0) (mand_t s0)))) ?_
     exact fun a W hA hW => ⟨g, (Gext.r w0 g), hA.sub kr, hW, hF⟩
    replace hF := hF.2 c0
    refine Ok.b 1 [0, 4, 17] [(21, .bool false), (22, sv xs)] ?_
    refine Ok.y (j := 6) (d := 21) (want := false) (b := false) rfl kr kr rfl (OpOk.s (v := .int .u8 (e21.toNat : Int)) (Yields.ix (k := .i64) (i := 0) (s := xs) (b := e21) kr kr Tryz.underlying9 V0 t0) rfl rfl (Ok.b 3 [0, 4] [(26, .bool ((e21.toNat : Int) == 45))] ?_))
    refine Ok.j (Ok.t ?_)
    subst Q0
    refine Ok.v 26 rfl (show (.bool (((xs.getD (Int.toNat 0) 0).toNat : Int) == 45) : Value) = .bool (numbV0 xs) from congrArg (Value.bool) ((Eq.trans (mor_f c0) (mand_t s0)))) ?_
    exact fun a W hA hW => ⟨g, (Gext.r w0 g), hA.sub kr, hW, hF⟩
   replace hF := hF.2 s0
   refine Ok.b 9 [0, 4] [(26, .bool false)] ?_
   refine Ok.nt ((Ok.v 26 rfl (show (.bool false : Value) = .bool (numbV0 xs) from congrArg (Value.bool) (mand_f s0)) ?_))
   exact fun a W hA hW => ⟨g, (Gext.r w0 g), hA.sub kr, hW, hF⟩
  clear hF
  rintro a W ⟨gj6, K0, hA, hW, hF⟩
  refine (?_ : Ok _ _ _ _ _ _) a W hA hW
  clear hA hW
  refine Ok.cn hF rfl (fun d0 => ?_) (fun d0 => ?_)
  ·replace hF := hF.1 d0
   refine Ok.r (Ok.b 1 [0] [(4, iv 1)] ?_)
   refine Ok.nt ((Ok.v 4 rfl (show (iv 1 : Value) = iv (numbV1 xs) from congrArg (Value.int .i64) ((if_t d0).symm)) ?_))
   exact fun a W hA hW => ⟨gj6, K0, hA.sub kr, hW, hF⟩
  replace hF := hF.2 d0
  refine Ok.k (Ok.t (Ok.v 4 rfl (show (iv 0 : Value) = iv (numbV1 xs) from congrArg (Value.int .i64) ((if_f d0).symm)) ?_))
  exact fun a W hA hW => ⟨gj6, K0, hA.sub kr, hW, hF⟩
 clear hF
 rintro a W ⟨gj5, Y0, hA, hW, hF⟩
 refine (?_ : Ok _ _ _ _ _ _) a W hA hW
 clear hA hW
 refine Ok.sr ((Ok.b 2 [0, 4] [(27, sv xs), (28, iv (numbV1 xs))] ?_))
 obtain ⟨h01, h11, h21, hF⟩ := hF
 refine Ok.op rfl (OpOk.s (v := sv (xs.drop (Int.toNat (numbV1 xs)))) (Yields.ss (s := xs) (l := (numbV1 xs)) (h := (xs.length : Int)) kr Tryz.underlying9 (.inl ⟨_, _, rfl, rfl⟩) (.inr ⟨rfl, rfl⟩) h01 h11 h21 (xs.drop (Int.toNat (numbV1 xs))) (by rw [show ((xs.length : Int)).toNat = xs.length from Int.toNat_natCast _, List.take_length])) rfl rfl (Ok.op rfl (OpOk.f enr (fun W hW => digits_c (xs.drop (Int.toNat (numbV1 xs)))) rfl ?_)))
 refine Ok.b 1 [0, 4] [(5, iv (digitsM (xs.drop (Int.toNat (numbV1 xs)))))] ?_
 refine Ok.nt ((Ok.sr ((Ok.b 1 [0, 4, 5] [(6, iv 0)] ?_))))
 refine Ok.nt ((Ok.cut (fun a W => ∃ a0 : Ghost, Gext w0 gj5 a0 ∧ StA 101 [(0, sv xs), (4, iv (numbV1 xs)), (5, iv (digitsM (xs.drop (Int.toNat (numbV1 xs))))), (6, iv (numbV2 xs))] a ∧ StW w0 [] a0 W ∧ numbj15 xs K) ?_ ?_))
 ·
  refine Ok.sr ((Ok.b 4 [0, 4, 5, 6] [(31, sv xs), (34, iv (w6 ((numbV1 xs) + (digitsM (xs.drop (Int.toNat (numbV1 xs)))))))] ?_))
  obtain ⟨h016, h116, h216, hF⟩ := hF
  refine Ok.op rfl (OpOk.s (v := sv (xs.drop (Int.toNat (w6 ((numbV1 xs) + (digitsM (xs.drop (Int.toNat (numbV1 xs))))))))) (Yields.ss (s := xs) (l := (w6 ((numbV1 xs) + (digitsM (xs.drop (Int.toNat (numbV1 xs))))))) (h := (xs.length : Int)) kr Tryz.underlying9 (.inl ⟨_, _, rfl, rfl⟩) (.inr ⟨rfl, rfl⟩) h016 h116 h216 (xs.drop (Int.toNat (w6 ((numbV1 xs) + (digitsM (xs.drop (Int.toNat (numbV1 xs)))))))) (by rw [show ((xs.length : Int)).toNat = xs.length from Int.toNat_natCast _, List.take_length])) rfl rfl (Ok.b 1 [0, 4, 5, 6] [(7, sv (xs.drop (Int.toNat (w6 ((numbV1 xs) + (digitsM (xs.drop (Int.toNat (numbV1 xs)))))))))] ?_))
  refine Ok.nt ((Ok.sr ((Ok.b 1 [0, 4, 5, 6, 7] [(36, sv (xs.drop (Int.toNat (w6 ((numbV1 xs) + (digitsM (xs.drop (Int.toNat (numbV1 xs)))))))))] ?_))))
  refine Ok.op rfl (OpOk.f enr (fun W hW => hp_c (xs.drop (Int.toNat (w6 ((numbV1 xs) + (digitsM (xs.drop (Int.toNat (numbV1 xs)))))))) ([46] : Bs)) rfl ?_)
  refine Ok.nt ((Ok.cn hF rfl (fun e0 => ?_) (fun e0 => ?_)))
  ·replace hF := hF.1 e0
   refine Ok.r (Ok.b 1 [0, 4, 5] [(38, sv (xs.drop (Int.toNat (w6 ((numbV1 xs) + (digitsM (xs.drop (Int.toNat (numbV1 xs)))))))))] ?_)
   obtain ⟨h018, h118, h218, hF⟩ := hF
   refine Ok.op rfl (OpOk.s (v := sv ((xs.drop (Int.toNat (w6 ((numbV1 xs) + (digitsM (xs.drop (Int.toNat (numbV1 xs)))))))).drop (Int.toNat 1))) (Yields.ss (s := (xs.drop (Int.toNat (w6 ((numbV1 xs) + (digitsM (xs.drop (Int.toNat (numbV1 xs))))))))) (l := 1) (h := ((xs.drop (Int.toNat (w6 ((numbV1 xs) + (digitsM (xs.drop (Int.toNat (numbV1 xs)))))))).length : Int)) kr Tryz.underlying9 (.inl ⟨_, _, rfl, rfl⟩) (.inr ⟨rfl, rfl⟩) h018 h118 h218 ((xs.drop (Int.toNat (w6 ((numbV1 xs) + (digitsM (xs.drop (Int.toNat (numbV1 xs)))))))).drop (Int.toNat 1)) (by rw [show (((xs.drop (Int.toNat (w6 ((numbV1 xs) + (digitsM (xs.drop (Int.toNat (numbV1 xs)))))))).length : Int)).toNat = (xs.drop (Int.toNat (w6 ((numbV1 xs) + (digitsM (xs.drop (Int.toNat (numbV1 xs)))))))).length from Int.toNat_natCast _, List.take_length])) rfl rfl (Ok.op rfl (OpOk.f enr (fun W hW => digits_c ((xs.drop (Int.toNat (w6 ((numbV1 xs) + (digitsM (xs.drop (Int.toNat (numbV1 xs)))))))).drop (Int.toNat 1))) rfl ?_)))
   refine Ok.b 1 [0, 4, 5] [(6, iv (digitsM ((xs.drop (Int.toNat (w6 ((numbV1 xs) + (digitsM (xs.drop (Int.toNat (numbV1 xs)))))))).drop (Int.toNat 1))))] ?_
   refine Ok.nt ((Ok.v 6 rfl (show (iv (digitsM ((xs.drop (Int.toNat (w6 ((numbV1 xs) + (digitsM (xs.drop (Int.toNat (numbV1 xs)))))))).drop (Int.toNat 1))) : Value) = iv (numbV2 xs) from congrArg (Value.int .i64) ((if_t e0).symm)) ?_))
   exact fun a W hA hW => ⟨gj5, (Gext.r w0 gj5), hA.sub kr, hW, hF⟩
  replace hF := hF.2 e0
  refine Ok.k (Ok.t (Ok.v 6 rfl (show (iv 0 : Value) = iv (numbV2 xs) from congrArg (Value.int .i64) ((if_f e0).symm)) ?_))
  exact fun a W hA hW => ⟨gj5, (Gext.r w0 gj5), hA.sub kr, hW, hF⟩
 clear hF
 rintro a W ⟨a0, o0, hA, hW, hF⟩
 refine (?_ : Ok _ _ _ _ _ _) a W hA hW
 clear hA hW
 refine Ok.q (Ok.sr ((Ok.b 4 [0, 4, 5, 6] [(44, .bool ((w6 ((digitsM (xs.drop (Int.toNat (numbV1 xs)))) + (numbV2 xs))) == 0))] ?_)))
 refine Ok.nt ((Ok.cn hF rfl (fun hc2 => ?_) (fun hc2 => ?_)))
 ·replace hF := hF.1 hc2
  refine Ok.sr ((Ok.B 2 [(2, iv 0), (3, iv 0)] kr (Ok.nt ((Ok.ret (Ok.tr ?_))))))
  exact Ok.resH (vs := [iv 0, iv 0]) (.inl rfl) rfl (.cons (.tmp rfl) (.cons (.tmp rfl) .nil)) (Y0.trans o0) ⟨0, 0, rfl, rfl, hF⟩
 replace hF := hF.2 hc2
 refine Ok.k (Ok.t (Ok.sr ((Ok.op rfl (OpOk.a (z := iv 0) (cs := #[iv 0]) kr kr rfl fun bs8 => ?_)))))
 refine Ok.op rfl (OpOk.sto (k := 1) (v := iv 0) 0 #[iv 0] rfl rfl rfl ?_)
 refine Ok.nt ((Ok.sr ((Ok.b 2 [0, 4, 5, 6] [(8, pv bs8 0), (9, .func (.func 98) #[] #[pv bs8 0])] ?_))))
 refine Ok.nt ((Ok.q (Ok.sr ((Ok.b 5 [0, 4, 5, 6, 8, 9] [(46, sv xs), (47, iv (numbV1 xs)), (50, iv (w6 ((numbV1 xs) + (digitsM (xs.drop (Int.toNat (numbV1 xs)))))))] ?_)))))
 obtain ⟨h04, h14, h24, hF⟩ := hF
 refine Ok.op rfl (OpOk.s (v := sv ((xs.take (Int.toNat (w6 ((numbV1 xs) + (digitsM (xs.drop (Int.toNat (numbV1 xs)))))))).drop (Int.toNat (numbV1 xs)))) (Yields.ss (s := xs) (l := (numbV1 xs)) (h := (w6 ((numbV1 xs) + (digitsM (xs.drop (Int.toNat (numbV1 xs))))))) kr Tryz.underlying9 (.inl ⟨_, _, rfl, rfl⟩) (.inl ⟨_, _, rfl, rfl⟩) h04 h14 h24 ((xs.take (Int.toNat (w6 ((numbV1 xs) + (digitsM (xs.drop (Int.toNat (numbV1 xs)))))))).drop (Int.toNat (numbV1 xs))) rfl) rfl rfl ?_)
 obtain ⟨hm5, hF⟩ := hF
 refine Ok.op rfl (OpOk.bytesRo (s := (xs.take (Int.toNat (w6 ((numbV1 xs) + (digitsM (xs.drop (Int.toNat (numbV1 xs)))))))).drop (Int.toNat (numbV1 xs))) kr Tryz.underlying9 Tryz.underlying23 Tryz.underlying5 hm5 rfl fun g5 a5 c5 hx5 hR5 => ?_)
 refine Ok.b 2 [0, 4, 5, 6, 8, 9] [(52, .slice a5 (intsOf ((xs.take (Int.toNat (w6 ((numbV1 xs) + (digitsM (xs.drop (Int.toNat (numbV1 xs)))))))).drop (Int.toNat (numbV1 xs)))).length c5), (53, iv ((intsOf ((xs.take (Int.toNat (w6 ((numbV1 xs) + (digitsM (xs.drop (Int.toNat (numbV1 xs)))))))).drop (Int.toNat (numbV1 xs)))).length : Int)), (54, iv 0)] ?_
 refine Ok.nt ((Ok.block ?_))
 obtain ⟨k, hF⟩ := hF
 refine Ok.L (fun k a W => ∃ j0 : Ghost, Gext w0 g5 j0 ∧ ∃ (y0 : Int) (v0 : Int), StA 101 [(0, sv xs), (4, iv (numbV1 xs)), (5, iv (digitsM (xs.drop (Int.toNat (numbV1 xs))))), (6, iv (numbV2 xs)), (8, pv bs8 0), (9, .func (.func 98) #[] #[pv bs8 0]), (52, .slice a5 (intsOf ((xs.take (Int.toNat (w6 ((numbV1 xs) + (digitsM (xs.drop (Int.toNat (numbV1 xs)))))))).drop (Int.toNat (numbV1 xs)))).length c5), (53, iv ((intsOf ((xs.take (Int.toNat (w6 ((numbV1 xs) + (digitsM (xs.drop (Int.toNat (numbV1 xs)))))))).drop (Int.toNat (numbV1 xs)))).length : Int)), (54, iv y0)] a ∧ StW w0 [.blk bs8 (.cells #[iv v0] 3)] j0 W ∧ numbl39 xs K k y0 v0) k ?_ ?_
 ·
  exact fun a W hA hW => ⟨g5, (Gext.r w0 g5), 0, 0, hA.sub kr, hW, hF⟩
 clear hF
 rintro k39 a W ⟨j0, f0, y0, v0, hA, hW, hF⟩
 cases k39 with
 | zero => exact (hF : False).elim
 | succ k39 =>
  refine (?_ : Ok _ _ _ _ _ _) a W hA hW
  clear hA hW
  replace hR5 := hR5.mono f0.1
  refine Ok.sr ((Ok.b 1 [0, 4, 5, 6, 8, 9, 52, 53, 54] [(55, .bool (decide (y0 < ((intsOf ((xs.take (Int.toNat (w6 ((numbV1 xs) + (digitsM (xs.drop (Int.toNat (numbV1 xs)))))))).drop (Int.toNat (numbV1 xs)))).length : Int))))] ?_))
  refine Ok.nt ((Ok.q (Ok.cn hF rfl (fun hc6 => ?_) (fun hc6 => ?_))))
  ·replace hF := hF.1 hc6
   refine Ok.k (Ok.t (Ok.q (Ok.block (Ok.q (Ok.r ?_)))))
   obtain ⟨h08, h18, hF⟩ := hF
   have he8 := get_of (l := (intsOf ((xs.take (Int.toNat (w6 ((numbV1 xs) + (digitsM (xs.drop (Int.toNat (numbV1 xs)))))))).drop (Int.toNat (numbV1 xs))))) (default : Int) h18
   generalize hg8 : ((intsOf ((xs.take (Int.toNat (w6 ((numbV1 xs) + (digitsM (xs.drop (Int.toNat (numbV1 xs)))))))).drop (Int.toNat (numbV1 xs)))).getD (Int.toNat y0) default) = e8 at he8 hF ⊢
   refine Ok.op rfl (OpOk.indexRo (e := .int .u8) (i := y0) (el := e8) rfl rfl Tryz.underlying23 kr hR5 h08 he8 rfl fun q7 o7 cs7 _ i0 hr7 => ?_)
   obtain rfl := hr7
   replace i0 : At j0 q7 o7 [.int .u8 e8] := i0
   refine Ok.op rfl (OpOk.s (v := .int .u8 e8) (Yields.lr 0 i0 kr Tryz.underlying5 rfl kr) rfl rfl (Ok.b 1 [0, 4, 5, 6, 8, 9, 52, 53, 54] [(11, .int .u8 e8)] ?_))
   refine Ok.nt ((Ok.r (Ok.b 2 [0, 4, 5, 6, 8, 9, 52, 53, 54] [(58, .func (.func 98) #[] #[pv bs8 0]), (59, .int .u8 e8)] ?_)))
   refine Ok.op rfl (OpOk.i (args := #[.int .u8 e8, pv bs8 0]) 10 [(0, .int .u8 e8), (1, pv bs8 0)] enr Tryz.func98 rfl rfl rfl rfl (Ok.r (Ok.op rfl (OpOk.s (v := iv v0) (Yields.l 0 rfl rfl Tryz.underlying3 rfl kr) rfl rfl (Ok.B 6 [(1, pv bs8 0), (9, iv (if 1000000000 < (w6 ((w6 (10 * v0)) + (w6 (IntKind.wrap .u8 (e8 - 48))))) then 1000000000 else (w6 ((w6 (10 * v0)) + (w6 (IntKind.wrap .u8 (e8 - 48)))))))] kr (Ok.op rfl (OpOk.sto (k := 1) (v := iv (if 1000000000 < (w6 ((w6 (10 * v0)) + (w6 (IntKind.wrap .u8 (e8 - 48))))) then 1000000000 else (w6 ((w6 (10 * v0)) + (w6 (IntKind.wrap .u8 (e8 - 48))))))) 0 #[iv (if 1000000000 < (w6 ((w6 (10 * v0)) + (w6 (IntKind.wrap .u8 (e8 - 48))))) then 1000000000 else (w6 ((w6 (10 * v0)) + (w6 (IntKind.wrap .u8 (e8 - 48))))))] rfl rfl rfl ?_)))))))
   refine Ok.j (Ok.back (vs := []) (.inr rfl) rfl .nil rfl (Ok.j (Ok.kn (Ok.t (Ok.r (Ok.B 2 [(0, sv xs), (4, iv (numbV1 xs)), (5, iv (digitsM (xs.drop (Int.toNat (numbV1 xs))))), (6, iv (numbV2 xs)), (8, pv bs8 0), (9, .func (.func 98) #[] #[pv bs8 0]), (52, .slice a5 (intsOf ((xs.take (Int.toNat (w6 ((numbV1 xs) + (digitsM (xs.drop (Int.toNat (numbV1 xs)))))))).drop (Int.toNat (numbV1 xs)))).length c5), (53, iv ((intsOf ((xs.take (Int.toNat (w6 ((numbV1 xs) + (digitsM (xs.drop (Int.toNat (numbV1 xs)))))))).drop (Int.toNat (numbV1 xs)))).length : Int)), (54, iv (w6 (y0 + 1)))] kr (Ok.j (Ok.t ?_))))))))
   subst hg8
   exact fun a W hA hW => ⟨k39, Nat.lt_succ_self _, j0, f0, w6 (y0 + 1), (if 1000000000 < (w6 ((w6 (10 * v0)) + (w6 (IntKind.wrap .u8 (((intsOf ((xs.take (Int.toNat (w6 ((numbV1 xs) + (digitsM (xs.drop (Int.toNat (numbV1 xs)))))))).drop (Int.toNat (numbV1 xs)))).getD (Int.toNat y0) default) - 48))))) then 1000000000 else (w6 ((w6 (10 * v0)) + (w6 (IntKind.wrap .u8 (((intsOf ((xs.take (Int.toNat (w6 ((numbV1 xs) + (digitsM (xs.drop (Int.toNat (numbV1 xs)))))))).drop (Int.toNat (numbV1 xs)))).getD (Int.toNat y0) default) - 48)))))), hA.sub kr, hW, hF⟩
  replace hF := hF.2 hc6
  refine Ok.x (Ok.thenE (Ok.thenE (Ok.blockHit (Ok.t (Ok.sr ((Ok.b 4 [0, 6, 8, 9] [(12, iv (w6 ((numbV1 xs) + (digitsM (xs.drop (Int.toNat (numbV1 xs)))))))] ?_)))))))
  refine Ok.nt ((Ok.sr ((Ok.b 1 [0, 6, 8, 9, 12] [(13, sv ([] : Bs))] ?_))))
  refine Ok.nt ((Ok.cut (fun a W => ∃ b0 : Ghost, Gext w0 j0 b0 ∧ StA 101 [(0, sv xs), (8, pv bs8 0), (9, .func (.func 98) #[] #[pv bs8 0]), (12, iv (numbV3 xs)), (13, sv (numbV4 xs))] a ∧ StW w0 [.blk bs8 (.cells #[iv v0] 3)] b0 W ∧ numbj56 xs K v0) ?_ ?_))
  ·
   refine Ok.sr ((Ok.b 2 [0, 6, 8, 9, 12, 13] [(66, .bool (decide ((numbV2 xs) > 0)))] ?_))
   refine Ok.nt ((Ok.cn hF rfl (fun x0 => ?_) (fun x0 => ?_)))
   ·replace hF := hF.1 x0
    refine Ok.sr ((Ok.b 7 [0, 6, 8, 9, 12] [(67, sv xs), (69, iv (w6 ((w6 ((numbV1 xs) + (digitsM (xs.drop (Int.toNat (numbV1 xs)))))) + 1))), (73, iv (w6 ((w6 ((w6 ((numbV1 xs) + (digitsM (xs.drop (Int.toNat (numbV1 xs)))))) + 1)) + (numbV2 xs))))] ?_))
    obtain ⟨h015, h115, h215, hF⟩ := hF
    refine Ok.op rfl (OpOk.s (v := sv ((xs.take (Int.toNat (w6 ((w6 ((w6 ((numbV1 xs) + (digitsM (xs.drop (Int.toNat (numbV1 xs)))))) + 1)) + (numbV2 xs))))).drop (Int.toNat (w6 ((w6 ((numbV1 xs) + (digitsM (xs.drop (Int.toNat (numbV1 xs)))))) + 1))))) (Yields.ss (s := xs) (l := (w6 ((w6 ((numbV1 xs) + (digitsM (xs.drop (Int.toNat (numbV1 xs)))))) + 1))) (h := (w6 ((w6 ((w6 ((numbV1 xs) + (digitsM (xs.drop (Int.toNat (numbV1 xs)))))) + 1)) + (numbV2 xs)))) kr Tryz.underlying9 (.inl ⟨_, _, rfl, rfl⟩) (.inl ⟨_, _, rfl, rfl⟩) h015 h115 h215 ((xs.take (Int.toNat (w6 ((w6 ((w6 ((numbV1 xs) + (digitsM (xs.drop (Int.toNat (numbV1 xs)))))) + 1)) + (numbV2 xs))))).drop (Int.toNat (w6 ((w6 ((numbV1 xs) + (digitsM (xs.drop (Int.toNat (numbV1 xs)))))) + 1)))) rfl) rfl rfl (Ok.b 1 [0, 6, 8, 9, 12] [(13, sv ((xs.take (Int.toNat (w6 ((w6 ((w6 ((numbV1 xs) + (digitsM (xs.drop (Int.toNat (numbV1 xs)))))) + 1)) + (numbV2 xs))))).drop (Int.toNat (w6 ((w6 ((numbV1 xs) + (digitsM (xs.drop (Int.toNat (numbV1 xs)))))) + 1)))))] ?_))
    refine Ok.nt ((Ok.r (Ok.b 5 [0, 8, 9, 13] [(12, iv (w6 ((w6 ((numbV1 xs) + (digitsM (xs.drop (Int.toNat (numbV1 xs)))))) + (w6 (1 + (numbV2 xs))))))] ?_)))
    refine Ok.nt ((Ok.v 12 rfl (show (iv (w6 ((w6 ((numbV1 xs) + (digitsM (xs.drop (Int.toNat (numbV1 xs)))))) + (w6 (1 + (numbV2 xs))))) : Value) = iv (numbV3 xs) from congrArg (Value.int .i64) ((if_t x0).symm)) (Ok.v 13 rfl (show (sv ((xs.take (Int.toNat (w6 ((w6 ((w6 ((numbV1 xs) + (digitsM (xs.drop (Int.toNat (numbV1 xs)))))) + 1)) + (numbV2 xs))))).drop (Int.toNat (w6 ((w6 ((numbV1 xs) + (digitsM (xs.drop (Int.toNat (numbV1 xs)))))) + 1)))) : Value) = sv (numbV4 xs) from congrArg ((fun s : Bs => Value.string ⟨⟨s⟩⟩)) ((if_t x0).symm)) ?_)))
    exact fun a W hA hW => ⟨j0, (Gext.r w0 j0), hA.sub kr, hW, hF⟩
   replace hF := hF.2 x0
   refine Ok.k (Ok.t (Ok.v 12 rfl (show (iv (w6 ((numbV1 xs) + (digitsM (xs.drop (Int.toNat (numbV1 xs)))))) : Value) = iv (numbV3 xs) from congrArg (Value.int .i64) ((if_f x0).symm)) (Ok.v 13 rfl (show (sv ([] : Bs) : Value) = sv (numbV4 xs) from congrArg ((fun s : Bs => Value.string ⟨⟨s⟩⟩)) ((if_f x0).symm)) ?_)))
   exact fun a W hA hW => ⟨j0, (Gext.r w0 j0), hA.sub kr, hW, hF⟩
  clear hF
  rintro a W ⟨b0, hxj56, hA, hW, hF⟩
  refine (?_ : Ok _ _ _ _ _ _) a W hA hW
  clear hA hW
  refine Ok.q (Ok.sr ((Ok.b 1 [0, 8, 9, 12, 13] [(79, iv 0)] ?_)))
  refine Ok.nt ((Ok.block ?_))
  obtain ⟨k, hF⟩ := hF
  refine Ok.L (fun k a W => ∃ u0 : Ghost, Gext w0 b0 u0 ∧ ∃ (q0 : Int) (z0 : Int), StA 101 [(0, sv xs), (8, pv bs8 0), (9, .func (.func 98) #[] #[pv bs8 0]), (12, iv (numbV3 xs)), (13, sv (numbV4 xs)), (79, iv q0)] a ∧ StW w0 [.blk bs8 (.cells #[iv z0] 3)] u0 W ∧ numbl68 xs K k q0 z0) k ?_ ?_
  ·
   exact fun a W hA hW => ⟨b0, (Gext.r w0 b0), 0, v0, hA.sub kr, hW, hF⟩
  clear hF
  rintro k68 a W ⟨u0, p0, q0, z0, hA, hW, hF⟩
  cases k68 with
  | zero => exact (hF : False).elim
  | succ k68 =>
   refine (?_ : Ok _ _ _ _ _ _) a W hA hW
   clear hA hW
   refine Ok.sr ((Ok.b 1 [0, 8, 9, 12, 13, 79] [(80, .bool (decide (q0 < 3)))] ?_))
   refine Ok.nt ((Ok.q (Ok.cn hF rfl (fun hc9 => ?_) (fun hc9 => ?_))))
   ·replace hF := hF.1 hc9
    refine Ok.k (Ok.t (Ok.cut (fun a W => ∃ n0 : Ghost, Gext w0 u0 n0 ∧ StA 101 [(0, sv xs), (8, pv bs8 0), (9, .func (.func 98) #[] #[pv bs8 0]), (12, iv (numbV3 xs)), (13, sv (numbV4 xs)), (79, iv q0)] a ∧ StW w0 [.blk bs8 (.cells #[iv (numbV6 xs q0 z0)] 3)] n0 W ∧ numbj75 xs q0 z0 (numbl68 xs K k68)) ?_ ?_))
    ·
     refine Ok.block (Ok.sr ((Ok.b 2 [0, 8, 9, 12, 13, 79] [(14, iv q0)] ?_)))
     refine Ok.nt ((Ok.sr ((Ok.b 4 [0, 8, 9, 12, 13, 14, 79] [(85, .bool (decide (q0 < ((numbV4 xs).length : Int))))] ?_))))
     refine Ok.nt ((Ok.cn hF rfl (fun g0 => ?_) (fun g0 => ?_)))
     ·replace hF := hF.1 g0
      refine Ok.r (Ok.b 3 [0, 8, 9, 12, 13, 79] [(86, .func (.func 98) #[] #[pv bs8 0]), (87, sv (numbV4 xs)), (88, iv q0)] ?_)
      obtain ⟨h011, h111, hF⟩ := hF
      have U0 := get_of (l := (numbV4 xs)) (0 : UInt8) h111
      generalize hg11 : ((numbV4 xs).getD (Int.toNat q0) 0) = e11 at U0 hF ⊢
      refine Ok.op rfl (OpOk.s (v := .int .u8 (e11.toNat : Int)) (Yields.ix (k := .i64) (i := q0) (s := (numbV4 xs)) (b := e11) kr kr Tryz.underlying9 h011 U0) rfl rfl (Ok.op rfl (OpOk.i (args := #[.int .u8 (e11.toNat : Int), pv bs8 0]) 10 [(0, .int .u8 (e11.toNat : Int)), (1, pv bs8 0)] enr Tryz.func98 rfl rfl rfl rfl (Ok.r (Ok.op rfl (OpOk.s (v := iv z0) (Yields.l 0 rfl rfl Tryz.underlying3 rfl kr) rfl rfl (Ok.B 6 [(1, pv bs8 0), (9, iv (if 1000000000 < (w6 ((w6 (10 * z0)) + (w6 (IntKind.wrap .u8 ((e11.toNat : Int) - 48))))) then 1000000000 else (w6 ((w6 (10 * z0)) + (w6 (IntKind.wrap .u8 ((e11.toNat : Int) - 48)))))))] kr (Ok.op rfl (OpOk.sto (k := 1) (v := iv (if 1000000000 < (w6 ((w6 (10 * z0)) + (w6 (IntKind.wrap .u8 ((e11.toNat : Int) - 48))))) then 1000000000 else (w6 ((w6 (10 * z0)) + (w6 (IntKind.wrap .u8 ((e11.toNat : Int) - 48))))))) 0 #[iv (if 1000000000 < (w6 ((w6 (10 * z0)) + (w6 (IntKind.wrap .u8 ((e11.toNat : Int) - 48))))) then 1000000000 else (w6 ((w6 (10 * z0)) + (w6 (IntKind.wrap .u8 ((e11.toNat : Int) - 48))))))] rfl rfl rfl ?_)))))))))
      refine Ok.j (Ok.back (vs := []) (.inr rfl) rfl .nil rfl (Ok.j (Ok.kn (Ok.t ?_))))
      subst hg11
      refine Ok.heapEq (H' := [.blk bs8 (.cells #[iv (numbV6 xs q0 z0)] 3)]) (econs (congrArg (fun l : List Value => Ent.blk bs8 (.cells ⟨l⟩ 3)) (lcons (congrArg (Value.int .i64) ((if_t g0).symm)) rfl)) rfl) ?_
      exact fun a W hA hW => ⟨u0, (Gext.r w0 u0), hA.sub kr, hW, hF⟩
     replace hF := hF.2 g0
     refine Ok.r (Ok.b 1 [0, 8, 9, 12, 13, 79] [(91, .func (.func 98) #[] #[pv bs8 0])] ?_)
     refine Ok.op rfl (OpOk.i (args := #[.int .u8 48, pv bs8 0]) 10 [(0, .int .u8 48), (1, pv bs8 0)] enr Tryz.func98 rfl rfl rfl rfl (Ok.r (Ok.op rfl (OpOk.s (v := iv z0) (Yields.l 0 rfl rfl Tryz.underlying3 rfl kr) rfl rfl (Ok.B 6 [(1, pv bs8 0), (9, iv (if 1000000000 < (w6 ((w6 (10 * z0)) + (w6 (IntKind.wrap .u8 (48 - 48))))) then 1000000000 else (w6 ((w6 (10 * z0)) + (w6 (IntKind.wrap .u8 (48 - 48)))))))] kr (Ok.op rfl (OpOk.sto (k := 1) (v := iv (if 1000000000 < (w6 ((w6 (10 * z0)) + (w6 (IntKind.wrap .u8 (48 - 48))))) then 1000000000 else (w6 ((w6 (10 * z0)) + (w6 (IntKind.wrap .u8 (48 - 48))))))) 0 #[iv (if 1000000000 < (w6 ((w6 (10 * z0)) + (w6 (IntKind.wrap .u8 (48 - 48))))) then 1000000000 else (w6 ((w6 (10 * z0)) + (w6 (IntKind.wrap .u8 (48 - 48))))))] rfl rfl rfl ?_)))))))
     refine Ok.j (Ok.back (vs := []) (.inr rfl) rfl .nil rfl (Ok.j (Ok.kn (Ok.t (Ok.heapEq (H' := [.blk bs8 (.cells #[iv (numbV6 xs q0 z0)] 3)]) (econs (congrArg (fun l : List Value => Ent.blk bs8 (.cells ⟨l⟩ 3)) (lcons (congrArg (Value.int .i64) ((if_f g0).symm)) rfl)) rfl) ?_)))))
     exact fun a W hA hW => ⟨u0, (Gext.r w0 u0), hA.sub kr, hW, hF⟩
    clear hF
    rintro a W ⟨n0, hxj75, hA, hW, hF⟩
    refine (?_ : Ok _ _ _ _ _ _) a W hA hW
    clear hA hW
    refine Ok.r (Ok.b 2 [0, 8, 9, 12, 13] [(79, iv (w6 (q0 + 1)))] ?_)
    refine Ok.j (Ok.t ?_)
    exact fun a W hA hW => ⟨k68, Nat.lt_succ_self _, n0, (p0.trans hxj75), w6 (q0 + 1), (numbV6 xs q0 z0), hA.sub kr, hW, hF⟩
   replace hF := hF.2 hc9
   refine Ok.x (Ok.thenE (Ok.thenE (Ok.blockHit (Ok.t (Ok.cut (fun a W => ∃ Z0 : Ghost, Gext w0 u0 Z0 ∧ StA 101 [(8, pv bs8 0), (12, iv (numbV3 xs))] a ∧ StW w0 [.blk bs8 (.cells #[iv (numbV9 xs z0)] 3)] Z0 W ∧ numbj85 xs K z0) ?_ ?_)))))
   ·
    refine Ok.sr ((Ok.b 1 [8, 12] [(94, sv xs)] ?_))
    obtain ⟨h012, h112, hF⟩ := hF
    have J0 := get_of (l := xs) (0 : UInt8) h112
    generalize W0 : (xs.getD (Int.toNat 0) 0) = e12 at J0 hF ⊢
    refine Ok.op rfl (OpOk.s (v := .int .u8 (e12.toNat : Int)) (Yields.ix (k := .i64) (i := 0) (s := xs) (b := e12) kr kr Tryz.underlying9 h012 J0) rfl rfl (Ok.b 1 [8, 12] [(96, .bool ((e12.toNat : Int) == 45))] ?_))
    refine Ok.nt ((Ok.cn hF rfl (fun m0 => ?_) (fun m0 => ?_)))
    ·replace hF := hF.1 m0
     refine Ok.r (Ok.op rfl (OpOk.s (v := iv z0) (Yields.l 0 rfl rfl Tryz.underlying3 rfl kr) rfl rfl (Ok.b 1 [8, 12] [(98, iv (w6 (0 - z0)))] ?_)))
     refine Ok.op rfl (OpOk.sto (k := 1) (v := iv (w6 (0 - z0))) 0 #[iv (w6 (0 - z0))] rfl rfl rfl ?_)
     refine Ok.j (Ok.t ?_)
     subst W0
     refine Ok.heapEq (H' := [.blk bs8 (.cells #[iv (numbV9 xs z0)] 3)]) (econs (congrArg (fun l : List Value => Ent.blk bs8 (.cells ⟨l⟩ 3)) (lcons (congrArg (Value.int .i64) ((if_t m0).symm)) rfl)) rfl) ?_
     exact fun a W hA hW => ⟨u0, (Gext.r w0 u0), hA.sub kr, hW, hF⟩
    replace hF := hF.2 m0
    refine Ok.k (Ok.t ?_)
    subst W0
    refine Ok.heapEq (H' := [.blk bs8 (.cells #[iv (numbV9 xs z0)] 3)]) (econs (congrArg (fun l : List Value => Ent.blk bs8 (.cells ⟨l⟩ 3)) (lcons (congrArg (Value.int .i64) ((if_f m0).symm)) rfl)) rfl) ?_
    exact fun a W hA hW => ⟨u0, (Gext.r w0 u0), hA.sub kr, hW, hF⟩
   clear hF
   rintro a W ⟨Z0, hxj85, hA, hW, hF⟩
   refine (?_ : Ok _ _ _ _ _ _) a W hA hW
   clear hA hW
   refine Ok.sr ((Ok.op rfl (OpOk.s (v := iv (numbV9 xs z0)) (Yields.l 0 rfl rfl Tryz.underlying3 rfl kr) rfl rfl (Ok.B 3 [(2, iv (numbV9 xs z0)), (3, iv (numbV3 xs))] kr (Ok.nt ((Ok.ret ?_)))))))
   exact Ok.p (vs := [iv (numbV9 xs z0), iv (numbV3 xs)]) [] [] dc rfl (.inl rfl) rfl (.cons (.tmp rfl) (.cons (.tmp rfl) .nil)) ((((((Y0.trans o0).trans hx5).trans f0).trans hxj56).trans p0).trans hxj85) ⟨(numbV9 xs z0), (numbV3 xs), rfl, rfl, hF⟩
end Go.Proofs.YtcnhdkhkadiohaaGreatDoor.Css
