/- Colors: the reference. -/
import Derived.Test.YteocjdpjpkjlaaaDoorCob
namespace Go.Proofs.YteocjdpjpkjlaaaDoor.Co
open Go Go.Eng Go.RowKit Go.Shelf Go.Proofs Bld Sp Ti
set_option linter.unusedVariables false
def rdigF (xc : Int) (K : Bool → Prop) : Prop :=
  K ((decide (xc ≥ 48)) && (decide (xc ≤ 57)))
set_option maxHeartbeats 4000000 in
set_option maxRecDepth 100000 in
set_option linter.unusedVariables false in
theorem rdig_ok {g : Ghost} (xc : Int) (K : Bool → Prop)
    (hF : rdigF xc K) : CallsH Tryd.prog 102 #[.int .u8 xc] g [] (fun g' H' v => ∃ (r0 : Bool), v = .bool r0 ∧ H' = [] ∧ K r0) := by
  refine CallsH.enter 9 [(0, .int .u8 xc)] Tryd.func102 rfl (by kernel_rfl) (by kernel_rfl) (by kernel_rfl) fun w0 => ?_
  refine Ok.seq ?_
  refine Ok.region ?_
  refine Ok.batch 1 [(0, .int .u8 xc)] (by kernel_rfl) ?_
  refine Ok.nil ?_
  refine Ok.thenN ?_
  refine Ok.seq ?_
  refine Ok.region ?_
  refine Ok.batch 3 [(0, .int .u8 xc), (5, .bool (decide (xc ≥ 48)))] (by kernel_rfl) ?_
  refine Ok.midway 3 [(8, .bool ((decide (xc ≥ 48)) && (decide (xc ≤ 57))))] (fun hR1 => ?_) ?_
  · refine Ok.boolAt 5 (decide (xc ≥ 48)) rfl (fun hc2 => ?_) (fun hc2 => ?_)
    · skip
      refine Ok.batch 3 [(8, .bool (decide (xc ≤ 57)))] (by kernel_rfl) ?_
      refine Ok.reval 8 rfl (show (.bool (decide (xc ≤ 57)) : Value) = .bool ((decide (xc ≥ 48)) && (decide (xc ≤ 57))) from congrArg Value.bool (mand_t hc2)) ?_
      refine Ok.batch 0 [(8, .bool ((decide (xc ≥ 48)) && (decide (xc ≤ 57))))] (by kernel_rfl) ?_
      exact hR1
    · skip
      refine Ok.batch 3 [(8, .bool false)] (by kernel_rfl) ?_
      refine Ok.reval 8 rfl (show (.bool false : Value) = .bool ((decide (xc ≥ 48)) && (decide (xc ≤ 57))) from congrArg Value.bool (mand_f hc2)) ?_
      refine Ok.batch 0 [(8, .bool ((decide (xc ≥ 48)) && (decide (xc ≤ 57))))] (by kernel_rfl) ?_
      exact hR1
  refine Ok.batch 1 [(2, .bool ((decide (xc ≥ 48)) && (decide (xc ≤ 57))))] (by kernel_rfl) ?_
  refine Ok.nil ?_
  refine Ok.thenN ?_
  refine Ok.ret ?_
  exact Ok.resH (vs := [.bool ((decide (xc ≥ 48)) && (decide (xc ≤ 57)))]) (.inl rfl) rfl (.cons (.tmp rfl) .nil) (Gext.refl w0 g) ⟨((decide (xc ≥ 48)) && (decide (xc ≤ 57))), rfl, rfl, hF⟩
def rdigM (xc : Int) : Bool := ((decide (xc ≥ 48)) && (decide (xc ≤ 57)))
set_option linter.unusedSimpArgs false in
set_option linter.unusedVariables false in
theorem rdigF_A (xc : Int) (P : Bool → Prop) (h : P (rdigM xc)) : rdigF xc (fun k0 => P k0) := by
  unfold rdigM at h
  unfold rdigF
  exact h
theorem rdig_F (xc : Int) : rdigF xc (fun k0 => k0 = rdigM xc) :=
  rdigF_A xc (fun z => z = rdigM xc) rfl
set_option linter.unusedVariables false in
theorem rdig_c {g : Ghost} (xc : Int)  : CallsG Tryd.prog 102 #[.int .u8 xc] g (.bool (rdigM xc)) :=
  (rdig_ok xc _ (rdig_F xc)).gives (by rintro g' H' v _ ⟨r0, rfl, rfl, hK⟩; subst hK; rfl)
def rhexF (xc : Int) (K : Int → Prop) : Prop :=
  (((rdigM xc)) = true → K (IntKind.wrap .i64 (IntKind.wrap .u8 (xc - 48)))) ∧ (((rdigM xc)) = false → ((((decide (xc ≥ 97)) && (decide (xc ≤ 102)))) = true → K (IntKind.wrap .i64 ((IntKind.wrap .i64 (IntKind.wrap .u8 (xc - 97))) + 10))) ∧ ((((decide (xc ≥ 97)) && (decide (xc ≤ 102)))) = false → K (-1)))
set_option maxHeartbeats 4000000 in
set_option maxRecDepth 100000 in
set_option linter.unusedVariables false in
theorem rhex_ok {g : Ghost} (xc : Int) (K : Int → Prop)
    (hF : rhexF xc K) : CallsH Tryd.prog 75 #[.int .u8 xc] g [] (fun g' H' v => ∃ (r0 : Int), v = .int .i64 r0 ∧ H' = [] ∧ K r0) := by
  refine CallsH.enter 18 [(0, .int .u8 xc)] Tryd.func75 rfl (by kernel_rfl) (by kernel_rfl) (by kernel_rfl) fun w0 => ?_
  refine Ok.seq ?_
  refine Ok.region ?_
  refine Ok.batch 1 [(0, .int .u8 xc)] (by kernel_rfl) ?_
  refine Ok.nil ?_
  refine Ok.thenN ?_
  refine Ok.seq ?_
  refine Ok.seq ?_
  refine Ok.region ?_
  refine Ok.batch 1 [(0, .int .u8 xc), (3, .int .u8 xc)] (by kernel_rfl) ?_
  refine Ok.op rfl (OpOk.callG (v := .bool (rdigM xc)) (enters (by kernel_rfl) (fun _ => by kernel_rfl)) (fun W hW => rdig_c xc) rfl ?_)
  refine Ok.nil ?_
  refine Ok.thenN ?_
  refine Ok.cond (b := (rdigM xc)) rfl (fun hc1 => ?_) (fun hc1 => ?_)
  · replace hF := hF.1 hc1
    refine Ok.seq ?_
    refine Ok.region ?_
    refine Ok.batch 4 [(2, .int .i64 (IntKind.wrap .i64 (IntKind.wrap .u8 (xc - 48))))] (by kernel_rfl) ?_
    refine Ok.nil ?_
    refine Ok.thenN ?_
    refine Ok.ret ?_
    refine Ok.thenR ?_
    exact Ok.resH (vs := [.int .i64 (IntKind.wrap .i64 (IntKind.wrap .u8 (xc - 48)))]) (.inl rfl) rfl (.cons (.tmp rfl) .nil) (Gext.refl w0 g) ⟨(IntKind.wrap .i64 (IntKind.wrap .u8 (xc - 48))), rfl, rfl, hF⟩
  · replace hF := hF.2 hc1
    refine Ok.skip ?_
    refine Ok.thenN ?_
    refine Ok.seq ?_
    refine Ok.seq ?_
    refine Ok.region ?_
    refine Ok.batch 3 [(0, .int .u8 xc), (10, .bool (decide (xc ≥ 97)))] (by kernel_rfl) ?_
    refine Ok.midway 3 [(0, .int .u8 xc), (13, .bool ((decide (xc ≥ 97)) && (decide (xc ≤ 102))))] (fun hR2 => ?_) ?_
    · refine Ok.boolAt 10 (decide (xc ≥ 97)) rfl (fun hc3 => ?_) (fun hc3 => ?_)
      · skip
        refine Ok.batch 3 [(0, .int .u8 xc), (13, .bool (decide (xc ≤ 102)))] (by kernel_rfl) ?_
        refine Ok.reval 13 rfl (show (.bool (decide (xc ≤ 102)) : Value) = .bool ((decide (xc ≥ 97)) && (decide (xc ≤ 102))) from congrArg Value.bool (mand_t hc3)) ?_
        refine Ok.batch 0 [(0, .int .u8 xc), (13, .bool ((decide (xc ≥ 97)) && (decide (xc ≤ 102))))] (by kernel_rfl) ?_
        exact hR2
      · skip
        refine Ok.batch 3 [(0, .int .u8 xc), (13, .bool false)] (by kernel_rfl) ?_
        refine Ok.reval 13 rfl (show (.bool false : Value) = .bool ((decide (xc ≥ 97)) && (decide (xc ≤ 102))) from congrArg Value.bool (mand_f hc3)) ?_
        refine Ok.batch 0 [(0, .int .u8 xc), (13, .bool ((decide (xc ≥ 97)) && (decide (xc ≤ 102))))] (by kernel_rfl) ?_
        exact hR2
    refine Ok.nil ?_
    refine Ok.thenN ?_
    refine Ok.cond (b := ((decide (xc ≥ 97)) && (decide (xc ≤ 102)))) rfl (fun hc4 => ?_) (fun hc4 => ?_)
    · replace hF := hF.1 hc4
      refine Ok.seq ?_
      refine Ok.region ?_
      refine Ok.batch 5 [(2, .int .i64 (IntKind.wrap .i64 ((IntKind.wrap .i64 (IntKind.wrap .u8 (xc - 97))) + 10)))] (by kernel_rfl) ?_
      refine Ok.nil ?_
      refine Ok.thenN ?_
      refine Ok.ret ?_
      refine Ok.thenR ?_
      exact Ok.resH (vs := [.int .i64 (IntKind.wrap .i64 ((IntKind.wrap .i64 (IntKind.wrap .u8 (xc - 97))) + 10))]) (.inl rfl) rfl (.cons (.tmp rfl) .nil) (Gext.refl w0 g) ⟨(IntKind.wrap .i64 ((IntKind.wrap .i64 (IntKind.wrap .u8 (xc - 97))) + 10)), rfl, rfl, hF⟩
    · replace hF := hF.2 hc4
      refine Ok.skip ?_
      refine Ok.thenN ?_
      refine Ok.seq ?_
      refine Ok.region ?_
      refine Ok.batch 1 [(2, .int .i64 (-1))] (by kernel_rfl) ?_
      refine Ok.nil ?_
      refine Ok.thenN ?_
      refine Ok.ret ?_
      exact Ok.resH (vs := [.int .i64 (-1)]) (.inl rfl) rfl (.cons (.tmp rfl) .nil) (Gext.refl w0 g) ⟨(-1), rfl, rfl, hF⟩
def rhexM (xc : Int) : Int := (if (rdigM xc) = true then (IntKind.wrap .i64 (IntKind.wrap .u8 (xc - 48))) else (if ((decide (xc ≥ 97)) && (decide (xc ≤ 102))) = true then (IntKind.wrap .i64 ((IntKind.wrap .i64 (IntKind.wrap .u8 (xc - 97))) + 10)) else (-1)))
set_option linter.unusedSimpArgs false in
set_option linter.unusedVariables false in
theorem rhexF_A (xc : Int) (P : Int → Prop) (h : P (rhexM xc)) : rhexF xc (fun k0 => P k0) := by
  unfold rhexM at h
  unfold rhexF
  refine ⟨fun hc0 => ?_, fun hc0 => ?_⟩
  · rw [if_t hc0] at h
    exact h
  · rw [if_f hc0] at h
    refine ⟨fun hc1 => ?_, fun hc1 => ?_⟩
    · rw [if_t hc1] at h
      have hd1 := hc1; try simp only [Bool.and_eq_true, Bool.or_eq_true, Bool.and_eq_false_iff, Bool.or_eq_false_iff, Bool.not_eq_true', Bool.not_eq_false', decide_eq_true_eq, decide_eq_false_iff_not, beq_iff_eq, beq_eq_false_iff_ne, ne_eq] at hd1
      exact h
    · rw [if_f hc1] at h
      have hd1 := hc1; try simp only [Bool.and_eq_true, Bool.or_eq_true, Bool.and_eq_false_iff, Bool.or_eq_false_iff, Bool.not_eq_true', Bool.not_eq_false', decide_eq_true_eq, decide_eq_false_iff_not, beq_iff_eq, beq_eq_false_iff_ne, ne_eq] at hd1
      exact h
theorem rhex_F (xc : Int) : rhexF xc (fun k0 => k0 = rhexM xc) :=
  rhexF_A xc (fun z => z = rhexM xc) rfl
set_option linter.unusedVariables false in
theorem rhex_c {g : Ghost} (xc : Int)  : CallsG Tryd.prog 75 #[.int .u8 xc] g (.int .i64 (rhexM xc)) :=
  (rhex_ok xc _ (rhex_F xc)).gives (by rintro g' H' v _ ⟨r0, rfl, rfl, hK⟩; subst hK; rfl)
def rlowj16 (x4l9 : Int) (yownb1_0l9 : List (Int)) (C9 : Int → (List (Int)) → Prop) : Prop :=
  C9 (IntKind.wrap .i64 (x4l9 + 1)) (if ((decide ((yownb1_0l9.getD (Int.toNat x4l9) default) ≥ 65)) && (decide ((yownb1_0l9.getD (Int.toNat x4l9) default) ≤ 90))) = true then (yownb1_0l9.set (Int.toNat x4l9) (IntKind.wrap .u8 ((yownb1_0l9.getD (Int.toNat x4l9) default) + 32))) else yownb1_0l9)
def rlowj18 (x4l9 : Int) (yownb1_0l9 : List (Int)) (C9 : Int → (List (Int)) → Prop) : Prop :=
  ((((decide ((yownb1_0l9.getD (Int.toNat x4l9) default) ≥ 65)) && (decide ((yownb1_0l9.getD (Int.toNat x4l9) default) ≤ 90)))) = true → (0 : Int) ≤ x4l9 ∧ Int.toNat x4l9 < yownb1_0l9.length ∧ rlowj16 x4l9 yownb1_0l9 C9) ∧ ((((decide ((yownb1_0l9.getD (Int.toNat x4l9) default) ≥ 65)) && (decide ((yownb1_0l9.getD (Int.toNat x4l9) default) ≤ 90)))) = false → rlowj16 x4l9 yownb1_0l9 C9)
def rlowl9b (K : (List UInt8) → Prop) (x4l9 : Int) (yownb1_0l9 : List (Int)) (C9 : Int → (List (Int)) → Prop) : Prop :=
  ((decide (x4l9 < (yownb1_0l9.length : Int))) = true → (0 : Int) ≤ x4l9 ∧ Int.toNat x4l9 < yownb1_0l9.length ∧ ((decide ((yownb1_0l9.getD (Int.toNat x4l9) default) ≥ 65)) = true → rlowj18 x4l9 yownb1_0l9 C9) ∧ ((decide ((yownb1_0l9.getD (Int.toNat x4l9) default) ≥ 65)) = false → rlowj18 x4l9 yownb1_0l9 C9)) ∧ ((decide (x4l9 < (yownb1_0l9.length : Int))) = false → K (bytesOf yownb1_0l9))
def rlowl9 (K : (List UInt8) → Prop) : Nat → Int → (List (Int)) → Prop
  | 0, _, _ => False
  | k + 1, x4l9, yownb1_0l9 => rlowl9b K x4l9 yownb1_0l9 (rlowl9 K k)
def rlowF (xs : List UInt8) (K : (List UInt8) → Prop) : Prop :=
  ∃ k, rlowl9 K k 0 (intsOf xs)
set_option maxHeartbeats 4000000 in
set_option maxRecDepth 100000 in
set_option linter.unusedVariables false in
theorem rlow_ok {g : Ghost} (xs : List UInt8) (K : (List UInt8) → Prop)
    (hF : rlowF xs K) : CallsH Tryd.prog 48 #[.string ⟨⟨xs⟩⟩] g [] (fun g' H' v => ∃ (r0 : List UInt8), v = .string ⟨⟨r0⟩⟩ ∧ H' = [] ∧ K r0) := by
  refine CallsH.enter 35 [(0, .string ⟨⟨xs⟩⟩)] Tryd.func48 rfl (by kernel_rfl) (by kernel_rfl) (by kernel_rfl) fun w0 => ?_
  refine Ok.seq ?_
  refine Ok.region ?_
  refine Ok.batch 1 [(0, .string ⟨⟨xs⟩⟩)] (by kernel_rfl) ?_
  refine Ok.nil ?_
  refine Ok.thenN ?_
  refine Ok.seq ?_
  refine Ok.region ?_
  refine Ok.batch 1 [(5, .string ⟨⟨xs⟩⟩)] (by kernel_rfl) ?_
  refine Ok.op rfl (OpOk.bytesB (s := xs) (by kernel_rfl) Tryd.underlying9 Tryd.underlying83 Tryd.underlying5 rfl fun a1 c1 xs1 hL1 => ?_)
  refine Ok.batch 1 [(3, .slice a1 (intsOf xs).length c1)] (by kernel_rfl) ?_
  refine Ok.nil ?_
  refine Ok.thenN ?_
  refine Ok.seq ?_
  refine Ok.seq ?_
  refine Ok.region ?_
  refine Ok.batch 1 [(3, .slice a1 (intsOf xs).length c1), (4, .int .i64 0)] (by kernel_rfl) ?_
  refine Ok.nil ?_
  refine Ok.thenN ?_
  refine Ok.block ?_
  obtain ⟨k, hF⟩ := hF
  refine Ok.loop (fun k a W => ∃ gl9 : Ghost, Gext w0 g gl9 ∧ ∃ (x4l9 : Int) (ayownb1_0l9 : Option Addr) (cyownb1_0l9 : Nat) (yownb1_0l9 : List (Int)) (xsyownb1_0l9 : List Value), RepL gl9 (.int .u8) xsyownb1_0l9 yownb1_0l9 ∧ StA 35 [(3, .slice ayownb1_0l9 yownb1_0l9.length cyownb1_0l9), (4, .int .i64 x4l9)] a ∧ StW w0 [.ownb (.slice ayownb1_0l9 yownb1_0l9.length cyownb1_0l9) 5 yownb1_0l9.length xsyownb1_0l9] gl9 W ∧ rlowl9 K k x4l9 yownb1_0l9) k ?_ ?_
  ·
    exact fun a W hA hW => ⟨g, (Gext.refl w0 g), 0, a1, c1, (intsOf xs), xs1, hL1, hA.sub (by kernel_rfl), hW, hF⟩
  ·
    clear hF
    rintro k9 a W ⟨gl9, hxl9, x4l9, ayownb1_0l9, cyownb1_0l9, yownb1_0l9, xsyownb1_0l9, hLyownb1_0l9, hA, hW, hF⟩
    cases k9 with
    | zero => exact (hF : False).elim
    | succ k9 =>
      refine (?_ : Ok _ _ _ _ _ _) a W hA hW
      clear hA hW
      refine Ok.seq ?_
      refine Ok.seq ?_
      refine Ok.region ?_
      refine Ok.batch 4 [(3, .slice ayownb1_0l9 yownb1_0l9.length cyownb1_0l9), (4, .int .i64 x4l9), (10, .bool (decide (x4l9 < (yownb1_0l9.length : Int))))] (by kernel_rfl) ?_
      refine Ok.nil ?_
      refine Ok.thenN ?_
      refine Ok.cond (b := decide (x4l9 < (yownb1_0l9.length : Int))) rfl (fun hc2 => ?_) (fun hc2 => ?_)
      · replace hF := hF.1 hc2
        refine Ok.skip ?_
        refine Ok.thenN ?_
        refine Ok.cut (fun a W => ∃ gj16 : Ghost, Gext w0 gl9 gj16 ∧ ∃ (ayownb1_0j16 : Option Addr) (cyownb1_0j16 : Nat) (xsyownb1_0j16 : List Value), RepL gj16 (.int .u8) xsyownb1_0j16 (if ((decide ((yownb1_0l9.getD (Int.toNat x4l9) default) ≥ 65)) && (decide ((yownb1_0l9.getD (Int.toNat x4l9) default) ≤ 90))) = true then (yownb1_0l9.set (Int.toNat x4l9) (IntKind.wrap .u8 ((yownb1_0l9.getD (Int.toNat x4l9) default) + 32))) else yownb1_0l9) ∧ StA 35 [(3, .slice ayownb1_0j16 (if ((decide ((yownb1_0l9.getD (Int.toNat x4l9) default) ≥ 65)) && (decide ((yownb1_0l9.getD (Int.toNat x4l9) default) ≤ 90))) = true then (yownb1_0l9.set (Int.toNat x4l9) (IntKind.wrap .u8 ((yownb1_0l9.getD (Int.toNat x4l9) default) + 32))) else yownb1_0l9).length cyownb1_0j16), (4, .int .i64 x4l9)] a ∧ StW w0 [.ownb (.slice ayownb1_0j16 (if ((decide ((yownb1_0l9.getD (Int.toNat x4l9) default) ≥ 65)) && (decide ((yownb1_0l9.getD (Int.toNat x4l9) default) ≤ 90))) = true then (yownb1_0l9.set (Int.toNat x4l9) (IntKind.wrap .u8 ((yownb1_0l9.getD (Int.toNat x4l9) default) + 32))) else yownb1_0l9).length cyownb1_0j16) 5 (if ((decide ((yownb1_0l9.getD (Int.toNat x4l9) default) ≥ 65)) && (decide ((yownb1_0l9.getD (Int.toNat x4l9) default) ≤ 90))) = true then (yownb1_0l9.set (Int.toNat x4l9) (IntKind.wrap .u8 ((yownb1_0l9.getD (Int.toNat x4l9) default) + 32))) else yownb1_0l9).length xsyownb1_0j16] gj16 W ∧ rlowj16 x4l9 yownb1_0l9 (rlowl9 K k9)) ?_ ?_
        ·
          refine Ok.block ?_
          refine Ok.cut (fun a W => ∃ gj18 : Ghost, Gext w0 gl9 gj18 ∧ StA 35 [(3, .slice ayownb1_0l9 yownb1_0l9.length cyownb1_0l9), (4, .int .i64 x4l9), (24, .bool ((decide ((yownb1_0l9.getD (Int.toNat x4l9) default) ≥ 65)) && (decide ((yownb1_0l9.getD (Int.toNat x4l9) default) ≤ 90))))] a ∧ StW w0 [.ownb (.slice ayownb1_0l9 yownb1_0l9.length cyownb1_0l9) 5 yownb1_0l9.length xsyownb1_0l9] gj18 W ∧ rlowj18 x4l9 yownb1_0l9 (rlowl9 K k9)) ?_ ?_
          ·
            refine Ok.region ?_
            refine Ok.batch 2 [(3, .slice ayownb1_0l9 yownb1_0l9.length cyownb1_0l9), (4, .int .i64 x4l9), (13, .slice ayownb1_0l9 yownb1_0l9.length cyownb1_0l9), (14, .int .i64 x4l9)] (by kernel_rfl) ?_
            obtain ⟨h09, h19, hF⟩ := hF
            have he9 := get_of (l := yownb1_0l9) (default : Int) h19
            generalize hg9 : (yownb1_0l9.getD (Int.toNat x4l9) default) = e9 at he9 hF ⊢
            refine Ok.op rfl (OpOk.indexB (q := x4l9) (el := e9) 0 rfl hLyownb1_0l9 rfl rfl Tryd.underlying83 (by kernel_rfl) h09 he9 rfl fun hc8 => ?_)
            refine Ok.op rfl (OpOk.step (v := .int .u8 e9) (Yields.loadB 0 0 rfl hc8 rfl Tryd.underlying5 rfl (by kernel_rfl)) rfl rfl ?_)
            refine Ok.batch 2 [(3, .slice ayownb1_0l9 yownb1_0l9.length cyownb1_0l9), (4, .int .i64 x4l9), (18, .bool (decide (e9 ≥ 65)))] (by kernel_rfl) ?_
            refine Ok.boolAt 18 (decide (e9 ≥ 65)) rfl (fun hc10 => ?_) (fun hc10 => ?_)
            · replace hF := hF.1 hc10
              refine Ok.batch 2 [(3, .slice ayownb1_0l9 yownb1_0l9.length cyownb1_0l9), (4, .int .i64 x4l9), (18, .bool true), (19, .slice ayownb1_0l9 yownb1_0l9.length cyownb1_0l9), (20, .int .i64 x4l9)] (by kernel_rfl) ?_
              refine Ok.opYes (j := 5) (d := 18) (want := true) (b := true) rfl (by kernel_rfl) (by kernel_rfl) rfl (OpOk.indexB (q := x4l9) (el := e9) 0 rfl hLyownb1_0l9 rfl rfl Tryd.underlying83 (by kernel_rfl) h09 he9 rfl fun hc11 => ?_)
              refine Ok.opYes (j := 5) (d := 18) (want := true) (b := true) rfl (by kernel_rfl) (by kernel_rfl) rfl (OpOk.step (v := .int .u8 e9) (Yields.loadB 0 0 rfl hc11 rfl Tryd.underlying5 rfl (by kernel_rfl)) rfl rfl ?_)
              refine Ok.batch 2 [(3, .slice ayownb1_0l9 yownb1_0l9.length cyownb1_0l9), (4, .int .i64 x4l9), (24, .bool (decide (e9 ≤ 90)))] (by kernel_rfl) ?_
              refine Ok.nil ?_
              refine Ok.thenN ?_
              subst hg9
              refine Ok.reval 24 rfl (show (.bool (decide ((yownb1_0l9.getD (Int.toNat x4l9) default) ≤ 90)) : Value) = .bool ((decide ((yownb1_0l9.getD (Int.toNat x4l9) default) ≥ 65)) && (decide ((yownb1_0l9.getD (Int.toNat x4l9) default) ≤ 90))) from congrArg (Value.bool) (mand_t hc10)) ?_
              exact fun a W hA hW => ⟨gl9, (Gext.refl w0 gl9), hA.sub (by kernel_rfl), hW, hF⟩
            · replace hF := hF.2 hc10
              refine Ok.batch 6 [(3, .slice ayownb1_0l9 yownb1_0l9.length cyownb1_0l9), (4, .int .i64 x4l9), (24, .bool false)] (by kernel_rfl) ?_
              refine Ok.nil ?_
              refine Ok.thenN ?_
              subst hg9
              refine Ok.reval 24 rfl (show (.bool false : Value) = .bool ((decide ((yownb1_0l9.getD (Int.toNat x4l9) default) ≥ 65)) && (decide ((yownb1_0l9.getD (Int.toNat x4l9) default) ≤ 90))) from congrArg (Value.bool) (mand_f hc10)) ?_
              exact fun a W hA hW => ⟨gl9, (Gext.refl w0 gl9), hA.sub (by kernel_rfl), hW, hF⟩
          ·
            clear hF
            rintro a W ⟨gj18, hxj18, hA, hW, hF⟩
            refine (?_ : Ok _ _ _ _ _ _) a W hA hW
            clear hA hW
            replace hLyownb1_0l9 := hLyownb1_0l9.mono hxj18.1
            refine Ok.cond (b := ((decide ((yownb1_0l9.getD (Int.toNat x4l9) default) ≥ 65)) && (decide ((yownb1_0l9.getD (Int.toNat x4l9) default) ≤ 90)))) rfl (fun hc3 => ?_) (fun hc3 => ?_)
            · replace hF := hF.1 hc3
              refine Ok.region ?_
              refine Ok.batch 4 [(3, .slice ayownb1_0l9 yownb1_0l9.length cyownb1_0l9), (4, .int .i64 x4l9), (25, .slice ayownb1_0l9 yownb1_0l9.length cyownb1_0l9), (26, .int .i64 x4l9), (27, .slice ayownb1_0l9 yownb1_0l9.length cyownb1_0l9), (28, .int .i64 x4l9)] (by kernel_rfl) ?_
              obtain ⟨h05, h15, hF⟩ := hF
              have he5 := get_of (l := yownb1_0l9) (default : Int) h15
              generalize hg5 : (yownb1_0l9.getD (Int.toNat x4l9) default) = e5 at he5 hF ⊢
              refine Ok.op rfl (OpOk.indexB (q := x4l9) (el := e5) 0 rfl hLyownb1_0l9 rfl rfl Tryd.underlying83 (by kernel_rfl) h05 he5 rfl fun hc4 => ?_)
              refine Ok.op rfl (OpOk.step (v := .int .u8 e5) (Yields.loadB 0 0 rfl hc4 rfl Tryd.underlying5 rfl (by kernel_rfl)) rfl rfl ?_)
              refine Ok.batch 1 [(3, .slice ayownb1_0l9 yownb1_0l9.length cyownb1_0l9), (4, .int .i64 x4l9), (25, .slice ayownb1_0l9 yownb1_0l9.length cyownb1_0l9), (26, .int .i64 x4l9), (31, .int .u8 (IntKind.wrap .u8 (e5 + 32)))] (by kernel_rfl) ?_
              refine Ok.op rfl (OpOk.indexB (q := x4l9) (el := e5) 0 rfl hLyownb1_0l9 rfl rfl Tryd.underlying83 (by kernel_rfl) h05 he5 rfl fun hc6 => ?_)
              refine Ok.op rfl (OpOk.storeB (q := Int.toNat x4l9) (el' := IntKind.wrap .u8 (e5 + 32)) 0 rfl hLyownb1_0l9 hc6 rfl rfl (by kernel_rfl) fun xs7 hL7 => ?_)
              rw [show yownb1_0l9.length = (yownb1_0l9.set (Int.toNat x4l9) (IntKind.wrap .u8 (e5 + 32))).length from (List.length_set ..).symm]
              refine Ok.nil ?_
              refine Ok.blockN ?_
              refine Ok.thenN ?_
              subst hg5
              refine Ok.reval 3 rfl (show (.slice ayownb1_0l9 (yownb1_0l9.set (Int.toNat x4l9) (IntKind.wrap .u8 ((yownb1_0l9.getD (Int.toNat x4l9) default) + 32))).length cyownb1_0l9 : Value) = .slice ayownb1_0l9 (if ((decide ((yownb1_0l9.getD (Int.toNat x4l9) default) ≥ 65)) && (decide ((yownb1_0l9.getD (Int.toNat x4l9) default) ≤ 90))) = true then (yownb1_0l9.set (Int.toNat x4l9) (IntKind.wrap .u8 ((yownb1_0l9.getD (Int.toNat x4l9) default) + 32))) else yownb1_0l9).length cyownb1_0l9 from congrArg (fun l : List (Int) => Value.slice ayownb1_0l9 l.length cyownb1_0l9) ((if_t hc3).symm)) ?_
              refine Ok.heapEq (H' := [.ownb (.slice ayownb1_0l9 (if ((decide ((yownb1_0l9.getD (Int.toNat x4l9) default) ≥ 65)) && (decide ((yownb1_0l9.getD (Int.toNat x4l9) default) ≤ 90))) = true then (yownb1_0l9.set (Int.toNat x4l9) (IntKind.wrap .u8 ((yownb1_0l9.getD (Int.toNat x4l9) default) + 32))) else yownb1_0l9).length cyownb1_0l9) 5 (if ((decide ((yownb1_0l9.getD (Int.toNat x4l9) default) ≥ 65)) && (decide ((yownb1_0l9.getD (Int.toNat x4l9) default) ≤ 90))) = true then (yownb1_0l9.set (Int.toNat x4l9) (IntKind.wrap .u8 ((yownb1_0l9.getD (Int.toNat x4l9) default) + 32))) else yownb1_0l9).length xs7]) (econs (congrArg (fun l : List (Int) => Ent.ownb (.slice ayownb1_0l9 l.length cyownb1_0l9) 5  l.length xs7) ((if_t hc3).symm)) rfl) ?_
              exact fun a W hA hW => ⟨gj18, hxj18, ayownb1_0l9, cyownb1_0l9, xs7, (Eq.mp (congrArg (fun l : List (Int) => RepL gj18 (.int .u8) xs7 l) ((if_t hc3).symm)) hL7), hA.sub (by kernel_rfl), hW, hF⟩
            · replace hF := hF.2 hc3
              refine Ok.skip ?_
              refine Ok.blockN ?_
              refine Ok.thenN ?_
              refine Ok.reval 3 rfl (show (.slice ayownb1_0l9 yownb1_0l9.length cyownb1_0l9 : Value) = .slice ayownb1_0l9 (if ((decide ((yownb1_0l9.getD (Int.toNat x4l9) default) ≥ 65)) && (decide ((yownb1_0l9.getD (Int.toNat x4l9) default) ≤ 90))) = true then (yownb1_0l9.set (Int.toNat x4l9) (IntKind.wrap .u8 ((yownb1_0l9.getD (Int.toNat x4l9) default) + 32))) else yownb1_0l9).length cyownb1_0l9 from congrArg (fun l : List (Int) => Value.slice ayownb1_0l9 l.length cyownb1_0l9) ((if_f hc3).symm)) ?_
              refine Ok.heapEq (H' := [.ownb (.slice ayownb1_0l9 (if ((decide ((yownb1_0l9.getD (Int.toNat x4l9) default) ≥ 65)) && (decide ((yownb1_0l9.getD (Int.toNat x4l9) default) ≤ 90))) = true then (yownb1_0l9.set (Int.toNat x4l9) (IntKind.wrap .u8 ((yownb1_0l9.getD (Int.toNat x4l9) default) + 32))) else yownb1_0l9).length cyownb1_0l9) 5 (if ((decide ((yownb1_0l9.getD (Int.toNat x4l9) default) ≥ 65)) && (decide ((yownb1_0l9.getD (Int.toNat x4l9) default) ≤ 90))) = true then (yownb1_0l9.set (Int.toNat x4l9) (IntKind.wrap .u8 ((yownb1_0l9.getD (Int.toNat x4l9) default) + 32))) else yownb1_0l9).length xsyownb1_0l9]) (econs (congrArg (fun l : List (Int) => Ent.ownb (.slice ayownb1_0l9 l.length cyownb1_0l9) 5  l.length xsyownb1_0l9) ((if_f hc3).symm)) rfl) ?_
              exact fun a W hA hW => ⟨gj18, hxj18, ayownb1_0l9, cyownb1_0l9, xsyownb1_0l9, (Eq.mp (congrArg (fun l : List (Int) => RepL gj18 (.int .u8) xsyownb1_0l9 l) ((if_f hc3).symm)) hLyownb1_0l9), hA.sub (by kernel_rfl), hW, hF⟩
        ·
          clear hF
          rintro a W ⟨gj16, hxj16, ayownb1_0j16, cyownb1_0j16, xsyownb1_0j16, hLyownb1_0j16, hA, hW, hF⟩
          refine (?_ : Ok _ _ _ _ _ _) a W hA hW
          clear hA hW
          refine Ok.region ?_
          refine Ok.batch 3 [(3, .slice ayownb1_0j16 (if ((decide ((yownb1_0l9.getD (Int.toNat x4l9) default) ≥ 65)) && (decide ((yownb1_0l9.getD (Int.toNat x4l9) default) ≤ 90))) = true then (yownb1_0l9.set (Int.toNat x4l9) (IntKind.wrap .u8 ((yownb1_0l9.getD (Int.toNat x4l9) default) + 32))) else yownb1_0l9).length cyownb1_0j16), (4, .int .i64 (IntKind.wrap .i64 (x4l9 + 1)))] (by kernel_rfl) ?_
          refine Ok.nil ?_
          refine Ok.thenN ?_
          exact fun a W hA hW => ⟨k9, Nat.lt_succ_self _, gj16, (hxl9.trans hxj16), IntKind.wrap .i64 (x4l9 + 1), ayownb1_0j16, cyownb1_0j16, (if ((decide ((yownb1_0l9.getD (Int.toNat x4l9) default) ≥ 65)) && (decide ((yownb1_0l9.getD (Int.toNat x4l9) default) ≤ 90))) = true then (yownb1_0l9.set (Int.toNat x4l9) (IntKind.wrap .u8 ((yownb1_0l9.getD (Int.toNat x4l9) default) + 32))) else yownb1_0l9), xsyownb1_0j16, hLyownb1_0j16, hA.sub (by kernel_rfl), hW, hF⟩
      · replace hF := hF.2 hc2
        refine Ok.exit ?_
        refine Ok.thenE ?_
        refine Ok.thenE ?_
        refine Ok.blockHit ?_
        refine Ok.thenN ?_
        refine Ok.seq ?_
        refine Ok.region ?_
        refine Ok.batch 1 [(33, .slice ayownb1_0l9 yownb1_0l9.length cyownb1_0l9)] (by kernel_rfl) ?_
        refine Ok.op rfl (OpOk.step (v := .string ⟨⟨(bytesOf yownb1_0l9)⟩⟩) (Yields.strOfB 0 (by kernel_rfl) rfl rfl hLyownb1_0l9 Tryd.underlying83 Tryd.underlying9 Tryd.underlying5) rfl rfl ?_)
        refine Ok.batch 1 [(2, .string ⟨⟨(bytesOf yownb1_0l9)⟩⟩)] (by kernel_rfl) ?_
        refine Ok.nil ?_
        refine Ok.thenN ?_
        refine Ok.ret ?_
        exact Ok.resP (vs := [.string ⟨⟨(bytesOf yownb1_0l9)⟩⟩]) [] [] (by decide) rfl (.inl rfl) rfl (.cons (.tmp rfl) .nil) hxl9 ⟨(bytesOf yownb1_0l9), rfl, rfl, hF⟩
theorem rlow_F (s : List UInt8) (hp : clowP s) : rlowF s (fun r => r = clowS s) := by
  unfold clowP at hp
  have hil : (intsOf s).length = s.length := intsOf_length s
  have loop : ∀ (k i : Nat), i + k = s.length → rlowl9 (fun r => r = clowS s) (k + 1) (i : Int) (intsOf ((s.take i).map lowB ++ s.drop i)) := by
    intro k
    induction k with
    | zero =>
      intro i h
      have hlen : (intsOf ((s.take i).map lowB ++ s.drop i)).length = s.length := by
        rw [intsOf_length, List.length_append, List.length_map, List.length_take, List.length_drop]; omega
      have hn : decide ((i : Int) < ((intsOf ((s.take i).map lowB ++ s.drop i)).length : Int)) = false := decide_eq_false (by omega)
      refine ⟨fun h => (Bool.false_ne_true (hn.symm.trans h)).elim, fun _ => ?_⟩
      rw [bytesOf_intsOf, List.take_of_length_le (by omega), List.drop_of_length_le (by omega), List.append_nil]; rfl
    | succ k ih =>
      intro i h
      have hA : (intsOf ((s.take i).map lowB)).length = i := by rw [intsOf_length, List.length_map, List.length_take]; omega
      have hl : intsOf ((s.take i).map lowB ++ s.drop i) = intsOf ((s.take i).map lowB) ++ ((s.getD i 0).toNat : Int) :: intsOf (s.drop (i + 1)) := by
        rw [drop_get (l := s) 0 (by omega)]
        unfold intsOf
        rw [List.map_append, List.map_cons]
      have hg : (intsOf ((s.take i).map lowB ++ s.drop i)).getD i default = ((s.getD i 0).toNat : Int) := by
        rw [hl, List.getD_eq_getElem?_getD, List.getElem?_append_right (by omega), hA, Nat.sub_self]; rfl
      have hlen : (intsOf ((s.take i).map lowB ++ s.drop i)).length = s.length := by
        rw [hl, List.length_append, hA, List.length_cons, intsOf_length, List.length_drop]; omega
      have hn : decide ((i : Int) < ((intsOf ((s.take i).map lowB ++ s.drop i)).length : Int)) = true := decide_eq_true (by omega)
      have hs : ∀ y, (intsOf ((s.take i).map lowB ++ s.drop i)).set i y = intsOf ((s.take i).map lowB) ++ y :: intsOf (s.drop (i + 1)) := fun y => by
        rw [hl, List.set_append_right _ _ (by omega), hA, Nat.sub_self]; rfl
      have j16 : rlowj16 (i : Int) (intsOf ((s.take i).map lowB ++ s.drop i)) (rlowl9 (fun r => r = clowS s) (k + 1)) := by
        unfold rlowj16
        rw [Int.toNat_natCast, hg, w64 (by omega)]
        have e : (if (decide (((s.getD i 0).toNat : Int) ≥ 65) && decide (((s.getD i 0).toNat : Int) ≤ 90)) = true then ((intsOf ((s.take i).map lowB ++ s.drop i)).set i (IntKind.wrap .u8 (((s.getD i 0).toNat : Int) + 32))) else intsOf ((s.take i).map lowB ++ s.drop i)) = intsOf ((s.take (i + 1)).map lowB ++ s.drop (i + 1)) := by
          rw [take_get (l := s) 0 (by omega), List.map_append, List.append_assoc]
          have e2 : intsOf ((s.take i).map lowB ++ ([s.getD i 0].map lowB ++ s.drop (i + 1))) = intsOf ((s.take i).map lowB) ++ ((lowB (s.getD i 0)).toNat : Int) :: intsOf (s.drop (i + 1)) := by
            unfold intsOf; rw [List.map_append]; rfl
          rw [e2, show lowB (s.getD i 0) = if (decide (((s.getD i 0).toNat : Int) ≥ 65) && decide (((s.getD i 0).toNat : Int) ≤ 90)) = true then s.getD i 0 + 32 else s.getD i 0 from rfl]
          cases hc : (decide (((s.getD i 0).toNat : Int) ≥ 65) && decide (((s.getD i 0).toNat : Int) ≤ 90))
          · rw [if_neg Bool.false_ne_true, if_neg Bool.false_ne_true, hl]
          · rw [if_pos rfl, if_pos rfl, hs, low_ok]
        rw [e]
        exact ih (i + 1) (by omega)
      have j18 : rlowj18 (i : Int) (intsOf ((s.take i).map lowB ++ s.drop i)) (rlowl9 (fun r => r = clowS s) (k + 1)) := ⟨fun _ => ⟨by omega, by rw [Int.toNat_natCast]; omega, j16⟩, fun _ => j16⟩
      exact ⟨fun _ => ⟨by omega, by rw [Int.toNat_natCast]; omega, fun _ => j18, fun _ => j18⟩, fun h => (Bool.false_ne_true (h.symm.trans hn)).elim⟩
  exact ⟨_, loop s.length 0 (by omega)⟩
set_option linter.unusedVariables false in
theorem rlow_c {g : Ghost} (xs : List UInt8)  (hp : clowP xs) : CallsG Tryd.prog 48 #[.string ⟨⟨xs⟩⟩] g (.string ⟨⟨(clowS xs)⟩⟩) :=
  (rlow_ok xs _ (rlow_F xs hp)).gives (by rintro g' H' v _ ⟨r0, rfl, rfl, hK⟩; subst hK; rfl)
def rparl17b (xs : List UInt8) (K : Int → Prop) (x3l17 : Int) (x4l17 : Int) (C17 : Int → Int → Prop) : Prop :=
  ((decide (x4l17 < (xs.length : Int))) = true → (0 : Int) ≤ x4l17 ∧ Int.toNat x4l17 < xs.length ∧ ((!(rdigM ((xs.getD (Int.toNat x4l17) 0).toNat : Int))) = true → K (-1)) ∧ ((!(rdigM ((xs.getD (Int.toNat x4l17) 0).toNat : Int))) = false → C17 (IntKind.wrap .i64 ((IntKind.wrap .i64 (10 * x3l17)) + (IntKind.wrap .i64 (IntKind.wrap .u8 (((xs.getD (Int.toNat x4l17) 0).toNat : Int) - 48))))) (IntKind.wrap .i64 (x4l17 + 1)))) ∧ ((decide (x4l17 < (xs.length : Int))) = false → ((decide (x3l17 > 255)) = true → K (-1)) ∧ ((decide (x3l17 > 255)) = false → K x3l17))
def rparl17 (xs : List UInt8) (K : Int → Prop) : Nat → Int → Int → Prop
  | 0, _, _ => False
  | k + 1, x3l17, x4l17 => rparl17b xs K x3l17 x4l17 (rparl17 xs K k)
def rparj4 (xs : List UInt8) (K : Int → Prop) : Prop :=
  (((((decide ((xs.length : Int) < 1)) || (decide ((xs.length : Int) > 3))) || ((((xs.getD (Int.toNat 0) 0).toNat : Int) == 48) && (decide ((xs.length : Int) > 1))))) = true → K (-1)) ∧ (((((decide ((xs.length : Int) < 1)) || (decide ((xs.length : Int) > 3))) || ((((xs.getD (Int.toNat 0) 0).toNat : Int) == 48) && (decide ((xs.length : Int) > 1))))) = false → ∃ k, rparl17 xs K k 0 0)
def rparF (xs : List UInt8) (K : Int → Prop) : Prop :=
  ((((decide ((xs.length : Int) < 1)) || (decide ((xs.length : Int) > 3)))) = true → rparj4 xs K) ∧ ((((decide ((xs.length : Int) < 1)) || (decide ((xs.length : Int) > 3)))) = false → (0 : Int) ≤ 0 ∧ Int.toNat 0 < xs.length ∧ rparj4 xs K)
set_option maxHeartbeats 4000000 in
set_option maxRecDepth 100000 in
set_option linter.unusedVariables false in
theorem rpar_ok {g : Ghost} (xs : List UInt8) (K : Int → Prop)
    (hF : rparF xs K) : CallsH Tryd.prog 76 #[.string ⟨⟨xs⟩⟩] g [] (fun g' H' v => ∃ (r0 : Int), v = .int .i64 r0 ∧ H' = [] ∧ K r0) := by
  refine CallsH.enter 45 [(0, .string ⟨⟨xs⟩⟩)] Tryd.func76 rfl (by kernel_rfl) (by kernel_rfl) (by kernel_rfl) fun w0 => ?_
  refine Ok.seq ?_
  refine Ok.region ?_
  refine Ok.batch 1 [(0, .string ⟨⟨xs⟩⟩)] (by kernel_rfl) ?_
  refine Ok.nil ?_
  refine Ok.thenN ?_
  refine Ok.seq ?_
  refine Ok.cut (fun a W => ∃ gj4 : Ghost, Gext w0 g gj4 ∧ StA 45 [(0, .string ⟨⟨xs⟩⟩), (22, .bool (((decide ((xs.length : Int) < 1)) || (decide ((xs.length : Int) > 3))) || ((((xs.getD (Int.toNat 0) 0).toNat : Int) == 48) && (decide ((xs.length : Int) > 1)))))] a ∧ StW w0 [] gj4 W ∧ rparj4 xs K) ?_ ?_
  ·
    refine Ok.region ?_
    refine Ok.batch 4 [(0, .string ⟨⟨xs⟩⟩), (8, .bool (decide ((xs.length : Int) < 1)))] (by kernel_rfl) ?_
    refine Ok.midway 4 [(0, .string ⟨⟨xs⟩⟩), (12, .bool ((decide ((xs.length : Int) < 1)) || (decide ((xs.length : Int) > 3))))] (fun hR6 => ?_) ?_
    · refine Ok.boolAt 8 (decide ((xs.length : Int) < 1)) rfl (fun hc7 => ?_) (fun hc7 => ?_)
      · skip
        refine Ok.batch 4 [(0, .string ⟨⟨xs⟩⟩), (12, .bool true)] (by kernel_rfl) ?_
        refine Ok.reval 12 rfl (show (.bool true : Value) = .bool ((decide ((xs.length : Int) < 1)) || (decide ((xs.length : Int) > 3))) from congrArg Value.bool (mor_t hc7)) ?_
        refine Ok.batch 0 [(0, .string ⟨⟨xs⟩⟩), (12, .bool ((decide ((xs.length : Int) < 1)) || (decide ((xs.length : Int) > 3))))] (by kernel_rfl) ?_
        exact hR6
      · skip
        refine Ok.batch 4 [(0, .string ⟨⟨xs⟩⟩), (12, .bool (decide ((xs.length : Int) > 3)))] (by kernel_rfl) ?_
        refine Ok.reval 12 rfl (show (.bool (decide ((xs.length : Int) > 3)) : Value) = .bool ((decide ((xs.length : Int) < 1)) || (decide ((xs.length : Int) > 3))) from congrArg Value.bool (mor_f hc7)) ?_
        refine Ok.batch 0 [(0, .string ⟨⟨xs⟩⟩), (12, .bool ((decide ((xs.length : Int) < 1)) || (decide ((xs.length : Int) > 3))))] (by kernel_rfl) ?_
        exact hR6
    refine Ok.batch 1 [(0, .string ⟨⟨xs⟩⟩), (13, .bool ((decide ((xs.length : Int) < 1)) || (decide ((xs.length : Int) > 3))))] (by kernel_rfl) ?_
    refine Ok.boolAt 13 (((decide ((xs.length : Int) < 1)) || (decide ((xs.length : Int) > 3)))) rfl (fun hc8 => ?_) (fun hc8 => ?_)
    · replace hF := hF.1 hc8
      refine Ok.batch 9 [(0, .string ⟨⟨xs⟩⟩), (22, .bool true)] (by kernel_rfl) ?_
      refine Ok.nil ?_
      refine Ok.thenN ?_
      refine Ok.reval 22 rfl (show (.bool true : Value) = .bool (((decide ((xs.length : Int) < 1)) || (decide ((xs.length : Int) > 3))) || ((((xs.getD (Int.toNat 0) 0).toNat : Int) == 48) && (decide ((xs.length : Int) > 1)))) from congrArg (Value.bool) (mor_t hc8)) ?_
      exact fun a W hA hW => ⟨g, (Gext.refl w0 g), hA.sub (by kernel_rfl), hW, hF⟩
    · replace hF := hF.2 hc8
      refine Ok.batch 1 [(0, .string ⟨⟨xs⟩⟩), (13, .bool false), (14, .string ⟨⟨xs⟩⟩)] (by kernel_rfl) ?_
      obtain ⟨h09, h19, hF⟩ := hF
      have he9 := get_of (l := xs) (0 : UInt8) h19
      generalize hg9 : (xs.getD (Int.toNat 0) 0) = e9 at he9 hF ⊢
      refine Ok.opYes (j := 8) (d := 13) (want := false) (b := false) rfl (by kernel_rfl) (by kernel_rfl) rfl (OpOk.step (v := .int .u8 (e9.toNat : Int)) (Yields.indexStr (k := .i64) (i := 0) (s := xs) (b := e9) (by kernel_rfl) (by kernel_rfl) Tryd.underlying9 h09 he9) rfl rfl ?_)
      refine Ok.batch 2 [(0, .string ⟨⟨xs⟩⟩), (13, .bool false), (17, .bool ((e9.toNat : Int) == 48))] (by kernel_rfl) ?_
      refine Ok.midway 4 [(0, .string ⟨⟨xs⟩⟩), (13, .bool false), (21, .bool (((e9.toNat : Int) == 48) && (decide ((xs.length : Int) > 1))))] (fun hR10 => ?_) ?_
      · refine Ok.boolAt 17 (((e9.toNat : Int) == 48)) rfl (fun hc11 => ?_) (fun hc11 => ?_)
        · skip
          refine Ok.batch 4 [(0, .string ⟨⟨xs⟩⟩), (13, .bool false), (21, .bool (decide ((xs.length : Int) > 1)))] (by kernel_rfl) ?_
          refine Ok.reval 21 rfl (show (.bool (decide ((xs.length : Int) > 1)) : Value) = .bool (((e9.toNat : Int) == 48) && (decide ((xs.length : Int) > 1))) from congrArg Value.bool (mand_t hc11)) ?_
          refine Ok.batch 0 [(0, .string ⟨⟨xs⟩⟩), (13, .bool false), (21, .bool (((e9.toNat : Int) == 48) && (decide ((xs.length : Int) > 1))))] (by kernel_rfl) ?_
          exact hR10
        · skip
          refine Ok.batch 4 [(0, .string ⟨⟨xs⟩⟩), (13, .bool false), (21, .bool false)] (by kernel_rfl) ?_
          refine Ok.reval 21 rfl (show (.bool false : Value) = .bool (((e9.toNat : Int) == 48) && (decide ((xs.length : Int) > 1))) from congrArg Value.bool (mand_f hc11)) ?_
          refine Ok.batch 0 [(0, .string ⟨⟨xs⟩⟩), (13, .bool false), (21, .bool (((e9.toNat : Int) == 48) && (decide ((xs.length : Int) > 1))))] (by kernel_rfl) ?_
          exact hR10
      refine Ok.batch 1 [(0, .string ⟨⟨xs⟩⟩), (22, .bool (((e9.toNat : Int) == 48) && (decide ((xs.length : Int) > 1))))] (by kernel_rfl) ?_
      refine Ok.nil ?_
      refine Ok.thenN ?_
      subst hg9
      refine Ok.reval 22 rfl (show (.bool ((((xs.getD (Int.toNat 0) 0).toNat : Int) == 48) && (decide ((xs.length : Int) > 1))) : Value) = .bool (((decide ((xs.length : Int) < 1)) || (decide ((xs.length : Int) > 3))) || ((((xs.getD (Int.toNat 0) 0).toNat : Int) == 48) && (decide ((xs.length : Int) > 1)))) from congrArg (Value.bool) (mor_f hc8)) ?_
      exact fun a W hA hW => ⟨g, (Gext.refl w0 g), hA.sub (by kernel_rfl), hW, hF⟩
  ·
    clear hF
    rintro a W ⟨gj4, hxj4, hA, hW, hF⟩
    refine (?_ : Ok _ _ _ _ _ _) a W hA hW
    clear hA hW
    refine Ok.cond (b := (((decide ((xs.length : Int) < 1)) || (decide ((xs.length : Int) > 3))) || ((((xs.getD (Int.toNat 0) 0).toNat : Int) == 48) && (decide ((xs.length : Int) > 1))))) rfl (fun hc1 => ?_) (fun hc1 => ?_)
    · replace hF := hF.1 hc1
      refine Ok.seq ?_
      refine Ok.region ?_
      refine Ok.batch 1 [(2, .int .i64 (-1))] (by kernel_rfl) ?_
      refine Ok.nil ?_
      refine Ok.thenN ?_
      refine Ok.ret ?_
      refine Ok.thenR ?_
      exact Ok.resH (vs := [.int .i64 (-1)]) (.inl rfl) rfl (.cons (.tmp rfl) .nil) hxj4 ⟨(-1), rfl, rfl, hF⟩
    · replace hF := hF.2 hc1
      refine Ok.skip ?_
      refine Ok.thenN ?_
      refine Ok.seq ?_
      refine Ok.region ?_
      refine Ok.batch 1 [(0, .string ⟨⟨xs⟩⟩), (3, .int .i64 0)] (by kernel_rfl) ?_
      refine Ok.nil ?_
      refine Ok.thenN ?_
      refine Ok.seq ?_
      refine Ok.seq ?_
      refine Ok.region ?_
      refine Ok.batch 1 [(0, .string ⟨⟨xs⟩⟩), (3, .int .i64 0), (4, .int .i64 0)] (by kernel_rfl) ?_
      refine Ok.nil ?_
      refine Ok.thenN ?_
      refine Ok.block ?_
      obtain ⟨k, hF⟩ := hF
      refine Ok.loop (fun k a W => ∃ gl17 : Ghost, Gext w0 gj4 gl17 ∧ ∃ (x3l17 : Int) (x4l17 : Int), StA 45 [(0, .string ⟨⟨xs⟩⟩), (3, .int .i64 x3l17), (4, .int .i64 x4l17)] a ∧ StW w0 [] gl17 W ∧ rparl17 xs K k x3l17 x4l17) k ?_ ?_
      ·
        exact fun a W hA hW => ⟨gj4, (Gext.refl w0 gj4), 0, 0, hA.sub (by kernel_rfl), hW, hF⟩
      ·
        clear hF
        rintro k17 a W ⟨gl17, hxl17, x3l17, x4l17, hA, hW, hF⟩
        cases k17 with
        | zero => exact (hF : False).elim
        | succ k17 =>
          refine (?_ : Ok _ _ _ _ _ _) a W hA hW
          clear hA hW
          refine Ok.seq ?_
          refine Ok.seq ?_
          refine Ok.region ?_
          refine Ok.batch 4 [(0, .string ⟨⟨xs⟩⟩), (3, .int .i64 x3l17), (4, .int .i64 x4l17), (26, .bool (decide (x4l17 < (xs.length : Int))))] (by kernel_rfl) ?_
          refine Ok.nil ?_
          refine Ok.thenN ?_
          refine Ok.cond (b := decide (x4l17 < (xs.length : Int))) rfl (fun hc2 => ?_) (fun hc2 => ?_)
          · replace hF := hF.1 hc2
            refine Ok.skip ?_
            refine Ok.thenN ?_
            refine Ok.seq ?_
            refine Ok.block ?_
            refine Ok.seq ?_
            refine Ok.seq ?_
            refine Ok.region ?_
            refine Ok.batch 2 [(0, .string ⟨⟨xs⟩⟩), (3, .int .i64 x3l17), (4, .int .i64 x4l17), (29, .string ⟨⟨xs⟩⟩), (30, .int .i64 x4l17)] (by kernel_rfl) ?_
            obtain ⟨h03, h13, hF⟩ := hF
            have he3 := get_of (l := xs) (0 : UInt8) h13
            generalize hg3 : (xs.getD (Int.toNat x4l17) 0) = e3 at he3 hF ⊢
            refine Ok.op rfl (OpOk.step (v := .int .u8 (e3.toNat : Int)) (Yields.indexStr (k := .i64) (i := x4l17) (s := xs) (b := e3) (by kernel_rfl) (by kernel_rfl) Tryd.underlying9 h03 he3) rfl rfl ?_)
            refine Ok.op rfl (OpOk.callG (v := .bool (rdigM (e3.toNat : Int))) (enters (by kernel_rfl) (fun _ => by kernel_rfl)) (fun W hW => rdig_c (e3.toNat : Int)) rfl ?_)
            refine Ok.batch 1 [(0, .string ⟨⟨xs⟩⟩), (3, .int .i64 x3l17), (4, .int .i64 x4l17), (33, .bool (!(rdigM (e3.toNat : Int))))] (by kernel_rfl) ?_
            refine Ok.nil ?_
            refine Ok.thenN ?_
            refine Ok.cond (b := !(rdigM (e3.toNat : Int))) rfl (fun hc4 => ?_) (fun hc4 => ?_)
            · replace hF := hF.1 hc4
              refine Ok.seq ?_
              refine Ok.region ?_
              refine Ok.batch 1 [(2, .int .i64 (-1))] (by kernel_rfl) ?_
              refine Ok.nil ?_
              refine Ok.thenN ?_
              refine Ok.ret ?_
              refine Ok.thenR ?_
              refine Ok.blockR ?_
              refine Ok.thenR ?_
              refine Ok.thenR ?_
              refine Ok.blockR ?_
              refine Ok.thenR ?_
              exact Ok.resH (vs := [.int .i64 (-1)]) (.inl rfl) rfl (.cons (.tmp rfl) .nil) (hxj4.trans hxl17) ⟨(-1), rfl, rfl, hF⟩
            · replace hF := hF.2 hc4
              refine Ok.skip ?_
              refine Ok.thenN ?_
              refine Ok.region ?_
              refine Ok.batch 4 [(0, .string ⟨⟨xs⟩⟩), (4, .int .i64 x4l17), (35, .int .i64 (IntKind.wrap .i64 (10 * x3l17))), (36, .string ⟨⟨xs⟩⟩), (37, .int .i64 x4l17)] (by kernel_rfl) ?_
              refine Ok.op rfl (OpOk.step (v := .int .u8 (e3.toNat : Int)) (Yields.indexStr (k := .i64) (i := x4l17) (s := xs) (b := e3) (by kernel_rfl) (by kernel_rfl) Tryd.underlying9 h03 he3) rfl rfl ?_)
              refine Ok.batch 4 [(0, .string ⟨⟨xs⟩⟩), (3, .int .i64 (IntKind.wrap .i64 ((IntKind.wrap .i64 (10 * x3l17)) + (IntKind.wrap .i64 (IntKind.wrap .u8 ((e3.toNat : Int) - 48)))))), (4, .int .i64 x4l17)] (by kernel_rfl) ?_
              refine Ok.nil ?_
              refine Ok.blockN ?_
              refine Ok.thenN ?_
              refine Ok.region ?_
              refine Ok.batch 3 [(0, .string ⟨⟨xs⟩⟩), (3, .int .i64 (IntKind.wrap .i64 ((IntKind.wrap .i64 (10 * x3l17)) + (IntKind.wrap .i64 (IntKind.wrap .u8 ((e3.toNat : Int) - 48)))))), (4, .int .i64 (IntKind.wrap .i64 (x4l17 + 1)))] (by kernel_rfl) ?_
              refine Ok.nil ?_
              refine Ok.thenN ?_
              subst hg3
              exact fun a W hA hW => ⟨k17, Nat.lt_succ_self _, gl17, hxl17, IntKind.wrap .i64 ((IntKind.wrap .i64 (10 * x3l17)) + (IntKind.wrap .i64 (IntKind.wrap .u8 (((xs.getD (Int.toNat x4l17) 0).toNat : Int) - 48)))), IntKind.wrap .i64 (x4l17 + 1), hA.sub (by kernel_rfl), hW, hF⟩
          · replace hF := hF.2 hc2
            refine Ok.exit ?_
            refine Ok.thenE ?_
            refine Ok.thenE ?_
            refine Ok.blockHit ?_
            refine Ok.thenN ?_
            refine Ok.seq ?_
            refine Ok.seq ?_
            refine Ok.region ?_
            refine Ok.batch 2 [(3, .int .i64 x3l17), (43, .bool (decide (x3l17 > 255)))] (by kernel_rfl) ?_
            refine Ok.nil ?_
            refine Ok.thenN ?_
            refine Ok.cond (b := decide (x3l17 > 255)) rfl (fun hc5 => ?_) (fun hc5 => ?_)
            · replace hF := hF.1 hc5
              refine Ok.seq ?_
              refine Ok.region ?_
              refine Ok.batch 1 [(2, .int .i64 (-1))] (by kernel_rfl) ?_
              refine Ok.nil ?_
              refine Ok.thenN ?_
              refine Ok.ret ?_
              refine Ok.thenR ?_
              exact Ok.resH (vs := [.int .i64 (-1)]) (.inl rfl) rfl (.cons (.tmp rfl) .nil) (hxj4.trans hxl17) ⟨(-1), rfl, rfl, hF⟩
            · replace hF := hF.2 hc5
              refine Ok.skip ?_
              refine Ok.thenN ?_
              refine Ok.seq ?_
              refine Ok.region ?_
              refine Ok.batch 2 [(2, .int .i64 x3l17)] (by kernel_rfl) ?_
              refine Ok.nil ?_
              refine Ok.thenN ?_
              refine Ok.ret ?_
              exact Ok.resH (vs := [.int .i64 x3l17]) (.inl rfl) rfl (.cons (.tmp rfl) .nil) (hxj4.trans hxl17) ⟨x3l17, rfl, rfl, hF⟩
def rparN : List UInt8 → Int → Int
  | [], n => if decide (n > 255) = true then -1 else n
  | c :: l, n => if (!(rdigM (c.toNat : Int))) = true then -1 else rparN l (10 * n + ((c.toNat : Int) - 48))
def rparS (w : List UInt8) : Int := if ((decide ((w.length : Int) < 1) || decide ((w.length : Int) > 3)) || ((((w.getD 0 0).toNat : Int) == 48) && decide ((w.length : Int) > 1))) = true then -1 else rparN w 0
theorem dig_in {c : Int} (h : (!(rdigM c)) = false) : 48 ≤ c ∧ c ≤ 57 := by
  have h : rdigM c = true := by simpa using h
  unfold rdigM at h
  rw [Bool.and_eq_true, decide_eq_true_eq, decide_eq_true_eq] at h
  omega
theorem rpar_F (w : List UInt8) : rparF w (fun r => r = rparS w) := by
  have j4 : rparj4 w (fun r => r = rparS w) := by
    unfold rparS
    refine ⟨fun h => ?_, fun h => ?_⟩
    · have h' : ((decide ((w.length : Int) < 1) || decide ((w.length : Int) > 3)) || ((((w.getD 0 0).toNat : Int) == 48) && decide ((w.length : Int) > 1))) = true := h
      rw [if_t h']
    · have h' : ((decide ((w.length : Int) < 1) || decide ((w.length : Int) > 3)) || ((((w.getD 0 0).toNat : Int) == 48) && decide ((w.length : Int) > 1))) = false := h
      rw [if_f h']
      rw [Bool.or_eq_false_iff, Bool.or_eq_false_iff, decide_eq_false_iff_not, decide_eq_false_iff_not] at h'
      have h3 : w.length ≤ 3 := by omega
      have loop : ∀ (k i : Nat) (n : Int), i + k = w.length → 0 ≤ n → n < 10 ^ i → rparN w 0 = rparN (w.drop i) n → rparl17 w (fun r => r = rparN w 0) (k + 1) n (i : Int) := by
        intro k
        induction k with
        | zero =>
          intro i n h h0 h1 he
          have hn : decide ((i : Int) < (w.length : Int)) = false := decide_eq_false (by omega)
          rw [List.drop_of_length_le (by omega), rparN] at he
          exact ⟨fun h => (Bool.false_ne_true (hn.symm.trans h)).elim, fun _ => ⟨fun h => by rw [he, if_t h], fun h => by rw [he, if_f h]⟩⟩
        | succ k ih =>
          intro i n h h0 h1 he
          have hn : decide ((i : Int) < (w.length : Int)) = true := decide_eq_true (by omega)
          rw [drop_get (l := w) 0 (by omega), rparN] at he
          refine ⟨fun _ => ⟨by omega, by rw [Int.toNat_natCast]; omega, ?_⟩, fun h => (Bool.false_ne_true (h.symm.trans hn)).elim⟩
          rw [Int.toNat_natCast]
          refine ⟨fun h => by rw [if_t h] at he; exact he.symm, fun h => ?_⟩
          rw [if_f h] at he
          have hd := dig_in h
          have hi : i ≤ 2 := by omega
          have h2 : n ≤ 100000 := by
            have : (10 : Int) ^ i ≤ 100 := by
              have : i = 0 ∨ i = 1 ∨ i = 2 := by omega
              rcases this with rfl | rfl | rfl <;> decide
            omega
          rw [u8w (by omega), w64 (x := 10 * n) (by omega), w64 (x := ((w.getD i 0).toNat : Int) - 48) (by omega), w64 (x := 10 * n + _) (by omega), w64 (x := (i : Int) + 1) (by omega)]
          refine ih (i + 1) _ (by omega) (by omega) ?_ he
          rw [Int.pow_succ]; omega
      exact ⟨_, loop w.length 0 0 (by omega) (by omega) (by decide) rfl⟩
  refine ⟨fun _ => j4, fun h => ⟨by omega, ?_, j4⟩⟩
  rw [Bool.or_eq_false_iff, decide_eq_false_iff_not] at h
  show 0 < w.length
  omega
set_option linter.unusedVariables false in
theorem rpar_c {g : Ghost} (xs : List UInt8)  : CallsG Tryd.prog 76 #[.string ⟨⟨xs⟩⟩] g (.int .i64 (rparS xs)) :=
  (rpar_ok xs _ (rpar_F xs)).gives (by rintro g' H' v _ ⟨r0, rfl, rfl, hK⟩; subst hK; rfl)
def rhcj24 (xs : List UInt8) (x4l17 : Int) (x5l17 : Int) (C17 : Int → Int → Prop) : Prop :=
  C17 (if (decide ((xs.length : Int) < 5)) = true then IntKind.wrap .i64 ((IntKind.wrap .i64 (16 * (IntKind.wrap .i64 ((IntKind.wrap .i64 (16 * x4l17)) + (rhexM ((xs.getD (Int.toNat x5l17) 0).toNat : Int)))))) + (rhexM ((xs.getD (Int.toNat x5l17) 0).toNat : Int))) else IntKind.wrap .i64 ((IntKind.wrap .i64 (16 * x4l17)) + (rhexM ((xs.getD (Int.toNat x5l17) 0).toNat : Int)))) (IntKind.wrap .i64 (x5l17 + 1))
def rhcj44 (xs : List UInt8) (K : Int → Bool → Prop) (x4l17 : Int) : Prop :=
  K (if (((xs.length : Int) == 3) || ((xs.length : Int) == 6)) = true then IntKind.wrap .i64 ((IntKind.wrap .i64 (256 * x4l17)) + 255) else x4l17) true
def rhcl17b (xs : List UInt8) (K : Int → Bool → Prop) (x4l17 : Int) (x5l17 : Int) (C17 : Int → Int → Prop) : Prop :=
  ((decide (x5l17 < (xs.length : Int))) = true → (0 : Int) ≤ x5l17 ∧ Int.toNat x5l17 < xs.length ∧ ((decide ((rhexM ((xs.getD (Int.toNat x5l17) 0).toNat : Int)) < 0)) = true → K 0 false) ∧ ((decide ((rhexM ((xs.getD (Int.toNat x5l17) 0).toNat : Int)) < 0)) = false → ((decide ((xs.length : Int) < 5)) = true → rhcj24 xs x4l17 x5l17 C17) ∧ ((decide ((xs.length : Int) < 5)) = false → rhcj24 xs x4l17 x5l17 C17))) ∧ ((decide (x5l17 < (xs.length : Int))) = false → (((((xs.length : Int) == 3) || ((xs.length : Int) == 6))) = true → rhcj44 xs K x4l17) ∧ (((((xs.length : Int) == 3) || ((xs.length : Int) == 6))) = false → rhcj44 xs K x4l17))
def rhcl17 (xs : List UInt8) (K : Int → Bool → Prop) : Nat → Int → Int → Prop
  | 0, _, _ => False
  | k + 1, x4l17, x5l17 => rhcl17b xs K x4l17 x5l17 (rhcl17 xs K k)
def rhcF (xs : List UInt8) (K : Int → Bool → Prop) : Prop :=
  (((((((xs.length : Int) != 3) && ((xs.length : Int) != 4)) && ((xs.length : Int) != 6)) && ((xs.length : Int) != 8))) = true → K 0 false) ∧ (((((((xs.length : Int) != 3) && ((xs.length : Int) != 4)) && ((xs.length : Int) != 6)) && ((xs.length : Int) != 8))) = false → ∃ k, rhcl17 xs K k 0 0)
set_option maxHeartbeats 4000000 in
set_option maxRecDepth 100000 in
set_option linter.unusedVariables false in
theorem rhc_ok {g : Ghost} (xs : List UInt8) (K : Int → Bool → Prop)
    (hF : rhcF xs K) : CallsH Tryd.prog 50 #[.string ⟨⟨xs⟩⟩] g [] (fun g' H' v => ∃ (r0 : Int), ∃ (r1 : Bool), v = .tuple #[.int .i64 r0, .bool r1] ∧ H' = [] ∧ K r0 r1) := by
  refine CallsH.enter 60 [(0, .string ⟨⟨xs⟩⟩)] Tryd.func50 rfl (by kernel_rfl) (by kernel_rfl) (by kernel_rfl) fun w0 => ?_
  refine Ok.seq ?_
  refine Ok.region ?_
  refine Ok.batch 2 [(0, .string ⟨⟨xs⟩⟩)] (by kernel_rfl) ?_
  refine Ok.nil ?_
  refine Ok.thenN ?_
  refine Ok.seq ?_
  refine Ok.seq ?_
  refine Ok.region ?_
  refine Ok.batch 4 [(0, .string ⟨⟨xs⟩⟩), (10, .bool ((xs.length : Int) != 3))] (by kernel_rfl) ?_
  refine Ok.midway 4 [(0, .string ⟨⟨xs⟩⟩), (14, .bool (((xs.length : Int) != 3) && ((xs.length : Int) != 4)))] (fun hR1 => ?_) ?_
  · refine Ok.boolAt 10 (((xs.length : Int) != 3)) rfl (fun hc2 => ?_) (fun hc2 => ?_)
    · skip
      refine Ok.batch 4 [(0, .string ⟨⟨xs⟩⟩), (14, .bool ((xs.length : Int) != 4))] (by kernel_rfl) ?_
      refine Ok.reval 14 rfl (show (.bool ((xs.length : Int) != 4) : Value) = .bool (((xs.length : Int) != 3) && ((xs.length : Int) != 4)) from congrArg Value.bool (mand_t hc2)) ?_
      refine Ok.batch 0 [(0, .string ⟨⟨xs⟩⟩), (14, .bool (((xs.length : Int) != 3) && ((xs.length : Int) != 4)))] (by kernel_rfl) ?_
      exact hR1
    · skip
      refine Ok.batch 4 [(0, .string ⟨⟨xs⟩⟩), (14, .bool false)] (by kernel_rfl) ?_
      refine Ok.reval 14 rfl (show (.bool false : Value) = .bool (((xs.length : Int) != 3) && ((xs.length : Int) != 4)) from congrArg Value.bool (mand_f hc2)) ?_
      refine Ok.batch 0 [(0, .string ⟨⟨xs⟩⟩), (14, .bool (((xs.length : Int) != 3) && ((xs.length : Int) != 4)))] (by kernel_rfl) ?_
      exact hR1
  refine Ok.batch 1 [(0, .string ⟨⟨xs⟩⟩), (15, .bool (((xs.length : Int) != 3) && ((xs.length : Int) != 4)))] (by kernel_rfl) ?_
  refine Ok.midway 4 [(0, .string ⟨⟨xs⟩⟩), (19, .bool ((((xs.length : Int) != 3) && ((xs.length : Int) != 4)) && ((xs.length : Int) != 6)))] (fun hR3 => ?_) ?_
  · refine Ok.boolAt 15 ((((xs.length : Int) != 3) && ((xs.length : Int) != 4))) rfl (fun hc4 => ?_) (fun hc4 => ?_)
    · skip
      refine Ok.batch 4 [(0, .string ⟨⟨xs⟩⟩), (19, .bool ((xs.length : Int) != 6))] (by kernel_rfl) ?_
      refine Ok.reval 19 rfl (show (.bool ((xs.length : Int) != 6) : Value) = .bool ((((xs.length : Int) != 3) && ((xs.length : Int) != 4)) && ((xs.length : Int) != 6)) from congrArg Value.bool (mand_t hc4)) ?_
      refine Ok.batch 0 [(0, .string ⟨⟨xs⟩⟩), (19, .bool ((((xs.length : Int) != 3) && ((xs.length : Int) != 4)) && ((xs.length : Int) != 6)))] (by kernel_rfl) ?_
      exact hR3
    · skip
      refine Ok.batch 4 [(0, .string ⟨⟨xs⟩⟩), (19, .bool false)] (by kernel_rfl) ?_
      refine Ok.reval 19 rfl (show (.bool false : Value) = .bool ((((xs.length : Int) != 3) && ((xs.length : Int) != 4)) && ((xs.length : Int) != 6)) from congrArg Value.bool (mand_f hc4)) ?_
      refine Ok.batch 0 [(0, .string ⟨⟨xs⟩⟩), (19, .bool ((((xs.length : Int) != 3) && ((xs.length : Int) != 4)) && ((xs.length : Int) != 6)))] (by kernel_rfl) ?_
      exact hR3
  refine Ok.batch 1 [(0, .string ⟨⟨xs⟩⟩), (20, .bool ((((xs.length : Int) != 3) && ((xs.length : Int) != 4)) && ((xs.length : Int) != 6)))] (by kernel_rfl) ?_
  refine Ok.midway 4 [(0, .string ⟨⟨xs⟩⟩), (24, .bool (((((xs.length : Int) != 3) && ((xs.length : Int) != 4)) && ((xs.length : Int) != 6)) && ((xs.length : Int) != 8)))] (fun hR5 => ?_) ?_
  · refine Ok.boolAt 20 (((((xs.length : Int) != 3) && ((xs.length : Int) != 4)) && ((xs.length : Int) != 6))) rfl (fun hc6 => ?_) (fun hc6 => ?_)
    · skip
      refine Ok.batch 4 [(0, .string ⟨⟨xs⟩⟩), (24, .bool ((xs.length : Int) != 8))] (by kernel_rfl) ?_
      refine Ok.reval 24 rfl (show (.bool ((xs.length : Int) != 8) : Value) = .bool (((((xs.length : Int) != 3) && ((xs.length : Int) != 4)) && ((xs.length : Int) != 6)) && ((xs.length : Int) != 8)) from congrArg Value.bool (mand_t hc6)) ?_
      refine Ok.batch 0 [(0, .string ⟨⟨xs⟩⟩), (24, .bool (((((xs.length : Int) != 3) && ((xs.length : Int) != 4)) && ((xs.length : Int) != 6)) && ((xs.length : Int) != 8)))] (by kernel_rfl) ?_
      exact hR5
    · skip
      refine Ok.batch 4 [(0, .string ⟨⟨xs⟩⟩), (24, .bool false)] (by kernel_rfl) ?_
      refine Ok.reval 24 rfl (show (.bool false : Value) = .bool (((((xs.length : Int) != 3) && ((xs.length : Int) != 4)) && ((xs.length : Int) != 6)) && ((xs.length : Int) != 8)) from congrArg Value.bool (mand_f hc6)) ?_
      refine Ok.batch 0 [(0, .string ⟨⟨xs⟩⟩), (24, .bool (((((xs.length : Int) != 3) && ((xs.length : Int) != 4)) && ((xs.length : Int) != 6)) && ((xs.length : Int) != 8)))] (by kernel_rfl) ?_
      exact hR5
  refine Ok.nil ?_
  refine Ok.thenN ?_
  refine Ok.cond (b := (((((xs.length : Int) != 3) && ((xs.length : Int) != 4)) && ((xs.length : Int) != 6)) && ((xs.length : Int) != 8))) rfl (fun hc7 => ?_) (fun hc7 => ?_)
  · replace hF := hF.1 hc7
    refine Ok.seq ?_
    refine Ok.region ?_
    refine Ok.batch 2 [(2, .int .i64 0), (3, .bool false)] (by kernel_rfl) ?_
    refine Ok.nil ?_
    refine Ok.thenN ?_
    refine Ok.ret ?_
    refine Ok.thenR ?_
    exact Ok.resH (vs := [.int .i64 0, .bool false]) (.inl rfl) rfl (.cons (.tmp rfl) (.cons (.tmp rfl) .nil)) (Gext.refl w0 g) ⟨0, false, rfl, rfl, hF⟩
  · replace hF := hF.2 hc7
    refine Ok.skip ?_
    refine Ok.thenN ?_
    refine Ok.seq ?_
    refine Ok.region ?_
    refine Ok.batch 1 [(0, .string ⟨⟨xs⟩⟩), (4, .int .i64 0)] (by kernel_rfl) ?_
    refine Ok.nil ?_
    refine Ok.thenN ?_
    refine Ok.seq ?_
    refine Ok.seq ?_
    refine Ok.region ?_
    refine Ok.batch 1 [(0, .string ⟨⟨xs⟩⟩), (4, .int .i64 0), (5, .int .i64 0)] (by kernel_rfl) ?_
    refine Ok.nil ?_
    refine Ok.thenN ?_
    refine Ok.block ?_
    obtain ⟨k, hF⟩ := hF
    refine Ok.loop (fun k a W => ∃ (x4l17 : Int) (x5l17 : Int), StA 60 [(0, .string ⟨⟨xs⟩⟩), (4, .int .i64 x4l17), (5, .int .i64 x5l17)] a ∧ StW w0 [] g W ∧ rhcl17 xs K k x4l17 x5l17) k ?_ ?_
    ·
      exact fun a W hA hW => ⟨0, 0, hA.sub (by kernel_rfl), hW, hF⟩
    ·
      clear hF
      rintro k17 a W ⟨x4l17, x5l17, hA, hW, hF⟩
      cases k17 with
      | zero => exact (hF : False).elim
      | succ k17 =>
        refine (?_ : Ok _ _ _ _ _ _) a W hA hW
        clear hA hW
        refine Ok.seq ?_
        refine Ok.seq ?_
        refine Ok.region ?_
        refine Ok.batch 4 [(0, .string ⟨⟨xs⟩⟩), (4, .int .i64 x4l17), (5, .int .i64 x5l17), (28, .bool (decide (x5l17 < (xs.length : Int))))] (by kernel_rfl) ?_
        refine Ok.nil ?_
        refine Ok.thenN ?_
        refine Ok.cond (b := decide (x5l17 < (xs.length : Int))) rfl (fun hc8 => ?_) (fun hc8 => ?_)
        · replace hF := hF.1 hc8
          refine Ok.skip ?_
          refine Ok.thenN ?_
          refine Ok.cut (fun a W => StA 60 [(0, .string ⟨⟨xs⟩⟩), (4, .int .i64 (if (decide ((xs.length : Int) < 5)) = true then IntKind.wrap .i64 ((IntKind.wrap .i64 (16 * (IntKind.wrap .i64 ((IntKind.wrap .i64 (16 * x4l17)) + (rhexM ((xs.getD (Int.toNat x5l17) 0).toNat : Int)))))) + (rhexM ((xs.getD (Int.toNat x5l17) 0).toNat : Int))) else IntKind.wrap .i64 ((IntKind.wrap .i64 (16 * x4l17)) + (rhexM ((xs.getD (Int.toNat x5l17) 0).toNat : Int))))), (5, .int .i64 x5l17)] a ∧ StW w0 [] g W ∧ rhcj24 xs x4l17 x5l17 (rhcl17 xs K k17)) ?_ ?_
          ·
            refine Ok.block ?_
            refine Ok.seq ?_
            refine Ok.region ?_
            refine Ok.batch 2 [(0, .string ⟨⟨xs⟩⟩), (4, .int .i64 x4l17), (5, .int .i64 x5l17), (31, .string ⟨⟨xs⟩⟩), (32, .int .i64 x5l17)] (by kernel_rfl) ?_
            obtain ⟨h09, h19, hF⟩ := hF
            have he9 := get_of (l := xs) (0 : UInt8) h19
            generalize hg9 : (xs.getD (Int.toNat x5l17) 0) = e9 at he9 hF ⊢
            refine Ok.op rfl (OpOk.step (v := .int .u8 (e9.toNat : Int)) (Yields.indexStr (k := .i64) (i := x5l17) (s := xs) (b := e9) (by kernel_rfl) (by kernel_rfl) Tryd.underlying9 h09 he9) rfl rfl ?_)
            refine Ok.op rfl (OpOk.callG (v := .int .i64 (rhexM (e9.toNat : Int))) (enters (by kernel_rfl) (fun _ => by kernel_rfl)) (fun W hW => rhex_c (e9.toNat : Int)) rfl ?_)
            refine Ok.batch 1 [(0, .string ⟨⟨xs⟩⟩), (4, .int .i64 x4l17), (5, .int .i64 x5l17), (6, .int .i64 (rhexM (e9.toNat : Int)))] (by kernel_rfl) ?_
            refine Ok.nil ?_
            refine Ok.thenN ?_
            refine Ok.seq ?_
            refine Ok.seq ?_
            refine Ok.region ?_
            refine Ok.batch 2 [(0, .string ⟨⟨xs⟩⟩), (4, .int .i64 x4l17), (5, .int .i64 x5l17), (6, .int .i64 (rhexM (e9.toNat : Int))), (36, .bool (decide ((rhexM (e9.toNat : Int)) < 0)))] (by kernel_rfl) ?_
            refine Ok.nil ?_
            refine Ok.thenN ?_
            refine Ok.cond (b := decide ((rhexM (e9.toNat : Int)) < 0)) rfl (fun hc10 => ?_) (fun hc10 => ?_)
            · replace hF := hF.1 hc10
              refine Ok.seq ?_
              refine Ok.region ?_
              refine Ok.batch 2 [(2, .int .i64 0), (3, .bool false)] (by kernel_rfl) ?_
              refine Ok.nil ?_
              refine Ok.thenN ?_
              refine Ok.ret ?_
              refine Ok.thenR ?_
              refine Ok.blockR ?_
              refine Ok.thenR ?_
              refine Ok.thenR ?_
              refine Ok.blockR ?_
              refine Ok.thenR ?_
              exact Ok.resH (vs := [.int .i64 0, .bool false]) (.inl rfl) rfl (.cons (.tmp rfl) (.cons (.tmp rfl) .nil)) (Gext.refl w0 g) ⟨0, false, rfl, rfl, hF⟩
            · replace hF := hF.2 hc10
              refine Ok.skip ?_
              refine Ok.thenN ?_
              refine Ok.seq ?_
              refine Ok.region ?_
              refine Ok.batch 5 [(0, .string ⟨⟨xs⟩⟩), (4, .int .i64 (IntKind.wrap .i64 ((IntKind.wrap .i64 (16 * x4l17)) + (rhexM (e9.toNat : Int))))), (5, .int .i64 x5l17), (6, .int .i64 (rhexM (e9.toNat : Int)))] (by kernel_rfl) ?_
              refine Ok.nil ?_
              refine Ok.thenN ?_
              refine Ok.seq ?_
              refine Ok.region ?_
              refine Ok.batch 3 [(0, .string ⟨⟨xs⟩⟩), (4, .int .i64 (IntKind.wrap .i64 ((IntKind.wrap .i64 (16 * x4l17)) + (rhexM (e9.toNat : Int))))), (5, .int .i64 x5l17), (6, .int .i64 (rhexM (e9.toNat : Int))), (43, .bool (decide ((xs.length : Int) < 5)))] (by kernel_rfl) ?_
              refine Ok.nil ?_
              refine Ok.thenN ?_
              refine Ok.cond (b := decide ((xs.length : Int) < 5)) rfl (fun hc11 => ?_) (fun hc11 => ?_)
              · replace hF := hF.1 hc11
                refine Ok.region ?_
                refine Ok.batch 5 [(0, .string ⟨⟨xs⟩⟩), (4, .int .i64 (IntKind.wrap .i64 ((IntKind.wrap .i64 (16 * (IntKind.wrap .i64 ((IntKind.wrap .i64 (16 * x4l17)) + (rhexM (e9.toNat : Int)))))) + (rhexM (e9.toNat : Int))))), (5, .int .i64 x5l17)] (by kernel_rfl) ?_
                refine Ok.nil ?_
                refine Ok.blockN ?_
                refine Ok.thenN ?_
                subst hg9
                refine Ok.reval 4 rfl (show (.int .i64 (IntKind.wrap .i64 ((IntKind.wrap .i64 (16 * (IntKind.wrap .i64 ((IntKind.wrap .i64 (16 * x4l17)) + (rhexM ((xs.getD (Int.toNat x5l17) 0).toNat : Int)))))) + (rhexM ((xs.getD (Int.toNat x5l17) 0).toNat : Int)))) : Value) = .int .i64 (if (decide ((xs.length : Int) < 5)) = true then IntKind.wrap .i64 ((IntKind.wrap .i64 (16 * (IntKind.wrap .i64 ((IntKind.wrap .i64 (16 * x4l17)) + (rhexM ((xs.getD (Int.toNat x5l17) 0).toNat : Int)))))) + (rhexM ((xs.getD (Int.toNat x5l17) 0).toNat : Int))) else IntKind.wrap .i64 ((IntKind.wrap .i64 (16 * x4l17)) + (rhexM ((xs.getD (Int.toNat x5l17) 0).toNat : Int)))) from congrArg (Value.int .i64) ((if_t hc11).symm)) ?_
                exact fun a W hA hW => ⟨hA.sub (by kernel_rfl), hW, hF⟩
              · replace hF := hF.2 hc11
                refine Ok.skip ?_
                refine Ok.blockN ?_
                refine Ok.thenN ?_
                subst hg9
                refine Ok.reval 4 rfl (show (.int .i64 (IntKind.wrap .i64 ((IntKind.wrap .i64 (16 * x4l17)) + (rhexM ((xs.getD (Int.toNat x5l17) 0).toNat : Int)))) : Value) = .int .i64 (if (decide ((xs.length : Int) < 5)) = true then IntKind.wrap .i64 ((IntKind.wrap .i64 (16 * (IntKind.wrap .i64 ((IntKind.wrap .i64 (16 * x4l17)) + (rhexM ((xs.getD (Int.toNat x5l17) 0).toNat : Int)))))) + (rhexM ((xs.getD (Int.toNat x5l17) 0).toNat : Int))) else IntKind.wrap .i64 ((IntKind.wrap .i64 (16 * x4l17)) + (rhexM ((xs.getD (Int.toNat x5l17) 0).toNat : Int)))) from congrArg (Value.int .i64) ((if_f hc11).symm)) ?_
                exact fun a W hA hW => ⟨hA.sub (by kernel_rfl), hW, hF⟩
          ·
            clear hF
            rintro a W ⟨hA, hW, hF⟩
            refine (?_ : Ok _ _ _ _ _ _) a W hA hW
            clear hA hW
            refine Ok.region ?_
            refine Ok.batch 3 [(0, .string ⟨⟨xs⟩⟩), (4, .int .i64 (if (decide ((xs.length : Int) < 5)) = true then IntKind.wrap .i64 ((IntKind.wrap .i64 (16 * (IntKind.wrap .i64 ((IntKind.wrap .i64 (16 * x4l17)) + (rhexM ((xs.getD (Int.toNat x5l17) 0).toNat : Int)))))) + (rhexM ((xs.getD (Int.toNat x5l17) 0).toNat : Int))) else IntKind.wrap .i64 ((IntKind.wrap .i64 (16 * x4l17)) + (rhexM ((xs.getD (Int.toNat x5l17) 0).toNat : Int))))), (5, .int .i64 (IntKind.wrap .i64 (x5l17 + 1)))] (by kernel_rfl) ?_
            refine Ok.nil ?_
            refine Ok.thenN ?_
            exact fun a W hA hW => ⟨k17, Nat.lt_succ_self _, (if (decide ((xs.length : Int) < 5)) = true then IntKind.wrap .i64 ((IntKind.wrap .i64 (16 * (IntKind.wrap .i64 ((IntKind.wrap .i64 (16 * x4l17)) + (rhexM ((xs.getD (Int.toNat x5l17) 0).toNat : Int)))))) + (rhexM ((xs.getD (Int.toNat x5l17) 0).toNat : Int))) else IntKind.wrap .i64 ((IntKind.wrap .i64 (16 * x4l17)) + (rhexM ((xs.getD (Int.toNat x5l17) 0).toNat : Int)))), IntKind.wrap .i64 (x5l17 + 1), hA.sub (by kernel_rfl), hW, hF⟩
        · replace hF := hF.2 hc8
          refine Ok.exit ?_
          refine Ok.thenE ?_
          refine Ok.thenE ?_
          refine Ok.blockHit ?_
          refine Ok.thenN ?_
          refine Ok.cut (fun a W => StA 60 [(4, .int .i64 (if (((xs.length : Int) == 3) || ((xs.length : Int) == 6)) = true then IntKind.wrap .i64 ((IntKind.wrap .i64 (256 * x4l17)) + 255) else x4l17))] a ∧ StW w0 [] g W ∧ rhcj44 xs K x4l17) ?_ ?_
          ·
            refine Ok.seq ?_
            refine Ok.region ?_
            refine Ok.batch 4 [(0, .string ⟨⟨xs⟩⟩), (4, .int .i64 x4l17), (51, .bool ((xs.length : Int) == 3))] (by kernel_rfl) ?_
            refine Ok.midway 4 [(4, .int .i64 x4l17), (55, .bool (((xs.length : Int) == 3) || ((xs.length : Int) == 6)))] (fun hR12 => ?_) ?_
            · refine Ok.boolAt 51 (((xs.length : Int) == 3)) rfl (fun hc13 => ?_) (fun hc13 => ?_)
              · skip
                refine Ok.batch 4 [(4, .int .i64 x4l17), (55, .bool true)] (by kernel_rfl) ?_
                refine Ok.reval 55 rfl (show (.bool true : Value) = .bool (((xs.length : Int) == 3) || ((xs.length : Int) == 6)) from congrArg Value.bool (mor_t hc13)) ?_
                refine Ok.batch 0 [(4, .int .i64 x4l17), (55, .bool (((xs.length : Int) == 3) || ((xs.length : Int) == 6)))] (by kernel_rfl) ?_
                exact hR12
              · skip
                refine Ok.batch 4 [(4, .int .i64 x4l17), (55, .bool ((xs.length : Int) == 6))] (by kernel_rfl) ?_
                refine Ok.reval 55 rfl (show (.bool ((xs.length : Int) == 6) : Value) = .bool (((xs.length : Int) == 3) || ((xs.length : Int) == 6)) from congrArg Value.bool (mor_f hc13)) ?_
                refine Ok.batch 0 [(4, .int .i64 x4l17), (55, .bool (((xs.length : Int) == 3) || ((xs.length : Int) == 6)))] (by kernel_rfl) ?_
                exact hR12
            refine Ok.nil ?_
            refine Ok.thenN ?_
            refine Ok.cond (b := (((xs.length : Int) == 3) || ((xs.length : Int) == 6))) rfl (fun hc14 => ?_) (fun hc14 => ?_)
            · replace hF := hF.1 hc14
              refine Ok.region ?_
              refine Ok.batch 4 [(4, .int .i64 (IntKind.wrap .i64 ((IntKind.wrap .i64 (256 * x4l17)) + 255)))] (by kernel_rfl) ?_
              refine Ok.nil ?_
              refine Ok.thenN ?_
              refine Ok.reval 4 rfl (show (.int .i64 (IntKind.wrap .i64 ((IntKind.wrap .i64 (256 * x4l17)) + 255)) : Value) = .int .i64 (if (((xs.length : Int) == 3) || ((xs.length : Int) == 6)) = true then IntKind.wrap .i64 ((IntKind.wrap .i64 (256 * x4l17)) + 255) else x4l17) from congrArg (Value.int .i64) ((if_t hc14).symm)) ?_
              exact fun a W hA hW => ⟨hA.sub (by kernel_rfl), hW, hF⟩
            · replace hF := hF.2 hc14
              refine Ok.skip ?_
              refine Ok.thenN ?_
              refine Ok.reval 4 rfl (show (.int .i64 x4l17 : Value) = .int .i64 (if (((xs.length : Int) == 3) || ((xs.length : Int) == 6)) = true then IntKind.wrap .i64 ((IntKind.wrap .i64 (256 * x4l17)) + 255) else x4l17) from congrArg (Value.int .i64) ((if_f hc14).symm)) ?_
              exact fun a W hA hW => ⟨hA.sub (by kernel_rfl), hW, hF⟩
          ·
            clear hF
            rintro a W ⟨hA, hW, hF⟩
            refine (?_ : Ok _ _ _ _ _ _) a W hA hW
            clear hA hW
            refine Ok.seq ?_
            refine Ok.region ?_
            refine Ok.batch 3 [(2, .int .i64 (if (((xs.length : Int) == 3) || ((xs.length : Int) == 6)) = true then IntKind.wrap .i64 ((IntKind.wrap .i64 (256 * x4l17)) + 255) else x4l17)), (3, .bool true)] (by kernel_rfl) ?_
            refine Ok.nil ?_
            refine Ok.thenN ?_
            refine Ok.ret ?_
            exact Ok.resH (vs := [.int .i64 (if (((xs.length : Int) == 3) || ((xs.length : Int) == 6)) = true then IntKind.wrap .i64 ((IntKind.wrap .i64 (256 * x4l17)) + 255) else x4l17), .bool true]) (.inl rfl) rfl (.cons (.tmp rfl) (.cons (.tmp rfl) .nil)) (Gext.refl w0 g) ⟨(if (((xs.length : Int) == 3) || ((xs.length : Int) == 6)) = true then IntKind.wrap .i64 ((IntKind.wrap .i64 (256 * x4l17)) + 255) else x4l17), true, rfl, rfl, hF⟩
def rhcN (small : Bool) : List UInt8 → Int → Option Int
  | [], n => some n
  | c :: l, n => if decide (rhexM (c.toNat : Int) < 0) = true then none else rhcN small l (if small = true then 16 * (16 * n + rhexM (c.toNat : Int)) + rhexM (c.toNat : Int) else 16 * n + rhexM (c.toNat : Int))
def rhcS (s : List UInt8) : Int × Bool := if ((((((s.length : Int) != 3) && ((s.length : Int) != 4)) && ((s.length : Int) != 6)) && ((s.length : Int) != 8))) = true then (0, false) else
  match rhcN (decide ((s.length : Int) < 5)) s 0 with
  | none => (0, false)
  | some n => (if (((s.length : Int) == 3) || ((s.length : Int) == 6)) = true then 256 * n + 255 else n, true)
theorem rhex_in (c : UInt8) : -1 ≤ rhexM (c.toNat : Int) ∧ rhexM (c.toNat : Int) < 16 := by
  have := byte_all (p := fun c => decide (-1 ≤ rhexM (c.toNat : Int) ∧ rhexM (c.toNat : Int) < 16)) (by decide +kernel) c
  exact of_decide_eq_true this
theorem rhc_F (s : List UInt8) : rhcF s (fun r r1 => (r, r1) = rhcS s) := by
  refine ⟨fun h => by unfold rhcS; rw [if_t h], fun h => ?_⟩
  have he0 : rhcS s = (match rhcN (decide ((s.length : Int) < 5)) s 0 with
    | none => (0, false)
    | some n => (if (((s.length : Int) == 3) || ((s.length : Int) == 6)) = true then 256 * n + 255 else n, true)) := by unfold rhcS; rw [if_f h]
  have h8 : s.length ≤ 8 := by
    simp only [Bool.and_eq_false_iff, bne_eq_false_iff_eq] at h
    omega
  have hp : ∀ i : Nat, i ≤ 8 → (1 : Int) ≤ 256 ^ i ∧ (256 : Int) ^ i ≤ 18446744073709551616 := by
    intro i hi
    have : i = 0 ∨ i = 1 ∨ i = 2 ∨ i = 3 ∨ i = 4 ∨ i = 5 ∨ i = 6 ∨ i = 7 ∨ i = 8 := by omega
    rcases this with rfl | rfl | rfl | rfl | rfl | rfl | rfl | rfl | rfl <;> decide
  have loop : ∀ (k i : Nat) (n : Int), i + k = s.length → 0 ≤ n → (decide ((s.length : Int) < 5) = true → n < 256 ^ i) → (decide ((s.length : Int) < 5) = false → n < 16 ^ i) → rhcN (decide ((s.length : Int) < 5)) s 0 = rhcN (decide ((s.length : Int) < 5)) (s.drop i) n → rhcl17 s (fun r r1 => (r, r1) = rhcS s) (k + 1) n (i : Int) := by
    intro k
    have bnd : ∀ (i : Nat) (n : Int), i ≤ s.length → (decide ((s.length : Int) < 5) = true → n < 256 ^ i) → (decide ((s.length : Int) < 5) = false → n < 16 ^ i) → n ≤ 4294967296 := by
      intro i n hi hs1 hs2
      cases hc : decide ((s.length : Int) < 5)
      · have h := hs2 hc
        have : i = 0 ∨ i = 1 ∨ i = 2 ∨ i = 3 ∨ i = 4 ∨ i = 5 ∨ i = 6 ∨ i = 7 ∨ i = 8 := by omega
        rcases this with rfl | rfl | rfl | rfl | rfl | rfl | rfl | rfl | rfl <;> omega
      · have h := hs1 hc
        have hc := of_decide_eq_true hc
        have : i = 0 ∨ i = 1 ∨ i = 2 ∨ i = 3 ∨ i = 4 := by omega
        rcases this with rfl | rfl | rfl | rfl | rfl <;> omega
    induction k with
    | zero =>
      intro i n h h0 hs1 hs2 he
      have hn : decide ((i : Int) < (s.length : Int)) = false := decide_eq_false (by omega)
      have hb := bnd i n (by omega) hs1 hs2
      rw [List.drop_of_length_le (by omega), rhcN] at he
      have j44 : rhcj44 s (fun r r1 => (r, r1) = rhcS s) n := by
        unfold rhcj44
        rw [he0, he, w64 (x := 256 * n) (by omega), w64 (x := 256 * n + 255) (by omega)]
      exact ⟨fun h => (Bool.false_ne_true (hn.symm.trans h)).elim, fun _ => ⟨fun _ => j44, fun _ => j44⟩⟩
    | succ k ih =>
      intro i n h h0 hs1 hs2 he
      have hn : decide ((i : Int) < (s.length : Int)) = true := decide_eq_true (by omega)
      have hb := bnd i n (by omega) hs1 hs2
      rw [drop_get (l := s) 0 (by omega), rhcN] at he
      refine ⟨fun _ => ⟨by omega, by rw [Int.toNat_natCast]; omega, ?_⟩, fun h => (Bool.false_ne_true (h.symm.trans hn)).elim⟩
      rw [Int.toNat_natCast]
      refine ⟨fun h => by rw [if_t h] at he; rw [he0, he], fun h => ?_⟩
      rw [if_f h] at he
      have hh := rhex_in (s.getD i 0)
      have hneg := of_decide_eq_false h
      have j24 : rhcj24 s n (i : Int) (rhcl17 s (fun r r1 => (r, r1) = rhcS s) (k + 1)) := by
        unfold rhcj24
        rw [Int.toNat_natCast, w64 (x := 16 * n) (by omega), w64 (x := 16 * n + _) (by omega), w64 (x := 16 * (16 * n + _)) (by omega), w64 (x := 16 * (16 * n + _) + _) (by omega), w64 (x := (i : Int) + 1) (by omega)]
        refine ih (i + 1) _ (by omega) ?_ (fun hc => ?_) (fun hc => ?_) he
        · split <;> omega
        · rw [if_t hc, Int.pow_succ]
          have := hs1 hc
          omega
        · rw [if_f hc, Int.pow_succ]
          have := hs2 hc
          omega
      exact ⟨fun _ => j24, fun _ => j24⟩
  exact ⟨_, loop s.length 0 0 (by omega) (by omega) (fun _ => by decide) (fun _ => by decide) rfl⟩
set_option linter.unusedVariables false in
theorem rhc_c {g : Ghost} (xs : List UInt8)  : CallsG Tryd.prog 50 #[.string ⟨⟨xs⟩⟩] g (.tuple #[.int .i64 ((rhcS xs).1), .bool ((rhcS xs).2)]) :=
  (rhc_ok xs _ (rhc_F xs)).gives (by rintro g' H' v _ ⟨r0, r1, rfl, rfl, hK⟩; obtain ⟨rfl, rfl⟩ : r0 = (rhcS xs).1 ∧ r1 = (rhcS xs).2 := ⟨congrArg (fun z => z.1) hK, congrArg (fun z => z.2) hK⟩; rfl)
end Go.Proofs.YteocjdpjpkjlaaaDoor.Co
