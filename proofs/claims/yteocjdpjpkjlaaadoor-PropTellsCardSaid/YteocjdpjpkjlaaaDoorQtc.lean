/- Properties: values as texts. -/
import Derived.Test.YteocjdpjpkjlaaaDoorQtb
import Derived.Test.YteocjdpjpkjlaaaDoorPrd
namespace Go.Proofs.YteocjdpjpkjlaaaDoor.Pf
open Go Go.Eng Go.RowKit Sp Ti Co Dm
set_option linter.unusedVariables false
def byP (_ by' : Int) : Prop := by' = 64
def ppaj5 (xn : Int) (xby : Int) (K : Int → Prop) : Prop :=
  K (if (decide ((Int.tmod xn xby) < 0)) = true then IntKind.wrap .i64 ((IntKind.wrap .i64 (Int.tdiv xn xby)) - 1) else IntKind.wrap .i64 (Int.tdiv xn xby))
def ppaF (xn : Int) (xby : Int) (K : Int → Prop) : Prop :=
  xby ≠ 0 ∧ xby ≠ 0 ∧ ((decide ((Int.tmod xn xby) < 0)) = true → ppaj5 xn xby K) ∧ ((decide ((Int.tmod xn xby) < 0)) = false → ppaj5 xn xby K)
set_option maxHeartbeats 4000000 in
set_option maxRecDepth 100000 in
set_option linter.unusedVariables false in
theorem ppa_ok {g : Ghost} (xn : Int) (xby : Int) (K : Int → Prop)
    (hF : ppaF xn xby K) : CallsH Tryd.prog 38 #[.int .i64 xn, .int .i64 xby] g [] (fun g' H' v => ∃ (r0 : Int), v = .int .i64 r0 ∧ H' = [] ∧ K r0) := by
  refine CallsH.enter 16 [(0, .int .i64 xn), (1, .int .i64 xby)] Tryd.func38 rfl (by kernel_rfl) (by kernel_rfl) (by kernel_rfl) fun w0 => ?_
  refine Ok.seq ?_
  refine Ok.region ?_
  refine Ok.batch 1 [(0, .int .i64 xn), (1, .int .i64 xby)] (by kernel_rfl) ?_
  refine Ok.nil ?_
  refine Ok.thenN ?_
  refine Ok.seq ?_
  refine Ok.region ?_
  refine Ok.batch 2 [(0, .int .i64 xn), (1, .int .i64 xby), (6, .int .i64 xn), (7, .int .i64 xby)] (by kernel_rfl) ?_
  obtain ⟨hv, hF⟩ := hF
  refine Ok.op rfl (OpOk.step (v := .int .i64 (IntKind.wrap .i64 (Int.tdiv xn xby))) (Yields.quo rfl rfl hv) rfl rfl ?_)
  refine Ok.batch 1 [(0, .int .i64 xn), (1, .int .i64 xby), (5, .int .i64 (IntKind.wrap .i64 (Int.tdiv xn xby)))] (by kernel_rfl) ?_
  refine Ok.nil ?_
  refine Ok.thenN ?_
  refine Ok.cut (fun a W => StA 16 [(5, .int .i64 (if (decide ((Int.tmod xn xby) < 0)) = true then IntKind.wrap .i64 ((IntKind.wrap .i64 (Int.tdiv xn xby)) - 1) else IntKind.wrap .i64 (Int.tdiv xn xby)))] a ∧ StW w0 [] g W ∧ ppaj5 xn xby K) ?_ ?_
  ·
    refine Ok.seq ?_
    refine Ok.region ?_
    refine Ok.batch 2 [(5, .int .i64 (IntKind.wrap .i64 (Int.tdiv xn xby))), (9, .int .i64 xn), (10, .int .i64 xby)] (by kernel_rfl) ?_
    obtain ⟨hv, hF⟩ := hF
    refine Ok.op rfl (OpOk.step (v := .int .i64 (Int.tmod xn xby)) (Yields.rem rfl rfl hv) rfl rfl ?_)
    refine Ok.batch 1 [(5, .int .i64 (IntKind.wrap .i64 (Int.tdiv xn xby))), (12, .bool (decide ((Int.tmod xn xby) < 0)))] (by kernel_rfl) ?_
    refine Ok.nil ?_
    refine Ok.thenN ?_
    refine Ok.cond (b := decide ((Int.tmod xn xby) < 0)) rfl (fun hc1 => ?_) (fun hc1 => ?_)
    · replace hF := hF.1 hc1
      refine Ok.region ?_
      refine Ok.batch 3 [(5, .int .i64 (IntKind.wrap .i64 ((IntKind.wrap .i64 (Int.tdiv xn xby)) - 1)))] (by kernel_rfl) ?_
      refine Ok.nil ?_
      refine Ok.thenN ?_
      refine Ok.reval 5 rfl (show (.int .i64 (IntKind.wrap .i64 ((IntKind.wrap .i64 (Int.tdiv xn xby)) - 1)) : Value) = .int .i64 (if (decide ((Int.tmod xn xby) < 0)) = true then IntKind.wrap .i64 ((IntKind.wrap .i64 (Int.tdiv xn xby)) - 1) else IntKind.wrap .i64 (Int.tdiv xn xby)) from congrArg (Value.int .i64) ((if_t hc1).symm)) ?_
      exact fun a W hA hW => ⟨hA.sub (by kernel_rfl), hW, hF⟩
    · replace hF := hF.2 hc1
      refine Ok.skip ?_
      refine Ok.thenN ?_
      refine Ok.reval 5 rfl (show (.int .i64 (IntKind.wrap .i64 (Int.tdiv xn xby)) : Value) = .int .i64 (if (decide ((Int.tmod xn xby) < 0)) = true then IntKind.wrap .i64 ((IntKind.wrap .i64 (Int.tdiv xn xby)) - 1) else IntKind.wrap .i64 (Int.tdiv xn xby)) from congrArg (Value.int .i64) ((if_f hc1).symm)) ?_
      exact fun a W hA hW => ⟨hA.sub (by kernel_rfl), hW, hF⟩
  ·
    clear hF
    rintro a W ⟨hA, hW, hF⟩
    refine (?_ : Ok _ _ _ _ _ _) a W hA hW
    clear hA hW
    refine Ok.seq ?_
    refine Ok.region ?_
    refine Ok.batch 2 [(4, .int .i64 (if (decide ((Int.tmod xn xby) < 0)) = true then IntKind.wrap .i64 ((IntKind.wrap .i64 (Int.tdiv xn xby)) - 1) else IntKind.wrap .i64 (Int.tdiv xn xby)))] (by kernel_rfl) ?_
    refine Ok.nil ?_
    refine Ok.thenN ?_
    refine Ok.ret ?_
    exact Ok.resH (vs := [.int .i64 (if (decide ((Int.tmod xn xby) < 0)) = true then IntKind.wrap .i64 ((IntKind.wrap .i64 (Int.tdiv xn xby)) - 1) else IntKind.wrap .i64 (Int.tdiv xn xby))]) (.inl rfl) rfl (.cons (.tmp rfl) .nil) (Gext.refl w0 g) ⟨(if (decide ((Int.tmod xn xby) < 0)) = true then IntKind.wrap .i64 ((IntKind.wrap .i64 (Int.tdiv xn xby)) - 1) else IntKind.wrap .i64 (Int.tdiv xn xby)), rfl, rfl, hF⟩
def ppaj5M (xn : Int) (xby : Int) : Int := (if (decide ((Int.tmod xn xby) < 0)) = true then IntKind.wrap .i64 ((IntKind.wrap .i64 (Int.tdiv xn xby)) - 1) else IntKind.wrap .i64 (Int.tdiv xn xby))
set_option linter.unusedSimpArgs false in
set_option linter.unusedVariables false in
theorem ppaj5_A (xn : Int) (xby : Int) (P : Int → Prop) (h : P (ppaj5M xn xby)) : ppaj5 xn xby (fun k0 => P k0) := by
  unfold ppaj5M at h
  unfold ppaj5
  exact h
def ppaM (xn : Int) (xby : Int) : Int := (ppaj5M xn xby)
set_option linter.unusedSimpArgs false in
set_option linter.unusedVariables false in
theorem ppaF_A (xn : Int) (xby : Int) (hp : byP xn xby) (P : Int → Prop) (h : P (ppaM xn xby)) : ppaF xn xby (fun k0 => P k0) := by
  unfold ppaM at h
  unfold ppaF
  refine ⟨?_, ?_⟩
  · first | (unfold byP at hp; omega) | omega | assumption | exact trivial | (have h0 := List.length_pos_iff.mpr (by assumption); omega) | (simp; omega) | (simp at *; omega)
  refine ⟨?_, ?_⟩
  · first | (unfold byP at hp; omega) | omega | assumption | exact trivial | (have h0 := List.length_pos_iff.mpr (by assumption); omega) | (simp; omega) | (simp at *; omega)
  refine ⟨fun hc0 => ?_, fun hc0 => ?_⟩
  · skip
    have hd0 := of_decide_eq_true hc0
    exact ppaj5_A xn xby _ h
  · skip
    have hd0 := of_decide_eq_false hc0
    exact ppaj5_A xn xby _ h
theorem ppa_F (xn : Int) (xby : Int) (hp : byP xn xby) : ppaF xn xby (fun k0 => k0 = ppaM xn xby) :=
  ppaF_A xn xby hp (fun z => z = ppaM xn xby) rfl
set_option linter.unusedVariables false in
theorem ppa_c {g : Ghost} (xn : Int) (xby : Int)  (hp : byP xn xby) : CallsG Tryd.prog 38 #[.int .i64 xn, .int .i64 xby] g (.int .i64 (ppaM xn xby)) :=
  (ppa_ok xn xby _ (ppa_F xn xby hp)).gives (by rintro g' H' v _ ⟨r0, rfl, rfl, hK⟩; subst hK; rfl)
def rwhj5 (xn : Int) (xby : Int) (K : Int → Prop) : Prop :=
  K (if (decide ((IntKind.wrap .i64 ((IntKind.wrap .i64 (Int.tdiv xn xby)) * xby)) > xn)) = true then IntKind.wrap .i64 ((IntKind.wrap .i64 (Int.tdiv xn xby)) - 1) else IntKind.wrap .i64 (Int.tdiv xn xby))
def rwhF (xn : Int) (xby : Int) (K : Int → Prop) : Prop :=
  xby ≠ 0 ∧ ((decide ((IntKind.wrap .i64 ((IntKind.wrap .i64 (Int.tdiv xn xby)) * xby)) > xn)) = true → rwhj5 xn xby K) ∧ ((decide ((IntKind.wrap .i64 ((IntKind.wrap .i64 (Int.tdiv xn xby)) * xby)) > xn)) = false → rwhj5 xn xby K)
set_option maxHeartbeats 4000000 in
set_option maxRecDepth 100000 in
set_option linter.unusedVariables false in
theorem rwh_ok {g : Ghost} (xn : Int) (xby : Int) (K : Int → Prop)
    (hF : rwhF xn xby K) : CallsH Tryd.prog 41 #[.int .i64 xn, .int .i64 xby] g [] (fun g' H' v => ∃ (r0 : Int), v = .int .i64 r0 ∧ H' = [] ∧ K r0) := by
  refine CallsH.enter 17 [(0, .int .i64 xn), (1, .int .i64 xby)] Tryd.func41 rfl (by kernel_rfl) (by kernel_rfl) (by kernel_rfl) fun w0 => ?_
  refine Ok.seq ?_
  refine Ok.region ?_
  refine Ok.batch 1 [(0, .int .i64 xn), (1, .int .i64 xby)] (by kernel_rfl) ?_
  refine Ok.nil ?_
  refine Ok.thenN ?_
  refine Ok.seq ?_
  refine Ok.region ?_
  refine Ok.batch 2 [(0, .int .i64 xn), (1, .int .i64 xby), (6, .int .i64 xn), (7, .int .i64 xby)] (by kernel_rfl) ?_
  obtain ⟨hv, hF⟩ := hF
  refine Ok.op rfl (OpOk.step (v := .int .i64 (IntKind.wrap .i64 (Int.tdiv xn xby))) (Yields.quo rfl rfl hv) rfl rfl ?_)
  refine Ok.batch 1 [(0, .int .i64 xn), (1, .int .i64 xby), (5, .int .i64 (IntKind.wrap .i64 (Int.tdiv xn xby)))] (by kernel_rfl) ?_
  refine Ok.nil ?_
  refine Ok.thenN ?_
  refine Ok.cut (fun a W => StA 17 [(5, .int .i64 (if (decide ((IntKind.wrap .i64 ((IntKind.wrap .i64 (Int.tdiv xn xby)) * xby)) > xn)) = true then IntKind.wrap .i64 ((IntKind.wrap .i64 (Int.tdiv xn xby)) - 1) else IntKind.wrap .i64 (Int.tdiv xn xby)))] a ∧ StW w0 [] g W ∧ rwhj5 xn xby K) ?_ ?_
  ·
    refine Ok.seq ?_
    refine Ok.region ?_
    refine Ok.batch 5 [(5, .int .i64 (IntKind.wrap .i64 (Int.tdiv xn xby))), (13, .bool (decide ((IntKind.wrap .i64 ((IntKind.wrap .i64 (Int.tdiv xn xby)) * xby)) > xn)))] (by kernel_rfl) ?_
    refine Ok.nil ?_
    refine Ok.thenN ?_
    refine Ok.cond (b := decide ((IntKind.wrap .i64 ((IntKind.wrap .i64 (Int.tdiv xn xby)) * xby)) > xn)) rfl (fun hc1 => ?_) (fun hc1 => ?_)
    · replace hF := hF.1 hc1
      refine Ok.region ?_
      refine Ok.batch 3 [(5, .int .i64 (IntKind.wrap .i64 ((IntKind.wrap .i64 (Int.tdiv xn xby)) - 1)))] (by kernel_rfl) ?_
      refine Ok.nil ?_
      refine Ok.thenN ?_
      refine Ok.reval 5 rfl (show (.int .i64 (IntKind.wrap .i64 ((IntKind.wrap .i64 (Int.tdiv xn xby)) - 1)) : Value) = .int .i64 (if (decide ((IntKind.wrap .i64 ((IntKind.wrap .i64 (Int.tdiv xn xby)) * xby)) > xn)) = true then IntKind.wrap .i64 ((IntKind.wrap .i64 (Int.tdiv xn xby)) - 1) else IntKind.wrap .i64 (Int.tdiv xn xby)) from congrArg (Value.int .i64) ((if_t hc1).symm)) ?_
      exact fun a W hA hW => ⟨hA.sub (by kernel_rfl), hW, hF⟩
    · replace hF := hF.2 hc1
      refine Ok.skip ?_
      refine Ok.thenN ?_
      refine Ok.reval 5 rfl (show (.int .i64 (IntKind.wrap .i64 (Int.tdiv xn xby)) : Value) = .int .i64 (if (decide ((IntKind.wrap .i64 ((IntKind.wrap .i64 (Int.tdiv xn xby)) * xby)) > xn)) = true then IntKind.wrap .i64 ((IntKind.wrap .i64 (Int.tdiv xn xby)) - 1) else IntKind.wrap .i64 (Int.tdiv xn xby)) from congrArg (Value.int .i64) ((if_f hc1).symm)) ?_
      exact fun a W hA hW => ⟨hA.sub (by kernel_rfl), hW, hF⟩
  ·
    clear hF
    rintro a W ⟨hA, hW, hF⟩
    refine (?_ : Ok _ _ _ _ _ _) a W hA hW
    clear hA hW
    refine Ok.seq ?_
    refine Ok.region ?_
    refine Ok.batch 2 [(4, .int .i64 (if (decide ((IntKind.wrap .i64 ((IntKind.wrap .i64 (Int.tdiv xn xby)) * xby)) > xn)) = true then IntKind.wrap .i64 ((IntKind.wrap .i64 (Int.tdiv xn xby)) - 1) else IntKind.wrap .i64 (Int.tdiv xn xby)))] (by kernel_rfl) ?_
    refine Ok.nil ?_
    refine Ok.thenN ?_
    refine Ok.ret ?_
    exact Ok.resH (vs := [.int .i64 (if (decide ((IntKind.wrap .i64 ((IntKind.wrap .i64 (Int.tdiv xn xby)) * xby)) > xn)) = true then IntKind.wrap .i64 ((IntKind.wrap .i64 (Int.tdiv xn xby)) - 1) else IntKind.wrap .i64 (Int.tdiv xn xby))]) (.inl rfl) rfl (.cons (.tmp rfl) .nil) (Gext.refl w0 g) ⟨(if (decide ((IntKind.wrap .i64 ((IntKind.wrap .i64 (Int.tdiv xn xby)) * xby)) > xn)) = true then IntKind.wrap .i64 ((IntKind.wrap .i64 (Int.tdiv xn xby)) - 1) else IntKind.wrap .i64 (Int.tdiv xn xby)), rfl, rfl, hF⟩
def rwhj5M (xn : Int) (xby : Int) : Int := (if (decide ((IntKind.wrap .i64 ((IntKind.wrap .i64 (Int.tdiv xn xby)) * xby)) > xn)) = true then IntKind.wrap .i64 ((IntKind.wrap .i64 (Int.tdiv xn xby)) - 1) else IntKind.wrap .i64 (Int.tdiv xn xby))
set_option linter.unusedSimpArgs false in
set_option linter.unusedVariables false in
theorem rwhj5_A (xn : Int) (xby : Int) (P : Int → Prop) (h : P (rwhj5M xn xby)) : rwhj5 xn xby (fun k0 => P k0) := by
  unfold rwhj5M at h
  unfold rwhj5
  exact h
def rwhM (xn : Int) (xby : Int) : Int := (rwhj5M xn xby)
set_option linter.unusedSimpArgs false in
set_option linter.unusedVariables false in
theorem rwhF_A (xn : Int) (xby : Int) (hp : byP xn xby) (P : Int → Prop) (h : P (rwhM xn xby)) : rwhF xn xby (fun k0 => P k0) := by
  unfold rwhM at h
  unfold rwhF
  refine ⟨?_, ?_⟩
  · first | (unfold byP at hp; omega) | omega | assumption | exact trivial | (have h0 := List.length_pos_iff.mpr (by assumption); omega) | (simp; omega) | (simp at *; omega)
  refine ⟨fun hc0 => ?_, fun hc0 => ?_⟩
  · skip
    have hd0 := hc0; try simp only [Bool.and_eq_true, Bool.or_eq_true, Bool.and_eq_false_iff, Bool.or_eq_false_iff, Bool.not_eq_true', Bool.not_eq_false', decide_eq_true_eq, decide_eq_false_iff_not, beq_iff_eq, beq_eq_false_iff_ne, ne_eq] at hd0
    exact rwhj5_A xn xby _ h
  · skip
    have hd0 := hc0; try simp only [Bool.and_eq_true, Bool.or_eq_true, Bool.and_eq_false_iff, Bool.or_eq_false_iff, Bool.not_eq_true', Bool.not_eq_false', decide_eq_true_eq, decide_eq_false_iff_not, beq_iff_eq, beq_eq_false_iff_ne, ne_eq] at hd0
    exact rwhj5_A xn xby _ h
theorem rwh_F (xn : Int) (xby : Int) (hp : byP xn xby) : rwhF xn xby (fun k0 => k0 = rwhM xn xby) :=
  rwhF_A xn xby hp (fun z => z = rwhM xn xby) rfl
set_option linter.unusedVariables false in
theorem rwh_c {g : Ghost} (xn : Int) (xby : Int)  (hp : byP xn xby) : CallsG Tryd.prog 41 #[.int .i64 xn, .int .i64 xby] g (.int .i64 (rwhM xn xby)) :=
  (rwh_ok xn xby _ (rwh_F xn xby hp)).gives (by rintro g' H' v _ ⟨r0, rfl, rfl, hK⟩; subst hK; rfl)
def ptxF (xp : Int) (xv : Int × Int) (K : (List UInt8) → Int → Prop) : Prop :=
  ((!(pinM xp)) = true → K ([] : List UInt8) 1) ∧ ((!(pinM xp)) = false → ((!(pfitM xp xv)) = true → K ([] : List UInt8) 3) ∧ ((!(pfitM xp xv)) = false → (((xv.1 == 1)) = true → p59 xp ∧ pkeyP ((patM xp).1, ((patM xp).2).1, (((patM xp).2).2).1, ((((patM xp).2).2).2).1, ((((patM xp).2).2).2).2) xv.2 ∧ K (pkeyM ((patM xp).1, ((patM xp).2).1, (((patM xp).2).2).1, ((((patM xp).2).2).2).1, ((((patM xp).2).2).2).2) xv.2) 0) ∧ (((xv.1 == 1)) = false → (((xv.1 == 6)) = true → p59 xp ∧ K (((((patM xp).2).2).2).1) 0) ∧ (((xv.1 == 6)) = false → (((xv.1 == 5)) = true → K (ctxS xv.2) 0) ∧ (((xv.1 == 5)) = false → (((xv.1 == 2)) = true → byP (IntKind.wrap .i64 ((IntKind.wrap .i64 (0 - xv.2)) * 1000)) 64 ∧ dmP (IntKind.wrap .i64 (0 - (ppaM (IntKind.wrap .i64 ((IntKind.wrap .i64 (0 - xv.2)) * 1000)) 64)), ([112, 120] : List UInt8)) ∧ K (dmS (IntKind.wrap .i64 (0 - (ppaM (IntKind.wrap .i64 ((IntKind.wrap .i64 (0 - xv.2)) * 1000)) 64)), ([112, 120] : List UInt8))) 0) ∧ (((xv.1 == 2)) = false → (((xv.1 == 3)) = true → dmP (IntKind.wrap .i64 (10 * xv.2), ([37] : List UInt8)) ∧ K (dmS (IntKind.wrap .i64 (10 * xv.2), ([37] : List UInt8))) 0) ∧ (((xv.1 == 3)) = false → dmP (xv.2, ([] : List UInt8)) ∧ K (dmS (xv.2, ([] : List UInt8))) 0)))))))
set_option maxHeartbeats 4000000 in
set_option maxRecDepth 100000 in
set_option linter.unusedVariables false in
theorem ptx_ok {g : Ghost} (xp : Int) (xv : Int × Int) (hG1 : SomeInt g 1) (hG2 : GlobL g 2 (.int .u64) DPow) (hG8 : GlobL g 8 (.int .u8) DBru) (K : (List UInt8) → Int → Prop)
    (hF : ptxF xp xv K) : CallsH Tryd.prog 15 #[.int .i64 xp, .agg #[.int .i64 xv.1, .int .i64 xv.2]] g [] (fun g' H' v => ∃ (r0 : List UInt8), ∃ (r1 : Int), v = .tuple #[.string ⟨⟨r0⟩⟩, .int .i64 r1] ∧ H' = [] ∧ K r0 r1) := by
  refine CallsH.enter 53 [(0, .int .i64 xp), (1, .agg #[.int .i64 xv.1, .int .i64 xv.2])] Tryd.func15 rfl (by kernel_rfl) (by kernel_rfl) (by kernel_rfl) fun w0 => ?_
  refine Ok.seq ?_
  refine Ok.region ?_
  refine Ok.op rfl (OpOk.box (v := .agg #[.int .i64 xv.1, .int .i64 xv.2]) (cs := #[.int .i64 xv.1, .int .i64 xv.2]) rfl (by kernel_rfl) rfl fun b1 => ?_)
  refine Ok.batch 2 [(0, .int .i64 xp), (3, .pointer (some ⟨b1, 0, none⟩))] (by kernel_rfl) ?_
  refine Ok.nil ?_
  refine Ok.thenN ?_
  refine Ok.seq ?_
  refine Ok.seq ?_
  refine Ok.region ?_
  refine Ok.batch 1 [(0, .int .i64 xp), (3, .pointer (some ⟨b1, 0, none⟩)), (6, .int .i64 xp)] (by kernel_rfl) ?_
  refine Ok.op rfl (OpOk.callG (v := .bool (pinM xp)) (enters (by kernel_rfl) (fun _ => by kernel_rfl)) (fun W hW => pin_c xp) rfl ?_)
  refine Ok.batch 1 [(0, .int .i64 xp), (3, .pointer (some ⟨b1, 0, none⟩)), (8, .bool (!(pinM xp)))] (by kernel_rfl) ?_
  refine Ok.nil ?_
  refine Ok.thenN ?_
  refine Ok.cond (b := !(pinM xp)) rfl (fun hc2 => ?_) (fun hc2 => ?_)
  · replace hF := hF.1 hc2
    refine Ok.seq ?_
    refine Ok.region ?_
    refine Ok.batch 2 [(4, .string ⟨⟨([] : List UInt8)⟩⟩), (5, .int .i64 1)] (by kernel_rfl) ?_
    refine Ok.nil ?_
    refine Ok.thenN ?_
    refine Ok.ret ?_
    refine Ok.thenR ?_
    exact Ok.resP (vs := [.string ⟨⟨([] : List UInt8)⟩⟩, .int .i64 1]) [] [] (by decide) rfl (.inl rfl) rfl (.cons (.tmp rfl) (.cons (.tmp rfl) .nil)) (Gext.refl w0 g) ⟨([] : List UInt8), 1, rfl, rfl, hF⟩
  · replace hF := hF.2 hc2
    refine Ok.skip ?_
    refine Ok.thenN ?_
    refine Ok.seq ?_
    refine Ok.seq ?_
    refine Ok.region ?_
    refine Ok.batch 1 [(0, .int .i64 xp), (3, .pointer (some ⟨b1, 0, none⟩)), (9, .int .i64 xp)] (by kernel_rfl) ?_
    refine Ok.op rfl (OpOk.step (v := .agg #[.int .i64 xv.1, .int .i64 xv.2]) (Yields.loadAgg 0 2 #[.int .i64 xv.1, .int .i64 xv.2] rfl rfl Tryd.underlying23 rfl (by kernel_rfl) (by kernel_rfl) (by kernel_rfl)) rfl rfl ?_)
    refine Ok.op rfl (OpOk.callG (v := .bool (pfitM xp xv)) (enters (by kernel_rfl) (fun _ => by kernel_rfl)) (fun W hW => pfit_c xp xv (hG1.mono hW.sees)) rfl ?_)
    refine Ok.batch 1 [(0, .int .i64 xp), (3, .pointer (some ⟨b1, 0, none⟩)), (12, .bool (!(pfitM xp xv)))] (by kernel_rfl) ?_
    refine Ok.nil ?_
    refine Ok.thenN ?_
    refine Ok.cond (b := !(pfitM xp xv)) rfl (fun hc3 => ?_) (fun hc3 => ?_)
    · replace hF := hF.1 hc3
      refine Ok.seq ?_
      refine Ok.region ?_
      refine Ok.batch 2 [(4, .string ⟨⟨([] : List UInt8)⟩⟩), (5, .int .i64 3)] (by kernel_rfl) ?_
      refine Ok.nil ?_
      refine Ok.thenN ?_
      refine Ok.ret ?_
      refine Ok.thenR ?_
      exact Ok.resP (vs := [.string ⟨⟨([] : List UInt8)⟩⟩, .int .i64 3]) [] [] (by decide) rfl (.inl rfl) rfl (.cons (.tmp rfl) (.cons (.tmp rfl) .nil)) (Gext.refl w0 g) ⟨([] : List UInt8), 3, rfl, rfl, hF⟩
    · replace hF := hF.2 hc3
      refine Ok.skip ?_
      refine Ok.thenN ?_
      refine Ok.seq ?_
      refine Ok.seq ?_
      refine Ok.region ?_
      refine Ok.batch 1 [(0, .int .i64 xp), (3, .pointer (some ⟨b1, 0, none⟩)), (13, .pointer (some ⟨b1, 0, none⟩))] (by kernel_rfl) ?_
      refine Ok.op rfl (OpOk.step (v := .int .i64 xv.1) (Yields.load 0 rfl rfl Tryd.underlying3 rfl (by kernel_rfl)) rfl rfl ?_)
      refine Ok.nil ?_
      refine Ok.thenN ?_
      refine Ok.block ?_
      refine Ok.seq ?_
      refine Ok.region ?_
      refine Ok.batch 2 [(0, .int .i64 xp), (3, .pointer (some ⟨b1, 0, none⟩)), (14, .int .i64 xv.1), (15, .bool (xv.1 == 1))] (by kernel_rfl) ?_
      refine Ok.nil ?_
      refine Ok.thenN ?_
      refine Ok.cond (b := (xv.1 == 1)) rfl (fun hc4 => ?_) (fun hc4 => ?_)
      · replace hF := hF.1 hc4
        refine Ok.seq ?_
        refine Ok.quiet' (by kernel_rfl) (by kernel_rfl) ?_
        refine OkQ.batch 1 [(3, .pointer (some ⟨b1, 0, none⟩)), (17, .int .i64 xp)] (by kernel_rfl) ?_
        obtain ⟨hp5, hF⟩ := hF
        refine OkQ.op rfl (OpQ.callG (v := .agg #[.string ⟨⟨(patM xp).1⟩⟩, .string ⟨⟨((patM xp).2).1⟩⟩, .string ⟨⟨(((patM xp).2).2).1⟩⟩, .string ⟨⟨((((patM xp).2).2).2).1⟩⟩, .bool (((((patM xp).2).2).2).2)]) (enters (by kernel_rfl) (fun _ => by kernel_rfl)) (fun W hW => pat_c xp hp5) rfl ?_)
        refine OkQ.batch 1 [(18, .agg #[.string ⟨⟨(patM xp).1⟩⟩, .string ⟨⟨((patM xp).2).1⟩⟩, .string ⟨⟨(((patM xp).2).2).1⟩⟩, .string ⟨⟨((((patM xp).2).2).2).1⟩⟩, .bool (((((patM xp).2).2).2).2)]), (19, .pointer (some ⟨b1, 1, none⟩))] (by kernel_rfl) ?_
        refine OkQ.op rfl (OpQ.step (v := .int .i64 xv.2) (Yields.load 0 rfl rfl Tryd.underlying3 rfl (by kernel_rfl)) rfl rfl ?_)
        obtain ⟨hp6, hF⟩ := hF
        refine OkQ.op rfl (OpQ.callG (v := .string ⟨⟨(pkeyM ((patM xp).1, ((patM xp).2).1, (((patM xp).2).2).1, ((((patM xp).2).2).2).1, ((((patM xp).2).2).2).2) xv.2)⟩⟩) (enters (by kernel_rfl) (fun _ => by kernel_rfl)) (fun W hW => pkey_c ((patM xp).1, ((patM xp).2).1, (((patM xp).2).2).1, ((((patM xp).2).2).2).1, ((((patM xp).2).2).2).2) xv.2 (hG1.mono hW.sees) hp6) rfl ?_)
        refine OkQ.batch 2 [(4, .string ⟨⟨(pkeyM ((patM xp).1, ((patM xp).2).1, (((patM xp).2).2).1, ((((patM xp).2).2).2).1, ((((patM xp).2).2).2).2) xv.2)⟩⟩), (5, .int .i64 0)] (by kernel_rfl) ?_
        refine OkQ.nil ?_
        refine Ok.thenN ?_
        refine Ok.ret ?_
        refine Ok.blockR ?_
        refine Ok.thenR ?_
        exact Ok.resP (vs := [.string ⟨⟨(pkeyM ((patM xp).1, ((patM xp).2).1, (((patM xp).2).2).1, ((((patM xp).2).2).2).1, ((((patM xp).2).2).2).2) xv.2)⟩⟩, .int .i64 0]) [] [] (by decide) rfl (.inl rfl) rfl (.cons (.tmp rfl) (.cons (.tmp rfl) .nil)) (Gext.refl w0 g) ⟨(pkeyM ((patM xp).1, ((patM xp).2).1, (((patM xp).2).2).1, ((((patM xp).2).2).2).1, ((((patM xp).2).2).2).2) xv.2), 0, rfl, rfl, hF⟩
      · replace hF := hF.2 hc4
        refine Ok.seq ?_
        refine Ok.region ?_
        refine Ok.batch 2 [(0, .int .i64 xp), (3, .pointer (some ⟨b1, 0, none⟩)), (14, .int .i64 xv.1), (22, .bool (xv.1 == 6))] (by kernel_rfl) ?_
        refine Ok.nil ?_
        refine Ok.thenN ?_
        refine Ok.cond (b := (xv.1 == 6)) rfl (fun hc7 => ?_) (fun hc7 => ?_)
        · replace hF := hF.1 hc7
          refine Ok.seq ?_
          refine Ok.region ?_
          refine Ok.batch 1 [(24, .int .i64 xp)] (by kernel_rfl) ?_
          obtain ⟨hp8, hF⟩ := hF
          refine Ok.op rfl (OpOk.callG (v := .agg #[.string ⟨⟨(patM xp).1⟩⟩, .string ⟨⟨((patM xp).2).1⟩⟩, .string ⟨⟨(((patM xp).2).2).1⟩⟩, .string ⟨⟨((((patM xp).2).2).2).1⟩⟩, .bool (((((patM xp).2).2).2).2)]) (enters (by kernel_rfl) (fun _ => by kernel_rfl)) (fun W hW => pat_c xp hp8) rfl ?_)
          refine Ok.batch 3 [(4, .string ⟨⟨((((patM xp).2).2).2).1⟩⟩), (5, .int .i64 0)] (by kernel_rfl) ?_
          refine Ok.nil ?_
          refine Ok.thenN ?_
          refine Ok.ret ?_
          refine Ok.blockR ?_
          refine Ok.thenR ?_
          exact Ok.resP (vs := [.string ⟨⟨((((patM xp).2).2).2).1⟩⟩, .int .i64 0]) [] [] (by decide) rfl (.inl rfl) rfl (.cons (.tmp rfl) (.cons (.tmp rfl) .nil)) (Gext.refl w0 g) ⟨(((((patM xp).2).2).2).1), 0, rfl, rfl, hF⟩
        · replace hF := hF.2 hc7
          refine Ok.seq ?_
          refine Ok.region ?_
          refine Ok.batch 2 [(3, .pointer (some ⟨b1, 0, none⟩)), (14, .int .i64 xv.1), (27, .bool (xv.1 == 5))] (by kernel_rfl) ?_
          refine Ok.nil ?_
          refine Ok.thenN ?_
          refine Ok.cond (b := (xv.1 == 5)) rfl (fun hc9 => ?_) (fun hc9 => ?_)
          · replace hF := hF.1 hc9
            refine Ok.seq ?_
            refine Ok.region ?_
            refine Ok.batch 1 [(29, .pointer (some ⟨b1, 1, none⟩))] (by kernel_rfl) ?_
            refine Ok.op rfl (OpOk.step (v := .int .i64 xv.2) (Yields.load 0 rfl rfl Tryd.underlying3 rfl (by kernel_rfl)) rfl rfl ?_)
            refine Ok.op rfl (OpOk.callG (v := .string ⟨⟨(ctxS xv.2)⟩⟩) (enters (by kernel_rfl) (fun _ => by kernel_rfl)) (fun W hW => ctx_c xv.2 (hG8.mono hW.sees)) rfl ?_)
            refine Ok.batch 2 [(4, .string ⟨⟨(ctxS xv.2)⟩⟩), (5, .int .i64 0)] (by kernel_rfl) ?_
            refine Ok.nil ?_
            refine Ok.thenN ?_
            refine Ok.ret ?_
            refine Ok.blockR ?_
            refine Ok.thenR ?_
            exact Ok.resP (vs := [.string ⟨⟨(ctxS xv.2)⟩⟩, .int .i64 0]) [] [] (by decide) rfl (.inl rfl) rfl (.cons (.tmp rfl) (.cons (.tmp rfl) .nil)) (Gext.refl w0 g) ⟨(ctxS xv.2), 0, rfl, rfl, hF⟩
          · replace hF := hF.2 hc9
            refine Ok.seq ?_
            refine Ok.region ?_
            refine Ok.batch 2 [(3, .pointer (some ⟨b1, 0, none⟩)), (14, .int .i64 xv.1), (32, .bool (xv.1 == 2))] (by kernel_rfl) ?_
            refine Ok.nil ?_
            refine Ok.thenN ?_
            refine Ok.cond (b := (xv.1 == 2)) rfl (fun hc10 => ?_) (fun hc10 => ?_)
            · replace hF := hF.1 hc10
              refine Ok.seq ?_
              refine Ok.region ?_
              refine Ok.batch 1 [(34, .pointer (some ⟨b1, 1, none⟩))] (by kernel_rfl) ?_
              refine Ok.op rfl (OpOk.step (v := .int .i64 xv.2) (Yields.load 0 rfl rfl Tryd.underlying3 rfl (by kernel_rfl)) rfl rfl ?_)
              refine Ok.batch 2 [(37, .int .i64 (IntKind.wrap .i64 ((IntKind.wrap .i64 (0 - xv.2)) * 1000)))] (by kernel_rfl) ?_
              obtain ⟨hp11, hF⟩ := hF
              refine Ok.op rfl (OpOk.callG (v := .int .i64 (ppaM (IntKind.wrap .i64 ((IntKind.wrap .i64 (0 - xv.2)) * 1000)) 64)) (enters (by kernel_rfl) (fun _ => by kernel_rfl)) (fun W hW => ppa_c (IntKind.wrap .i64 ((IntKind.wrap .i64 (0 - xv.2)) * 1000)) 64 hp11) rfl ?_)
              refine Ok.batch 2 [(40, .agg #[.int .i64 (IntKind.wrap .i64 (0 - (ppaM (IntKind.wrap .i64 ((IntKind.wrap .i64 (0 - xv.2)) * 1000)) 64))), .string ⟨⟨([112, 120] : List UInt8)⟩⟩])] (by kernel_rfl) ?_
              obtain ⟨hp12, hF⟩ := hF
              refine Ok.op rfl (OpOk.callG (v := .string ⟨⟨(dmS (IntKind.wrap .i64 (0 - (ppaM (IntKind.wrap .i64 ((IntKind.wrap .i64 (0 - xv.2)) * 1000)) 64)), ([112, 120] : List UInt8)))⟩⟩) (enters (by kernel_rfl) (fun _ => by kernel_rfl)) (fun W hW => dmt_c (IntKind.wrap .i64 (0 - (ppaM (IntKind.wrap .i64 ((IntKind.wrap .i64 (0 - xv.2)) * 1000)) 64)), ([112, 120] : List UInt8)) (hG2.mono hW.sees) hp12) rfl ?_)
              refine Ok.batch 2 [(4, .string ⟨⟨(dmS (IntKind.wrap .i64 (0 - (ppaM (IntKind.wrap .i64 ((IntKind.wrap .i64 (0 - xv.2)) * 1000)) 64)), ([112, 120] : List UInt8)))⟩⟩), (5, .int .i64 0)] (by kernel_rfl) ?_
              refine Ok.nil ?_
              refine Ok.thenN ?_
              refine Ok.ret ?_
              refine Ok.blockR ?_
              refine Ok.thenR ?_
              exact Ok.resP (vs := [.string ⟨⟨(dmS (IntKind.wrap .i64 (0 - (ppaM (IntKind.wrap .i64 ((IntKind.wrap .i64 (0 - xv.2)) * 1000)) 64)), ([112, 120] : List UInt8)))⟩⟩, .int .i64 0]) [] [] (by decide) rfl (.inl rfl) rfl (.cons (.tmp rfl) (.cons (.tmp rfl) .nil)) (Gext.refl w0 g) ⟨(dmS (IntKind.wrap .i64 (0 - (ppaM (IntKind.wrap .i64 ((IntKind.wrap .i64 (0 - xv.2)) * 1000)) 64)), ([112, 120] : List UInt8))), 0, rfl, rfl, hF⟩
            · replace hF := hF.2 hc10
              refine Ok.seq ?_
              refine Ok.region ?_
              refine Ok.batch 2 [(3, .pointer (some ⟨b1, 0, none⟩)), (42, .bool (xv.1 == 3))] (by kernel_rfl) ?_
              refine Ok.nil ?_
              refine Ok.thenN ?_
              refine Ok.cond (b := (xv.1 == 3)) rfl (fun hc13 => ?_) (fun hc13 => ?_)
              · replace hF := hF.1 hc13
                refine Ok.seq ?_
                refine Ok.region ?_
                refine Ok.batch 1 [(44, .pointer (some ⟨b1, 1, none⟩))] (by kernel_rfl) ?_
                refine Ok.op rfl (OpOk.step (v := .int .i64 xv.2) (Yields.load 0 rfl rfl Tryd.underlying3 rfl (by kernel_rfl)) rfl rfl ?_)
                refine Ok.batch 2 [(47, .agg #[.int .i64 (IntKind.wrap .i64 (10 * xv.2)), .string ⟨⟨([37] : List UInt8)⟩⟩])] (by kernel_rfl) ?_
                obtain ⟨hp14, hF⟩ := hF
                refine Ok.op rfl (OpOk.callG (v := .string ⟨⟨(dmS (IntKind.wrap .i64 (10 * xv.2), ([37] : List UInt8)))⟩⟩) (enters (by kernel_rfl) (fun _ => by kernel_rfl)) (fun W hW => dmt_c (IntKind.wrap .i64 (10 * xv.2), ([37] : List UInt8)) (hG2.mono hW.sees) hp14) rfl ?_)
                refine Ok.batch 2 [(4, .string ⟨⟨(dmS (IntKind.wrap .i64 (10 * xv.2), ([37] : List UInt8)))⟩⟩), (5, .int .i64 0)] (by kernel_rfl) ?_
                refine Ok.nil ?_
                refine Ok.thenN ?_
                refine Ok.ret ?_
                refine Ok.blockR ?_
                refine Ok.thenR ?_
                exact Ok.resP (vs := [.string ⟨⟨(dmS (IntKind.wrap .i64 (10 * xv.2), ([37] : List UInt8)))⟩⟩, .int .i64 0]) [] [] (by decide) rfl (.inl rfl) rfl (.cons (.tmp rfl) (.cons (.tmp rfl) .nil)) (Gext.refl w0 g) ⟨(dmS (IntKind.wrap .i64 (10 * xv.2), ([37] : List UInt8))), 0, rfl, rfl, hF⟩
              · replace hF := hF.2 hc13
                refine Ok.skip ?_
                refine Ok.blockN ?_
                refine Ok.thenN ?_
                refine Ok.seq ?_
                refine Ok.region ?_
                refine Ok.batch 1 [(49, .pointer (some ⟨b1, 1, none⟩))] (by kernel_rfl) ?_
                refine Ok.op rfl (OpOk.step (v := .int .i64 xv.2) (Yields.load 0 rfl rfl Tryd.underlying3 rfl (by kernel_rfl)) rfl rfl ?_)
                refine Ok.batch 1 [(51, .agg #[.int .i64 xv.2, .string ⟨⟨([] : List UInt8)⟩⟩])] (by kernel_rfl) ?_
                obtain ⟨hp15, hF⟩ := hF
                refine Ok.op rfl (OpOk.callG (v := .string ⟨⟨(dmS (xv.2, ([] : List UInt8)))⟩⟩) (enters (by kernel_rfl) (fun _ => by kernel_rfl)) (fun W hW => dmt_c (xv.2, ([] : List UInt8)) (hG2.mono hW.sees) hp15) rfl ?_)
                refine Ok.batch 2 [(4, .string ⟨⟨(dmS (xv.2, ([] : List UInt8)))⟩⟩), (5, .int .i64 0)] (by kernel_rfl) ?_
                refine Ok.nil ?_
                refine Ok.thenN ?_
                refine Ok.ret ?_
                exact Ok.resP (vs := [.string ⟨⟨(dmS (xv.2, ([] : List UInt8)))⟩⟩, .int .i64 0]) [] [] (by decide) rfl (.inl rfl) rfl (.cons (.tmp rfl) (.cons (.tmp rfl) .nil)) (Gext.refl w0 g) ⟨(dmS (xv.2, ([] : List UInt8))), 0, rfl, rfl, hF⟩
def ptT (p : Int) (v : Int × Int) : List UInt8 := if (v.1 == 1) = true then pkeyM (patM p) v.2 else if (v.1 == 6) = true then (patM p).2.2.2.1 else if (v.1 == 5) = true then ctxS v.2 else
  if (v.1 == 2) = true then dmS (IntKind.wrap .i64 (0 - (ppaM (IntKind.wrap .i64 ((IntKind.wrap .i64 (0 - v.2)) * 1000)) 64)), [112, 120]) else if (v.1 == 3) = true then dmS (IntKind.wrap .i64 (10 * v.2), [37]) else dmS (v.2, [])
def ptxS (p : Int) (v : Int × Int) : List UInt8 × Int := if (!(pinM p)) = true then ([], 1) else if (!(pfitM p v)) = true then ([], 3) else (ptT p v, 0)
theorem ptx_F (p : Int) (v : Int × Int) : ptxF p v (fun r r1 => (r, r1) = ptxS p v) := by
  refine ⟨fun h => by unfold ptxS; rw [if_t h], fun h => ⟨fun h2 => by unfold ptxS; rw [if_f h, if_t h2], fun h2 => ?_⟩⟩
  have hp := pin_p h
  have he : ptxS p v = (ptT p v, 0) := by unfold ptxS; rw [if_f h, if_f h2]
  rw [he]
  unfold ptT
  refine ⟨fun h1 => ⟨hp, keys_ok hp _, by rw [if_t h1]⟩, fun h1 => ⟨fun h6 => ⟨hp, by rw [if_f h1, if_t h6]⟩, fun h6 => ⟨fun h5 => by rw [if_f h1, if_f h6, if_t h5], fun h5 => ⟨fun h2 => ⟨rfl, (by decide : 2 ≤ 140737488355328), by rw [if_f h1, if_f h6, if_f h5, if_t h2]⟩, fun h2 => ⟨fun h3 => ⟨(by decide : 1 ≤ 140737488355328), by rw [if_f h1, if_f h6, if_f h5, if_f h2, if_t h3]⟩, fun h3 => ⟨(by decide : 0 ≤ 140737488355328), by rw [if_f h1, if_f h6, if_f h5, if_f h2, if_f h3]⟩⟩⟩⟩⟩⟩
set_option linter.unusedVariables false in
theorem ptx_c {g : Ghost} (xp : Int) (xv : Int × Int) (hG1 : SomeInt g 1) (hG2 : GlobL g 2 (.int .u64) DPow) (hG8 : GlobL g 8 (.int .u8) DBru)  : CallsG Tryd.prog 15 #[.int .i64 xp, .agg #[.int .i64 xv.1, .int .i64 xv.2]] g (.tuple #[.string ⟨⟨((ptxS xp xv).1)⟩⟩, .int .i64 ((ptxS xp xv).2)]) :=
  (ptx_ok xp xv hG1 hG2 hG8 _ (ptx_F xp xv)).gives (by rintro g' H' v _ ⟨r0, r1, rfl, rfl, hK⟩; obtain ⟨rfl, rfl⟩ : r0 = (ptxS xp xv).1 ∧ r1 = (ptxS xp xv).2 := ⟨congrArg (fun z => z.1) hK, congrArg (fun z => z.2) hK⟩; rfl)
def rpaF (xp : Int) (K : (List UInt8) → Prop) : Prop :=
  ((((xp == 9) || (xp == 10))) = true → K ([110, 111, 110, 101] : List UInt8)) ∧ ((((xp == 9) || (xp == 10))) = false → ((((xp == 38) || (xp == 44))) = true → K ([110, 111, 114, 109, 97, 108] : List UInt8)) ∧ ((((xp == 38) || (xp == 44))) = false → K ([97, 117, 116, 111] : List UInt8)))
set_option maxHeartbeats 4000000 in
set_option maxRecDepth 100000 in
set_option linter.unusedVariables false in
theorem rpa_ok {g : Ghost} (xp : Int) (K : (List UInt8) → Prop)
    (hF : rpaF xp K) : CallsH Tryd.prog 39 #[.int .i64 xp] g [] (fun g' H' v => ∃ (r0 : List UInt8), v = .string ⟨⟨r0⟩⟩ ∧ H' = [] ∧ K r0) := by
  refine CallsH.enter 15 [(0, .int .i64 xp)] Tryd.func39 rfl (by kernel_rfl) (by kernel_rfl) (by kernel_rfl) fun w0 => ?_
  refine Ok.seq ?_
  refine Ok.region ?_
  refine Ok.batch 1 [(0, .int .i64 xp)] (by kernel_rfl) ?_
  refine Ok.nil ?_
  refine Ok.thenN ?_
  refine Ok.seq ?_
  refine Ok.seq ?_
  refine Ok.region ?_
  refine Ok.batch 3 [(0, .int .i64 xp), (5, .bool (xp == 9))] (by kernel_rfl) ?_
  refine Ok.midway 3 [(0, .int .i64 xp), (8, .bool ((xp == 9) || (xp == 10)))] (fun hR1 => ?_) ?_
  · refine Ok.boolAt 5 ((xp == 9)) rfl (fun hc2 => ?_) (fun hc2 => ?_)
    · skip
      refine Ok.batch 3 [(0, .int .i64 xp), (8, .bool true)] (by kernel_rfl) ?_
      refine Ok.reval 8 rfl (show (.bool true : Value) = .bool ((xp == 9) || (xp == 10)) from congrArg Value.bool (mor_t hc2)) ?_
      refine Ok.batch 0 [(0, .int .i64 xp), (8, .bool ((xp == 9) || (xp == 10)))] (by kernel_rfl) ?_
      exact hR1
    · skip
      refine Ok.batch 3 [(0, .int .i64 xp), (8, .bool (xp == 10))] (by kernel_rfl) ?_
      refine Ok.reval 8 rfl (show (.bool (xp == 10) : Value) = .bool ((xp == 9) || (xp == 10)) from congrArg Value.bool (mor_f hc2)) ?_
      refine Ok.batch 0 [(0, .int .i64 xp), (8, .bool ((xp == 9) || (xp == 10)))] (by kernel_rfl) ?_
      exact hR1
  refine Ok.nil ?_
  refine Ok.thenN ?_
  refine Ok.cond (b := ((xp == 9) || (xp == 10))) rfl (fun hc3 => ?_) (fun hc3 => ?_)
  · replace hF := hF.1 hc3
    refine Ok.seq ?_
    refine Ok.region ?_
    refine Ok.batch 1 [(2, .string ⟨⟨([110, 111, 110, 101] : List UInt8)⟩⟩)] (by kernel_rfl) ?_
    refine Ok.nil ?_
    refine Ok.thenN ?_
    refine Ok.ret ?_
    refine Ok.thenR ?_
    exact Ok.resH (vs := [.string ⟨⟨([110, 111, 110, 101] : List UInt8)⟩⟩]) (.inl rfl) rfl (.cons (.tmp rfl) .nil) (Gext.refl w0 g) ⟨([110, 111, 110, 101] : List UInt8), rfl, rfl, hF⟩
  · replace hF := hF.2 hc3
    refine Ok.skip ?_
    refine Ok.thenN ?_
    refine Ok.seq ?_
    refine Ok.seq ?_
    refine Ok.region ?_
    refine Ok.batch 3 [(0, .int .i64 xp), (11, .bool (xp == 38))] (by kernel_rfl) ?_
    refine Ok.midway 3 [(14, .bool ((xp == 38) || (xp == 44)))] (fun hR4 => ?_) ?_
    · refine Ok.boolAt 11 ((xp == 38)) rfl (fun hc5 => ?_) (fun hc5 => ?_)
      · skip
        refine Ok.batch 3 [(14, .bool true)] (by kernel_rfl) ?_
        refine Ok.reval 14 rfl (show (.bool true : Value) = .bool ((xp == 38) || (xp == 44)) from congrArg Value.bool (mor_t hc5)) ?_
        refine Ok.batch 0 [(14, .bool ((xp == 38) || (xp == 44)))] (by kernel_rfl) ?_
        exact hR4
      · skip
        refine Ok.batch 3 [(14, .bool (xp == 44))] (by kernel_rfl) ?_
        refine Ok.reval 14 rfl (show (.bool (xp == 44) : Value) = .bool ((xp == 38) || (xp == 44)) from congrArg Value.bool (mor_f hc5)) ?_
        refine Ok.batch 0 [(14, .bool ((xp == 38) || (xp == 44)))] (by kernel_rfl) ?_
        exact hR4
    refine Ok.nil ?_
    refine Ok.thenN ?_
    refine Ok.cond (b := ((xp == 38) || (xp == 44))) rfl (fun hc6 => ?_) (fun hc6 => ?_)
    · replace hF := hF.1 hc6
      refine Ok.seq ?_
      refine Ok.region ?_
      refine Ok.batch 1 [(2, .string ⟨⟨([110, 111, 114, 109, 97, 108] : List UInt8)⟩⟩)] (by kernel_rfl) ?_
      refine Ok.nil ?_
      refine Ok.thenN ?_
      refine Ok.ret ?_
      refine Ok.thenR ?_
      exact Ok.resH (vs := [.string ⟨⟨([110, 111, 114, 109, 97, 108] : List UInt8)⟩⟩]) (.inl rfl) rfl (.cons (.tmp rfl) .nil) (Gext.refl w0 g) ⟨([110, 111, 114, 109, 97, 108] : List UInt8), rfl, rfl, hF⟩
    · replace hF := hF.2 hc6
      refine Ok.skip ?_
      refine Ok.thenN ?_
      refine Ok.seq ?_
      refine Ok.region ?_
      refine Ok.batch 1 [(2, .string ⟨⟨([97, 117, 116, 111] : List UInt8)⟩⟩)] (by kernel_rfl) ?_
      refine Ok.nil ?_
      refine Ok.thenN ?_
      refine Ok.ret ?_
      exact Ok.resH (vs := [.string ⟨⟨([97, 117, 116, 111] : List UInt8)⟩⟩]) (.inl rfl) rfl (.cons (.tmp rfl) .nil) (Gext.refl w0 g) ⟨([97, 117, 116, 111] : List UInt8), rfl, rfl, hF⟩
def rpaM (xp : Int) : List UInt8 := (if ((xp == 9) || (xp == 10)) = true then ([110, 111, 110, 101] : List UInt8) else (if ((xp == 38) || (xp == 44)) = true then ([110, 111, 114, 109, 97, 108] : List UInt8) else ([97, 117, 116, 111] : List UInt8)))
set_option linter.unusedSimpArgs false in
set_option linter.unusedVariables false in
theorem rpaF_A (xp : Int) (P : List UInt8 → Prop) (h : P (rpaM xp)) : rpaF xp (fun k0 => P k0) := by
  unfold rpaM at h
  unfold rpaF
  refine ⟨fun hc0 => ?_, fun hc0 => ?_⟩
  · rw [if_t hc0] at h
    have hd0 := hc0; try simp only [Bool.and_eq_true, Bool.or_eq_true, Bool.and_eq_false_iff, Bool.or_eq_false_iff, Bool.not_eq_true', Bool.not_eq_false', decide_eq_true_eq, decide_eq_false_iff_not, beq_iff_eq, beq_eq_false_iff_ne, ne_eq] at hd0
    exact h
  · rw [if_f hc0] at h
    have hd0 := hc0; try simp only [Bool.and_eq_true, Bool.or_eq_true, Bool.and_eq_false_iff, Bool.or_eq_false_iff, Bool.not_eq_true', Bool.not_eq_false', decide_eq_true_eq, decide_eq_false_iff_not, beq_iff_eq, beq_eq_false_iff_ne, ne_eq] at hd0
    refine ⟨fun hc1 => ?_, fun hc1 => ?_⟩
    · rw [if_t hc1] at h
      have hd1 := hc1; try simp only [Bool.and_eq_true, Bool.or_eq_true, Bool.and_eq_false_iff, Bool.or_eq_false_iff, Bool.not_eq_true', Bool.not_eq_false', decide_eq_true_eq, decide_eq_false_iff_not, beq_iff_eq, beq_eq_false_iff_ne, ne_eq] at hd1
      exact h
    · rw [if_f hc1] at h
      have hd1 := hc1; try simp only [Bool.and_eq_true, Bool.or_eq_true, Bool.and_eq_false_iff, Bool.or_eq_false_iff, Bool.not_eq_true', Bool.not_eq_false', decide_eq_true_eq, decide_eq_false_iff_not, beq_iff_eq, beq_eq_false_iff_ne, ne_eq] at hd1
      exact h
theorem rpa_F (xp : Int) : rpaF xp (fun k0 => k0 = rpaM xp) :=
  rpaF_A xp (fun z => z = rpaM xp) rfl
set_option linter.unusedVariables false in
theorem rpa_c {g : Ghost} (xp : Int)  : CallsG Tryd.prog 39 #[.int .i64 xp] g (.string ⟨⟨(rpaM xp)⟩⟩) :=
  (rpa_ok xp _ (rpa_F xp)).gives (by rintro g' H' v _ ⟨r0, rfl, rfl, hK⟩; subst hK; rfl)
def rvtF (xp : Int) (xv : Int × Int) (K : (List UInt8) → Prop) : Prop :=
  (((xv.1 == 1)) = true → (0 : Int) ≤ xv.2 ∧ Int.toNat xv.2 < (rpyM xp).length ∧ K ((rpyM xp).getD (Int.toNat xv.2) default)) ∧ (((xv.1 == 1)) = false → (((xv.1 == 6)) = true → K (rpaM xp)) ∧ (((xv.1 == 6)) = false → (((xv.1 == 5)) = true → K (ctxS xv.2)) ∧ (((xv.1 == 5)) = false → (((xv.1 == 2)) = true → byP (IntKind.wrap .i64 (0 - (IntKind.wrap .i64 (xv.2 * 1000)))) 64 ∧ dmP (IntKind.wrap .i64 (0 - (rwhM (IntKind.wrap .i64 (0 - (IntKind.wrap .i64 (xv.2 * 1000)))) 64)), ([112, 120] : List UInt8)) ∧ K (dmS (IntKind.wrap .i64 (0 - (rwhM (IntKind.wrap .i64 (0 - (IntKind.wrap .i64 (xv.2 * 1000)))) 64)), ([112, 120] : List UInt8)))) ∧ (((xv.1 == 2)) = false → (((xv.1 == 3)) = true → dmP (IntKind.wrap .i64 (10 * xv.2), ([37] : List UInt8)) ∧ K (dmS (IntKind.wrap .i64 (10 * xv.2), ([37] : List UInt8)))) ∧ (((xv.1 == 3)) = false → dmP (xv.2, ([] : List UInt8)) ∧ K (dmS (xv.2, ([] : List UInt8))))))))
set_option maxHeartbeats 4000000 in
set_option maxRecDepth 100000 in
set_option linter.unusedVariables false in
theorem rvt_ok {g : Ghost} (xp : Int) (xv : Int × Int) (K : (List UInt8) → Prop)
    (hF : rvtF xp xv K) : CallsH Tryd.prog 16 #[.int .i64 xp, .agg #[.int .i64 xv.1, .int .i64 xv.2]] g [] (fun g' H' v => ∃ (r0 : List UInt8), v = .string ⟨⟨r0⟩⟩ ∧ H' = [] ∧ K r0) := by
  refine CallsH.enter 48 [(0, .int .i64 xp), (1, .agg #[.int .i64 xv.1, .int .i64 xv.2])] Tryd.func16 rfl (by kernel_rfl) (by kernel_rfl) (by kernel_rfl) fun w0 => ?_
  refine Ok.seq ?_
  refine Ok.region ?_
  refine Ok.op rfl (OpOk.box (v := .agg #[.int .i64 xv.1, .int .i64 xv.2]) (cs := #[.int .i64 xv.1, .int .i64 xv.2]) rfl (by kernel_rfl) rfl fun b1 => ?_)
  refine Ok.batch 1 [(0, .int .i64 xp), (3, .pointer (some ⟨b1, 0, none⟩))] (by kernel_rfl) ?_
  refine Ok.nil ?_
  refine Ok.thenN ?_
  refine Ok.seq ?_
  refine Ok.seq ?_
  refine Ok.region ?_
  refine Ok.batch 1 [(0, .int .i64 xp), (3, .pointer (some ⟨b1, 0, none⟩)), (5, .pointer (some ⟨b1, 0, none⟩))] (by kernel_rfl) ?_
  refine Ok.op rfl (OpOk.step (v := .int .i64 xv.1) (Yields.load 0 rfl rfl Tryd.underlying3 rfl (by kernel_rfl)) rfl rfl ?_)
  refine Ok.batch 1 [(0, .int .i64 xp), (3, .pointer (some ⟨b1, 0, none⟩)), (7, .bool (xv.1 == 1))] (by kernel_rfl) ?_
  refine Ok.nil ?_
  refine Ok.thenN ?_
  refine Ok.cond (b := (xv.1 == 1)) rfl (fun hc2 => ?_) (fun hc2 => ?_)
  · replace hF := hF.1 hc2
    refine Ok.seq ?_
    refine Ok.mix [] [] [.blk b1 (.cells #[.int .i64 xv.1, .int .i64 xv.2] 23)] [(0, true), (2, true), (3, true), (1, false), (4, false), (5, false), (6, true)] (by kernel_rfl) (by kernel_rfl) (.cons_cons _ .slnil) ?_
    refine OkM.batch 2 [(8, .int .i64 xp), (10, .pointer (some ⟨b1, 1, none⟩))] (by kernel_rfl) ?_
    refine OkM.head rfl rfl (show _ = [.blk b1 (.cells #[.int .i64 xv.1, .int .i64 xv.2] 23)] from rfl) (OpQ.step (v := .int .i64 xv.2) (Yields.load 0 rfl rfl Tryd.underlying3 rfl (by kernel_rfl)) rfl rfl ?_)
    refine OkM.tail rfl rfl (OpOk.callH [] [.blk b1 (.cells #[.int .i64 xv.1, .int .i64 xv.2] 23)] (enters (by kernel_rfl) (fun _ => by kernel_rfl)) rfl (rpy_c xp) rfl fun g3 _ _ hx3 hV3 => ?_)
    obtain ⟨a3_0, c3_0, rfl, hR3_0, rfl⟩ := hV3
    refine OkM.leaf (i := 1) (show _ = [.blk b1 (.cells #[.int .i64 xv.1, .int .i64 xv.2] 23)] from rfl) hx3.1 (.cons_cons _ .slnil) ?_
    obtain ⟨h05, h15, hF⟩ := hF
    have he5 := get_of (l := (rpyM xp)) (default : List UInt8) h15
    generalize hg5 : ((rpyM xp).getD (Int.toNat xv.2) default) = e5 at he5 hF ⊢
    refine OkM.tail rfl rfl (OpOk.indexRo (e := .str) (i := xv.2) (el := e5) rfl rfl Tryd.underlying55 (by kernel_rfl) hR3_0 h05 he5 rfl fun q4 o4 cs4 _ hat4 hr4 => ?_)
    obtain rfl := hr4
    replace hat4 : At g3 q4 o4 [.string ⟨⟨e5⟩⟩] := hat4
    refine OkM.leaf (i := 4) (show _ = [.blk b1 (.cells #[.int .i64 xv.1, .int .i64 xv.2] 23)] from rfl) hx3.1 (.cons_cons _ .slnil) ?_
    refine OkM.tail rfl rfl (OpOk.step (v := .string ⟨⟨e5⟩⟩) (Yields.loadRo 0 hat4 (by kernel_rfl) Tryd.underlying9 rfl (by kernel_rfl)) rfl rfl ?_)
    refine OkM.leaf (i := 5) (show _ = [.blk b1 (.cells #[.int .i64 xv.1, .int .i64 xv.2] 23)] from rfl) hx3.1 (.cons_cons _ .slnil) ?_
    refine OkM.batch 1 [(4, .string ⟨⟨e5⟩⟩)] (by kernel_rfl) ?_
    refine OkM.nil ?_
    refine Ok.thenN ?_
    refine Ok.ret ?_
    refine Ok.thenR ?_
    exact Ok.resP (vs := [.string ⟨⟨e5⟩⟩]) [] [] (by decide) rfl (.inl rfl) rfl (.cons (.tmp rfl) .nil) hx3 ⟨e5, rfl, rfl, hF⟩
  · replace hF := hF.2 hc2
    refine Ok.skip ?_
    refine Ok.thenN ?_
    refine Ok.seq ?_
    refine Ok.seq ?_
    refine Ok.region ?_
    refine Ok.batch 1 [(0, .int .i64 xp), (3, .pointer (some ⟨b1, 0, none⟩)), (14, .pointer (some ⟨b1, 0, none⟩))] (by kernel_rfl) ?_
    refine Ok.op rfl (OpOk.step (v := .int .i64 xv.1) (Yields.load 0 rfl rfl Tryd.underlying3 rfl (by kernel_rfl)) rfl rfl ?_)
    refine Ok.batch 1 [(0, .int .i64 xp), (3, .pointer (some ⟨b1, 0, none⟩)), (16, .bool (xv.1 == 6))] (by kernel_rfl) ?_
    refine Ok.nil ?_
    refine Ok.thenN ?_
    refine Ok.cond (b := (xv.1 == 6)) rfl (fun hc6 => ?_) (fun hc6 => ?_)
    · replace hF := hF.1 hc6
      refine Ok.seq ?_
      refine Ok.region ?_
      refine Ok.batch 1 [(17, .int .i64 xp)] (by kernel_rfl) ?_
      refine Ok.op rfl (OpOk.callG (v := .string ⟨⟨(rpaM xp)⟩⟩) (enters (by kernel_rfl) (fun _ => by kernel_rfl)) (fun W hW => rpa_c xp) rfl ?_)
      refine Ok.batch 1 [(4, .string ⟨⟨(rpaM xp)⟩⟩)] (by kernel_rfl) ?_
      refine Ok.nil ?_
      refine Ok.thenN ?_
      refine Ok.ret ?_
      refine Ok.thenR ?_
      exact Ok.resP (vs := [.string ⟨⟨(rpaM xp)⟩⟩]) [] [] (by decide) rfl (.inl rfl) rfl (.cons (.tmp rfl) .nil) (Gext.refl w0 g) ⟨(rpaM xp), rfl, rfl, hF⟩
    · replace hF := hF.2 hc6
      refine Ok.skip ?_
      refine Ok.thenN ?_
      refine Ok.seq ?_
      refine Ok.seq ?_
      refine Ok.region ?_
      refine Ok.batch 1 [(3, .pointer (some ⟨b1, 0, none⟩)), (19, .pointer (some ⟨b1, 0, none⟩))] (by kernel_rfl) ?_
      refine Ok.op rfl (OpOk.step (v := .int .i64 xv.1) (Yields.load 0 rfl rfl Tryd.underlying3 rfl (by kernel_rfl)) rfl rfl ?_)
      refine Ok.batch 1 [(3, .pointer (some ⟨b1, 0, none⟩)), (21, .bool (xv.1 == 5))] (by kernel_rfl) ?_
      refine Ok.nil ?_
      refine Ok.thenN ?_
      refine Ok.cond (b := (xv.1 == 5)) rfl (fun hc7 => ?_) (fun hc7 => ?_)
      · replace hF := hF.1 hc7
        refine Ok.seq ?_
        refine Ok.region ?_
        refine Ok.batch 1 [(22, .pointer (some ⟨b1, 1, none⟩))] (by kernel_rfl) ?_
        refine Ok.op rfl (OpOk.step (v := .int .i64 xv.2) (Yields.load 0 rfl rfl Tryd.underlying3 rfl (by kernel_rfl)) rfl rfl ?_)
        refine Ok.op rfl (OpOk.callG (v := .string ⟨⟨(ctxS xv.2)⟩⟩) (enters (by kernel_rfl) (fun _ => by kernel_rfl)) (fun W hW => rct_c xv.2) rfl ?_)
        refine Ok.batch 1 [(4, .string ⟨⟨(ctxS xv.2)⟩⟩)] (by kernel_rfl) ?_
        refine Ok.nil ?_
        refine Ok.thenN ?_
        refine Ok.ret ?_
        refine Ok.thenR ?_
        exact Ok.resP (vs := [.string ⟨⟨(ctxS xv.2)⟩⟩]) [] [] (by decide) rfl (.inl rfl) rfl (.cons (.tmp rfl) .nil) (Gext.refl w0 g) ⟨(ctxS xv.2), rfl, rfl, hF⟩
      · replace hF := hF.2 hc7
        refine Ok.skip ?_
        refine Ok.thenN ?_
        refine Ok.seq ?_
        refine Ok.seq ?_
        refine Ok.region ?_
        refine Ok.batch 1 [(3, .pointer (some ⟨b1, 0, none⟩)), (25, .pointer (some ⟨b1, 0, none⟩))] (by kernel_rfl) ?_
        refine Ok.op rfl (OpOk.step (v := .int .i64 xv.1) (Yields.load 0 rfl rfl Tryd.underlying3 rfl (by kernel_rfl)) rfl rfl ?_)
        refine Ok.batch 1 [(3, .pointer (some ⟨b1, 0, none⟩)), (27, .bool (xv.1 == 2))] (by kernel_rfl) ?_
        refine Ok.nil ?_
        refine Ok.thenN ?_
        refine Ok.cond (b := (xv.1 == 2)) rfl (fun hc8 => ?_) (fun hc8 => ?_)
        · replace hF := hF.1 hc8
          refine Ok.seq ?_
          refine Ok.region ?_
          refine Ok.batch 1 [(28, .pointer (some ⟨b1, 1, none⟩))] (by kernel_rfl) ?_
          refine Ok.op rfl (OpOk.step (v := .int .i64 xv.2) (Yields.load 0 rfl rfl Tryd.underlying3 rfl (by kernel_rfl)) rfl rfl ?_)
          refine Ok.batch 2 [(31, .int .i64 (IntKind.wrap .i64 (0 - (IntKind.wrap .i64 (xv.2 * 1000)))))] (by kernel_rfl) ?_
          obtain ⟨hp9, hF⟩ := hF
          refine Ok.op rfl (OpOk.callG (v := .int .i64 (rwhM (IntKind.wrap .i64 (0 - (IntKind.wrap .i64 (xv.2 * 1000)))) 64)) (enters (by kernel_rfl) (fun _ => by kernel_rfl)) (fun W hW => rwh_c (IntKind.wrap .i64 (0 - (IntKind.wrap .i64 (xv.2 * 1000)))) 64 hp9) rfl ?_)
          refine Ok.batch 2 [(34, .agg #[.int .i64 (IntKind.wrap .i64 (0 - (rwhM (IntKind.wrap .i64 (0 - (IntKind.wrap .i64 (xv.2 * 1000)))) 64))), .string ⟨⟨([112, 120] : List UInt8)⟩⟩])] (by kernel_rfl) ?_
          obtain ⟨hp10, hF⟩ := hF
          refine Ok.op rfl (OpOk.callG (v := .string ⟨⟨(dmS (IntKind.wrap .i64 (0 - (rwhM (IntKind.wrap .i64 (0 - (IntKind.wrap .i64 (xv.2 * 1000)))) 64)), ([112, 120] : List UInt8)))⟩⟩) (enters (by kernel_rfl) (fun _ => by kernel_rfl)) (fun W hW => rdm_c (IntKind.wrap .i64 (0 - (rwhM (IntKind.wrap .i64 (0 - (IntKind.wrap .i64 (xv.2 * 1000)))) 64)), ([112, 120] : List UInt8)) hp10) rfl ?_)
          refine Ok.batch 1 [(4, .string ⟨⟨(dmS (IntKind.wrap .i64 (0 - (rwhM (IntKind.wrap .i64 (0 - (IntKind.wrap .i64 (xv.2 * 1000)))) 64)), ([112, 120] : List UInt8)))⟩⟩)] (by kernel_rfl) ?_
          refine Ok.nil ?_
          refine Ok.thenN ?_
          refine Ok.ret ?_
          refine Ok.thenR ?_
          exact Ok.resP (vs := [.string ⟨⟨(dmS (IntKind.wrap .i64 (0 - (rwhM (IntKind.wrap .i64 (0 - (IntKind.wrap .i64 (xv.2 * 1000)))) 64)), ([112, 120] : List UInt8)))⟩⟩]) [] [] (by decide) rfl (.inl rfl) rfl (.cons (.tmp rfl) .nil) (Gext.refl w0 g) ⟨(dmS (IntKind.wrap .i64 (0 - (rwhM (IntKind.wrap .i64 (0 - (IntKind.wrap .i64 (xv.2 * 1000)))) 64)), ([112, 120] : List UInt8))), rfl, rfl, hF⟩
        · replace hF := hF.2 hc8
          refine Ok.skip ?_
          refine Ok.thenN ?_
          refine Ok.seq ?_
          refine Ok.seq ?_
          refine Ok.region ?_
          refine Ok.batch 1 [(3, .pointer (some ⟨b1, 0, none⟩)), (36, .pointer (some ⟨b1, 0, none⟩))] (by kernel_rfl) ?_
          refine Ok.op rfl (OpOk.step (v := .int .i64 xv.1) (Yields.load 0 rfl rfl Tryd.underlying3 rfl (by kernel_rfl)) rfl rfl ?_)
          refine Ok.batch 1 [(3, .pointer (some ⟨b1, 0, none⟩)), (38, .bool (xv.1 == 3))] (by kernel_rfl) ?_
          refine Ok.nil ?_
          refine Ok.thenN ?_
          refine Ok.cond (b := (xv.1 == 3)) rfl (fun hc11 => ?_) (fun hc11 => ?_)
          · replace hF := hF.1 hc11
            refine Ok.seq ?_
            refine Ok.region ?_
            refine Ok.batch 1 [(39, .pointer (some ⟨b1, 1, none⟩))] (by kernel_rfl) ?_
            refine Ok.op rfl (OpOk.step (v := .int .i64 xv.2) (Yields.load 0 rfl rfl Tryd.underlying3 rfl (by kernel_rfl)) rfl rfl ?_)
            refine Ok.batch 2 [(42, .agg #[.int .i64 (IntKind.wrap .i64 (10 * xv.2)), .string ⟨⟨([37] : List UInt8)⟩⟩])] (by kernel_rfl) ?_
            obtain ⟨hp12, hF⟩ := hF
            refine Ok.op rfl (OpOk.callG (v := .string ⟨⟨(dmS (IntKind.wrap .i64 (10 * xv.2), ([37] : List UInt8)))⟩⟩) (enters (by kernel_rfl) (fun _ => by kernel_rfl)) (fun W hW => rdm_c (IntKind.wrap .i64 (10 * xv.2), ([37] : List UInt8)) hp12) rfl ?_)
            refine Ok.batch 1 [(4, .string ⟨⟨(dmS (IntKind.wrap .i64 (10 * xv.2), ([37] : List UInt8)))⟩⟩)] (by kernel_rfl) ?_
            refine Ok.nil ?_
            refine Ok.thenN ?_
            refine Ok.ret ?_
            refine Ok.thenR ?_
            exact Ok.resP (vs := [.string ⟨⟨(dmS (IntKind.wrap .i64 (10 * xv.2), ([37] : List UInt8)))⟩⟩]) [] [] (by decide) rfl (.inl rfl) rfl (.cons (.tmp rfl) .nil) (Gext.refl w0 g) ⟨(dmS (IntKind.wrap .i64 (10 * xv.2), ([37] : List UInt8))), rfl, rfl, hF⟩
          · replace hF := hF.2 hc11
            refine Ok.skip ?_
            refine Ok.thenN ?_
            refine Ok.seq ?_
            refine Ok.region ?_
            refine Ok.batch 1 [(44, .pointer (some ⟨b1, 1, none⟩))] (by kernel_rfl) ?_
            refine Ok.op rfl (OpOk.step (v := .int .i64 xv.2) (Yields.load 0 rfl rfl Tryd.underlying3 rfl (by kernel_rfl)) rfl rfl ?_)
            refine Ok.batch 1 [(46, .agg #[.int .i64 xv.2, .string ⟨⟨([] : List UInt8)⟩⟩])] (by kernel_rfl) ?_
            obtain ⟨hp13, hF⟩ := hF
            refine Ok.op rfl (OpOk.callG (v := .string ⟨⟨(dmS (xv.2, ([] : List UInt8)))⟩⟩) (enters (by kernel_rfl) (fun _ => by kernel_rfl)) (fun W hW => rdm_c (xv.2, ([] : List UInt8)) hp13) rfl ?_)
            refine Ok.batch 1 [(4, .string ⟨⟨(dmS (xv.2, ([] : List UInt8)))⟩⟩)] (by kernel_rfl) ?_
            refine Ok.nil ?_
            refine Ok.thenN ?_
            refine Ok.ret ?_
            exact Ok.resP (vs := [.string ⟨⟨(dmS (xv.2, ([] : List UInt8)))⟩⟩]) [] [] (by decide) rfl (.inl rfl) rfl (.cons (.tmp rfl) .nil) (Gext.refl w0 g) ⟨(dmS (xv.2, ([] : List UInt8))), rfl, rfl, hF⟩
def rvtT (p : Int) (v : Int × Int) : List UInt8 := if (v.1 == 1) = true then (rpyM p).getD (Int.toNat v.2) default else if (v.1 == 6) = true then rpaM p else if (v.1 == 5) = true then ctxS v.2 else
  if (v.1 == 2) = true then dmS (IntKind.wrap .i64 (0 - (rwhM (IntKind.wrap .i64 (0 - (IntKind.wrap .i64 (v.2 * 1000)))) 64)), [112, 120]) else if (v.1 == 3) = true then dmS (IntKind.wrap .i64 (10 * v.2), [37]) else dmS (v.2, [])
def rvtP (p : Int) (v : Int × Int) : Prop := (v.1 == 1) = true → 0 ≤ v.2 ∧ Int.toNat v.2 < (rpyM p).length
theorem rvt_F (p : Int) (v : Int × Int) (hp : rvtP p v) : rvtF p v (fun r => r = rvtT p v) := by
  unfold rvtT
  refine ⟨fun h1 => ⟨(hp h1).1, (hp h1).2, by rw [if_t h1]⟩, fun h1 => ⟨fun h6 => by rw [if_f h1, if_t h6], fun h6 => ⟨fun h5 => by rw [if_f h1, if_f h6, if_t h5], fun h5 => ⟨fun h2 => ⟨rfl, (by decide : 2 ≤ 140737488355328), by rw [if_f h1, if_f h6, if_f h5, if_t h2]⟩, fun h2 => ⟨fun h3 => ⟨(by decide : 1 ≤ 140737488355328), by rw [if_f h1, if_f h6, if_f h5, if_f h2, if_t h3]⟩, fun h3 => ⟨(by decide : 0 ≤ 140737488355328), by rw [if_f h1, if_f h6, if_f h5, if_f h2, if_f h3]⟩⟩⟩⟩⟩⟩
set_option linter.unusedVariables false in
theorem rvt_c {g : Ghost} (xp : Int) (xv : Int × Int)  (hp : rvtP xp xv) : CallsG Tryd.prog 16 #[.int .i64 xp, .agg #[.int .i64 xv.1, .int .i64 xv.2]] g (.string ⟨⟨(rvtT xp xv)⟩⟩) :=
  (rvt_ok xp xv _ (rvt_F xp xv hp)).gives (by rintro g' H' v _ ⟨r0, rfl, rfl, hK⟩; subst hK; rfl)
theorem nn {b : Bool} (h : ¬ (!b) = true) : b = true := by
  cases b
  · exact absurd rfl h
  · rfl
theorem ite_f {c b : Bool} (h : (if c = true then false else b) = true) : b = true := by
  cases c
  · exact h
  · cases h
theorem may {p : Int} {v : Int × Int} (h : rvmM p v = true) : p59 p ∧ (1 ≤ v.1 ∧ v.1 ≤ 6) ∧ rhbS (rpkM.getD (Int.toNat p) default) ((LT.getD (Int.toNat (IntKind.wrap .i64 (v.1 - 1))) 0).toNat : Int) = true ∧ (v.1 = 1 → rvmj27M p v = true) ∧ (v.1 ≠ 1 → v.1 ≠ 6 → v.1 ≠ 5 → -16777216 ≤ v.2 ∧ v.2 ≤ 16777216) := by
  have h : rvmj4M p v = true := h
  unfold rvmj4M at h
  split at h
  · cases h
  · rename_i h0
    simp only [Bool.or_eq_true, decide_eq_true_eq, not_or] at h0
    split at h
    · cases h
    · rename_i hk
      refine ⟨⟨by omega, by omega⟩, by omega, nn hk, fun h1 => ?_, fun h1 h6 h5 => ?_⟩
      · rw [if_t (by rw [beq_iff_eq]; exact h1)] at h; exact h
      · rw [if_f (by rw [beq_eq_false_iff_ne]; exact h1), if_f (by rw [beq_eq_false_iff_ne]; exact h6), if_f (by rw [beq_eq_false_iff_ne]; exact h5)] at h
        unfold rvmj48M rvmj56M rvmj63M at h
        have h := ite_f (ite_f h)
        rw [Bool.and_eq_true, decide_eq_true_eq, decide_eq_true_eq] at h
        omega
def autoOk (p : Int) : Bool := !(rhbS (rpkM.getD (Int.toNat p) default) 97) || ((patM p).2.2.2.1 == rpaM p)
theorem auto_eq {p : Int} (hp : p59 p) (hk : rhbS (rpkM.getD (Int.toNat p) default) 97 = true) : (patM p).2.2.2.1 = rpaM p := by
  have := p59_all (P := autoOk) (by decide +kernel) hp
  unfold autoOk at this
  rw [hk, Bool.not_true, Bool.false_or] at this
  exact beq_iff_eq.1 this
theorem part_whole (x : Int) (h : -20000000000 ≤ x ∧ x ≤ 20000000000) : ppaM x 64 = rwhM x 64 := by
  unfold ppaM rwhM ppaj5M rwhj5M
  have h1 := Int.tmod_add_mul_tdiv x 64
  have h2 : -20000000000 ≤ Int.tdiv x 64 ∧ Int.tdiv x 64 ≤ 20000000000 := by
    have h3 := Int.tmod_lt_of_pos x (show (0 : Int) < 64 by omega)
    have h4 : -64 < Int.tmod x 64 := by
      have := Int.lt_tmod_of_pos x (show (0 : Int) < 64 by omega)
      omega
    omega
  rw [w64 (x := Int.tdiv x 64) (by omega), w64 (x := Int.tdiv x 64 * 64) (by omega)]
  by_cases hn : Int.tmod x 64 < 0
  · rw [decide_eq_true hn, decide_eq_true (show Int.tdiv x 64 * 64 > x by omega)]
  · rw [decide_eq_false hn, decide_eq_false (show ¬ Int.tdiv x 64 * 64 > x by omega)]
theorem text_eq {p : Int} {v : Int × Int} (h : rvmM p v = true) : ptT p v = rvtT p v := by
  obtain ⟨hp, hv, hk, h1, hn⟩ := may h
  obtain ⟨k, n⟩ := v
  simp only at hv hk h1 hn
  unfold ptT rvtT
  have h6 : k = 1 ∨ k = 2 ∨ k = 3 ∨ k = 4 ∨ k = 5 ∨ k = 6 := by omega
  rcases h6 with rfl | rfl | rfl | rfl | rfl | rfl
  · have hm := h1 rfl
    have he := keys_eq hp hk
    have hl : (splS (patM p).2.2.1 [32]).length = (rpyM p).length := by rw [← he, List.length_map]
    have hg : (rpyM p).getD n.toNat default = keyMap ((splS (patM p).2.2.1 [32]).getD n.toNat default) := by
      rw [← he]; exact getD_map keyMap default default rfl _ _
    unfold rvmj27M at hm
    rw [Bool.and_eq_true, Bool.and_eq_true, decide_eq_true_eq, decide_eq_true_eq] at hm
    show pkeyj6M (patM p) n = (rpyM p).getD n.toNat default
    unfold pkeyj6M
    rw [hg, hl, decide_eq_false (show ¬ n < 0 by omega), decide_eq_false (show ¬ n ≥ ((rpyM p).length : Int) by omega)]
    unfold keyMap
    cases ((splS (patM p).2.2.1 [32]).getD n.toNat default == [45]) <;> rfl
  · have hb := hn (by decide) (by decide) (by decide)
    show dmS _ = dmS _
    rw [w64 (x := 0 - n) (by omega), w64 (x := (0 - n) * 1000) (by omega), w64 (x := n * 1000) (by omega), w64 (x := 0 - n * 1000) (by omega), show (0 - n) * 1000 = 0 - n * 1000 by omega, part_whole _ (by omega)]
  · rfl
  · rfl
  · rfl
  · exact auto_eq hp hk
def lptj11 (xp : Int) (xv : Int × Int) (K : Bool → Prop) : Prop :=
  K ((pfitM 35 (5, 255)) && ((((ptxS xp xv).1) == ([] : List UInt8)) && (((ptxS xp xv).2) == 1)))
def lptj19 (xp : Int) (xv : Int × Int) (K : Bool → Prop) : Prop :=
  K ((pfitM 35 (5, 255)) && ((((ptxS xp xv).1) == ([] : List UInt8)) && (((ptxS xp xv).2) == 3)))
def lptj23 (xp : Int) (xv : Int × Int) (K : Bool → Prop) : Prop :=
  K (((pfitM 35 (5, 255)) && (((ptxS xp xv).2) == 0)) && (((ptxS xp xv).1) == (rvtT xp xv)))
def lptF (xp : Int) (xv : Int × Int) (K : Bool → Prop) : Prop :=
  ((((decide (xp < 0)) || (decide (xp ≥ 59)))) = true → (((pfitM 35 (5, 255))) = true → lptj11 xp xv K) ∧ (((pfitM 35 (5, 255))) = false → lptj11 xp xv K)) ∧ ((((decide (xp < 0)) || (decide (xp ≥ 59)))) = false → ((!(rvmM xp xv)) = true → (((pfitM 35 (5, 255))) = true → lptj19 xp xv K) ∧ (((pfitM 35 (5, 255))) = false → lptj19 xp xv K)) ∧ ((!(rvmM xp xv)) = false → ((((pfitM 35 (5, 255)) && (((ptxS xp xv).2) == 0))) = true → rvtP xp xv ∧ lptj23 xp xv K) ∧ ((((pfitM 35 (5, 255)) && (((ptxS xp xv).2) == 0))) = false → lptj23 xp xv K)))
set_option maxHeartbeats 4000000 in
set_option maxRecDepth 100000 in
set_option linter.unusedVariables false in
theorem lpt_ok {g : Ghost} (xp : Int) (xv : Int × Int) (hG1 : SomeInt g 1) (hG2 : GlobL g 2 (.int .u64) DPow) (hG8 : GlobL g 8 (.int .u8) DBru) (K : Bool → Prop)
    (hF : lptF xp xv K) : CallsH Tryd.prog 5 #[.int .i64 xp, .agg #[.int .i64 xv.1, .int .i64 xv.2]] g [] (fun g' H' v => ∃ (r0 : Bool), v = .bool r0 ∧ H' = [] ∧ K r0) := by
  refine CallsH.enter 56 [(0, .int .i64 xp), (1, .agg #[.int .i64 xv.1, .int .i64 xv.2])] Tryd.func5 rfl (by kernel_rfl) (by kernel_rfl) (by kernel_rfl) fun w0 => ?_
  refine Ok.seq ?_
  refine Ok.region ?_
  refine Ok.op rfl (OpOk.box (v := .agg #[.int .i64 xv.1, .int .i64 xv.2]) (cs := #[.int .i64 xv.1, .int .i64 xv.2]) rfl (by kernel_rfl) rfl fun b1 => ?_)
  refine Ok.batch 1 [(0, .int .i64 xp), (3, .pointer (some ⟨b1, 0, none⟩))] (by kernel_rfl) ?_
  refine Ok.nil ?_
  refine Ok.thenN ?_
  refine Ok.seq ?_
  refine Ok.region ?_
  refine Ok.batch 1 [(0, .int .i64 xp), (3, .pointer (some ⟨b1, 0, none⟩)), (8, .agg #[.int .i64 5, .int .i64 255])] (by kernel_rfl) ?_
  refine Ok.op rfl (OpOk.callG (v := .bool (pfitM 35 (5, 255))) (enters (by kernel_rfl) (fun _ => by kernel_rfl)) (fun W hW => pfit_c 35 (5, 255) (hG1.mono hW.sees)) rfl ?_)
  refine Ok.batch 1 [(0, .int .i64 xp), (3, .pointer (some ⟨b1, 0, none⟩)), (5, .bool (pfitM 35 (5, 255)))] (by kernel_rfl) ?_
  refine Ok.nil ?_
  refine Ok.thenN ?_
  refine Ok.seq ?_
  refine Ok.region ?_
  refine Ok.batch 1 [(0, .int .i64 xp), (3, .pointer (some ⟨b1, 0, none⟩)), (5, .bool (pfitM 35 (5, 255))), (11, .int .i64 xp)] (by kernel_rfl) ?_
  refine Ok.op rfl (OpOk.step (v := .agg #[.int .i64 xv.1, .int .i64 xv.2]) (Yields.loadAgg 0 2 #[.int .i64 xv.1, .int .i64 xv.2] rfl rfl Tryd.underlying23 rfl (by kernel_rfl) (by kernel_rfl) (by kernel_rfl)) rfl rfl ?_)
  refine Ok.op rfl (OpOk.callG (v := .tuple #[.string ⟨⟨(ptxS xp xv).1⟩⟩, .int .i64 ((ptxS xp xv).2)]) (enters (by kernel_rfl) (fun _ => by kernel_rfl)) (fun W hW => ptx_c xp xv (hG1.mono hW.sees) (hG2.mono hW.sees) (hG8.mono hW.sees)) rfl ?_)
  refine Ok.batch 5 [(0, .int .i64 xp), (3, .pointer (some ⟨b1, 0, none⟩)), (5, .bool (pfitM 35 (5, 255))), (6, .string ⟨⟨(ptxS xp xv).1⟩⟩), (7, .int .i64 ((ptxS xp xv).2))] (by kernel_rfl) ?_
  refine Ok.nil ?_
  refine Ok.thenN ?_
  refine Ok.seq ?_
  refine Ok.seq ?_
  refine Ok.region ?_
  refine Ok.batch 3 [(0, .int .i64 xp), (3, .pointer (some ⟨b1, 0, none⟩)), (5, .bool (pfitM 35 (5, 255))), (6, .string ⟨⟨(ptxS xp xv).1⟩⟩), (7, .int .i64 ((ptxS xp xv).2)), (18, .bool (decide (xp < 0)))] (by kernel_rfl) ?_
  refine Ok.midway 3 [(0, .int .i64 xp), (3, .pointer (some ⟨b1, 0, none⟩)), (5, .bool (pfitM 35 (5, 255))), (6, .string ⟨⟨(ptxS xp xv).1⟩⟩), (7, .int .i64 ((ptxS xp xv).2)), (21, .bool ((decide (xp < 0)) || (decide (xp ≥ 59))))] (fun hR2 => ?_) ?_
  · refine Ok.boolAt 18 (decide (xp < 0)) rfl (fun hc3 => ?_) (fun hc3 => ?_)
    · skip
      refine Ok.batch 3 [(0, .int .i64 xp), (3, .pointer (some ⟨b1, 0, none⟩)), (5, .bool (pfitM 35 (5, 255))), (6, .string ⟨⟨(ptxS xp xv).1⟩⟩), (7, .int .i64 ((ptxS xp xv).2)), (21, .bool true)] (by kernel_rfl) ?_
      refine Ok.reval 21 rfl (show (.bool true : Value) = .bool ((decide (xp < 0)) || (decide (xp ≥ 59))) from congrArg Value.bool (mor_t hc3)) ?_
      refine Ok.batch 0 [(0, .int .i64 xp), (3, .pointer (some ⟨b1, 0, none⟩)), (5, .bool (pfitM 35 (5, 255))), (6, .string ⟨⟨(ptxS xp xv).1⟩⟩), (7, .int .i64 ((ptxS xp xv).2)), (21, .bool ((decide (xp < 0)) || (decide (xp ≥ 59))))] (by kernel_rfl) ?_
      exact hR2
    · skip
      refine Ok.batch 3 [(0, .int .i64 xp), (3, .pointer (some ⟨b1, 0, none⟩)), (5, .bool (pfitM 35 (5, 255))), (6, .string ⟨⟨(ptxS xp xv).1⟩⟩), (7, .int .i64 ((ptxS xp xv).2)), (21, .bool (decide (xp ≥ 59)))] (by kernel_rfl) ?_
      refine Ok.reval 21 rfl (show (.bool (decide (xp ≥ 59)) : Value) = .bool ((decide (xp < 0)) || (decide (xp ≥ 59))) from congrArg Value.bool (mor_f hc3)) ?_
      refine Ok.batch 0 [(0, .int .i64 xp), (3, .pointer (some ⟨b1, 0, none⟩)), (5, .bool (pfitM 35 (5, 255))), (6, .string ⟨⟨(ptxS xp xv).1⟩⟩), (7, .int .i64 ((ptxS xp xv).2)), (21, .bool ((decide (xp < 0)) || (decide (xp ≥ 59))))] (by kernel_rfl) ?_
      exact hR2
  refine Ok.nil ?_
  refine Ok.thenN ?_
  refine Ok.cond (b := ((decide (xp < 0)) || (decide (xp ≥ 59)))) rfl (fun hc4 => ?_) (fun hc4 => ?_)
  · replace hF := hF.1 hc4
    refine Ok.cut (fun a W => StA 56 [(4, .bool ((pfitM 35 (5, 255)) && ((((ptxS xp xv).1) == ([] : List UInt8)) && (((ptxS xp xv).2) == 1))))] a ∧ StW w0 [] g W ∧ lptj11 xp xv K) ?_ ?_
    ·
      refine Ok.region ?_
      refine Ok.batch 2 [(6, .string ⟨⟨(ptxS xp xv).1⟩⟩), (7, .int .i64 ((ptxS xp xv).2)), (23, .bool (pfitM 35 (5, 255)))] (by kernel_rfl) ?_
      refine Ok.boolAt 23 ((pfitM 35 (5, 255))) rfl (fun hc5 => ?_) (fun hc5 => ?_)
      · replace hF := hF.1 hc5
        refine Ok.batch 1 [(7, .int .i64 ((ptxS xp xv).2)), (23, .bool true), (24, .string ⟨⟨(ptxS xp xv).1⟩⟩)] (by kernel_rfl) ?_
        refine Ok.opYes (j := 1) (d := 23) (want := true) (b := true) rfl (by kernel_rfl) (by kernel_rfl) rfl (OpOk.step (v := .bool (((ptxS xp xv).1) == ([] : List UInt8))) (Yields.strCmp (f := .eql) (a := ((ptxS xp xv).1)) (b := ([] : List UInt8)) (by kernel_rfl) (by kernel_rfl) rfl) rfl rfl ?_)
        refine Ok.batch 2 [(7, .int .i64 ((ptxS xp xv).2)), (27, .bool (((ptxS xp xv).1) == ([] : List UInt8)))] (by kernel_rfl) ?_
        refine Ok.midway 3 [(30, .bool ((((ptxS xp xv).1) == ([] : List UInt8)) && (((ptxS xp xv).2) == 1)))] (fun hR6 => ?_) ?_
        · refine Ok.boolAt 27 ((((ptxS xp xv).1) == ([] : List UInt8))) rfl (fun hc7 => ?_) (fun hc7 => ?_)
          · skip
            refine Ok.batch 3 [(30, .bool (((ptxS xp xv).2) == 1))] (by kernel_rfl) ?_
            refine Ok.reval 30 rfl (show (.bool (((ptxS xp xv).2) == 1) : Value) = .bool ((((ptxS xp xv).1) == ([] : List UInt8)) && (((ptxS xp xv).2) == 1)) from congrArg Value.bool (mand_t hc7)) ?_
            refine Ok.batch 0 [(30, .bool ((((ptxS xp xv).1) == ([] : List UInt8)) && (((ptxS xp xv).2) == 1)))] (by kernel_rfl) ?_
            exact hR6
          · skip
            refine Ok.batch 3 [(30, .bool false)] (by kernel_rfl) ?_
            refine Ok.reval 30 rfl (show (.bool false : Value) = .bool ((((ptxS xp xv).1) == ([] : List UInt8)) && (((ptxS xp xv).2) == 1)) from congrArg Value.bool (mand_f hc7)) ?_
            refine Ok.batch 0 [(30, .bool ((((ptxS xp xv).1) == ([] : List UInt8)) && (((ptxS xp xv).2) == 1)))] (by kernel_rfl) ?_
            exact hR6
        refine Ok.batch 1 [(4, .bool ((((ptxS xp xv).1) == ([] : List UInt8)) && (((ptxS xp xv).2) == 1)))] (by kernel_rfl) ?_
        refine Ok.nil ?_
        refine Ok.thenN ?_
        refine Ok.reval 4 rfl (show (.bool ((((ptxS xp xv).1) == ([] : List UInt8)) && (((ptxS xp xv).2) == 1)) : Value) = .bool ((pfitM 35 (5, 255)) && ((((ptxS xp xv).1) == ([] : List UInt8)) && (((ptxS xp xv).2) == 1))) from congrArg (Value.bool) (mand_t hc5)) ?_
        exact fun a W hA hW => ⟨hA.sub (by kernel_rfl), hW.sub (.cons _ .slnil), hF⟩
      · replace hF := hF.2 hc5
        refine Ok.batch 8 [(4, .bool false)] (by kernel_rfl) ?_
        refine Ok.nil ?_
        refine Ok.thenN ?_
        refine Ok.reval 4 rfl (show (.bool false : Value) = .bool ((pfitM 35 (5, 255)) && ((((ptxS xp xv).1) == ([] : List UInt8)) && (((ptxS xp xv).2) == 1))) from congrArg (Value.bool) (mand_f hc5)) ?_
        exact fun a W hA hW => ⟨hA.sub (by kernel_rfl), hW.sub (.cons _ .slnil), hF⟩
    ·
      clear hF
      rintro a W ⟨hA, hW, hF⟩
      refine (?_ : Ok _ _ _ _ _ _) a W hA hW
      clear hA hW
      refine Ok.ret ?_
      refine Ok.thenR ?_
      exact Ok.resH (vs := [.bool ((pfitM 35 (5, 255)) && ((((ptxS xp xv).1) == ([] : List UInt8)) && (((ptxS xp xv).2) == 1)))]) (.inl rfl) rfl (.cons (.tmp rfl) .nil) (Gext.refl w0 g) ⟨((pfitM 35 (5, 255)) && ((((ptxS xp xv).1) == ([] : List UInt8)) && (((ptxS xp xv).2) == 1))), rfl, rfl, hF⟩
  · replace hF := hF.2 hc4
    refine Ok.skip ?_
    refine Ok.thenN ?_
    refine Ok.seq ?_
    refine Ok.seq ?_
    refine Ok.region ?_
    refine Ok.batch 1 [(0, .int .i64 xp), (3, .pointer (some ⟨b1, 0, none⟩)), (5, .bool (pfitM 35 (5, 255))), (6, .string ⟨⟨(ptxS xp xv).1⟩⟩), (7, .int .i64 ((ptxS xp xv).2)), (31, .int .i64 xp)] (by kernel_rfl) ?_
    refine Ok.op rfl (OpOk.step (v := .agg #[.int .i64 xv.1, .int .i64 xv.2]) (Yields.loadAgg 0 2 #[.int .i64 xv.1, .int .i64 xv.2] rfl rfl Tryd.underlying23 rfl (by kernel_rfl) (by kernel_rfl) (by kernel_rfl)) rfl rfl ?_)
    refine Ok.op rfl (OpOk.callG (v := .bool (rvmM xp xv)) (enters (by kernel_rfl) (fun _ => by kernel_rfl)) (fun W hW => rvm_c xp xv) rfl ?_)
    refine Ok.batch 1 [(0, .int .i64 xp), (3, .pointer (some ⟨b1, 0, none⟩)), (5, .bool (pfitM 35 (5, 255))), (6, .string ⟨⟨(ptxS xp xv).1⟩⟩), (7, .int .i64 ((ptxS xp xv).2)), (34, .bool (!(rvmM xp xv)))] (by kernel_rfl) ?_
    refine Ok.nil ?_
    refine Ok.thenN ?_
    refine Ok.cond (b := !(rvmM xp xv)) rfl (fun hc8 => ?_) (fun hc8 => ?_)
    · replace hF := hF.1 hc8
      refine Ok.cut (fun a W => StA 56 [(4, .bool ((pfitM 35 (5, 255)) && ((((ptxS xp xv).1) == ([] : List UInt8)) && (((ptxS xp xv).2) == 3))))] a ∧ StW w0 [] g W ∧ lptj19 xp xv K) ?_ ?_
      ·
        refine Ok.region ?_
        refine Ok.batch 2 [(6, .string ⟨⟨(ptxS xp xv).1⟩⟩), (7, .int .i64 ((ptxS xp xv).2)), (36, .bool (pfitM 35 (5, 255)))] (by kernel_rfl) ?_
        refine Ok.boolAt 36 ((pfitM 35 (5, 255))) rfl (fun hc9 => ?_) (fun hc9 => ?_)
        · replace hF := hF.1 hc9
          refine Ok.batch 1 [(7, .int .i64 ((ptxS xp xv).2)), (36, .bool true), (37, .string ⟨⟨(ptxS xp xv).1⟩⟩)] (by kernel_rfl) ?_
          refine Ok.opYes (j := 1) (d := 36) (want := true) (b := true) rfl (by kernel_rfl) (by kernel_rfl) rfl (OpOk.step (v := .bool (((ptxS xp xv).1) == ([] : List UInt8))) (Yields.strCmp (f := .eql) (a := ((ptxS xp xv).1)) (b := ([] : List UInt8)) (by kernel_rfl) (by kernel_rfl) rfl) rfl rfl ?_)
          refine Ok.batch 2 [(7, .int .i64 ((ptxS xp xv).2)), (40, .bool (((ptxS xp xv).1) == ([] : List UInt8)))] (by kernel_rfl) ?_
          refine Ok.midway 3 [(43, .bool ((((ptxS xp xv).1) == ([] : List UInt8)) && (((ptxS xp xv).2) == 3)))] (fun hR10 => ?_) ?_
          · refine Ok.boolAt 40 ((((ptxS xp xv).1) == ([] : List UInt8))) rfl (fun hc11 => ?_) (fun hc11 => ?_)
            · skip
              refine Ok.batch 3 [(43, .bool (((ptxS xp xv).2) == 3))] (by kernel_rfl) ?_
              refine Ok.reval 43 rfl (show (.bool (((ptxS xp xv).2) == 3) : Value) = .bool ((((ptxS xp xv).1) == ([] : List UInt8)) && (((ptxS xp xv).2) == 3)) from congrArg Value.bool (mand_t hc11)) ?_
              refine Ok.batch 0 [(43, .bool ((((ptxS xp xv).1) == ([] : List UInt8)) && (((ptxS xp xv).2) == 3)))] (by kernel_rfl) ?_
              exact hR10
            · skip
              refine Ok.batch 3 [(43, .bool false)] (by kernel_rfl) ?_
              refine Ok.reval 43 rfl (show (.bool false : Value) = .bool ((((ptxS xp xv).1) == ([] : List UInt8)) && (((ptxS xp xv).2) == 3)) from congrArg Value.bool (mand_f hc11)) ?_
              refine Ok.batch 0 [(43, .bool ((((ptxS xp xv).1) == ([] : List UInt8)) && (((ptxS xp xv).2) == 3)))] (by kernel_rfl) ?_
              exact hR10
          refine Ok.batch 1 [(4, .bool ((((ptxS xp xv).1) == ([] : List UInt8)) && (((ptxS xp xv).2) == 3)))] (by kernel_rfl) ?_
          refine Ok.nil ?_
          refine Ok.thenN ?_
          refine Ok.reval 4 rfl (show (.bool ((((ptxS xp xv).1) == ([] : List UInt8)) && (((ptxS xp xv).2) == 3)) : Value) = .bool ((pfitM 35 (5, 255)) && ((((ptxS xp xv).1) == ([] : List UInt8)) && (((ptxS xp xv).2) == 3))) from congrArg (Value.bool) (mand_t hc9)) ?_
          exact fun a W hA hW => ⟨hA.sub (by kernel_rfl), hW.sub (.cons _ .slnil), hF⟩
        · replace hF := hF.2 hc9
          refine Ok.batch 8 [(4, .bool false)] (by kernel_rfl) ?_
          refine Ok.nil ?_
          refine Ok.thenN ?_
          refine Ok.reval 4 rfl (show (.bool false : Value) = .bool ((pfitM 35 (5, 255)) && ((((ptxS xp xv).1) == ([] : List UInt8)) && (((ptxS xp xv).2) == 3))) from congrArg (Value.bool) (mand_f hc9)) ?_
          exact fun a W hA hW => ⟨hA.sub (by kernel_rfl), hW.sub (.cons _ .slnil), hF⟩
      ·
        clear hF
        rintro a W ⟨hA, hW, hF⟩
        refine (?_ : Ok _ _ _ _ _ _) a W hA hW
        clear hA hW
        refine Ok.ret ?_
        refine Ok.thenR ?_
        exact Ok.resH (vs := [.bool ((pfitM 35 (5, 255)) && ((((ptxS xp xv).1) == ([] : List UInt8)) && (((ptxS xp xv).2) == 3)))]) (.inl rfl) rfl (.cons (.tmp rfl) .nil) (Gext.refl w0 g) ⟨((pfitM 35 (5, 255)) && ((((ptxS xp xv).1) == ([] : List UInt8)) && (((ptxS xp xv).2) == 3))), rfl, rfl, hF⟩
    · replace hF := hF.2 hc8
      refine Ok.skip ?_
      refine Ok.thenN ?_
      refine Ok.cut (fun a W => StA 56 [(4, .bool (((pfitM 35 (5, 255)) && (((ptxS xp xv).2) == 0)) && (((ptxS xp xv).1) == (rvtT xp xv))))] a ∧ StW w0 [] g W ∧ lptj23 xp xv K) ?_ ?_
      ·
        refine Ok.region ?_
        refine Ok.batch 2 [(0, .int .i64 xp), (3, .pointer (some ⟨b1, 0, none⟩)), (6, .string ⟨⟨(ptxS xp xv).1⟩⟩), (7, .int .i64 ((ptxS xp xv).2)), (45, .bool (pfitM 35 (5, 255)))] (by kernel_rfl) ?_
        refine Ok.midway 3 [(0, .int .i64 xp), (3, .pointer (some ⟨b1, 0, none⟩)), (6, .string ⟨⟨(ptxS xp xv).1⟩⟩), (48, .bool ((pfitM 35 (5, 255)) && (((ptxS xp xv).2) == 0)))] (fun hR12 => ?_) ?_
        · refine Ok.boolAt 45 ((pfitM 35 (5, 255))) rfl (fun hc13 => ?_) (fun hc13 => ?_)
          · skip
            refine Ok.batch 3 [(0, .int .i64 xp), (3, .pointer (some ⟨b1, 0, none⟩)), (6, .string ⟨⟨(ptxS xp xv).1⟩⟩), (48, .bool (((ptxS xp xv).2) == 0))] (by kernel_rfl) ?_
            refine Ok.reval 48 rfl (show (.bool (((ptxS xp xv).2) == 0) : Value) = .bool ((pfitM 35 (5, 255)) && (((ptxS xp xv).2) == 0)) from congrArg Value.bool (mand_t hc13)) ?_
            refine Ok.batch 0 [(0, .int .i64 xp), (3, .pointer (some ⟨b1, 0, none⟩)), (6, .string ⟨⟨(ptxS xp xv).1⟩⟩), (48, .bool ((pfitM 35 (5, 255)) && (((ptxS xp xv).2) == 0)))] (by kernel_rfl) ?_
            exact hR12
          · skip
            refine Ok.batch 3 [(0, .int .i64 xp), (3, .pointer (some ⟨b1, 0, none⟩)), (6, .string ⟨⟨(ptxS xp xv).1⟩⟩), (48, .bool false)] (by kernel_rfl) ?_
            refine Ok.reval 48 rfl (show (.bool false : Value) = .bool ((pfitM 35 (5, 255)) && (((ptxS xp xv).2) == 0)) from congrArg Value.bool (mand_f hc13)) ?_
            refine Ok.batch 0 [(0, .int .i64 xp), (3, .pointer (some ⟨b1, 0, none⟩)), (6, .string ⟨⟨(ptxS xp xv).1⟩⟩), (48, .bool ((pfitM 35 (5, 255)) && (((ptxS xp xv).2) == 0)))] (by kernel_rfl) ?_
            exact hR12
        refine Ok.batch 1 [(0, .int .i64 xp), (3, .pointer (some ⟨b1, 0, none⟩)), (6, .string ⟨⟨(ptxS xp xv).1⟩⟩), (49, .bool ((pfitM 35 (5, 255)) && (((ptxS xp xv).2) == 0)))] (by kernel_rfl) ?_
        refine Ok.boolAt 49 (((pfitM 35 (5, 255)) && (((ptxS xp xv).2) == 0))) rfl (fun hc14 => ?_) (fun hc14 => ?_)
        · replace hF := hF.1 hc14
          refine Ok.batch 2 [(3, .pointer (some ⟨b1, 0, none⟩)), (49, .bool true), (50, .string ⟨⟨(ptxS xp xv).1⟩⟩), (51, .int .i64 xp)] (by kernel_rfl) ?_
          refine Ok.opYes (j := 5) (d := 49) (want := true) (b := true) rfl (by kernel_rfl) (by kernel_rfl) rfl (OpOk.step (v := .agg #[.int .i64 xv.1, .int .i64 xv.2]) (Yields.loadAgg 0 2 #[.int .i64 xv.1, .int .i64 xv.2] rfl rfl Tryd.underlying23 rfl (by kernel_rfl) (by kernel_rfl) (by kernel_rfl)) rfl rfl ?_)
          obtain ⟨hp15, hF⟩ := hF
          refine Ok.opYes (j := 5) (d := 49) (want := true) (b := true) rfl (by kernel_rfl) (by kernel_rfl) rfl (OpOk.callG (v := .string ⟨⟨(rvtT xp xv)⟩⟩) (enters (by kernel_rfl) (fun _ => by kernel_rfl)) (fun W hW => rvt_c xp xv hp15) rfl ?_)
          refine Ok.opYes (j := 5) (d := 49) (want := true) (b := true) rfl (by kernel_rfl) (by kernel_rfl) rfl (OpOk.step (v := .bool (((ptxS xp xv).1) == (rvtT xp xv))) (Yields.strCmp (f := .eql) (a := ((ptxS xp xv).1)) (b := (rvtT xp xv)) (by kernel_rfl) (by kernel_rfl) rfl) rfl rfl ?_)
          refine Ok.batch 2 [(4, .bool (((ptxS xp xv).1) == (rvtT xp xv)))] (by kernel_rfl) ?_
          refine Ok.nil ?_
          refine Ok.thenN ?_
          refine Ok.reval 4 rfl (show (.bool (((ptxS xp xv).1) == (rvtT xp xv)) : Value) = .bool (((pfitM 35 (5, 255)) && (((ptxS xp xv).2) == 0)) && (((ptxS xp xv).1) == (rvtT xp xv))) from congrArg (Value.bool) (mand_t hc14)) ?_
          exact fun a W hA hW => ⟨hA.sub (by kernel_rfl), hW.sub (.cons _ .slnil), hF⟩
        · replace hF := hF.2 hc14
          refine Ok.batch 7 [(4, .bool false)] (by kernel_rfl) ?_
          refine Ok.nil ?_
          refine Ok.thenN ?_
          refine Ok.reval 4 rfl (show (.bool false : Value) = .bool (((pfitM 35 (5, 255)) && (((ptxS xp xv).2) == 0)) && (((ptxS xp xv).1) == (rvtT xp xv))) from congrArg (Value.bool) (mand_f hc14)) ?_
          exact fun a W hA hW => ⟨hA.sub (by kernel_rfl), hW.sub (.cons _ .slnil), hF⟩
      ·
        clear hF
        rintro a W ⟨hA, hW, hF⟩
        refine (?_ : Ok _ _ _ _ _ _) a W hA hW
        clear hA hW
        refine Ok.ret ?_
        exact Ok.resH (vs := [.bool (((pfitM 35 (5, 255)) && (((ptxS xp xv).2) == 0)) && (((ptxS xp xv).1) == (rvtT xp xv)))]) (.inl rfl) rfl (.cons (.tmp rfl) .nil) (Gext.refl w0 g) ⟨(((pfitM 35 (5, 255)) && (((ptxS xp xv).2) == 0)) && (((ptxS xp xv).1) == (rvtT xp xv))), rfl, rfl, hF⟩
theorem lpt_F (p : Int) (v : Int × Int) : lptF p v (fun r => r = true) := by
  have hfact : pfitM 35 (5, 255) = true := by rw [fits_eq]; decide +kernel
  refine ⟨fun h => ?_, fun h => ⟨fun h2 => ?_, fun h2 => ?_⟩⟩
  · have hin : pinM p = false := by
      unfold pinM
      rw [Bool.eq_false_iff]
      intro h3
      rw [Bool.and_eq_true, decide_eq_true_eq, decide_eq_true_eq] at h3
      rw [Bool.or_eq_true, decide_eq_true_eq, decide_eq_true_eq] at h
      omega
    have key : lptj11 p v (fun r => r = true) := by
      unfold lptj11 ptxS
      rw [hfact, hin]; rfl
    exact ⟨fun _ => key, fun _ => key⟩
  · have hin : pinM p = true := by
      unfold pinM
      rw [Bool.or_eq_false_iff, decide_eq_false_iff_not, decide_eq_false_iff_not] at h
      rw [Bool.and_eq_true, decide_eq_true_eq, decide_eq_true_eq]
      omega
    have hf : pfitM p v = false := by rw [fits_eq]; simpa using h2
    have key : lptj19 p v (fun r => r = true) := by
      unfold lptj19 ptxS
      rw [hfact, hin, hf]; rfl
    exact ⟨fun _ => key, fun _ => key⟩
  · have hin : pinM p = true := by
      unfold pinM
      rw [Bool.or_eq_false_iff, decide_eq_false_iff_not, decide_eq_false_iff_not] at h
      rw [Bool.and_eq_true, decide_eq_true_eq, decide_eq_true_eq]
      omega
    have hm : rvmM p v = true := by simpa using h2
    have hf : pfitM p v = true := by rw [fits_eq]; exact hm
    have key : lptj23 p v (fun r => r = true) := by
      unfold lptj23 ptxS
      rw [hfact, hin, hf]
      show ((true && ((0 : Int) == 0)) && (ptT p v == rvtT p v)) = true
      rw [text_eq hm, show (rvtT p v == rvtT p v) = true from beq_self_eq_true _]; rfl
    refine ⟨fun _ => ⟨fun h1 => ?_, key⟩, fun _ => key⟩
    have := (may hm).2.2.2.1 (by simpa using h1)
    unfold rvmj27M at this
    rw [Bool.and_eq_true, Bool.and_eq_true, decide_eq_true_eq, decide_eq_true_eq] at this
    omega
set_option linter.unusedVariables false in
theorem lpt_c {g : Ghost} (xp : Int) (xv : Int × Int) (hG1 : SomeInt g 1) (hG2 : GlobL g 2 (.int .u64) DPow) (hG8 : GlobL g 8 (.int .u8) DBru)  : CallsG Tryd.prog 5 #[.int .i64 xp, .agg #[.int .i64 xv.1, .int .i64 xv.2]] g (.bool ((fun _ _ => true) xp xv)) :=
  (lpt_ok xp xv hG1 hG2 hG8 _ (lpt_F xp xv)).gives (by rintro g' H' v _ ⟨r0, rfl, rfl, hK⟩; subst hK; rfl)
end Go.Proofs.YteocjdpjpkjlaaaDoor.Pf
