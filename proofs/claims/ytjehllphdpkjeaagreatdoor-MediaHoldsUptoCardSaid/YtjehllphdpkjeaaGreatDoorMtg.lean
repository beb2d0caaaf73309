/- media: Text, and the text of queries. -/
import Derived.Test.YtjehllphdpkjeaaGreatDoorMtf
namespace Go.Proofs.YtjehllphdpkjeaaGreatDoor.Me
open Go Go.Eng Go.RowKit Go.Shelf Go.Proofs Bld Trm Css Ti
set_option linter.unusedVariables false
/-- the text of a feature -/
def featS (f : Int × Int) : List UInt8 :=
  if (decide (f.1 ≥ 1) && decide (f.1 ≤ 3)) = true then DWords.getD (Int.toNat f.1) default else
  if (decide (f.1 ≥ 4) && decide (f.1 ≤ 7)) = true then (((([40] : List UInt8) ++ (DWords.getD (Int.toNat f.1) default)) ++ ([58, 32] : List UInt8)) ++ (Lib.itoa f.2)) ++ ([112, 120, 41] : List UInt8) else
  if (decide (f.1 ≥ 8) && decide (f.1 ≤ 11)) = true then (([40] : List UInt8) ++ (replS (DWords.getD (Int.toNat f.1) default) ([58] : List UInt8) ([58, 32] : List UInt8) 1)) ++ ([41] : List UInt8) else [40, 63, 41]
def ftP (f : Int × Int) : Prop := i64P f.2
theorem words_len : DWords.all (fun w => decide (w.length ≤ 30)) = true := by decide +kernel
theorem word_at (n : Nat) (h : n < 12) : (DWords.getD n default).length ≤ 30 := by
  have hl : n < DWords.length := h
  have := List.all_eq_true.1 words_len (DWords.getD n default) (by rw [List.getD_eq_getElem?_getD, List.getElem?_eq_getElem hl, Option.getD_some]; exact List.getElem_mem hl)
  exact of_decide_eq_true this
theorem repl_at : ∀ n : Fin 12, (replS (DWords.getD n.1 default) ([58] : List UInt8) ([58, 32] : List UInt8) 1).length ≤ 40 := by decide +kernel
theorem itoa_len {n : Int} (h : i64P n) : (Lib.itoa n).length ≤ 21 := Lib.itoa_length_le n h.1 h.2
theorem featS_len {f : Int × Int} (hp : ftP f) : (featS f).length ≤ 60 := by
  have hi := itoa_len hp
  unfold featS
  split
  · rename_i h
    rw [Bool.and_eq_true] at h
    have a := of_decide_eq_true h.1
    have b := of_decide_eq_true h.2
    have hw := word_at (Int.toNat f.1) (by omega)
    omega
  · split
    · rename_i h
      rw [Bool.and_eq_true] at h
      have a := of_decide_eq_true h.1
      have b := of_decide_eq_true h.2
      have hw := word_at (Int.toNat f.1) (by omega)
      simp only [List.length_append, List.length_cons, List.length_nil]; omega
    · split
      · rename_i h
        rw [Bool.and_eq_true] at h
        have a := of_decide_eq_true h.1
        have b := of_decide_eq_true h.2
        have hr := repl_at ⟨Int.toNat f.1, by omega⟩
        simp only at hr
        simp only [List.length_append, List.length_cons, List.length_nil]; omega
      · decide
def rftF (xf : Int × Int) (K : (List UInt8) → Prop) : Prop :=
  (((xf.1 == 1)) = true → K ([97, 108, 108] : List UInt8)) ∧ (((xf.1 == 1)) = false → (((xf.1 == 2)) = true → K ([115, 99, 114, 101, 101, 110] : List UInt8)) ∧ (((xf.1 == 2)) = false → (((xf.1 == 3)) = true → K ([112, 114, 105, 110, 116] : List UInt8)) ∧ (((xf.1 == 3)) = false → (((xf.1 == 4)) = true → sgnPE xf.2 ∧ ([40, 109, 105, 110, 45, 119, 105, 100, 116, 104, 58, 32] : List UInt8).length + (Lib.itoa xf.2).length ≤ maxLen ∧ (([40, 109, 105, 110, 45, 119, 105, 100, 116, 104, 58, 32] : List UInt8) ++ (Lib.itoa xf.2)).length + ([112, 120, 41] : List UInt8).length ≤ maxLen ∧ K ((([40, 109, 105, 110, 45, 119, 105, 100, 116, 104, 58, 32] : List UInt8) ++ (Lib.itoa xf.2)) ++ ([112, 120, 41] : List UInt8))) ∧ (((xf.1 == 4)) = false → (((xf.1 == 5)) = true → sgnPE xf.2 ∧ ([40, 109, 97, 120, 45, 119, 105, 100, 116, 104, 58, 32] : List UInt8).length + (Lib.itoa xf.2).length ≤ maxLen ∧ (([40, 109, 97, 120, 45, 119, 105, 100, 116, 104, 58, 32] : List UInt8) ++ (Lib.itoa xf.2)).length + ([112, 120, 41] : List UInt8).length ≤ maxLen ∧ K ((([40, 109, 97, 120, 45, 119, 105, 100, 116, 104, 58, 32] : List UInt8) ++ (Lib.itoa xf.2)) ++ ([112, 120, 41] : List UInt8))) ∧ (((xf.1 == 5)) = false → (((xf.1 == 6)) = true → sgnPE xf.2 ∧ ([40, 109, 105, 110, 45, 104, 101, 105, 103, 104, 116, 58, 32] : List UInt8).length + (Lib.itoa xf.2).length ≤ maxLen ∧ (([40, 109, 105, 110, 45, 104, 101, 105, 103, 104, 116, 58, 32] : List UInt8) ++ (Lib.itoa xf.2)).length + ([112, 120, 41] : List UInt8).length ≤ maxLen ∧ K ((([40, 109, 105, 110, 45, 104, 101, 105, 103, 104, 116, 58, 32] : List UInt8) ++ (Lib.itoa xf.2)) ++ ([112, 120, 41] : List UInt8))) ∧ (((xf.1 == 6)) = false → (((xf.1 == 7)) = true → sgnPE xf.2 ∧ ([40, 109, 97, 120, 45, 104, 101, 105, 103, 104, 116, 58, 32] : List UInt8).length + (Lib.itoa xf.2).length ≤ maxLen ∧ (([40, 109, 97, 120, 45, 104, 101, 105, 103, 104, 116, 58, 32] : List UInt8) ++ (Lib.itoa xf.2)).length + ([112, 120, 41] : List UInt8).length ≤ maxLen ∧ K ((([40, 109, 97, 120, 45, 104, 101, 105, 103, 104, 116, 58, 32] : List UInt8) ++ (Lib.itoa xf.2)) ++ ([112, 120, 41] : List UInt8))) ∧ (((xf.1 == 7)) = false → (((xf.1 == 8)) = true → K ([40, 112, 114, 101, 102, 101, 114, 115, 45, 99, 111, 108, 111, 114, 45, 115, 99, 104, 101, 109, 101, 58, 32, 100, 97, 114, 107, 41] : List UInt8)) ∧ (((xf.1 == 8)) = false → (((xf.1 == 9)) = true → K ([40, 112, 114, 101, 102, 101, 114, 115, 45, 99, 111, 108, 111, 114, 45, 115, 99, 104, 101, 109, 101, 58, 32, 108, 105, 103, 104, 116, 41] : List UInt8)) ∧ (((xf.1 == 9)) = false → (((xf.1 == 10)) = true → K ([40, 111, 114, 105, 101, 110, 116, 97, 116, 105, 111, 110, 58, 32, 112, 111, 114, 116, 114, 97, 105, 116, 41] : List UInt8)) ∧ (((xf.1 == 10)) = false → (((xf.1 == 11)) = true → K ([40, 111, 114, 105, 101, 110, 116, 97, 116, 105, 111, 110, 58, 32, 108, 97, 110, 100, 115, 99, 97, 112, 101, 41] : List UInt8)) ∧ (((xf.1 == 11)) = false → K ([40, 63, 41] : List UInt8))))))))))))
set_option maxHeartbeats 4000000 in
set_option maxRecDepth 100000 in
set_option linter.unusedVariables false in
theorem rft_ok {g : Ghost} (xf : Int × Int) (K : (List UInt8) → Prop)
    (hF : rftF xf K) : CallsH Tryz.prog 11 #[.agg #[.int .i64 xf.1, .int .i64 xf.2]] g [] (fun g' H' v => ∃ (r0 : List UInt8), v = .string ⟨⟨r0⟩⟩ ∧ H' = [] ∧ K r0) := by
  refine CallsH.enter 56 [(0, .agg #[.int .i64 xf.1, .int .i64 xf.2])] Tryz.func11 rfl (by kernel_rfl) (by kernel_rfl) (by kernel_rfl) fun w0 => ?_
  refine Ok.seq ?_
  refine Ok.region ?_
  refine Ok.op rfl (OpOk.box (v := .agg #[.int .i64 xf.1, .int .i64 xf.2]) (cs := #[.int .i64 xf.1, .int .i64 xf.2]) rfl (by kernel_rfl) rfl fun bs1 => ?_)
  refine Ok.batch 1 [(1, .pointer (some ⟨bs1, 0, none⟩))] (by kernel_rfl) ?_
  refine Ok.nil ?_
  refine Ok.thenN ?_
  refine Ok.seq ?_
  refine Ok.seq ?_
  refine Ok.region ?_
  refine Ok.batch 1 [(1, .pointer (some ⟨bs1, 0, none⟩)), (3, .pointer (some ⟨bs1, 0, none⟩))] (by kernel_rfl) ?_
  refine Ok.op rfl (OpOk.step (v := .int .i64 xf.1) (Yields.load 0 rfl rfl Tryz.underlying3 rfl (by kernel_rfl)) rfl rfl ?_)
  refine Ok.batch 1 [(1, .pointer (some ⟨bs1, 0, none⟩)), (5, .bool (xf.1 == 1))] (by kernel_rfl) ?_
  refine Ok.nil ?_
  refine Ok.thenN ?_
  refine Ok.cond (b := (xf.1 == 1)) rfl (fun hc2 => ?_) (fun hc2 => ?_)
  · replace hF := hF.1 hc2
    refine Ok.seq ?_
    refine Ok.region ?_
    refine Ok.batch 1 [(2, .string ⟨⟨([97, 108, 108] : List UInt8)⟩⟩)] (by kernel_rfl) ?_
    refine Ok.nil ?_
    refine Ok.thenN ?_
    refine Ok.ret ?_
    refine Ok.thenR ?_
    exact Ok.resP (vs := [.string ⟨⟨([97, 108, 108] : List UInt8)⟩⟩]) [] [] (by decide) rfl (.inl rfl) rfl (.cons (.tmp rfl) .nil) (Gext.refl w0 g) ⟨([97, 108, 108] : List UInt8), rfl, rfl, hF⟩
  · replace hF := hF.2 hc2
    refine Ok.skip ?_
    refine Ok.thenN ?_
    refine Ok.seq ?_
    refine Ok.seq ?_
    refine Ok.region ?_
    refine Ok.batch 1 [(1, .pointer (some ⟨bs1, 0, none⟩)), (6, .pointer (some ⟨bs1, 0, none⟩))] (by kernel_rfl) ?_
    refine Ok.op rfl (OpOk.step (v := .int .i64 xf.1) (Yields.load 0 rfl rfl Tryz.underlying3 rfl (by kernel_rfl)) rfl rfl ?_)
    refine Ok.batch 1 [(1, .pointer (some ⟨bs1, 0, none⟩)), (8, .bool (xf.1 == 2))] (by kernel_rfl) ?_
    refine Ok.nil ?_
    refine Ok.thenN ?_
    refine Ok.cond (b := (xf.1 == 2)) rfl (fun hc3 => ?_) (fun hc3 => ?_)
    · replace hF := hF.1 hc3
      refine Ok.seq ?_
      refine Ok.region ?_
      refine Ok.batch 1 [(2, .string ⟨⟨([115, 99, 114, 101, 101, 110] : List UInt8)⟩⟩)] (by kernel_rfl) ?_
      refine Ok.nil ?_
      refine Ok.thenN ?_
      refine Ok.ret ?_
      refine Ok.thenR ?_
      exact Ok.resP (vs := [.string ⟨⟨([115, 99, 114, 101, 101, 110] : List UInt8)⟩⟩]) [] [] (by decide) rfl (.inl rfl) rfl (.cons (.tmp rfl) .nil) (Gext.refl w0 g) ⟨([115, 99, 114, 101, 101, 110] : List UInt8), rfl, rfl, hF⟩
    · replace hF := hF.2 hc3
      refine Ok.skip ?_
      refine Ok.thenN ?_
      refine Ok.seq ?_
      refine Ok.seq ?_
      refine Ok.region ?_
      refine Ok.batch 1 [(1, .pointer (some ⟨bs1, 0, none⟩)), (9, .pointer (some ⟨bs1, 0, none⟩))] (by kernel_rfl) ?_
      refine Ok.op rfl (OpOk.step (v := .int .i64 xf.1) (Yields.load 0 rfl rfl Tryz.underlying3 rfl (by kernel_rfl)) rfl rfl ?_)
      refine Ok.batch 1 [(1, .pointer (some ⟨bs1, 0, none⟩)), (11, .bool (xf.1 == 3))] (by kernel_rfl) ?_
      refine Ok.nil ?_
      refine Ok.thenN ?_
      refine Ok.cond (b := (xf.1 == 3)) rfl (fun hc4 => ?_) (fun hc4 => ?_)
      · replace hF := hF.1 hc4
        refine Ok.seq ?_
        refine Ok.region ?_
        refine Ok.batch 1 [(2, .string ⟨⟨([112, 114, 105, 110, 116] : List UInt8)⟩⟩)] (by kernel_rfl) ?_
        refine Ok.nil ?_
        refine Ok.thenN ?_
        refine Ok.ret ?_
        refine Ok.thenR ?_
        exact Ok.resP (vs := [.string ⟨⟨([112, 114, 105, 110, 116] : List UInt8)⟩⟩]) [] [] (by decide) rfl (.inl rfl) rfl (.cons (.tmp rfl) .nil) (Gext.refl w0 g) ⟨([112, 114, 105, 110, 116] : List UInt8), rfl, rfl, hF⟩
      · replace hF := hF.2 hc4
        refine Ok.skip ?_
        refine Ok.thenN ?_
        refine Ok.seq ?_
        refine Ok.seq ?_
        refine Ok.region ?_
        refine Ok.batch 1 [(1, .pointer (some ⟨bs1, 0, none⟩)), (12, .pointer (some ⟨bs1, 0, none⟩))] (by kernel_rfl) ?_
        refine Ok.op rfl (OpOk.step (v := .int .i64 xf.1) (Yields.load 0 rfl rfl Tryz.underlying3 rfl (by kernel_rfl)) rfl rfl ?_)
        refine Ok.batch 1 [(1, .pointer (some ⟨bs1, 0, none⟩)), (14, .bool (xf.1 == 4))] (by kernel_rfl) ?_
        refine Ok.nil ?_
        refine Ok.thenN ?_
        refine Ok.cond (b := (xf.1 == 4)) rfl (fun hc5 => ?_) (fun hc5 => ?_)
        · replace hF := hF.1 hc5
          refine Ok.seq ?_
          refine Ok.region ?_
          refine Ok.batch 1 [(15, .pointer (some ⟨bs1, 1, none⟩))] (by kernel_rfl) ?_
          refine Ok.op rfl (OpOk.step (v := .int .i64 xf.2) (Yields.load 0 rfl rfl Tryz.underlying3 rfl (by kernel_rfl)) rfl rfl ?_)
          obtain ⟨hp6, hF⟩ := hF
          refine Ok.op rfl (OpOk.callG (v := .string ⟨⟨(Lib.itoa xf.2)⟩⟩) (enters (by kernel_rfl) (fun _ => by kernel_rfl)) (fun W hW => sgn_c xf.2 hp6) rfl ?_)
          obtain ⟨hv, hF⟩ := hF
          refine Ok.op rfl (OpOk.step (v := .string ⟨⟨([40, 109, 105, 110, 45, 119, 105, 100, 116, 104, 58, 32] : List UInt8) ++ (Lib.itoa xf.2)⟩⟩) (Yields.strAdd rfl rfl hv) rfl rfl ?_)
          obtain ⟨hv, hF⟩ := hF
          refine Ok.op rfl (OpOk.step (v := .string ⟨⟨(([40, 109, 105, 110, 45, 119, 105, 100, 116, 104, 58, 32] : List UInt8) ++ (Lib.itoa xf.2)) ++ ([112, 120, 41] : List UInt8)⟩⟩) (Yields.strAdd rfl rfl hv) rfl rfl ?_)
          refine Ok.batch 1 [(2, .string ⟨⟨(([40, 109, 105, 110, 45, 119, 105, 100, 116, 104, 58, 32] : List UInt8) ++ (Lib.itoa xf.2)) ++ ([112, 120, 41] : List UInt8)⟩⟩)] (by kernel_rfl) ?_
          refine Ok.nil ?_
          refine Ok.thenN ?_
          refine Ok.ret ?_
          refine Ok.thenR ?_
          exact Ok.resP (vs := [.string ⟨⟨(([40, 109, 105, 110, 45, 119, 105, 100, 116, 104, 58, 32] : List UInt8) ++ (Lib.itoa xf.2)) ++ ([112, 120, 41] : List UInt8)⟩⟩]) [] [] (by decide) rfl (.inl rfl) rfl (.cons (.tmp rfl) .nil) (Gext.refl w0 g) ⟨((([40, 109, 105, 110, 45, 119, 105, 100, 116, 104, 58, 32] : List UInt8) ++ (Lib.itoa xf.2)) ++ ([112, 120, 41] : List UInt8)), rfl, rfl, hF⟩
        · replace hF := hF.2 hc5
          refine Ok.skip ?_
          refine Ok.thenN ?_
          refine Ok.seq ?_
          refine Ok.seq ?_
          refine Ok.region ?_
          refine Ok.batch 1 [(1, .pointer (some ⟨bs1, 0, none⟩)), (20, .pointer (some ⟨bs1, 0, none⟩))] (by kernel_rfl) ?_
          refine Ok.op rfl (OpOk.step (v := .int .i64 xf.1) (Yields.load 0 rfl rfl Tryz.underlying3 rfl (by kernel_rfl)) rfl rfl ?_)
          refine Ok.batch 1 [(1, .pointer (some ⟨bs1, 0, none⟩)), (22, .bool (xf.1 == 5))] (by kernel_rfl) ?_
          refine Ok.nil ?_
          refine Ok.thenN ?_
          refine Ok.cond (b := (xf.1 == 5)) rfl (fun hc7 => ?_) (fun hc7 => ?_)
          · replace hF := hF.1 hc7
            refine Ok.seq ?_
            refine Ok.region ?_
            refine Ok.batch 1 [(23, .pointer (some ⟨bs1, 1, none⟩))] (by kernel_rfl) ?_
            refine Ok.op rfl (OpOk.step (v := .int .i64 xf.2) (Yields.load 0 rfl rfl Tryz.underlying3 rfl (by kernel_rfl)) rfl rfl ?_)
            obtain ⟨hp8, hF⟩ := hF
            refine Ok.op rfl (OpOk.callG (v := .string ⟨⟨(Lib.itoa xf.2)⟩⟩) (enters (by kernel_rfl) (fun _ => by kernel_rfl)) (fun W hW => sgn_c xf.2 hp8) rfl ?_)
            obtain ⟨hv, hF⟩ := hF
            refine Ok.op rfl (OpOk.step (v := .string ⟨⟨([40, 109, 97, 120, 45, 119, 105, 100, 116, 104, 58, 32] : List UInt8) ++ (Lib.itoa xf.2)⟩⟩) (Yields.strAdd rfl rfl hv) rfl rfl ?_)
            obtain ⟨hv, hF⟩ := hF
            refine Ok.op rfl (OpOk.step (v := .string ⟨⟨(([40, 109, 97, 120, 45, 119, 105, 100, 116, 104, 58, 32] : List UInt8) ++ (Lib.itoa xf.2)) ++ ([112, 120, 41] : List UInt8)⟩⟩) (Yields.strAdd rfl rfl hv) rfl rfl ?_)
            refine Ok.batch 1 [(2, .string ⟨⟨(([40, 109, 97, 120, 45, 119, 105, 100, 116, 104, 58, 32] : List UInt8) ++ (Lib.itoa xf.2)) ++ ([112, 120, 41] : List UInt8)⟩⟩)] (by kernel_rfl) ?_
            refine Ok.nil ?_
            refine Ok.thenN ?_
            refine Ok.ret ?_
            refine Ok.thenR ?_
            exact Ok.resP (vs := [.string ⟨⟨(([40, 109, 97, 120, 45, 119, 105, 100, 116, 104, 58, 32] : List UInt8) ++ (Lib.itoa xf.2)) ++ ([112, 120, 41] : List UInt8)⟩⟩]) [] [] (by decide) rfl (.inl rfl) rfl (.cons (.tmp rfl) .nil) (Gext.refl w0 g) ⟨((([40, 109, 97, 120, 45, 119, 105, 100, 116, 104, 58, 32] : List UInt8) ++ (Lib.itoa xf.2)) ++ ([112, 120, 41] : List UInt8)), rfl, rfl, hF⟩
          · replace hF := hF.2 hc7
            refine Ok.skip ?_
            refine Ok.thenN ?_
            refine Ok.seq ?_
            refine Ok.seq ?_
            refine Ok.region ?_
            refine Ok.batch 1 [(1, .pointer (some ⟨bs1, 0, none⟩)), (28, .pointer (some ⟨bs1, 0, none⟩))] (by kernel_rfl) ?_
            refine Ok.op rfl (OpOk.step (v := .int .i64 xf.1) (Yields.load 0 rfl rfl Tryz.underlying3 rfl (by kernel_rfl)) rfl rfl ?_)
            refine Ok.batch 1 [(1, .pointer (some ⟨bs1, 0, none⟩)), (30, .bool (xf.1 == 6))] (by kernel_rfl) ?_
            refine Ok.nil ?_
            refine Ok.thenN ?_
            refine Ok.cond (b := (xf.1 == 6)) rfl (fun hc9 => ?_) (fun hc9 => ?_)
            · replace hF := hF.1 hc9
              refine Ok.seq ?_
              refine Ok.region ?_
              refine Ok.batch 1 [(31, .pointer (some ⟨bs1, 1, none⟩))] (by kernel_rfl) ?_
              refine Ok.op rfl (OpOk.step (v := .int .i64 xf.2) (Yields.load 0 rfl rfl Tryz.underlying3 rfl (by kernel_rfl)) rfl rfl ?_)
              obtain ⟨hp10, hF⟩ := hF
              refine Ok.op rfl (OpOk.callG (v := .string ⟨⟨(Lib.itoa xf.2)⟩⟩) (enters (by kernel_rfl) (fun _ => by kernel_rfl)) (fun W hW => sgn_c xf.2 hp10) rfl ?_)
              obtain ⟨hv, hF⟩ := hF
              refine Ok.op rfl (OpOk.step (v := .string ⟨⟨([40, 109, 105, 110, 45, 104, 101, 105, 103, 104, 116, 58, 32] : List UInt8) ++ (Lib.itoa xf.2)⟩⟩) (Yields.strAdd rfl rfl hv) rfl rfl ?_)
              obtain ⟨hv, hF⟩ := hF
              refine Ok.op rfl (OpOk.step (v := .string ⟨⟨(([40, 109, 105, 110, 45, 104, 101, 105, 103, 104, 116, 58, 32] : List UInt8) ++ (Lib.itoa xf.2)) ++ ([112, 120, 41] : List UInt8)⟩⟩) (Yields.strAdd rfl rfl hv) rfl rfl ?_)
              refine Ok.batch 1 [(2, .string ⟨⟨(([40, 109, 105, 110, 45, 104, 101, 105, 103, 104, 116, 58, 32] : List UInt8) ++ (Lib.itoa xf.2)) ++ ([112, 120, 41] : List UInt8)⟩⟩)] (by kernel_rfl) ?_
              refine Ok.nil ?_
              refine Ok.thenN ?_
              refine Ok.ret ?_
              refine Ok.thenR ?_
              exact Ok.resP (vs := [.string ⟨⟨(([40, 109, 105, 110, 45, 104, 101, 105, 103, 104, 116, 58, 32] : List UInt8) ++ (Lib.itoa xf.2)) ++ ([112, 120, 41] : List UInt8)⟩⟩]) [] [] (by decide) rfl (.inl rfl) rfl (.cons (.tmp rfl) .nil) (Gext.refl w0 g) ⟨((([40, 109, 105, 110, 45, 104, 101, 105, 103, 104, 116, 58, 32] : List UInt8) ++ (Lib.itoa xf.2)) ++ ([112, 120, 41] : List UInt8)), rfl, rfl, hF⟩
            · replace hF := hF.2 hc9
              refine Ok.skip ?_
              refine Ok.thenN ?_
              refine Ok.seq ?_
              refine Ok.seq ?_
              refine Ok.region ?_
              refine Ok.batch 1 [(1, .pointer (some ⟨bs1, 0, none⟩)), (36, .pointer (some ⟨bs1, 0, none⟩))] (by kernel_rfl) ?_
              refine Ok.op rfl (OpOk.step (v := .int .i64 xf.1) (Yields.load 0 rfl rfl Tryz.underlying3 rfl (by kernel_rfl)) rfl rfl ?_)
              refine Ok.batch 1 [(1, .pointer (some ⟨bs1, 0, none⟩)), (38, .bool (xf.1 == 7))] (by kernel_rfl) ?_
              refine Ok.nil ?_
              refine Ok.thenN ?_
              refine Ok.cond (b := (xf.1 == 7)) rfl (fun hc11 => ?_) (fun hc11 => ?_)
              · replace hF := hF.1 hc11
                refine Ok.seq ?_
                refine Ok.region ?_
                refine Ok.batch 1 [(39, .pointer (some ⟨bs1, 1, none⟩))] (by kernel_rfl) ?_
                refine Ok.op rfl (OpOk.step (v := .int .i64 xf.2) (Yields.load 0 rfl rfl Tryz.underlying3 rfl (by kernel_rfl)) rfl rfl ?_)
                obtain ⟨hp12, hF⟩ := hF
                refine Ok.op rfl (OpOk.callG (v := .string ⟨⟨(Lib.itoa xf.2)⟩⟩) (enters (by kernel_rfl) (fun _ => by kernel_rfl)) (fun W hW => sgn_c xf.2 hp12) rfl ?_)
                obtain ⟨hv, hF⟩ := hF
                refine Ok.op rfl (OpOk.step (v := .string ⟨⟨([40, 109, 97, 120, 45, 104, 101, 105, 103, 104, 116, 58, 32] : List UInt8) ++ (Lib.itoa xf.2)⟩⟩) (Yields.strAdd rfl rfl hv) rfl rfl ?_)
                obtain ⟨hv, hF⟩ := hF
                refine Ok.op rfl (OpOk.step (v := .string ⟨⟨(([40, 109, 97, 120, 45, 104, 101, 105, 103, 104, 116, 58, 32] : List UInt8) ++ (Lib.itoa xf.2)) ++ ([112, 120, 41] : List UInt8)⟩⟩) (Yields.strAdd rfl rfl hv) rfl rfl ?_)
                refine Ok.batch 1 [(2, .string ⟨⟨(([40, 109, 97, 120, 45, 104, 101, 105, 103, 104, 116, 58, 32] : List UInt8) ++ (Lib.itoa xf.2)) ++ ([112, 120, 41] : List UInt8)⟩⟩)] (by kernel_rfl) ?_
                refine Ok.nil ?_
                refine Ok.thenN ?_
                refine Ok.ret ?_
                refine Ok.thenR ?_
                exact Ok.resP (vs := [.string ⟨⟨(([40, 109, 97, 120, 45, 104, 101, 105, 103, 104, 116, 58, 32] : List UInt8) ++ (Lib.itoa xf.2)) ++ ([112, 120, 41] : List UInt8)⟩⟩]) [] [] (by decide) rfl (.inl rfl) rfl (.cons (.tmp rfl) .nil) (Gext.refl w0 g) ⟨((([40, 109, 97, 120, 45, 104, 101, 105, 103, 104, 116, 58, 32] : List UInt8) ++ (Lib.itoa xf.2)) ++ ([112, 120, 41] : List UInt8)), rfl, rfl, hF⟩
              · replace hF := hF.2 hc11
                refine Ok.skip ?_
                refine Ok.thenN ?_
                refine Ok.seq ?_
                refine Ok.seq ?_
                refine Ok.region ?_
                refine Ok.batch 1 [(1, .pointer (some ⟨bs1, 0, none⟩)), (44, .pointer (some ⟨bs1, 0, none⟩))] (by kernel_rfl) ?_
                refine Ok.op rfl (OpOk.step (v := .int .i64 xf.1) (Yields.load 0 rfl rfl Tryz.underlying3 rfl (by kernel_rfl)) rfl rfl ?_)
                refine Ok.batch 1 [(1, .pointer (some ⟨bs1, 0, none⟩)), (46, .bool (xf.1 == 8))] (by kernel_rfl) ?_
                refine Ok.nil ?_
                refine Ok.thenN ?_
                refine Ok.cond (b := (xf.1 == 8)) rfl (fun hc13 => ?_) (fun hc13 => ?_)
                · replace hF := hF.1 hc13
                  refine Ok.seq ?_
                  refine Ok.region ?_
                  refine Ok.batch 1 [(2, .string ⟨⟨([40, 112, 114, 101, 102, 101, 114, 115, 45, 99, 111, 108, 111, 114, 45, 115, 99, 104, 101, 109, 101, 58, 32, 100, 97, 114, 107, 41] : List UInt8)⟩⟩)] (by kernel_rfl) ?_
                  refine Ok.nil ?_
                  refine Ok.thenN ?_
                  refine Ok.ret ?_
                  refine Ok.thenR ?_
                  exact Ok.resP (vs := [.string ⟨⟨([40, 112, 114, 101, 102, 101, 114, 115, 45, 99, 111, 108, 111, 114, 45, 115, 99, 104, 101, 109, 101, 58, 32, 100, 97, 114, 107, 41] : List UInt8)⟩⟩]) [] [] (by decide) rfl (.inl rfl) rfl (.cons (.tmp rfl) .nil) (Gext.refl w0 g) ⟨([40, 112, 114, 101, 102, 101, 114, 115, 45, 99, 111, 108, 111, 114, 45, 115, 99, 104, 101, 109, 101, 58, 32, 100, 97, 114, 107, 41] : List UInt8), rfl, rfl, hF⟩
                · replace hF := hF.2 hc13
                  refine Ok.skip ?_
                  refine Ok.thenN ?_
                  refine Ok.seq ?_
                  refine Ok.seq ?_
                  refine Ok.region ?_
                  refine Ok.batch 1 [(1, .pointer (some ⟨bs1, 0, none⟩)), (47, .pointer (some ⟨bs1, 0, none⟩))] (by kernel_rfl) ?_
                  refine Ok.op rfl (OpOk.step (v := .int .i64 xf.1) (Yields.load 0 rfl rfl Tryz.underlying3 rfl (by kernel_rfl)) rfl rfl ?_)
                  refine Ok.batch 1 [(1, .pointer (some ⟨bs1, 0, none⟩)), (49, .bool (xf.1 == 9))] (by kernel_rfl) ?_
                  refine Ok.nil ?_
                  refine Ok.thenN ?_
                  refine Ok.cond (b := (xf.1 == 9)) rfl (fun hc14 => ?_) (fun hc14 => ?_)
                  · replace hF := hF.1 hc14
                    refine Ok.seq ?_
                    refine Ok.region ?_
                    refine Ok.batch 1 [(2, .string ⟨⟨([40, 112, 114, 101, 102, 101, 114, 115, 45, 99, 111, 108, 111, 114, 45, 115, 99, 104, 101, 109, 101, 58, 32, 108, 105, 103, 104, 116, 41] : List UInt8)⟩⟩)] (by kernel_rfl) ?_
                    refine Ok.nil ?_
                    refine Ok.thenN ?_
                    refine Ok.ret ?_
                    refine Ok.thenR ?_
                    exact Ok.resP (vs := [.string ⟨⟨([40, 112, 114, 101, 102, 101, 114, 115, 45, 99, 111, 108, 111, 114, 45, 115, 99, 104, 101, 109, 101, 58, 32, 108, 105, 103, 104, 116, 41] : List UInt8)⟩⟩]) [] [] (by decide) rfl (.inl rfl) rfl (.cons (.tmp rfl) .nil) (Gext.refl w0 g) ⟨([40, 112, 114, 101, 102, 101, 114, 115, 45, 99, 111, 108, 111, 114, 45, 115, 99, 104, 101, 109, 101, 58, 32, 108, 105, 103, 104, 116, 41] : List UInt8), rfl, rfl, hF⟩
                  · replace hF := hF.2 hc14
                    refine Ok.skip ?_
                    refine Ok.thenN ?_
                    refine Ok.seq ?_
                    refine Ok.seq ?_
                    refine Ok.region ?_
                    refine Ok.batch 1 [(1, .pointer (some ⟨bs1, 0, none⟩)), (50, .pointer (some ⟨bs1, 0, none⟩))] (by kernel_rfl) ?_
                    refine Ok.op rfl (OpOk.step (v := .int .i64 xf.1) (Yields.load 0 rfl rfl Tryz.underlying3 rfl (by kernel_rfl)) rfl rfl ?_)
                    refine Ok.batch 1 [(1, .pointer (some ⟨bs1, 0, none⟩)), (52, .bool (xf.1 == 10))] (by kernel_rfl) ?_
                    refine Ok.nil ?_
                    refine Ok.thenN ?_
                    refine Ok.cond (b := (xf.1 == 10)) rfl (fun hc15 => ?_) (fun hc15 => ?_)
                    · replace hF := hF.1 hc15
                      refine Ok.seq ?_
                      refine Ok.region ?_
                      refine Ok.batch 1 [(2, .string ⟨⟨([40, 111, 114, 105, 101, 110, 116, 97, 116, 105, 111, 110, 58, 32, 112, 111, 114, 116, 114, 97, 105, 116, 41] : List UInt8)⟩⟩)] (by kernel_rfl) ?_
                      refine Ok.nil ?_
                      refine Ok.thenN ?_
                      refine Ok.ret ?_
                      refine Ok.thenR ?_
                      exact Ok.resP (vs := [.string ⟨⟨([40, 111, 114, 105, 101, 110, 116, 97, 116, 105, 111, 110, 58, 32, 112, 111, 114, 116, 114, 97, 105, 116, 41] : List UInt8)⟩⟩]) [] [] (by decide) rfl (.inl rfl) rfl (.cons (.tmp rfl) .nil) (Gext.refl w0 g) ⟨([40, 111, 114, 105, 101, 110, 116, 97, 116, 105, 111, 110, 58, 32, 112, 111, 114, 116, 114, 97, 105, 116, 41] : List UInt8), rfl, rfl, hF⟩
                    · replace hF := hF.2 hc15
                      refine Ok.skip ?_
                      refine Ok.thenN ?_
                      refine Ok.seq ?_
                      refine Ok.seq ?_
                      refine Ok.region ?_
                      refine Ok.batch 1 [(53, .pointer (some ⟨bs1, 0, none⟩))] (by kernel_rfl) ?_
                      refine Ok.op rfl (OpOk.step (v := .int .i64 xf.1) (Yields.load 0 rfl rfl Tryz.underlying3 rfl (by kernel_rfl)) rfl rfl ?_)
                      refine Ok.batch 1 [(55, .bool (xf.1 == 11))] (by kernel_rfl) ?_
                      refine Ok.nil ?_
                      refine Ok.thenN ?_
                      refine Ok.cond (b := (xf.1 == 11)) rfl (fun hc16 => ?_) (fun hc16 => ?_)
                      · replace hF := hF.1 hc16
                        refine Ok.seq ?_
                        refine Ok.region ?_
                        refine Ok.batch 1 [(2, .string ⟨⟨([40, 111, 114, 105, 101, 110, 116, 97, 116, 105, 111, 110, 58, 32, 108, 97, 110, 100, 115, 99, 97, 112, 101, 41] : List UInt8)⟩⟩)] (by kernel_rfl) ?_
                        refine Ok.nil ?_
                        refine Ok.thenN ?_
                        refine Ok.ret ?_
                        refine Ok.thenR ?_
                        exact Ok.resP (vs := [.string ⟨⟨([40, 111, 114, 105, 101, 110, 116, 97, 116, 105, 111, 110, 58, 32, 108, 97, 110, 100, 115, 99, 97, 112, 101, 41] : List UInt8)⟩⟩]) [] [] (by decide) rfl (.inl rfl) rfl (.cons (.tmp rfl) .nil) (Gext.refl w0 g) ⟨([40, 111, 114, 105, 101, 110, 116, 97, 116, 105, 111, 110, 58, 32, 108, 97, 110, 100, 115, 99, 97, 112, 101, 41] : List UInt8), rfl, rfl, hF⟩
                      · replace hF := hF.2 hc16
                        refine Ok.skip ?_
                        refine Ok.thenN ?_
                        refine Ok.seq ?_
                        refine Ok.region ?_
                        refine Ok.batch 1 [(2, .string ⟨⟨([40, 63, 41] : List UInt8)⟩⟩)] (by kernel_rfl) ?_
                        refine Ok.nil ?_
                        refine Ok.thenN ?_
                        refine Ok.ret ?_
                        exact Ok.resP (vs := [.string ⟨⟨([40, 63, 41] : List UInt8)⟩⟩]) [] [] (by decide) rfl (.inl rfl) rfl (.cons (.tmp rfl) .nil) (Gext.refl w0 g) ⟨([40, 63, 41] : List UInt8), rfl, rfl, hF⟩
theorem feat_num (k n : Int) (w : List UInt8) (a : k ≥ 4) (b : k ≤ 7) (hw : DWords.getD (Int.toNat k) default = w) : featS (k, n) = (((([40] : List UInt8) ++ w) ++ ([58, 32] : List UInt8)) ++ (Lib.itoa n)) ++ ([112, 120, 41] : List UInt8) := by
  unfold featS
  rw [if_f (by rw [Bool.and_eq_false_iff]; exact .inr (decide_eq_false (by simp only; omega))), if_t (by rw [Bool.and_eq_true]; exact ⟨decide_eq_true (by simp only; omega), decide_eq_true (by simp only; omega)⟩), hw]
theorem rft_F (f : Int × Int) (hp : ftP f) : rftF f (fun r => r = featS f) := by
  obtain ⟨k, n⟩ := f
  have hi : (Lib.itoa n).length ≤ 21 := itoa_len hp
  have hs : sgnPE n := sgn_ok' hp
  have num : ∀ w : List UInt8, w.length ≤ 40 → w.length + (Lib.itoa n).length ≤ maxLen ∧ (w ++ Lib.itoa n).length + ([112, 120, 41] : List UInt8).length ≤ maxLen := fun w h => by
    rw [maxLen_eq]; simp only [List.length_append, List.length_cons, List.length_nil]; omega
  refine ⟨fun h => ?_, fun h1 => ⟨fun h => ?_, fun h2 => ⟨fun h => ?_, fun h3 => ⟨fun h => ?_, fun h4 => ⟨fun h => ?_, fun h5 => ⟨fun h => ?_, fun h6 => ⟨fun h => ?_, fun h7 => ⟨fun h => ?_, fun h8 => ⟨fun h => ?_, fun h9 => ⟨fun h => ?_, fun h10 => ⟨fun h => ?_, fun h11 => ?_⟩⟩⟩⟩⟩⟩⟩⟩⟩⟩⟩
  case refine_12 =>
    simp only [beq_eq_false_iff_ne] at h1 h2 h3 h4 h5 h6 h7 h8 h9 h10 h11
    unfold featS
    rw [if_f (by rw [Bool.and_eq_false_iff]; simp only [decide_eq_false_iff_not]; omega), if_f (by rw [Bool.and_eq_false_iff]; simp only [decide_eq_false_iff_not]; omega), if_f (by rw [Bool.and_eq_false_iff]; simp only [decide_eq_false_iff_not]; omega)]
  all_goals (have h := eq_of_beq h; simp only at h; subst h)
  all_goals first
    | (refine ⟨hs, (num _ (by decide)).1, (num _ (by decide)).2, ?_⟩
       rw [feat_num _ n _ (by decide) (by decide) rfl]; rfl)
    | rfl
    | (show _ = featS (_, n); unfold featS; decide +kernel)
set_option linter.unusedVariables false in
theorem rft_c {g : Ghost} (xf : Int × Int)  (hp : ftP xf) : CallsG Tryz.prog 11 #[.agg #[.int .i64 xf.1, .int .i64 xf.2]] g (.string ⟨⟨(featS xf)⟩⟩) :=
  (rft_ok xf _ (rft_F xf hp)).gives (by rintro g' H' v _ ⟨r0, rfl, rfl, hK⟩; subst hK; rfl)
end Go.Proofs.YtjehllphdpkjeaaGreatDoor.Me
