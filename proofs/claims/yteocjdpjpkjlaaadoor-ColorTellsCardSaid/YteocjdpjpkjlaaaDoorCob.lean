/- Colors: reading, the program. -/
import Derived.Test.YteocjdpjpkjlaaaDoorCoa
namespace Go.Proofs.YteocjdpjpkjlaaaDoor.Co
open Go Go.Eng Go.RowKit Go.Shelf Go.Proofs Bld Sp Ti
set_option linter.unusedVariables false
/-! pieces between commas -/
def sp44 : List UInt8 → List (List UInt8)
  | [] => [[]]
  | c :: l => if (c == 44) = true then [] :: sp44 l else (match sp44 l with | [] => [[c]] | w :: r => (c :: w) :: r)
theorem idx44 (c : UInt8) (l : List UInt8) : Lib.index (c :: l) [44] = if (c == 44) = true then 0 else if (Lib.index l [44] == -1) = true then -1 else Lib.index l [44] + 1 := by
  have e : ([44] : List UInt8).isPrefixOf (c :: l) = (c == 44) := by
    show ((44 : UInt8) == c && ([] : List UInt8).isPrefixOf l) = _
    rw [show ([] : List UInt8).isPrefixOf l = true from by cases l <;> rfl, Bool.and_true, Bool.eq_iff_iff, beq_iff_eq, beq_iff_eq]
    exact eq_comm
  rw [Lib.index, e]
theorem split44 : ∀ l : List UInt8, Lib.splitK [44] 0 (l.count 44) l = sp44 l
  | [] => rfl
  | c :: l => by
    have ih := split44 l
    rw [sp44]
    by_cases hc : (c == 44) = true
    · rw [if_t hc, List.count_cons, if_pos hc]
      show Lib.splitK [44] 0 (l.count 44 + 1) (c :: l) = _
      rw [Lib.splitK, idx44, if_t hc]
      show [] :: Lib.splitK [44] 0 (l.count 44) l = _
      rw [ih]
    · have hcf : (c == 44) = false := by simpa using hc
      rw [if_f hcf, List.count_cons, if_neg hc, Nat.add_zero, ← ih]
      cases hk : l.count 44 with
      | zero => rfl
      | succ k =>
        rw [Lib.splitK, Lib.splitK, idx44, if_f hcf]
        have hge := Lib.index_ge l [44]
        by_cases hi : Lib.index l [44] = -1
        · rw [hi]; rfl
        · have hib : (Lib.index l [44] == -1) = false := by simpa using hi
          have hib2 : (Lib.index l [44] + 1 == -1) = false := by
            rw [beq_eq_false_iff_ne]; omega
          rw [hib, if_f rfl, hib2, if_neg Bool.false_ne_true, if_neg Bool.false_ne_true]
          obtain ⟨n, hn⟩ := Int.eq_ofNat_of_zero_le (show 0 ≤ Lib.index l [44] by omega)
          rw [hn, show ((n : Int) + 1).toNat = n + 1 by omega, show ((n : Int)).toNat = n from Int.toNat_natCast n]
          rfl
theorem spl44 (s : List UInt8) : splS s [44] = sp44 s := by
  unfold splS splB
  rw [Lib.splitB_data, ← split44 s, ← Lib.count_one 44 s]
theorem sp44_sub : ∀ (s : List UInt8), ∀ w ∈ sp44 s, w.length ≤ s.length
  | [], w, h => by rw [sp44, List.mem_singleton] at h; rw [h]; exact Nat.le_refl _
  | c :: l, w, h => by
    have ih := sp44_sub l
    rw [sp44] at h
    split at h
    · rcases List.mem_cons.1 h with rfl | h
      · simp
      · have := ih w h; rw [List.length_cons]; omega
    · split at h
      · rw [List.mem_singleton] at h; rw [h]; simp
      · rename_i heq
        rcases List.mem_cons.1 h with rfl | h
        · have := ih _ (by rw [heq]; exact List.mem_cons_self ..)
          rw [List.length_cons, List.length_cons]; omega
        · have := ih w (by rw [heq]; exact List.mem_cons_of_mem _ h)
          rw [List.length_cons]; omega
theorem sp44_len : ∀ (s : List UInt8), (sp44 s).length ≤ s.length + 1
  | [] => Nat.le_refl _
  | c :: l => by
    have ih := sp44_len l
    rw [sp44]
    split
    · rw [List.length_cons, List.length_cons]; omega
    · split
      · simp
      · rename_i heq
        rw [heq] at ih
        rw [List.length_cons] at ih ⊢
        rw [List.length_cons]; omega
def cnamF (xs : List UInt8) (K : Int → Bool → Prop) : Prop :=
  (((xs == ([98, 108, 97, 99, 107] : List UInt8))) = true → K 0 true) ∧ (((xs == ([98, 108, 97, 99, 107] : List UInt8))) = false → (((xs == ([115, 105, 108, 118, 101, 114] : List UInt8))) = true → K 12632256 true) ∧ (((xs == ([115, 105, 108, 118, 101, 114] : List UInt8))) = false → (((xs == ([103, 114, 97, 121] : List UInt8))) = true → K 8421504 true) ∧ (((xs == ([103, 114, 97, 121] : List UInt8))) = false → (((xs == ([119, 104, 105, 116, 101] : List UInt8))) = true → K 16777215 true) ∧ (((xs == ([119, 104, 105, 116, 101] : List UInt8))) = false → (((xs == ([109, 97, 114, 111, 111, 110] : List UInt8))) = true → K 8388608 true) ∧ (((xs == ([109, 97, 114, 111, 111, 110] : List UInt8))) = false → (((xs == ([114, 101, 100] : List UInt8))) = true → K 16711680 true) ∧ (((xs == ([114, 101, 100] : List UInt8))) = false → (((xs == ([112, 117, 114, 112, 108, 101] : List UInt8))) = true → K 8388736 true) ∧ (((xs == ([112, 117, 114, 112, 108, 101] : List UInt8))) = false → (((xs == ([102, 117, 99, 104, 115, 105, 97] : List UInt8))) = true → K 16711935 true) ∧ (((xs == ([102, 117, 99, 104, 115, 105, 97] : List UInt8))) = false → (((xs == ([103, 114, 101, 101, 110] : List UInt8))) = true → K 32768 true) ∧ (((xs == ([103, 114, 101, 101, 110] : List UInt8))) = false → (((xs == ([108, 105, 109, 101] : List UInt8))) = true → K 65280 true) ∧ (((xs == ([108, 105, 109, 101] : List UInt8))) = false → (((xs == ([111, 108, 105, 118, 101] : List UInt8))) = true → K 8421376 true) ∧ (((xs == ([111, 108, 105, 118, 101] : List UInt8))) = false → (((xs == ([121, 101, 108, 108, 111, 119] : List UInt8))) = true → K 16776960 true) ∧ (((xs == ([121, 101, 108, 108, 111, 119] : List UInt8))) = false → (((xs == ([110, 97, 118, 121] : List UInt8))) = true → K 128 true) ∧ (((xs == ([110, 97, 118, 121] : List UInt8))) = false → (((xs == ([98, 108, 117, 101] : List UInt8))) = true → K 255 true) ∧ (((xs == ([98, 108, 117, 101] : List UInt8))) = false → (((xs == ([116, 101, 97, 108] : List UInt8))) = true → K 32896 true) ∧ (((xs == ([116, 101, 97, 108] : List UInt8))) = false → (((xs == ([97, 113, 117, 97] : List UInt8))) = true → K 65535 true) ∧ (((xs == ([97, 113, 117, 97] : List UInt8))) = false → (((xs == ([111, 114, 97, 110, 103, 101] : List UInt8))) = true → K 16753920 true) ∧ (((xs == ([111, 114, 97, 110, 103, 101] : List UInt8))) = false → K 0 false)))))))))))))))))
set_option maxHeartbeats 4000000 in
set_option maxRecDepth 100000 in
set_option linter.unusedVariables false in
theorem cnam_ok {g : Ghost} (xs : List UInt8) (K : Int → Bool → Prop)
    (hF : cnamF xs K) : CallsH Tryd.prog 43 #[.string ⟨⟨xs⟩⟩] g [] (fun g' H' v => ∃ (r0 : Int), ∃ (r1 : Bool), v = .tuple #[.int .i64 r0, .bool r1] ∧ H' = [] ∧ K r0 r1) := by
  refine CallsH.enter 39 [(0, .string ⟨⟨xs⟩⟩)] Tryd.func43 rfl (by kernel_rfl) (by kernel_rfl) (by kernel_rfl) fun w0 => ?_
  refine Ok.seq ?_
  refine Ok.region ?_
  refine Ok.batch 2 [(0, .string ⟨⟨xs⟩⟩)] (by kernel_rfl) ?_
  refine Ok.nil ?_
  refine Ok.thenN ?_
  refine Ok.seq ?_
  refine Ok.seq ?_
  refine Ok.region ?_
  refine Ok.batch 1 [(4, .string ⟨⟨xs⟩⟩)] (by kernel_rfl) ?_
  refine Ok.nil ?_
  refine Ok.thenN ?_
  refine Ok.block ?_
  refine Ok.seq ?_
  refine Ok.region ?_
  refine Ok.op rfl (OpOk.step (v := .bool (xs == ([98, 108, 97, 99, 107] : List UInt8))) (Yields.strCmp (f := .eql) (a := xs) (b := ([98, 108, 97, 99, 107] : List UInt8)) (by kernel_rfl) (by kernel_rfl) rfl) rfl rfl ?_)
  refine Ok.batch 1 [(4, .string ⟨⟨xs⟩⟩), (5, .bool (xs == ([98, 108, 97, 99, 107] : List UInt8)))] (by kernel_rfl) ?_
  refine Ok.nil ?_
  refine Ok.thenN ?_
  refine Ok.cond (b := (xs == ([98, 108, 97, 99, 107] : List UInt8))) rfl (fun hc1 => ?_) (fun hc1 => ?_)
  · replace hF := hF.1 hc1
    refine Ok.seq ?_
    refine Ok.region ?_
    refine Ok.batch 2 [(2, .int .i64 0), (3, .bool true)] (by kernel_rfl) ?_
    refine Ok.nil ?_
    refine Ok.thenN ?_
    refine Ok.ret ?_
    refine Ok.blockR ?_
    refine Ok.thenR ?_
    exact Ok.resH (vs := [.int .i64 0, .bool true]) (.inl rfl) rfl (.cons (.tmp rfl) (.cons (.tmp rfl) .nil)) (Gext.refl w0 g) ⟨0, true, rfl, rfl, hF⟩
  · replace hF := hF.2 hc1
    refine Ok.seq ?_
    refine Ok.region ?_
    refine Ok.op rfl (OpOk.step (v := .bool (xs == ([115, 105, 108, 118, 101, 114] : List UInt8))) (Yields.strCmp (f := .eql) (a := xs) (b := ([115, 105, 108, 118, 101, 114] : List UInt8)) (by kernel_rfl) (by kernel_rfl) rfl) rfl rfl ?_)
    refine Ok.batch 1 [(4, .string ⟨⟨xs⟩⟩), (7, .bool (xs == ([115, 105, 108, 118, 101, 114] : List UInt8)))] (by kernel_rfl) ?_
    refine Ok.nil ?_
    refine Ok.thenN ?_
    refine Ok.cond (b := (xs == ([115, 105, 108, 118, 101, 114] : List UInt8))) rfl (fun hc2 => ?_) (fun hc2 => ?_)
    · replace hF := hF.1 hc2
      refine Ok.seq ?_
      refine Ok.region ?_
      refine Ok.batch 2 [(2, .int .i64 12632256), (3, .bool true)] (by kernel_rfl) ?_
      refine Ok.nil ?_
      refine Ok.thenN ?_
      refine Ok.ret ?_
      refine Ok.blockR ?_
      refine Ok.thenR ?_
      exact Ok.resH (vs := [.int .i64 12632256, .bool true]) (.inl rfl) rfl (.cons (.tmp rfl) (.cons (.tmp rfl) .nil)) (Gext.refl w0 g) ⟨12632256, true, rfl, rfl, hF⟩
    · replace hF := hF.2 hc2
      refine Ok.seq ?_
      refine Ok.region ?_
      refine Ok.op rfl (OpOk.step (v := .bool (xs == ([103, 114, 97, 121] : List UInt8))) (Yields.strCmp (f := .eql) (a := xs) (b := ([103, 114, 97, 121] : List UInt8)) (by kernel_rfl) (by kernel_rfl) rfl) rfl rfl ?_)
      refine Ok.batch 1 [(4, .string ⟨⟨xs⟩⟩), (9, .bool (xs == ([103, 114, 97, 121] : List UInt8)))] (by kernel_rfl) ?_
      refine Ok.nil ?_
      refine Ok.thenN ?_
      refine Ok.cond (b := (xs == ([103, 114, 97, 121] : List UInt8))) rfl (fun hc3 => ?_) (fun hc3 => ?_)
      · replace hF := hF.1 hc3
        refine Ok.seq ?_
        refine Ok.region ?_
        refine Ok.batch 2 [(2, .int .i64 8421504), (3, .bool true)] (by kernel_rfl) ?_
        refine Ok.nil ?_
        refine Ok.thenN ?_
        refine Ok.ret ?_
        refine Ok.blockR ?_
        refine Ok.thenR ?_
        exact Ok.resH (vs := [.int .i64 8421504, .bool true]) (.inl rfl) rfl (.cons (.tmp rfl) (.cons (.tmp rfl) .nil)) (Gext.refl w0 g) ⟨8421504, true, rfl, rfl, hF⟩
      · replace hF := hF.2 hc3
        refine Ok.seq ?_
        refine Ok.region ?_
        refine Ok.op rfl (OpOk.step (v := .bool (xs == ([119, 104, 105, 116, 101] : List UInt8))) (Yields.strCmp (f := .eql) (a := xs) (b := ([119, 104, 105, 116, 101] : List UInt8)) (by kernel_rfl) (by kernel_rfl) rfl) rfl rfl ?_)
        refine Ok.batch 1 [(4, .string ⟨⟨xs⟩⟩), (11, .bool (xs == ([119, 104, 105, 116, 101] : List UInt8)))] (by kernel_rfl) ?_
        refine Ok.nil ?_
        refine Ok.thenN ?_
        refine Ok.cond (b := (xs == ([119, 104, 105, 116, 101] : List UInt8))) rfl (fun hc4 => ?_) (fun hc4 => ?_)
        · replace hF := hF.1 hc4
          refine Ok.seq ?_
          refine Ok.region ?_
          refine Ok.batch 2 [(2, .int .i64 16777215), (3, .bool true)] (by kernel_rfl) ?_
          refine Ok.nil ?_
          refine Ok.thenN ?_
          refine Ok.ret ?_
          refine Ok.blockR ?_
          refine Ok.thenR ?_
          exact Ok.resH (vs := [.int .i64 16777215, .bool true]) (.inl rfl) rfl (.cons (.tmp rfl) (.cons (.tmp rfl) .nil)) (Gext.refl w0 g) ⟨16777215, true, rfl, rfl, hF⟩
        · replace hF := hF.2 hc4
          refine Ok.seq ?_
          refine Ok.region ?_
          refine Ok.op rfl (OpOk.step (v := .bool (xs == ([109, 97, 114, 111, 111, 110] : List UInt8))) (Yields.strCmp (f := .eql) (a := xs) (b := ([109, 97, 114, 111, 111, 110] : List UInt8)) (by kernel_rfl) (by kernel_rfl) rfl) rfl rfl ?_)
          refine Ok.batch 1 [(4, .string ⟨⟨xs⟩⟩), (13, .bool (xs == ([109, 97, 114, 111, 111, 110] : List UInt8)))] (by kernel_rfl) ?_
          refine Ok.nil ?_
          refine Ok.thenN ?_
          refine Ok.cond (b := (xs == ([109, 97, 114, 111, 111, 110] : List UInt8))) rfl (fun hc5 => ?_) (fun hc5 => ?_)
          · replace hF := hF.1 hc5
            refine Ok.seq ?_
            refine Ok.region ?_
            refine Ok.batch 2 [(2, .int .i64 8388608), (3, .bool true)] (by kernel_rfl) ?_
            refine Ok.nil ?_
            refine Ok.thenN ?_
            refine Ok.ret ?_
            refine Ok.blockR ?_
            refine Ok.thenR ?_
            exact Ok.resH (vs := [.int .i64 8388608, .bool true]) (.inl rfl) rfl (.cons (.tmp rfl) (.cons (.tmp rfl) .nil)) (Gext.refl w0 g) ⟨8388608, true, rfl, rfl, hF⟩
          · replace hF := hF.2 hc5
            refine Ok.seq ?_
            refine Ok.region ?_
            refine Ok.op rfl (OpOk.step (v := .bool (xs == ([114, 101, 100] : List UInt8))) (Yields.strCmp (f := .eql) (a := xs) (b := ([114, 101, 100] : List UInt8)) (by kernel_rfl) (by kernel_rfl) rfl) rfl rfl ?_)
            refine Ok.batch 1 [(4, .string ⟨⟨xs⟩⟩), (15, .bool (xs == ([114, 101, 100] : List UInt8)))] (by kernel_rfl) ?_
            refine Ok.nil ?_
            refine Ok.thenN ?_
            refine Ok.cond (b := (xs == ([114, 101, 100] : List UInt8))) rfl (fun hc6 => ?_) (fun hc6 => ?_)
            · replace hF := hF.1 hc6
              refine Ok.seq ?_
              refine Ok.region ?_
              refine Ok.batch 2 [(2, .int .i64 16711680), (3, .bool true)] (by kernel_rfl) ?_
              refine Ok.nil ?_
              refine Ok.thenN ?_
              refine Ok.ret ?_
              refine Ok.blockR ?_
              refine Ok.thenR ?_
              exact Ok.resH (vs := [.int .i64 16711680, .bool true]) (.inl rfl) rfl (.cons (.tmp rfl) (.cons (.tmp rfl) .nil)) (Gext.refl w0 g) ⟨16711680, true, rfl, rfl, hF⟩
            · replace hF := hF.2 hc6
              refine Ok.seq ?_
              refine Ok.region ?_
              refine Ok.op rfl (OpOk.step (v := .bool (xs == ([112, 117, 114, 112, 108, 101] : List UInt8))) (Yields.strCmp (f := .eql) (a := xs) (b := ([112, 117, 114, 112, 108, 101] : List UInt8)) (by kernel_rfl) (by kernel_rfl) rfl) rfl rfl ?_)
              refine Ok.batch 1 [(4, .string ⟨⟨xs⟩⟩), (17, .bool (xs == ([112, 117, 114, 112, 108, 101] : List UInt8)))] (by kernel_rfl) ?_
              refine Ok.nil ?_
              refine Ok.thenN ?_
              refine Ok.cond (b := (xs == ([112, 117, 114, 112, 108, 101] : List UInt8))) rfl (fun hc7 => ?_) (fun hc7 => ?_)
              · replace hF := hF.1 hc7
                refine Ok.seq ?_
                refine Ok.region ?_
                refine Ok.batch 2 [(2, .int .i64 8388736), (3, .bool true)] (by kernel_rfl) ?_
                refine Ok.nil ?_
                refine Ok.thenN ?_
                refine Ok.ret ?_
                refine Ok.blockR ?_
                refine Ok.thenR ?_
                exact Ok.resH (vs := [.int .i64 8388736, .bool true]) (.inl rfl) rfl (.cons (.tmp rfl) (.cons (.tmp rfl) .nil)) (Gext.refl w0 g) ⟨8388736, true, rfl, rfl, hF⟩
              · replace hF := hF.2 hc7
                refine Ok.seq ?_
                refine Ok.region ?_
                refine Ok.op rfl (OpOk.step (v := .bool (xs == ([102, 117, 99, 104, 115, 105, 97] : List UInt8))) (Yields.strCmp (f := .eql) (a := xs) (b := ([102, 117, 99, 104, 115, 105, 97] : List UInt8)) (by kernel_rfl) (by kernel_rfl) rfl) rfl rfl ?_)
                refine Ok.batch 1 [(4, .string ⟨⟨xs⟩⟩), (19, .bool (xs == ([102, 117, 99, 104, 115, 105, 97] : List UInt8)))] (by kernel_rfl) ?_
                refine Ok.nil ?_
                refine Ok.thenN ?_
                refine Ok.cond (b := (xs == ([102, 117, 99, 104, 115, 105, 97] : List UInt8))) rfl (fun hc8 => ?_) (fun hc8 => ?_)
                · replace hF := hF.1 hc8
                  refine Ok.seq ?_
                  refine Ok.region ?_
                  refine Ok.batch 2 [(2, .int .i64 16711935), (3, .bool true)] (by kernel_rfl) ?_
                  refine Ok.nil ?_
                  refine Ok.thenN ?_
                  refine Ok.ret ?_
                  refine Ok.blockR ?_
                  refine Ok.thenR ?_
                  exact Ok.resH (vs := [.int .i64 16711935, .bool true]) (.inl rfl) rfl (.cons (.tmp rfl) (.cons (.tmp rfl) .nil)) (Gext.refl w0 g) ⟨16711935, true, rfl, rfl, hF⟩
                · replace hF := hF.2 hc8
                  refine Ok.seq ?_
                  refine Ok.region ?_
                  refine Ok.op rfl (OpOk.step (v := .bool (xs == ([103, 114, 101, 101, 110] : List UInt8))) (Yields.strCmp (f := .eql) (a := xs) (b := ([103, 114, 101, 101, 110] : List UInt8)) (by kernel_rfl) (by kernel_rfl) rfl) rfl rfl ?_)
                  refine Ok.batch 1 [(4, .string ⟨⟨xs⟩⟩), (21, .bool (xs == ([103, 114, 101, 101, 110] : List UInt8)))] (by kernel_rfl) ?_
                  refine Ok.nil ?_
                  refine Ok.thenN ?_
                  refine Ok.cond (b := (xs == ([103, 114, 101, 101, 110] : List UInt8))) rfl (fun hc9 => ?_) (fun hc9 => ?_)
                  · replace hF := hF.1 hc9
                    refine Ok.seq ?_
                    refine Ok.region ?_
                    refine Ok.batch 2 [(2, .int .i64 32768), (3, .bool true)] (by kernel_rfl) ?_
                    refine Ok.nil ?_
                    refine Ok.thenN ?_
                    refine Ok.ret ?_
                    refine Ok.blockR ?_
                    refine Ok.thenR ?_
                    exact Ok.resH (vs := [.int .i64 32768, .bool true]) (.inl rfl) rfl (.cons (.tmp rfl) (.cons (.tmp rfl) .nil)) (Gext.refl w0 g) ⟨32768, true, rfl, rfl, hF⟩
                  · replace hF := hF.2 hc9
                    refine Ok.seq ?_
                    refine Ok.region ?_
                    refine Ok.op rfl (OpOk.step (v := .bool (xs == ([108, 105, 109, 101] : List UInt8))) (Yields.strCmp (f := .eql) (a := xs) (b := ([108, 105, 109, 101] : List UInt8)) (by kernel_rfl) (by kernel_rfl) rfl) rfl rfl ?_)
                    refine Ok.batch 1 [(4, .string ⟨⟨xs⟩⟩), (23, .bool (xs == ([108, 105, 109, 101] : List UInt8)))] (by kernel_rfl) ?_
                    refine Ok.nil ?_
                    refine Ok.thenN ?_
                    refine Ok.cond (b := (xs == ([108, 105, 109, 101] : List UInt8))) rfl (fun hc10 => ?_) (fun hc10 => ?_)
                    · replace hF := hF.1 hc10
                      refine Ok.seq ?_
                      refine Ok.region ?_
                      refine Ok.batch 2 [(2, .int .i64 65280), (3, .bool true)] (by kernel_rfl) ?_
                      refine Ok.nil ?_
                      refine Ok.thenN ?_
                      refine Ok.ret ?_
                      refine Ok.blockR ?_
                      refine Ok.thenR ?_
                      exact Ok.resH (vs := [.int .i64 65280, .bool true]) (.inl rfl) rfl (.cons (.tmp rfl) (.cons (.tmp rfl) .nil)) (Gext.refl w0 g) ⟨65280, true, rfl, rfl, hF⟩
                    · replace hF := hF.2 hc10
                      refine Ok.seq ?_
                      refine Ok.region ?_
                      refine Ok.op rfl (OpOk.step (v := .bool (xs == ([111, 108, 105, 118, 101] : List UInt8))) (Yields.strCmp (f := .eql) (a := xs) (b := ([111, 108, 105, 118, 101] : List UInt8)) (by kernel_rfl) (by kernel_rfl) rfl) rfl rfl ?_)
                      refine Ok.batch 1 [(4, .string ⟨⟨xs⟩⟩), (25, .bool (xs == ([111, 108, 105, 118, 101] : List UInt8)))] (by kernel_rfl) ?_
                      refine Ok.nil ?_
                      refine Ok.thenN ?_
                      refine Ok.cond (b := (xs == ([111, 108, 105, 118, 101] : List UInt8))) rfl (fun hc11 => ?_) (fun hc11 => ?_)
                      · replace hF := hF.1 hc11
                        refine Ok.seq ?_
                        refine Ok.region ?_
                        refine Ok.batch 2 [(2, .int .i64 8421376), (3, .bool true)] (by kernel_rfl) ?_
                        refine Ok.nil ?_
                        refine Ok.thenN ?_
                        refine Ok.ret ?_
                        refine Ok.blockR ?_
                        refine Ok.thenR ?_
                        exact Ok.resH (vs := [.int .i64 8421376, .bool true]) (.inl rfl) rfl (.cons (.tmp rfl) (.cons (.tmp rfl) .nil)) (Gext.refl w0 g) ⟨8421376, true, rfl, rfl, hF⟩
                      · replace hF := hF.2 hc11
                        refine Ok.seq ?_
                        refine Ok.region ?_
                        refine Ok.op rfl (OpOk.step (v := .bool (xs == ([121, 101, 108, 108, 111, 119] : List UInt8))) (Yields.strCmp (f := .eql) (a := xs) (b := ([121, 101, 108, 108, 111, 119] : List UInt8)) (by kernel_rfl) (by kernel_rfl) rfl) rfl rfl ?_)
                        refine Ok.batch 1 [(4, .string ⟨⟨xs⟩⟩), (27, .bool (xs == ([121, 101, 108, 108, 111, 119] : List UInt8)))] (by kernel_rfl) ?_
                        refine Ok.nil ?_
                        refine Ok.thenN ?_
                        refine Ok.cond (b := (xs == ([121, 101, 108, 108, 111, 119] : List UInt8))) rfl (fun hc12 => ?_) (fun hc12 => ?_)
                        · replace hF := hF.1 hc12
                          refine Ok.seq ?_
                          refine Ok.region ?_
                          refine Ok.batch 2 [(2, .int .i64 16776960), (3, .bool true)] (by kernel_rfl) ?_
                          refine Ok.nil ?_
                          refine Ok.thenN ?_
                          refine Ok.ret ?_
                          refine Ok.blockR ?_
                          refine Ok.thenR ?_
                          exact Ok.resH (vs := [.int .i64 16776960, .bool true]) (.inl rfl) rfl (.cons (.tmp rfl) (.cons (.tmp rfl) .nil)) (Gext.refl w0 g) ⟨16776960, true, rfl, rfl, hF⟩
                        · replace hF := hF.2 hc12
                          refine Ok.seq ?_
                          refine Ok.region ?_
                          refine Ok.op rfl (OpOk.step (v := .bool (xs == ([110, 97, 118, 121] : List UInt8))) (Yields.strCmp (f := .eql) (a := xs) (b := ([110, 97, 118, 121] : List UInt8)) (by kernel_rfl) (by kernel_rfl) rfl) rfl rfl ?_)
                          refine Ok.batch 1 [(4, .string ⟨⟨xs⟩⟩), (29, .bool (xs == ([110, 97, 118, 121] : List UInt8)))] (by kernel_rfl) ?_
                          refine Ok.nil ?_
                          refine Ok.thenN ?_
                          refine Ok.cond (b := (xs == ([110, 97, 118, 121] : List UInt8))) rfl (fun hc13 => ?_) (fun hc13 => ?_)
                          · replace hF := hF.1 hc13
                            refine Ok.seq ?_
                            refine Ok.region ?_
                            refine Ok.batch 2 [(2, .int .i64 128), (3, .bool true)] (by kernel_rfl) ?_
                            refine Ok.nil ?_
                            refine Ok.thenN ?_
                            refine Ok.ret ?_
                            refine Ok.blockR ?_
                            refine Ok.thenR ?_
                            exact Ok.resH (vs := [.int .i64 128, .bool true]) (.inl rfl) rfl (.cons (.tmp rfl) (.cons (.tmp rfl) .nil)) (Gext.refl w0 g) ⟨128, true, rfl, rfl, hF⟩
                          · replace hF := hF.2 hc13
                            refine Ok.seq ?_
                            refine Ok.region ?_
                            refine Ok.op rfl (OpOk.step (v := .bool (xs == ([98, 108, 117, 101] : List UInt8))) (Yields.strCmp (f := .eql) (a := xs) (b := ([98, 108, 117, 101] : List UInt8)) (by kernel_rfl) (by kernel_rfl) rfl) rfl rfl ?_)
                            refine Ok.batch 1 [(4, .string ⟨⟨xs⟩⟩), (31, .bool (xs == ([98, 108, 117, 101] : List UInt8)))] (by kernel_rfl) ?_
                            refine Ok.nil ?_
                            refine Ok.thenN ?_
                            refine Ok.cond (b := (xs == ([98, 108, 117, 101] : List UInt8))) rfl (fun hc14 => ?_) (fun hc14 => ?_)
                            · replace hF := hF.1 hc14
                              refine Ok.seq ?_
                              refine Ok.region ?_
                              refine Ok.batch 2 [(2, .int .i64 255), (3, .bool true)] (by kernel_rfl) ?_
                              refine Ok.nil ?_
                              refine Ok.thenN ?_
                              refine Ok.ret ?_
                              refine Ok.blockR ?_
                              refine Ok.thenR ?_
                              exact Ok.resH (vs := [.int .i64 255, .bool true]) (.inl rfl) rfl (.cons (.tmp rfl) (.cons (.tmp rfl) .nil)) (Gext.refl w0 g) ⟨255, true, rfl, rfl, hF⟩
                            · replace hF := hF.2 hc14
                              refine Ok.seq ?_
                              refine Ok.region ?_
                              refine Ok.op rfl (OpOk.step (v := .bool (xs == ([116, 101, 97, 108] : List UInt8))) (Yields.strCmp (f := .eql) (a := xs) (b := ([116, 101, 97, 108] : List UInt8)) (by kernel_rfl) (by kernel_rfl) rfl) rfl rfl ?_)
                              refine Ok.batch 1 [(4, .string ⟨⟨xs⟩⟩), (33, .bool (xs == ([116, 101, 97, 108] : List UInt8)))] (by kernel_rfl) ?_
                              refine Ok.nil ?_
                              refine Ok.thenN ?_
                              refine Ok.cond (b := (xs == ([116, 101, 97, 108] : List UInt8))) rfl (fun hc15 => ?_) (fun hc15 => ?_)
                              · replace hF := hF.1 hc15
                                refine Ok.seq ?_
                                refine Ok.region ?_
                                refine Ok.batch 2 [(2, .int .i64 32896), (3, .bool true)] (by kernel_rfl) ?_
                                refine Ok.nil ?_
                                refine Ok.thenN ?_
                                refine Ok.ret ?_
                                refine Ok.blockR ?_
                                refine Ok.thenR ?_
                                exact Ok.resH (vs := [.int .i64 32896, .bool true]) (.inl rfl) rfl (.cons (.tmp rfl) (.cons (.tmp rfl) .nil)) (Gext.refl w0 g) ⟨32896, true, rfl, rfl, hF⟩
                              · replace hF := hF.2 hc15
                                refine Ok.seq ?_
                                refine Ok.region ?_
                                refine Ok.op rfl (OpOk.step (v := .bool (xs == ([97, 113, 117, 97] : List UInt8))) (Yields.strCmp (f := .eql) (a := xs) (b := ([97, 113, 117, 97] : List UInt8)) (by kernel_rfl) (by kernel_rfl) rfl) rfl rfl ?_)
                                refine Ok.batch 1 [(4, .string ⟨⟨xs⟩⟩), (35, .bool (xs == ([97, 113, 117, 97] : List UInt8)))] (by kernel_rfl) ?_
                                refine Ok.nil ?_
                                refine Ok.thenN ?_
                                refine Ok.cond (b := (xs == ([97, 113, 117, 97] : List UInt8))) rfl (fun hc16 => ?_) (fun hc16 => ?_)
                                · replace hF := hF.1 hc16
                                  refine Ok.seq ?_
                                  refine Ok.region ?_
                                  refine Ok.batch 2 [(2, .int .i64 65535), (3, .bool true)] (by kernel_rfl) ?_
                                  refine Ok.nil ?_
                                  refine Ok.thenN ?_
                                  refine Ok.ret ?_
                                  refine Ok.blockR ?_
                                  refine Ok.thenR ?_
                                  exact Ok.resH (vs := [.int .i64 65535, .bool true]) (.inl rfl) rfl (.cons (.tmp rfl) (.cons (.tmp rfl) .nil)) (Gext.refl w0 g) ⟨65535, true, rfl, rfl, hF⟩
                                · replace hF := hF.2 hc16
                                  refine Ok.seq ?_
                                  refine Ok.region ?_
                                  refine Ok.op rfl (OpOk.step (v := .bool (xs == ([111, 114, 97, 110, 103, 101] : List UInt8))) (Yields.strCmp (f := .eql) (a := xs) (b := ([111, 114, 97, 110, 103, 101] : List UInt8)) (by kernel_rfl) (by kernel_rfl) rfl) rfl rfl ?_)
                                  refine Ok.batch 1 [(37, .bool (xs == ([111, 114, 97, 110, 103, 101] : List UInt8)))] (by kernel_rfl) ?_
                                  refine Ok.nil ?_
                                  refine Ok.thenN ?_
                                  refine Ok.cond (b := (xs == ([111, 114, 97, 110, 103, 101] : List UInt8))) rfl (fun hc17 => ?_) (fun hc17 => ?_)
                                  · replace hF := hF.1 hc17
                                    refine Ok.seq ?_
                                    refine Ok.region ?_
                                    refine Ok.batch 2 [(2, .int .i64 16753920), (3, .bool true)] (by kernel_rfl) ?_
                                    refine Ok.nil ?_
                                    refine Ok.thenN ?_
                                    refine Ok.ret ?_
                                    refine Ok.blockR ?_
                                    refine Ok.thenR ?_
                                    exact Ok.resH (vs := [.int .i64 16753920, .bool true]) (.inl rfl) rfl (.cons (.tmp rfl) (.cons (.tmp rfl) .nil)) (Gext.refl w0 g) ⟨16753920, true, rfl, rfl, hF⟩
                                  · replace hF := hF.2 hc17
                                    refine Ok.skip ?_
                                    refine Ok.blockN ?_
                                    refine Ok.thenN ?_
                                    refine Ok.seq ?_
                                    refine Ok.region ?_
                                    refine Ok.batch 2 [(2, .int .i64 0), (3, .bool false)] (by kernel_rfl) ?_
                                    refine Ok.nil ?_
                                    refine Ok.thenN ?_
                                    refine Ok.ret ?_
                                    exact Ok.resH (vs := [.int .i64 0, .bool false]) (.inl rfl) rfl (.cons (.tmp rfl) (.cons (.tmp rfl) .nil)) (Gext.refl w0 g) ⟨0, false, rfl, rfl, hF⟩
def cnamM (xs : List UInt8) : Int × Bool := (if (xs == ([98, 108, 97, 99, 107] : List UInt8)) = true then (0, true) else (if (xs == ([115, 105, 108, 118, 101, 114] : List UInt8)) = true then (12632256, true) else (if (xs == ([103, 114, 97, 121] : List UInt8)) = true then (8421504, true) else (if (xs == ([119, 104, 105, 116, 101] : List UInt8)) = true then (16777215, true) else (if (xs == ([109, 97, 114, 111, 111, 110] : List UInt8)) = true then (8388608, true) else (if (xs == ([114, 101, 100] : List UInt8)) = true then (16711680, true) else (if (xs == ([112, 117, 114, 112, 108, 101] : List UInt8)) = true then (8388736, true) else (if (xs == ([102, 117, 99, 104, 115, 105, 97] : List UInt8)) = true then (16711935, true) else (if (xs == ([103, 114, 101, 101, 110] : List UInt8)) = true then (32768, true) else (if (xs == ([108, 105, 109, 101] : List UInt8)) = true then (65280, true) else (if (xs == ([111, 108, 105, 118, 101] : List UInt8)) = true then (8421376, true) else (if (xs == ([121, 101, 108, 108, 111, 119] : List UInt8)) = true then (16776960, true) else (if (xs == ([110, 97, 118, 121] : List UInt8)) = true then (128, true) else (if (xs == ([98, 108, 117, 101] : List UInt8)) = true then (255, true) else (if (xs == ([116, 101, 97, 108] : List UInt8)) = true then (32896, true) else (if (xs == ([97, 113, 117, 97] : List UInt8)) = true then (65535, true) else (if (xs == ([111, 114, 97, 110, 103, 101] : List UInt8)) = true then (16753920, true) else (0, false))))))))))))))))))
set_option linter.unusedSimpArgs false in
set_option linter.unusedVariables false in
theorem cnamF_A (xs : List UInt8) (P : Int × Bool → Prop) (h : P (cnamM xs)) : cnamF xs (fun k0 k1 => P (k0, k1)) := by
  unfold cnamM at h
  unfold cnamF
  refine ⟨fun hc0 => ?_, fun hc0 => ?_⟩
  · rw [if_t hc0] at h
    have hd0 := hc0; try simp only [Bool.and_eq_true, Bool.or_eq_true, Bool.and_eq_false_iff, Bool.or_eq_false_iff, Bool.not_eq_true', Bool.not_eq_false', decide_eq_true_eq, decide_eq_false_iff_not, beq_iff_eq, beq_eq_false_iff_ne, ne_eq] at hd0
    exact h
  · rw [if_f hc0] at h
    have hd0 := hc0; try simp only [Bool.and_eq_true, Bool.or_eq_true, Bool.and_eq_false_iff, Bool.or_eq_false_iff, Bool.not_eq_true', Bool.not_eq_false', decide_eq_true_eq, decide_eq_false_iff_not, beq_iff_eq, beq_eq_false_iff_ne, ne_eq] at hd0
    refine ⟨fun hc1 => ?_, fun hc1 => ?_⟩
    · rw [if_t hc1] at h
      have hd1 := hc1; try simp only [Bool.and_eq_true, Bool.or_eq_true, Bool.and_eq_false_iff, Bool.or_eq_false_iff, Bool.not_eq_true', Bool.not_eq_false', decide_eq_true_eq, decide_eq_false_iff_not, beq_iff_eq, beq_eq_false_iff_ne, ne_eq] at hd1
      exact h
    · rw [if_f hc1] at h
      have hd1 := hc1; try simp only [Bool.and_eq_true, Bool.or_eq_true, Bool.and_eq_false_iff, Bool.or_eq_false_iff, Bool.not_eq_true', Bool.not_eq_false', decide_eq_true_eq, decide_eq_false_iff_not, beq_iff_eq, beq_eq_false_iff_ne, ne_eq] at hd1
      refine ⟨fun hc2 => ?_, fun hc2 => ?_⟩
      · rw [if_t hc2] at h
        have hd2 := hc2; try simp only [Bool.and_eq_true, Bool.or_eq_true, Bool.and_eq_false_iff, Bool.or_eq_false_iff, Bool.not_eq_true', Bool.not_eq_false', decide_eq_true_eq, decide_eq_false_iff_not, beq_iff_eq, beq_eq_false_iff_ne, ne_eq] at hd2
        exact h
      · rw [if_f hc2] at h
        have hd2 := hc2; try simp only [Bool.and_eq_true, Bool.or_eq_true, Bool.and_eq_false_iff, Bool.or_eq_false_iff, Bool.not_eq_true', Bool.not_eq_false', decide_eq_true_eq, decide_eq_false_iff_not, beq_iff_eq, beq_eq_false_iff_ne, ne_eq] at hd2
        refine ⟨fun hc3 => ?_, fun hc3 => ?_⟩
        · rw [if_t hc3] at h
          have hd3 := hc3; try simp only [Bool.and_eq_true, Bool.or_eq_true, Bool.and_eq_false_iff, Bool.or_eq_false_iff, Bool.not_eq_true', Bool.not_eq_false', decide_eq_true_eq, decide_eq_false_iff_not, beq_iff_eq, beq_eq_false_iff_ne, ne_eq] at hd3
          exact h
        · rw [if_f hc3] at h
          have hd3 := hc3; try simp only [Bool.and_eq_true, Bool.or_eq_true, Bool.and_eq_false_iff, Bool.or_eq_false_iff, Bool.not_eq_true', Bool.not_eq_false', decide_eq_true_eq, decide_eq_false_iff_not, beq_iff_eq, beq_eq_false_iff_ne, ne_eq] at hd3
          refine ⟨fun hc4 => ?_, fun hc4 => ?_⟩
          · rw [if_t hc4] at h
            have hd4 := hc4; try simp only [Bool.and_eq_true, Bool.or_eq_true, Bool.and_eq_false_iff, Bool.or_eq_false_iff, Bool.not_eq_true', Bool.not_eq_false', decide_eq_true_eq, decide_eq_false_iff_not, beq_iff_eq, beq_eq_false_iff_ne, ne_eq] at hd4
            exact h
          · rw [if_f hc4] at h
            have hd4 := hc4; try simp only [Bool.and_eq_true, Bool.or_eq_true, Bool.and_eq_false_iff, Bool.or_eq_false_iff, Bool.not_eq_true', Bool.not_eq_false', decide_eq_true_eq, decide_eq_false_iff_not, beq_iff_eq, beq_eq_false_iff_ne, ne_eq] at hd4
            refine ⟨fun hc5 => ?_, fun hc5 => ?_⟩
            · rw [if_t hc5] at h
              have hd5 := hc5; try simp only [Bool.and_eq_true, Bool.or_eq_true, Bool.and_eq_false_iff, Bool.or_eq_false_iff, Bool.not_eq_true', Bool.not_eq_false', decide_eq_true_eq, decide_eq_false_iff_not, beq_iff_eq, beq_eq_false_iff_ne, ne_eq] at hd5
              exact h
            · rw [if_f hc5] at h
              have hd5 := hc5; try simp only [Bool.and_eq_true, Bool.or_eq_true, Bool.and_eq_false_iff, Bool.or_eq_false_iff, Bool.not_eq_true', Bool.not_eq_false', decide_eq_true_eq, decide_eq_false_iff_not, beq_iff_eq, beq_eq_false_iff_ne, ne_eq] at hd5
              refine ⟨fun hc6 => ?_, fun hc6 => ?_⟩
              · rw [if_t hc6] at h
                have hd6 := hc6; try simp only [Bool.and_eq_true, Bool.or_eq_true, Bool.and_eq_false_iff, Bool.or_eq_false_iff, Bool.not_eq_true', Bool.not_eq_false', decide_eq_true_eq, decide_eq_false_iff_not, beq_iff_eq, beq_eq_false_iff_ne, ne_eq] at hd6
                exact h
              · rw [if_f hc6] at h
                have hd6 := hc6; try simp only [Bool.and_eq_true, Bool.or_eq_true, Bool.and_eq_false_iff, Bool.or_eq_false_iff, Bool.not_eq_true', Bool.not_eq_false', decide_eq_true_eq, decide_eq_false_iff_not, beq_iff_eq, beq_eq_false_iff_ne, ne_eq] at hd6
                refine ⟨fun hc7 => ?_, fun hc7 => ?_⟩
                · rw [if_t hc7] at h
                  have hd7 := hc7; try simp only [Bool.and_eq_true, Bool.or_eq_true, Bool.and_eq_false_iff, Bool.or_eq_false_iff, Bool.not_eq_true', Bool.not_eq_false', decide_eq_true_eq, decide_eq_false_iff_not, beq_iff_eq, beq_eq_false_iff_ne, ne_eq] at hd7
                  exact h
                · rw [if_f hc7] at h
                  have hd7 := hc7; try simp only [Bool.and_eq_true, Bool.or_eq_true, Bool.and_eq_false_iff, Bool.or_eq_false_iff, Bool.not_eq_true', Bool.not_eq_false', decide_eq_true_eq, decide_eq_false_iff_not, beq_iff_eq, beq_eq_false_iff_ne, ne_eq] at hd7
                  refine ⟨fun hc8 => ?_, fun hc8 => ?_⟩
                  · rw [if_t hc8] at h
                    have hd8 := hc8; try simp only [Bool.and_eq_true, Bool.or_eq_true, Bool.and_eq_false_iff, Bool.or_eq_false_iff, Bool.not_eq_true', Bool.not_eq_false', decide_eq_true_eq, decide_eq_false_iff_not, beq_iff_eq, beq_eq_false_iff_ne, ne_eq] at hd8
                    exact h
                  · rw [if_f hc8] at h
                    have hd8 := hc8; try simp only [Bool.and_eq_true, Bool.or_eq_true, Bool.and_eq_false_iff, Bool.or_eq_false_iff, Bool.not_eq_true', Bool.not_eq_false', decide_eq_true_eq, decide_eq_false_iff_not, beq_iff_eq, beq_eq_false_iff_ne, ne_eq] at hd8
                    refine ⟨fun hc9 => ?_, fun hc9 => ?_⟩
                    · rw [if_t hc9] at h
                      have hd9 := hc9; try simp only [Bool.and_eq_true, Bool.or_eq_true, Bool.and_eq_false_iff, Bool.or_eq_false_iff, Bool.not_eq_true', Bool.not_eq_false', decide_eq_true_eq, decide_eq_false_iff_not, beq_iff_eq, beq_eq_false_iff_ne, ne_eq] at hd9
                      exact h
                    · rw [if_f hc9] at h
                      have hd9 := hc9; try simp only [Bool.and_eq_true, Bool.or_eq_true, Bool.and_eq_false_iff, Bool.or_eq_false_iff, Bool.not_eq_true', Bool.not_eq_false', decide_eq_true_eq, decide_eq_false_iff_not, beq_iff_eq, beq_eq_false_iff_ne, ne_eq] at hd9
                      refine ⟨fun hc10 => ?_, fun hc10 => ?_⟩
                      · rw [if_t hc10] at h
                        have hd10 := hc10; try simp only [Bool.and_eq_true, Bool.or_eq_true, Bool.and_eq_false_iff, Bool.or_eq_false_iff, Bool.not_eq_true', Bool.not_eq_false', decide_eq_true_eq, decide_eq_false_iff_not, beq_iff_eq, beq_eq_false_iff_ne, ne_eq] at hd10
                        exact h
                      · rw [if_f hc10] at h
                        have hd10 := hc10; try simp only [Bool.and_eq_true, Bool.or_eq_true, Bool.and_eq_false_iff, Bool.or_eq_false_iff, Bool.not_eq_true', Bool.not_eq_false', decide_eq_true_eq, decide_eq_false_iff_not, beq_iff_eq, beq_eq_false_iff_ne, ne_eq] at hd10
                        refine ⟨fun hc11 => ?_, fun hc11 => ?_⟩
                        · rw [if_t hc11] at h
                          have hd11 := hc11; try simp only [Bool.and_eq_true, Bool.or_eq_true, Bool.and_eq_false_iff, Bool.or_eq_false_iff, Bool.not_eq_true', Bool.not_eq_false', decide_eq_true_eq, decide_eq_false_iff_not, beq_iff_eq, beq_eq_false_iff_ne, ne_eq] at hd11
                          exact h
                        · rw [if_f hc11] at h
                          have hd11 := hc11; try simp only [Bool.and_eq_true, Bool.or_eq_true, Bool.and_eq_false_iff, Bool.or_eq_false_iff, Bool.not_eq_true', Bool.not_eq_false', decide_eq_true_eq, decide_eq_false_iff_not, beq_iff_eq, beq_eq_false_iff_ne, ne_eq] at hd11
                          refine ⟨fun hc12 => ?_, fun hc12 => ?_⟩
                          · rw [if_t hc12] at h
                            have hd12 := hc12; try simp only [Bool.and_eq_true, Bool.or_eq_true, Bool.and_eq_false_iff, Bool.or_eq_false_iff, Bool.not_eq_true', Bool.not_eq_false', decide_eq_true_eq, decide_eq_false_iff_not, beq_iff_eq, beq_eq_false_iff_ne, ne_eq] at hd12
                            exact h
                          · rw [if_f hc12] at h
                            have hd12 := hc12; try simp only [Bool.and_eq_true, Bool.or_eq_true, Bool.and_eq_false_iff, Bool.or_eq_false_iff, Bool.not_eq_true', Bool.not_eq_false', decide_eq_true_eq, decide_eq_false_iff_not, beq_iff_eq, beq_eq_false_iff_ne, ne_eq] at hd12
                            refine ⟨fun hc13 => ?_, fun hc13 => ?_⟩
                            · rw [if_t hc13] at h
                              have hd13 := hc13; try simp only [Bool.and_eq_true, Bool.or_eq_true, Bool.and_eq_false_iff, Bool.or_eq_false_iff, Bool.not_eq_true', Bool.not_eq_false', decide_eq_true_eq, decide_eq_false_iff_not, beq_iff_eq, beq_eq_false_iff_ne, ne_eq] at hd13
                              exact h
                            · rw [if_f hc13] at h
                              have hd13 := hc13; try simp only [Bool.and_eq_true, Bool.or_eq_true, Bool.and_eq_false_iff, Bool.or_eq_false_iff, Bool.not_eq_true', Bool.not_eq_false', decide_eq_true_eq, decide_eq_false_iff_not, beq_iff_eq, beq_eq_false_iff_ne, ne_eq] at hd13
                              refine ⟨fun hc14 => ?_, fun hc14 => ?_⟩
                              · rw [if_t hc14] at h
                                have hd14 := hc14; try simp only [Bool.and_eq_true, Bool.or_eq_true, Bool.and_eq_false_iff, Bool.or_eq_false_iff, Bool.not_eq_true', Bool.not_eq_false', decide_eq_true_eq, decide_eq_false_iff_not, beq_iff_eq, beq_eq_false_iff_ne, ne_eq] at hd14
                                exact h
                              · rw [if_f hc14] at h
                                have hd14 := hc14; try simp only [Bool.and_eq_true, Bool.or_eq_true, Bool.and_eq_false_iff, Bool.or_eq_false_iff, Bool.not_eq_true', Bool.not_eq_false', decide_eq_true_eq, decide_eq_false_iff_not, beq_iff_eq, beq_eq_false_iff_ne, ne_eq] at hd14
                                refine ⟨fun hc15 => ?_, fun hc15 => ?_⟩
                                · rw [if_t hc15] at h
                                  have hd15 := hc15; try simp only [Bool.and_eq_true, Bool.or_eq_true, Bool.and_eq_false_iff, Bool.or_eq_false_iff, Bool.not_eq_true', Bool.not_eq_false', decide_eq_true_eq, decide_eq_false_iff_not, beq_iff_eq, beq_eq_false_iff_ne, ne_eq] at hd15
                                  exact h
                                · rw [if_f hc15] at h
                                  have hd15 := hc15; try simp only [Bool.and_eq_true, Bool.or_eq_true, Bool.and_eq_false_iff, Bool.or_eq_false_iff, Bool.not_eq_true', Bool.not_eq_false', decide_eq_true_eq, decide_eq_false_iff_not, beq_iff_eq, beq_eq_false_iff_ne, ne_eq] at hd15
                                  refine ⟨fun hc16 => ?_, fun hc16 => ?_⟩
                                  · rw [if_t hc16] at h
                                    have hd16 := hc16; try simp only [Bool.and_eq_true, Bool.or_eq_true, Bool.and_eq_false_iff, Bool.or_eq_false_iff, Bool.not_eq_true', Bool.not_eq_false', decide_eq_true_eq, decide_eq_false_iff_not, beq_iff_eq, beq_eq_false_iff_ne, ne_eq] at hd16
                                    exact h
                                  · rw [if_f hc16] at h
                                    have hd16 := hc16; try simp only [Bool.and_eq_true, Bool.or_eq_true, Bool.and_eq_false_iff, Bool.or_eq_false_iff, Bool.not_eq_true', Bool.not_eq_false', decide_eq_true_eq, decide_eq_false_iff_not, beq_iff_eq, beq_eq_false_iff_ne, ne_eq] at hd16
                                    exact h
theorem cnam_F (xs : List UInt8) : cnamF xs (fun k0 k1 => (k0, k1) = cnamM xs) :=
  cnamF_A xs (fun z => z = cnamM xs) rfl
set_option linter.unusedVariables false in
theorem cnam_c {g : Ghost} (xs : List UInt8)  : CallsG Tryd.prog 43 #[.string ⟨⟨xs⟩⟩] g (.tuple #[.int .i64 ((cnamM xs).1), .bool ((cnamM xs).2)]) :=
  (cnam_ok xs _ (cnam_F xs)).gives (by rintro g' H' v _ ⟨r0, r1, rfl, rfl, hK⟩; obtain ⟨rfl, rfl⟩ : r0 = (cnamM xs).1 ∧ r1 = (cnamM xs).2 := ⟨congrArg (fun z => z.1) hK, congrArg (fun z => z.2) hK⟩; rfl)
def clowj16 (x10l9 : Int) (yownb1_0l9 : List (Int)) (C9 : Int → (List (Int)) → Prop) : Prop :=
  C9 (IntKind.wrap .i64 (x10l9 + 1)) (if ((decide ((yownb1_0l9.getD (Int.toNat x10l9) default) ≥ 65)) && (decide ((yownb1_0l9.getD (Int.toNat x10l9) default) ≤ 90))) = true then (yownb1_0l9.set (Int.toNat x10l9) (IntKind.wrap .u8 ((yownb1_0l9.getD (Int.toNat x10l9) default) + 32))) else yownb1_0l9)
def clowl9b (xs : List UInt8) (K : (List UInt8) → Prop) (x10l9 : Int) (yownb1_0l9 : List (Int)) (C9 : Int → (List (Int)) → Prop) : Prop :=
  ((decide (x10l9 < ((intsOf xs).length : Int))) = true → (0 : Int) ≤ x10l9 ∧ Int.toNat x10l9 < yownb1_0l9.length ∧ ((((decide ((yownb1_0l9.getD (Int.toNat x10l9) default) ≥ 65)) && (decide ((yownb1_0l9.getD (Int.toNat x10l9) default) ≤ 90)))) = true → clowj16 x10l9 yownb1_0l9 C9) ∧ ((((decide ((yownb1_0l9.getD (Int.toNat x10l9) default) ≥ 65)) && (decide ((yownb1_0l9.getD (Int.toNat x10l9) default) ≤ 90)))) = false → clowj16 x10l9 yownb1_0l9 C9)) ∧ ((decide (x10l9 < ((intsOf xs).length : Int))) = false → K (bytesOf yownb1_0l9))
def clowl9 (xs : List UInt8) (K : (List UInt8) → Prop) : Nat → Int → (List (Int)) → Prop
  | 0, _, _ => False
  | k + 1, x10l9, yownb1_0l9 => clowl9b xs K x10l9 yownb1_0l9 (clowl9 xs K k)
def clowF (xs : List UInt8) (K : (List UInt8) → Prop) : Prop :=
  ∃ k, clowl9 xs K k 0 (intsOf xs)
set_option maxHeartbeats 4000000 in
set_option maxRecDepth 100000 in
set_option linter.unusedVariables false in
theorem clow_ok {g : Ghost} (xs : List UInt8) (K : (List UInt8) → Prop)
    (hF : clowF xs K) : CallsH Tryd.prog 42 #[.string ⟨⟨xs⟩⟩] g [] (fun g' H' v => ∃ (r0 : List UInt8), v = .string ⟨⟨r0⟩⟩ ∧ H' = [] ∧ K r0) := by
  refine CallsH.enter 29 [(0, .string ⟨⟨xs⟩⟩)] Tryd.func42 rfl (by kernel_rfl) (by kernel_rfl) (by kernel_rfl) fun w0 => ?_
  refine Ok.seq ?_
  refine Ok.region ?_
  refine Ok.batch 1 [(0, .string ⟨⟨xs⟩⟩)] (by kernel_rfl) ?_
  refine Ok.nil ?_
  refine Ok.thenN ?_
  refine Ok.seq ?_
  refine Ok.region ?_
  refine Ok.batch 1 [(6, .string ⟨⟨xs⟩⟩)] (by kernel_rfl) ?_
  refine Ok.op rfl (OpOk.bytesB (s := xs) (by kernel_rfl) Tryd.underlying9 Tryd.underlying83 Tryd.underlying5 rfl fun a1 c1 xs1 hL1 => ?_)
  refine Ok.batch 1 [(3, .slice a1 (intsOf xs).length c1)] (by kernel_rfl) ?_
  refine Ok.nil ?_
  refine Ok.thenN ?_
  refine Ok.seq ?_
  refine Ok.seq ?_
  refine Ok.region ?_
  refine Ok.batch 3 [(3, .slice a1 (intsOf xs).length c1), (8, .slice a1 (intsOf xs).length c1), (9, .int .i64 ((intsOf xs).length : Int)), (10, .int .i64 0)] (by kernel_rfl) ?_
  refine Ok.nil ?_
  refine Ok.thenN ?_
  refine Ok.block ?_
  obtain ⟨k, hF⟩ := hF
  refine Ok.loop (fun k a W => ∃ gl9 : Ghost, Gext w0 g gl9 ∧ ∃ (x10l9 : Int) (ayownb1_0l9 : Option Addr) (cyownb1_0l9 : Nat) (yownb1_0l9 : List (Int)) (xsyownb1_0l9 : List Value), RepL gl9 (.int .u8) xsyownb1_0l9 yownb1_0l9 ∧ StA 29 [(3, .slice ayownb1_0l9 yownb1_0l9.length cyownb1_0l9), (8, .slice ayownb1_0l9 yownb1_0l9.length cyownb1_0l9), (9, .int .i64 ((intsOf xs).length : Int)), (10, .int .i64 x10l9)] a ∧ StW w0 [.ownb (.slice ayownb1_0l9 yownb1_0l9.length cyownb1_0l9) 5 yownb1_0l9.length xsyownb1_0l9] gl9 W ∧ clowl9 xs K k x10l9 yownb1_0l9) k ?_ ?_
  ·
    exact fun a W hA hW => ⟨g, (Gext.refl w0 g), 0, a1, c1, (intsOf xs), xs1, hL1, hA.sub (by kernel_rfl), hW, hF⟩
  ·
    clear hF
    rintro k9 a W ⟨gl9, hxl9, x10l9, ayownb1_0l9, cyownb1_0l9, yownb1_0l9, xsyownb1_0l9, hLyownb1_0l9, hA, hW, hF⟩
    cases k9 with
    | zero => exact (hF : False).elim
    | succ k9 =>
      refine (?_ : Ok _ _ _ _ _ _) a W hA hW
      clear hA hW
      refine Ok.seq ?_
      refine Ok.region ?_
      refine Ok.batch 1 [(3, .slice ayownb1_0l9 yownb1_0l9.length cyownb1_0l9), (8, .slice ayownb1_0l9 yownb1_0l9.length cyownb1_0l9), (9, .int .i64 ((intsOf xs).length : Int)), (10, .int .i64 x10l9), (11, .bool (decide (x10l9 < ((intsOf xs).length : Int))))] (by kernel_rfl) ?_
      refine Ok.nil ?_
      refine Ok.thenN ?_
      refine Ok.seq ?_
      refine Ok.cond (b := decide (x10l9 < ((intsOf xs).length : Int))) rfl (fun hc2 => ?_) (fun hc2 => ?_)
      · replace hF := hF.1 hc2
        refine Ok.skip ?_
        refine Ok.thenN ?_
        refine Ok.cut (fun a W => ∃ gj16 : Ghost, Gext w0 gl9 gj16 ∧ ∃ (ayownb1_0j16 : Option Addr) (cyownb1_0j16 : Nat) (xsyownb1_0j16 : List Value), RepL gj16 (.int .u8) xsyownb1_0j16 (if ((decide ((yownb1_0l9.getD (Int.toNat x10l9) default) ≥ 65)) && (decide ((yownb1_0l9.getD (Int.toNat x10l9) default) ≤ 90))) = true then (yownb1_0l9.set (Int.toNat x10l9) (IntKind.wrap .u8 ((yownb1_0l9.getD (Int.toNat x10l9) default) + 32))) else yownb1_0l9) ∧ StA 29 [(3, .slice ayownb1_0j16 (if ((decide ((yownb1_0l9.getD (Int.toNat x10l9) default) ≥ 65)) && (decide ((yownb1_0l9.getD (Int.toNat x10l9) default) ≤ 90))) = true then (yownb1_0l9.set (Int.toNat x10l9) (IntKind.wrap .u8 ((yownb1_0l9.getD (Int.toNat x10l9) default) + 32))) else yownb1_0l9).length cyownb1_0j16), (8, .slice ayownb1_0j16 (if ((decide ((yownb1_0l9.getD (Int.toNat x10l9) default) ≥ 65)) && (decide ((yownb1_0l9.getD (Int.toNat x10l9) default) ≤ 90))) = true then (yownb1_0l9.set (Int.toNat x10l9) (IntKind.wrap .u8 ((yownb1_0l9.getD (Int.toNat x10l9) default) + 32))) else yownb1_0l9).length cyownb1_0j16), (9, .int .i64 ((intsOf xs).length : Int)), (10, .int .i64 x10l9)] a ∧ StW w0 [.ownb (.slice ayownb1_0j16 (if ((decide ((yownb1_0l9.getD (Int.toNat x10l9) default) ≥ 65)) && (decide ((yownb1_0l9.getD (Int.toNat x10l9) default) ≤ 90))) = true then (yownb1_0l9.set (Int.toNat x10l9) (IntKind.wrap .u8 ((yownb1_0l9.getD (Int.toNat x10l9) default) + 32))) else yownb1_0l9).length cyownb1_0j16) 5 (if ((decide ((yownb1_0l9.getD (Int.toNat x10l9) default) ≥ 65)) && (decide ((yownb1_0l9.getD (Int.toNat x10l9) default) ≤ 90))) = true then (yownb1_0l9.set (Int.toNat x10l9) (IntKind.wrap .u8 ((yownb1_0l9.getD (Int.toNat x10l9) default) + 32))) else yownb1_0l9).length xsyownb1_0j16] gj16 W ∧ clowj16 x10l9 yownb1_0l9 (clowl9 xs K k9)) ?_ ?_
        ·
          refine Ok.block ?_
          refine Ok.seq ?_
          refine Ok.region ?_
          refine Ok.batch 1 [(3, .slice ayownb1_0l9 yownb1_0l9.length cyownb1_0l9), (8, .slice ayownb1_0l9 yownb1_0l9.length cyownb1_0l9), (9, .int .i64 ((intsOf xs).length : Int)), (10, .int .i64 x10l9), (12, .int .i64 x10l9)] (by kernel_rfl) ?_
          obtain ⟨h04, h14, hF⟩ := hF
          have he4 := get_of (l := yownb1_0l9) (default : Int) h14
          generalize hg4 : (yownb1_0l9.getD (Int.toNat x10l9) default) = e4 at he4 hF ⊢
          refine Ok.op rfl (OpOk.indexB (q := x10l9) (el := e4) 0 rfl hLyownb1_0l9 rfl rfl Tryd.underlying83 (by kernel_rfl) h04 he4 rfl fun hc3 => ?_)
          refine Ok.op rfl (OpOk.step (v := .int .u8 e4) (Yields.loadB 0 0 rfl hc3 rfl Tryd.underlying5 rfl (by kernel_rfl)) rfl rfl ?_)
          refine Ok.batch 2 [(3, .slice ayownb1_0l9 yownb1_0l9.length cyownb1_0l9), (4, .int .i64 x10l9), (5, .int .u8 e4), (8, .slice ayownb1_0l9 yownb1_0l9.length cyownb1_0l9), (9, .int .i64 ((intsOf xs).length : Int)), (10, .int .i64 x10l9)] (by kernel_rfl) ?_
          refine Ok.nil ?_
          refine Ok.thenN ?_
          refine Ok.seq ?_
          refine Ok.region ?_
          refine Ok.batch 3 [(3, .slice ayownb1_0l9 yownb1_0l9.length cyownb1_0l9), (4, .int .i64 x10l9), (5, .int .u8 e4), (8, .slice ayownb1_0l9 yownb1_0l9.length cyownb1_0l9), (9, .int .i64 ((intsOf xs).length : Int)), (10, .int .i64 x10l9), (17, .bool (decide (e4 ≥ 65)))] (by kernel_rfl) ?_
          refine Ok.midway 3 [(3, .slice ayownb1_0l9 yownb1_0l9.length cyownb1_0l9), (4, .int .i64 x10l9), (5, .int .u8 e4), (8, .slice ayownb1_0l9 yownb1_0l9.length cyownb1_0l9), (9, .int .i64 ((intsOf xs).length : Int)), (10, .int .i64 x10l9), (20, .bool ((decide (e4 ≥ 65)) && (decide (e4 ≤ 90))))] (fun hR5 => ?_) ?_
          · refine Ok.boolAt 17 (decide (e4 ≥ 65)) rfl (fun hc6 => ?_) (fun hc6 => ?_)
            · skip
              refine Ok.batch 3 [(3, .slice ayownb1_0l9 yownb1_0l9.length cyownb1_0l9), (4, .int .i64 x10l9), (5, .int .u8 e4), (8, .slice ayownb1_0l9 yownb1_0l9.length cyownb1_0l9), (9, .int .i64 ((intsOf xs).length : Int)), (10, .int .i64 x10l9), (20, .bool (decide (e4 ≤ 90)))] (by kernel_rfl) ?_
              refine Ok.reval 20 rfl (show (.bool (decide (e4 ≤ 90)) : Value) = .bool ((decide (e4 ≥ 65)) && (decide (e4 ≤ 90))) from congrArg Value.bool (mand_t hc6)) ?_
              refine Ok.batch 0 [(3, .slice ayownb1_0l9 yownb1_0l9.length cyownb1_0l9), (4, .int .i64 x10l9), (5, .int .u8 e4), (8, .slice ayownb1_0l9 yownb1_0l9.length cyownb1_0l9), (9, .int .i64 ((intsOf xs).length : Int)), (10, .int .i64 x10l9), (20, .bool ((decide (e4 ≥ 65)) && (decide (e4 ≤ 90))))] (by kernel_rfl) ?_
              exact hR5
            · skip
              refine Ok.batch 3 [(3, .slice ayownb1_0l9 yownb1_0l9.length cyownb1_0l9), (4, .int .i64 x10l9), (5, .int .u8 e4), (8, .slice ayownb1_0l9 yownb1_0l9.length cyownb1_0l9), (9, .int .i64 ((intsOf xs).length : Int)), (10, .int .i64 x10l9), (20, .bool false)] (by kernel_rfl) ?_
              refine Ok.reval 20 rfl (show (.bool false : Value) = .bool ((decide (e4 ≥ 65)) && (decide (e4 ≤ 90))) from congrArg Value.bool (mand_f hc6)) ?_
              refine Ok.batch 0 [(3, .slice ayownb1_0l9 yownb1_0l9.length cyownb1_0l9), (4, .int .i64 x10l9), (5, .int .u8 e4), (8, .slice ayownb1_0l9 yownb1_0l9.length cyownb1_0l9), (9, .int .i64 ((intsOf xs).length : Int)), (10, .int .i64 x10l9), (20, .bool ((decide (e4 ≥ 65)) && (decide (e4 ≤ 90))))] (by kernel_rfl) ?_
              exact hR5
          refine Ok.nil ?_
          refine Ok.thenN ?_
          refine Ok.cond (b := ((decide (e4 ≥ 65)) && (decide (e4 ≤ 90)))) rfl (fun hc7 => ?_) (fun hc7 => ?_)
          · replace hF := hF.1 hc7
            refine Ok.region ?_
            refine Ok.batch 4 [(3, .slice ayownb1_0l9 yownb1_0l9.length cyownb1_0l9), (8, .slice ayownb1_0l9 yownb1_0l9.length cyownb1_0l9), (9, .int .i64 ((intsOf xs).length : Int)), (10, .int .i64 x10l9), (21, .slice ayownb1_0l9 yownb1_0l9.length cyownb1_0l9), (22, .int .i64 x10l9), (24, .int .u8 (IntKind.wrap .u8 (e4 + 32)))] (by kernel_rfl) ?_
            refine Ok.op rfl (OpOk.indexB (q := x10l9) (el := e4) 0 rfl hLyownb1_0l9 rfl rfl Tryd.underlying83 (by kernel_rfl) h04 he4 rfl fun hc8 => ?_)
            refine Ok.op rfl (OpOk.storeB (q := Int.toNat x10l9) (el' := IntKind.wrap .u8 (e4 + 32)) 0 rfl hLyownb1_0l9 hc8 rfl rfl (by kernel_rfl) fun xs9 hL9 => ?_)
            rw [show yownb1_0l9.length = (yownb1_0l9.set (Int.toNat x10l9) (IntKind.wrap .u8 (e4 + 32))).length from (List.length_set ..).symm]
            refine Ok.nil ?_
            refine Ok.blockN ?_
            refine Ok.thenN ?_
            subst hg4
            refine Ok.reval 3 rfl (show (.slice ayownb1_0l9 (yownb1_0l9.set (Int.toNat x10l9) (IntKind.wrap .u8 ((yownb1_0l9.getD (Int.toNat x10l9) default) + 32))).length cyownb1_0l9 : Value) = .slice ayownb1_0l9 (if ((decide ((yownb1_0l9.getD (Int.toNat x10l9) default) ≥ 65)) && (decide ((yownb1_0l9.getD (Int.toNat x10l9) default) ≤ 90))) = true then (yownb1_0l9.set (Int.toNat x10l9) (IntKind.wrap .u8 ((yownb1_0l9.getD (Int.toNat x10l9) default) + 32))) else yownb1_0l9).length cyownb1_0l9 from congrArg (fun l : List (Int) => Value.slice ayownb1_0l9 l.length cyownb1_0l9) ((if_t hc7).symm)) ?_
            refine Ok.reval 8 rfl (show (.slice ayownb1_0l9 (yownb1_0l9.set (Int.toNat x10l9) (IntKind.wrap .u8 ((yownb1_0l9.getD (Int.toNat x10l9) default) + 32))).length cyownb1_0l9 : Value) = .slice ayownb1_0l9 (if ((decide ((yownb1_0l9.getD (Int.toNat x10l9) default) ≥ 65)) && (decide ((yownb1_0l9.getD (Int.toNat x10l9) default) ≤ 90))) = true then (yownb1_0l9.set (Int.toNat x10l9) (IntKind.wrap .u8 ((yownb1_0l9.getD (Int.toNat x10l9) default) + 32))) else yownb1_0l9).length cyownb1_0l9 from congrArg (fun l : List (Int) => Value.slice ayownb1_0l9 l.length cyownb1_0l9) ((if_t hc7).symm)) ?_
            refine Ok.heapEq (H' := [.ownb (.slice ayownb1_0l9 (if ((decide ((yownb1_0l9.getD (Int.toNat x10l9) default) ≥ 65)) && (decide ((yownb1_0l9.getD (Int.toNat x10l9) default) ≤ 90))) = true then (yownb1_0l9.set (Int.toNat x10l9) (IntKind.wrap .u8 ((yownb1_0l9.getD (Int.toNat x10l9) default) + 32))) else yownb1_0l9).length cyownb1_0l9) 5 (if ((decide ((yownb1_0l9.getD (Int.toNat x10l9) default) ≥ 65)) && (decide ((yownb1_0l9.getD (Int.toNat x10l9) default) ≤ 90))) = true then (yownb1_0l9.set (Int.toNat x10l9) (IntKind.wrap .u8 ((yownb1_0l9.getD (Int.toNat x10l9) default) + 32))) else yownb1_0l9).length xs9]) (econs (congrArg (fun l : List (Int) => Ent.ownb (.slice ayownb1_0l9 l.length cyownb1_0l9) 5  l.length xs9) ((if_t hc7).symm)) rfl) ?_
            exact fun a W hA hW => ⟨gl9, (Gext.refl w0 gl9), ayownb1_0l9, cyownb1_0l9, xs9, (Eq.mp (congrArg (fun l : List (Int) => RepL gl9 (.int .u8) xs9 l) ((if_t hc7).symm)) hL9), hA.sub (by kernel_rfl), hW, hF⟩
          · replace hF := hF.2 hc7
            refine Ok.skip ?_
            refine Ok.blockN ?_
            refine Ok.thenN ?_
            subst hg4
            refine Ok.reval 3 rfl (show (.slice ayownb1_0l9 yownb1_0l9.length cyownb1_0l9 : Value) = .slice ayownb1_0l9 (if ((decide ((yownb1_0l9.getD (Int.toNat x10l9) default) ≥ 65)) && (decide ((yownb1_0l9.getD (Int.toNat x10l9) default) ≤ 90))) = true then (yownb1_0l9.set (Int.toNat x10l9) (IntKind.wrap .u8 ((yownb1_0l9.getD (Int.toNat x10l9) default) + 32))) else yownb1_0l9).length cyownb1_0l9 from congrArg (fun l : List (Int) => Value.slice ayownb1_0l9 l.length cyownb1_0l9) ((if_f hc7).symm)) ?_
            refine Ok.reval 8 rfl (show (.slice ayownb1_0l9 yownb1_0l9.length cyownb1_0l9 : Value) = .slice ayownb1_0l9 (if ((decide ((yownb1_0l9.getD (Int.toNat x10l9) default) ≥ 65)) && (decide ((yownb1_0l9.getD (Int.toNat x10l9) default) ≤ 90))) = true then (yownb1_0l9.set (Int.toNat x10l9) (IntKind.wrap .u8 ((yownb1_0l9.getD (Int.toNat x10l9) default) + 32))) else yownb1_0l9).length cyownb1_0l9 from congrArg (fun l : List (Int) => Value.slice ayownb1_0l9 l.length cyownb1_0l9) ((if_f hc7).symm)) ?_
            refine Ok.heapEq (H' := [.ownb (.slice ayownb1_0l9 (if ((decide ((yownb1_0l9.getD (Int.toNat x10l9) default) ≥ 65)) && (decide ((yownb1_0l9.getD (Int.toNat x10l9) default) ≤ 90))) = true then (yownb1_0l9.set (Int.toNat x10l9) (IntKind.wrap .u8 ((yownb1_0l9.getD (Int.toNat x10l9) default) + 32))) else yownb1_0l9).length cyownb1_0l9) 5 (if ((decide ((yownb1_0l9.getD (Int.toNat x10l9) default) ≥ 65)) && (decide ((yownb1_0l9.getD (Int.toNat x10l9) default) ≤ 90))) = true then (yownb1_0l9.set (Int.toNat x10l9) (IntKind.wrap .u8 ((yownb1_0l9.getD (Int.toNat x10l9) default) + 32))) else yownb1_0l9).length xsyownb1_0l9]) (econs (congrArg (fun l : List (Int) => Ent.ownb (.slice ayownb1_0l9 l.length cyownb1_0l9) 5  l.length xsyownb1_0l9) ((if_f hc7).symm)) rfl) ?_
            exact fun a W hA hW => ⟨gl9, (Gext.refl w0 gl9), ayownb1_0l9, cyownb1_0l9, xsyownb1_0l9, (Eq.mp (congrArg (fun l : List (Int) => RepL gl9 (.int .u8) xsyownb1_0l9 l) ((if_f hc7).symm)) hLyownb1_0l9), hA.sub (by kernel_rfl), hW, hF⟩
        ·
          clear hF
          rintro a W ⟨gj16, hxj16, ayownb1_0j16, cyownb1_0j16, xsyownb1_0j16, hLyownb1_0j16, hA, hW, hF⟩
          refine (?_ : Ok _ _ _ _ _ _) a W hA hW
          clear hA hW
          refine Ok.region ?_
          refine Ok.batch 2 [(3, .slice ayownb1_0j16 (if ((decide ((yownb1_0l9.getD (Int.toNat x10l9) default) ≥ 65)) && (decide ((yownb1_0l9.getD (Int.toNat x10l9) default) ≤ 90))) = true then (yownb1_0l9.set (Int.toNat x10l9) (IntKind.wrap .u8 ((yownb1_0l9.getD (Int.toNat x10l9) default) + 32))) else yownb1_0l9).length cyownb1_0j16), (8, .slice ayownb1_0j16 (if ((decide ((yownb1_0l9.getD (Int.toNat x10l9) default) ≥ 65)) && (decide ((yownb1_0l9.getD (Int.toNat x10l9) default) ≤ 90))) = true then (yownb1_0l9.set (Int.toNat x10l9) (IntKind.wrap .u8 ((yownb1_0l9.getD (Int.toNat x10l9) default) + 32))) else yownb1_0l9).length cyownb1_0j16), (9, .int .i64 ((intsOf xs).length : Int)), (10, .int .i64 (IntKind.wrap .i64 (x10l9 + 1)))] (by kernel_rfl) ?_
          refine Ok.nil ?_
          refine Ok.thenN ?_
          exact fun a W hA hW => ⟨k9, Nat.lt_succ_self _, gj16, (hxl9.trans hxj16), IntKind.wrap .i64 (x10l9 + 1), ayownb1_0j16, cyownb1_0j16, (if ((decide ((yownb1_0l9.getD (Int.toNat x10l9) default) ≥ 65)) && (decide ((yownb1_0l9.getD (Int.toNat x10l9) default) ≤ 90))) = true then (yownb1_0l9.set (Int.toNat x10l9) (IntKind.wrap .u8 ((yownb1_0l9.getD (Int.toNat x10l9) default) + 32))) else yownb1_0l9), xsyownb1_0j16, hLyownb1_0j16, hA.sub (by kernel_rfl), hW, hF⟩
      · replace hF := hF.2 hc2
        refine Ok.exit ?_
        refine Ok.thenE ?_
        refine Ok.thenE ?_
        refine Ok.blockHit ?_
        refine Ok.thenN ?_
        refine Ok.seq ?_
        refine Ok.region ?_
        refine Ok.batch 1 [(27, .slice ayownb1_0l9 yownb1_0l9.length cyownb1_0l9)] (by kernel_rfl) ?_
        refine Ok.op rfl (OpOk.step (v := .string ⟨⟨(bytesOf yownb1_0l9)⟩⟩) (Yields.strOfB 0 (by kernel_rfl) rfl rfl hLyownb1_0l9 Tryd.underlying83 Tryd.underlying9 Tryd.underlying5) rfl rfl ?_)
        refine Ok.batch 1 [(2, .string ⟨⟨(bytesOf yownb1_0l9)⟩⟩)] (by kernel_rfl) ?_
        refine Ok.nil ?_
        refine Ok.thenN ?_
        refine Ok.ret ?_
        exact Ok.resP (vs := [.string ⟨⟨(bytesOf yownb1_0l9)⟩⟩]) [] [] (by decide) rfl (.inl rfl) rfl (.cons (.tmp rfl) .nil) hxl9 ⟨(bytesOf yownb1_0l9), rfl, rfl, hF⟩
def lowB (c : UInt8) : UInt8 := if (decide ((c.toNat : Int) ≥ 65) && decide ((c.toNat : Int) ≤ 90)) = true then c + 32 else c
def clowS (s : List UInt8) : List UInt8 := s.map lowB
def clowP (s : List UInt8) : Prop := s.length ≤ 281474976710656
theorem low_ok (c : UInt8) : (IntKind.wrap .u8 ((c.toNat : Int) + 32) = ((c + 32).toNat : Int)) := by
  have := byte_all (p := fun c => decide (IntKind.wrap .u8 ((c.toNat : Int) + 32) = ((c + 32).toNat : Int))) (by decide +kernel) c
  exact of_decide_eq_true this
theorem clow_F (s : List UInt8) (hp : clowP s) : clowF s (fun r => r = clowS s) := by
  unfold clowP at hp
  have hil : (intsOf s).length = s.length := intsOf_length s
  have loop : ∀ (k i : Nat), i + k = s.length → clowl9 s (fun r => r = clowS s) (k + 1) (i : Int) (intsOf ((s.take i).map lowB ++ s.drop i)) := by
    intro k
    induction k with
    | zero =>
      intro i h
      have hn : decide ((i : Int) < ((intsOf s).length : Int)) = false := decide_eq_false (by omega)
      refine ⟨fun h => (Bool.false_ne_true (hn.symm.trans h)).elim, fun _ => ?_⟩
      rw [bytesOf_intsOf, List.take_of_length_le (by omega), List.drop_of_length_le (by omega), List.append_nil]; rfl
    | succ k ih =>
      intro i h
      have hn : decide ((i : Int) < ((intsOf s).length : Int)) = true := decide_eq_true (by omega)
      have hA : (intsOf ((s.take i).map lowB)).length = i := by rw [intsOf_length, List.length_map, List.length_take]; omega
      have hl : intsOf ((s.take i).map lowB ++ s.drop i) = intsOf ((s.take i).map lowB) ++ ((s.getD i 0).toNat : Int) :: intsOf (s.drop (i + 1)) := by
        rw [drop_get (l := s) 0 (by omega)]
        unfold intsOf
        rw [List.map_append, List.map_cons]
      have hg : (intsOf ((s.take i).map lowB ++ s.drop i)).getD i default = ((s.getD i 0).toNat : Int) := by
        rw [hl, List.getD_eq_getElem?_getD, List.getElem?_append_right (by omega), hA, Nat.sub_self]; rfl
      have hlen : (intsOf ((s.take i).map lowB ++ s.drop i)).length = s.length := by
        rw [hl, List.length_append, hA, List.length_cons, intsOf_length, List.length_drop]; omega
      have hs : ∀ y, (intsOf ((s.take i).map lowB ++ s.drop i)).set i y = intsOf ((s.take i).map lowB) ++ y :: intsOf (s.drop (i + 1)) := fun y => by
        rw [hl, List.set_append_right _ _ (by omega), hA, Nat.sub_self]; rfl
      have j16 : clowj16 (i : Int) (intsOf ((s.take i).map lowB ++ s.drop i)) (clowl9 s (fun r => r = clowS s) (k + 1)) := by
        unfold clowj16
        rw [Int.toNat_natCast, hg, w64 (by omega)]
        have e : (if (decide (((s.getD i 0).toNat : Int) ≥ 65) && decide (((s.getD i 0).toNat : Int) ≤ 90)) = true then ((intsOf ((s.take i).map lowB ++ s.drop i)).set i (IntKind.wrap .u8 (((s.getD i 0).toNat : Int) + 32))) else intsOf ((s.take i).map lowB ++ s.drop i)) = intsOf ((s.take (i + 1)).map lowB ++ s.drop (i + 1)) := by
          rw [take_get (l := s) 0 (by omega), List.map_append, List.append_assoc]
          have e2 : intsOf ((s.take i).map lowB ++ ([s.getD i 0].map lowB ++ s.drop (i + 1))) = intsOf ((s.take i).map lowB) ++ ((lowB (s.getD i 0)).toNat : Int) :: intsOf (s.drop (i + 1)) := by
            unfold intsOf; rw [List.map_append]; rfl
          rw [e2, show lowB (s.getD i 0) = if (decide (((s.getD i 0).toNat : Int) ≥ 65) && decide (((s.getD i 0).toNat : Int) ≤ 90)) = true then s.getD i 0 + 32 else s.getD i 0 from rfl]
          cases hc : (decide (((s.getD i 0).toNat : Int) ≥ 65) && decide (((s.getD i 0).toNat : Int) ≤ 90))
          · rw [if_neg Bool.false_ne_true, if_neg Bool.false_ne_true, hl]
          · rw [if_pos rfl, if_pos rfl, hs, low_ok]
        rw [e]
        exact ih (i + 1) (by omega)
      exact ⟨fun _ => ⟨by omega, by rw [Int.toNat_natCast]; omega, fun _ => j16, fun _ => j16⟩, fun h => (Bool.false_ne_true (h.symm.trans hn)).elim⟩
  exact ⟨_, loop s.length 0 (by omega)⟩
set_option linter.unusedVariables false in
theorem clow_c {g : Ghost} (xs : List UInt8)  (hp : clowP xs) : CallsG Tryd.prog 42 #[.string ⟨⟨xs⟩⟩] g (.string ⟨⟨(clowS xs)⟩⟩) :=
  (clow_ok xs _ (clow_F xs hp)).gives (by rintro g' H' v _ ⟨r0, rfl, rfl, hK⟩; subst hK; rfl)
def chexj36 (K : Int → Bool → Prop) (x0j11 : List UInt8) : Prop :=
  puiP (if ((x0j11.length : Int) == 6) = true then x0j11 ++ ([102, 102] : List UInt8) else x0j11) ∧ (((puS (if ((x0j11.length : Int) == 6) = true then x0j11 ++ ([102, 102] : List UInt8) else x0j11)).2) = true → K (IntKind.wrap .i64 ((puS (if ((x0j11.length : Int) == 6) = true then x0j11 ++ ([102, 102] : List UInt8) else x0j11)).1)) (((if ((x0j11.length : Int) == 6) = true then x0j11 ++ ([102, 102] : List UInt8) else x0j11).length : Int) == 8)) ∧ (((puS (if ((x0j11.length : Int) == 6) = true then x0j11 ++ ([102, 102] : List UInt8) else x0j11)).2) = false → K (IntKind.wrap .i64 ((puS (if ((x0j11.length : Int) == 6) = true then x0j11 ++ ([102, 102] : List UInt8) else x0j11)).1)) false)
def chexj11 (K : Int → Bool → Prop) (x0j11 : List UInt8) : Prop :=
  ((((x0j11.length : Int) == 6)) = true → x0j11.length + ([102, 102] : List UInt8).length ≤ maxLen ∧ chexj36 K x0j11) ∧ ((((x0j11.length : Int) == 6)) = false → chexj36 K x0j11)
def chexl21b (xs : List UInt8) (K : Int → Bool → Prop) (x21l21 : Int) (yown10_0l21 : List (Int)) (C21 : Int → (List (Int)) → Prop) : Prop :=
  ((decide (x21l21 < (xs.length : Int))) = true → (0 : Int) ≤ x21l21 ∧ (x21l21 : Int) ≤ (IntKind.wrap .i64 (x21l21 + 1)) ∧ (IntKind.wrap .i64 (x21l21 + 1)) ≤ (xs.length : Int) ∧ rptP ((xs.take (Int.toNat (IntKind.wrap .i64 (x21l21 + 1)))).drop (Int.toNat x21l21)) 2 ∧ Bld.wsP yown10_0l21 (rptS ((xs.take (Int.toNat (IntKind.wrap .i64 (x21l21 + 1)))).drop (Int.toNat x21l21)) 2) ∧ C21 (IntKind.wrap .i64 (x21l21 + 1)) ((Bld.wsS yown10_0l21 (rptS ((xs.take (Int.toNat (IntKind.wrap .i64 (x21l21 + 1)))).drop (Int.toNat x21l21)) 2)).2.2)) ∧ ((decide (x21l21 < (xs.length : Int))) = false → Bld.stP yown10_0l21 ∧ chexj11 K (bytesOf yown10_0l21))
def chexl21 (xs : List UInt8) (K : Int → Bool → Prop) : Nat → Int → (List (Int)) → Prop
  | 0, _, _ => False
  | k + 1, x21l21, yown10_0l21 => chexl21b xs K x21l21 yown10_0l21 (chexl21 xs K k)
def chexF (xs : List UInt8) (K : Int → Bool → Prop) : Prop :=
  trimP xs ([48, 49, 50, 51, 52, 53, 54, 55, 56, 57, 97, 98, 99, 100, 101, 102] : List UInt8) ∧ ((!((trimS xs ([48, 49, 50, 51, 52, 53, 54, 55, 56, 57, 97, 98, 99, 100, 101, 102] : List UInt8)) == ([] : List UInt8))) = true → K 0 false) ∧ ((!((trimS xs ([48, 49, 50, 51, 52, 53, 54, 55, 56, 57, 97, 98, 99, 100, 101, 102] : List UInt8)) == ([] : List UInt8))) = false → (((((xs.length : Int) == 3) || ((xs.length : Int) == 4))) = true → ∃ k, chexl21 xs K k 0 ([] : List (Int))) ∧ (((((xs.length : Int) == 3) || ((xs.length : Int) == 4))) = false → chexj11 K xs))
set_option maxHeartbeats 4000000 in
set_option maxRecDepth 100000 in
set_option linter.unusedVariables false in
theorem chex_ok {g : Ghost} (xs : List UInt8) (hG3 : SomeIf g 3) (hG4 : SomeIf g 4) (K : Int → Bool → Prop)
    (hF : chexF xs K) : CallsH Tryd.prog 45 #[.string ⟨⟨xs⟩⟩] g [] (fun g' H' v => ∃ (r0 : Int), ∃ (r1 : Bool), v = .tuple #[.int .i64 r0, .bool r1] ∧ H' = [] ∧ K r0 r1) := by
  refine CallsH.enter 52 [(0, .string ⟨⟨xs⟩⟩)] Tryd.func45 rfl (by kernel_rfl) (by kernel_rfl) (by kernel_rfl) fun w0 => ?_
  refine Ok.seq ?_
  refine Ok.region ?_
  refine Ok.batch 2 [(0, .string ⟨⟨xs⟩⟩)] (by kernel_rfl) ?_
  refine Ok.nil ?_
  refine Ok.thenN ?_
  refine Ok.seq ?_
  refine Ok.seq ?_
  refine Ok.region ?_
  refine Ok.batch 1 [(0, .string ⟨⟨xs⟩⟩), (8, .string ⟨⟨xs⟩⟩)] (by kernel_rfl) ?_
  obtain ⟨hp1, hF⟩ := hF
  refine Ok.op rfl (OpOk.callG (v := .string ⟨⟨(trimS xs ([48, 49, 50, 51, 52, 53, 54, 55, 56, 57, 97, 98, 99, 100, 101, 102] : List UInt8))⟩⟩) (enters (by kernel_rfl) (fun _ => by kernel_rfl)) (fun W hW => trim_c xs ([48, 49, 50, 51, 52, 53, 54, 55, 56, 57, 97, 98, 99, 100, 101, 102] : List UInt8) hp1) rfl ?_)
  refine Ok.op rfl (OpOk.step (v := .bool (!((trimS xs ([48, 49, 50, 51, 52, 53, 54, 55, 56, 57, 97, 98, 99, 100, 101, 102] : List UInt8)) == ([] : List UInt8)))) (Yields.strCmp (f := .neq) (a := (trimS xs ([48, 49, 50, 51, 52, 53, 54, 55, 56, 57, 97, 98, 99, 100, 101, 102] : List UInt8))) (b := ([] : List UInt8)) (by kernel_rfl) (by kernel_rfl) rfl) rfl rfl ?_)
  refine Ok.nil ?_
  refine Ok.thenN ?_
  refine Ok.cond (b := !((trimS xs ([48, 49, 50, 51, 52, 53, 54, 55, 56, 57, 97, 98, 99, 100, 101, 102] : List UInt8)) == ([] : List UInt8))) rfl (fun hc2 => ?_) (fun hc2 => ?_)
  · replace hF := hF.1 hc2
    refine Ok.seq ?_
    refine Ok.region ?_
    refine Ok.batch 2 [(2, .int .i64 0), (3, .bool false)] (by kernel_rfl) ?_
    refine Ok.nil ?_
    refine Ok.thenN ?_
    refine Ok.ret ?_
    refine Ok.thenR ?_
    exact Ok.resH (vs := [.int .i64 0, .bool false]) (.inl rfl) rfl (.cons (.tmp rfl) (.cons (.tmp rfl) .nil)) (Gext.refl w0 g) ⟨0, false, rfl, rfl, hF⟩
  · replace hF := hF.2 hc2
    refine Ok.skip ?_
    refine Ok.thenN ?_
    refine Ok.cut (fun a W => ∃ gj11 : Ghost, Gext w0 g gj11 ∧ ∃ (x0j11 : List UInt8), StA 52 [(0, .string ⟨⟨x0j11⟩⟩)] a ∧ StW w0 [] gj11 W ∧ chexj11 K x0j11) ?_ ?_
    ·
      refine Ok.seq ?_
      refine Ok.region ?_
      refine Ok.batch 4 [(0, .string ⟨⟨xs⟩⟩), (14, .bool ((xs.length : Int) == 3))] (by kernel_rfl) ?_
      refine Ok.midway 4 [(0, .string ⟨⟨xs⟩⟩), (18, .bool (((xs.length : Int) == 3) || ((xs.length : Int) == 4)))] (fun hR7 => ?_) ?_
      · refine Ok.boolAt 14 (((xs.length : Int) == 3)) rfl (fun hc8 => ?_) (fun hc8 => ?_)
        · skip
          refine Ok.batch 4 [(0, .string ⟨⟨xs⟩⟩), (18, .bool true)] (by kernel_rfl) ?_
          refine Ok.reval 18 rfl (show (.bool true : Value) = .bool (((xs.length : Int) == 3) || ((xs.length : Int) == 4)) from congrArg Value.bool (mor_t hc8)) ?_
          refine Ok.batch 0 [(0, .string ⟨⟨xs⟩⟩), (18, .bool (((xs.length : Int) == 3) || ((xs.length : Int) == 4)))] (by kernel_rfl) ?_
          exact hR7
        · skip
          refine Ok.batch 4 [(0, .string ⟨⟨xs⟩⟩), (18, .bool ((xs.length : Int) == 4))] (by kernel_rfl) ?_
          refine Ok.reval 18 rfl (show (.bool ((xs.length : Int) == 4) : Value) = .bool (((xs.length : Int) == 3) || ((xs.length : Int) == 4)) from congrArg Value.bool (mor_f hc8)) ?_
          refine Ok.batch 0 [(0, .string ⟨⟨xs⟩⟩), (18, .bool (((xs.length : Int) == 3) || ((xs.length : Int) == 4)))] (by kernel_rfl) ?_
          exact hR7
      refine Ok.nil ?_
      refine Ok.thenN ?_
      refine Ok.cond (b := (((xs.length : Int) == 3) || ((xs.length : Int) == 4))) rfl (fun hc9 => ?_) (fun hc9 => ?_)
      · replace hF := hF.1 hc9
        refine Ok.seq ?_
        refine Ok.region ?_
        have hL10 : RepL g (.int .u8) [] [] := rfl
        refine Ok.ownNil 5 1 ?_
        refine Ok.op rfl (OpOk.alloc (z := .agg #[.pointer none, .slice none 0 0]) (cs := #[.pointer none, .slice none 0 0]) (by kernel_rfl) (by kernel_rfl) rfl fun b11 => ?_)
        refine Ok.bhd ?_
        refine Ok.nil ?_
        refine Ok.thenN ?_
        refine Ok.seq ?_
        refine Ok.seq ?_
        refine Ok.region ?_
        refine Ok.batch 3 [(0, .string ⟨⟨xs⟩⟩), (4, .pointer (some ⟨b11, 0, none⟩)), (20, .int .i64 (xs.length : Int)), (21, .int .i64 0)] (by kernel_rfl) ?_
        refine Ok.nil ?_
        refine Ok.thenN ?_
        refine Ok.block ?_
        obtain ⟨k, hF⟩ := hF
        refine Ok.loop (fun k a W => ∃ gl21 : Ghost, Gext w0 g gl21 ∧ ∃ (x21l21 : Int) (ayown10_0l21 : Option Addr) (cyown10_0l21 : Nat) (yown10_0l21 : List (Int)) (xsyown10_0l21 : List Value), RepL gl21 (.int .u8) xsyown10_0l21 yown10_0l21 ∧ StA 52 [(0, .string ⟨⟨xs⟩⟩), (4, .pointer (some ⟨b11, 0, none⟩)), (20, .int .i64 (xs.length : Int)), (21, .int .i64 x21l21)] a ∧ StW w0 [.bhd b11 86 (.slice ayown10_0l21 yown10_0l21.length cyown10_0l21), .own (.slice ayown10_0l21 yown10_0l21.length cyown10_0l21) 5 1 yown10_0l21.length xsyown10_0l21] gl21 W ∧ chexl21 xs K k x21l21 yown10_0l21) k ?_ ?_
        ·
          exact fun a W hA hW => ⟨g, (Gext.refl w0 g), 0, none, 0, ([] : List (Int)), [], hL10, hA.sub (by kernel_rfl), hW, hF⟩
        ·
          clear hF
          rintro k21 a W ⟨gl21, hxl21, x21l21, ayown10_0l21, cyown10_0l21, yown10_0l21, xsyown10_0l21, hLyown10_0l21, hA, hW, hF⟩
          cases k21 with
          | zero => exact (hF : False).elim
          | succ k21 =>
            refine (?_ : Ok _ _ _ _ _ _) a W hA hW
            clear hA hW
            replace hG3 := hG3.mono hxl21.1
            replace hG4 := hG4.mono hxl21.1
            refine Ok.seq ?_
            refine Ok.region ?_
            refine Ok.batch 1 [(0, .string ⟨⟨xs⟩⟩), (4, .pointer (some ⟨b11, 0, none⟩)), (20, .int .i64 (xs.length : Int)), (21, .int .i64 x21l21), (22, .bool (decide (x21l21 < (xs.length : Int))))] (by kernel_rfl) ?_
            refine Ok.nil ?_
            refine Ok.thenN ?_
            refine Ok.seq ?_
            refine Ok.cond (b := decide (x21l21 < (xs.length : Int))) rfl (fun hc12 => ?_) (fun hc12 => ?_)
            · replace hF := hF.1 hc12
              refine Ok.skip ?_
              refine Ok.thenN ?_
              refine Ok.seq ?_
              refine Ok.block ?_
              refine Ok.seq ?_
              refine Ok.region ?_
              refine Ok.batch 2 [(0, .string ⟨⟨xs⟩⟩), (4, .pointer (some ⟨b11, 0, none⟩)), (5, .int .i64 x21l21), (20, .int .i64 (xs.length : Int)), (21, .int .i64 x21l21)] (by kernel_rfl) ?_
              refine Ok.nil ?_
              refine Ok.thenN ?_
              refine Ok.region ?_
              refine Ok.batch 4 [(0, .string ⟨⟨xs⟩⟩), (4, .pointer (some ⟨b11, 0, none⟩)), (20, .int .i64 (xs.length : Int)), (21, .int .i64 x21l21), (24, .string ⟨⟨xs⟩⟩), (25, .int .i64 x21l21), (27, .int .i64 (IntKind.wrap .i64 (x21l21 + 1)))] (by kernel_rfl) ?_
              obtain ⟨h013, h113, h213, hF⟩ := hF
              refine Ok.op rfl (OpOk.step (v := .string ⟨⟨(xs.take (Int.toNat (IntKind.wrap .i64 (x21l21 + 1)))).drop (Int.toNat x21l21)⟩⟩) (Yields.sliceStr (s := xs) (l := x21l21) (h := (IntKind.wrap .i64 (x21l21 + 1))) (by kernel_rfl) Tryd.underlying9 (.inl ⟨_, _, rfl, rfl⟩) (.inl ⟨_, _, rfl, rfl⟩) h013 h113 h213 ((xs.take (Int.toNat (IntKind.wrap .i64 (x21l21 + 1)))).drop (Int.toNat x21l21)) rfl) rfl rfl ?_)
              obtain ⟨hp14, hF⟩ := hF
              refine Ok.op rfl (OpOk.callG (v := .string ⟨⟨(rptS ((xs.take (Int.toNat (IntKind.wrap .i64 (x21l21 + 1)))).drop (Int.toNat x21l21)) 2)⟩⟩) (enters (by kernel_rfl) (fun _ => by kernel_rfl)) (fun W hW => rpt_c ((xs.take (Int.toNat (IntKind.wrap .i64 (x21l21 + 1)))).drop (Int.toNat x21l21)) 2 hp14) rfl ?_)
              obtain ⟨hp15, hF⟩ := hF
              refine Ok.op rfl (OpOk.callH [.bhd b11 86 (.slice ayown10_0l21 yown10_0l21.length cyown10_0l21), .own (.slice ayown10_0l21 yown10_0l21.length cyown10_0l21) 5 1 yown10_0l21.length xsyown10_0l21] [] (enters (by kernel_rfl) (fun _ => by kernel_rfl)) rfl (Bld.ws_c yown10_0l21 (rptS ((xs.take (Int.toNat (IntKind.wrap .i64 (x21l21 + 1)))).drop (Int.toNat x21l21)) 2) hLyown10_0l21 hp15) rfl fun g16 _ _ hx16 hV16 => ?_)
              obtain ⟨a16_0, c16_0, xs16_0, rfl, hL16_0, rfl⟩ := hV16
              replace hG3 := hG3.mono hx16.1
              replace hG4 := hG4.mono hx16.1
              refine Ok.nil ?_
              refine Ok.blockN ?_
              refine Ok.thenN ?_
              refine Ok.region ?_
              refine Ok.batch 2 [(0, .string ⟨⟨xs⟩⟩), (4, .pointer (some ⟨b11, 0, none⟩)), (20, .int .i64 (xs.length : Int)), (21, .int .i64 (IntKind.wrap .i64 (x21l21 + 1)))] (by kernel_rfl) ?_
              refine Ok.nil ?_
              refine Ok.thenN ?_
              exact fun a W hA hW => ⟨k21, Nat.lt_succ_self _, g16, (hxl21.trans hx16), IntKind.wrap .i64 (x21l21 + 1), a16_0, c16_0, (Bld.wsS yown10_0l21 (rptS ((xs.take (Int.toNat (IntKind.wrap .i64 (x21l21 + 1)))).drop (Int.toNat x21l21)) 2)).2.2, xs16_0, hL16_0, hA.sub (by kernel_rfl), hW, hF⟩
            · replace hF := hF.2 hc12
              refine Ok.exit ?_
              refine Ok.thenE ?_
              refine Ok.thenE ?_
              refine Ok.blockHit ?_
              refine Ok.thenN ?_
              refine Ok.region ?_
              obtain ⟨hp17, hF⟩ := hF
              refine Ok.op rfl (OpOk.callH [.bhd b11 86 (.slice ayown10_0l21 yown10_0l21.length cyown10_0l21), .own (.slice ayown10_0l21 yown10_0l21.length cyown10_0l21) 5 1 yown10_0l21.length xsyown10_0l21] [] (enters (by kernel_rfl) (fun _ => by kernel_rfl)) rfl (Bld.st_c yown10_0l21 hLyown10_0l21 hp17) rfl fun g18 _ _ hx18 hV18 => ?_)
              obtain ⟨rfl, rfl⟩ := hV18
              replace hG3 := hG3.mono hx18.1
              replace hG4 := hG4.mono hx18.1
              refine Ok.batch 1 [(0, .string ⟨⟨(bytesOf yown10_0l21)⟩⟩)] (by kernel_rfl) ?_
              refine Ok.nil ?_
              refine Ok.thenN ?_
              exact fun a W hA hW => ⟨g18, (hxl21.trans hx18), (bytesOf yown10_0l21), hA.sub (by kernel_rfl), hW, hF⟩
      · replace hF := hF.2 hc9
        refine Ok.skip ?_
        refine Ok.thenN ?_
        exact fun a W hA hW => ⟨g, (Gext.refl w0 g), xs, hA.sub (by kernel_rfl), hW, hF⟩
    ·
      clear hF
      rintro a W ⟨gj11, hxj11, x0j11, hA, hW, hF⟩
      refine (?_ : Ok _ _ _ _ _ _) a W hA hW
      clear hA hW
      replace hG3 := hG3.mono hxj11.1
      replace hG4 := hG4.mono hxj11.1
      refine Ok.cut (fun a W => ∃ gj36 : Ghost, Gext w0 gj11 gj36 ∧ StA 52 [(0, .string ⟨⟨(if ((x0j11.length : Int) == 6) = true then x0j11 ++ ([102, 102] : List UInt8) else x0j11)⟩⟩)] a ∧ StW w0 [] gj36 W ∧ chexj36 K x0j11) ?_ ?_
      ·
        refine Ok.seq ?_
        refine Ok.region ?_
        refine Ok.batch 3 [(0, .string ⟨⟨x0j11⟩⟩), (35, .bool ((x0j11.length : Int) == 6))] (by kernel_rfl) ?_
        refine Ok.nil ?_
        refine Ok.thenN ?_
        refine Ok.cond (b := ((x0j11.length : Int) == 6)) rfl (fun hc6 => ?_) (fun hc6 => ?_)
        · replace hF := hF.1 hc6
          refine Ok.region ?_
          refine Ok.batch 1 [(36, .string ⟨⟨x0j11⟩⟩)] (by kernel_rfl) ?_
          obtain ⟨hv, hF⟩ := hF
          refine Ok.op rfl (OpOk.step (v := .string ⟨⟨x0j11 ++ ([102, 102] : List UInt8)⟩⟩) (Yields.strAdd rfl rfl hv) rfl rfl ?_)
          refine Ok.batch 1 [(0, .string ⟨⟨x0j11 ++ ([102, 102] : List UInt8)⟩⟩)] (by kernel_rfl) ?_
          refine Ok.nil ?_
          refine Ok.thenN ?_
          refine Ok.reval 0 rfl (show (.string ⟨⟨x0j11 ++ ([102, 102] : List UInt8)⟩⟩ : Value) = .string ⟨⟨(if ((x0j11.length : Int) == 6) = true then x0j11 ++ ([102, 102] : List UInt8) else x0j11)⟩⟩ from congrArg ((fun s : List UInt8 => Value.string ⟨⟨s⟩⟩)) ((if_t hc6).symm)) ?_
          exact fun a W hA hW => ⟨gj11, (Gext.refl w0 gj11), hA.sub (by kernel_rfl), hW, hF⟩
        · replace hF := hF.2 hc6
          refine Ok.skip ?_
          refine Ok.thenN ?_
          refine Ok.reval 0 rfl (show (.string ⟨⟨x0j11⟩⟩ : Value) = .string ⟨⟨(if ((x0j11.length : Int) == 6) = true then x0j11 ++ ([102, 102] : List UInt8) else x0j11)⟩⟩ from congrArg ((fun s : List UInt8 => Value.string ⟨⟨s⟩⟩)) ((if_f hc6).symm)) ?_
          exact fun a W hA hW => ⟨gj11, (Gext.refl w0 gj11), hA.sub (by kernel_rfl), hW, hF⟩
      ·
        clear hF
        rintro a W ⟨gj36, hxj36, hA, hW, hF⟩
        refine (?_ : Ok _ _ _ _ _ _) a W hA hW
        clear hA hW
        replace hG3 := hG3.mono hxj36.1
        replace hG4 := hG4.mono hxj36.1
        refine Ok.seq ?_
        refine Ok.region ?_
        refine Ok.batch 1 [(0, .string ⟨⟨(if ((x0j11.length : Int) == 6) = true then x0j11 ++ ([102, 102] : List UInt8) else x0j11)⟩⟩), (39, .string ⟨⟨(if ((x0j11.length : Int) == 6) = true then x0j11 ++ ([102, 102] : List UInt8) else x0j11)⟩⟩)] (by kernel_rfl) ?_
        obtain ⟨hp3, hF⟩ := hF
        refine Ok.op rfl (OpOk.callH [] [] (enters (by kernel_rfl) (fun _ => by kernel_rfl)) rfl (pu_c (if ((x0j11.length : Int) == 6) = true then x0j11 ++ ([102, 102] : List UInt8) else x0j11) hG3 hG4 hp3) rfl fun g4 _ _ hx4 hV4 => ?_)
        obtain ⟨i4_0, rfl, hI4_0, rfl⟩ := hV4
        replace hG3 := hG3.mono hx4.1
        replace hG4 := hG4.mono hx4.1
        refine Ok.split ((puS (if ((x0j11.length : Int) == 6) = true then x0j11 ++ ([102, 102] : List UInt8) else x0j11)).2) (fun hc5 => ?_) (fun hc5 => ?_)
        · replace hF := hF.1 hc5
          replace hI4_0 : i4_0 = .nilIface := by rw [hc5] at hI4_0; exact hI4_0
          subst hI4_0
          refine Ok.batch 5 [(0, .string ⟨⟨(if ((x0j11.length : Int) == 6) = true then x0j11 ++ ([102, 102] : List UInt8) else x0j11)⟩⟩), (6, .int .u64 ((puS (if ((x0j11.length : Int) == 6) = true then x0j11 ++ ([102, 102] : List UInt8) else x0j11)).1)), (7, .nilIface)] (by kernel_rfl) ?_
          refine Ok.nil ?_
          refine Ok.thenN ?_
          refine Ok.seq ?_
          refine Ok.region ?_
          refine Ok.batch 11 [(2, .int .i64 (IntKind.wrap .i64 ((puS (if ((x0j11.length : Int) == 6) = true then x0j11 ++ ([102, 102] : List UInt8) else x0j11)).1))), (3, .bool (((if ((x0j11.length : Int) == 6) = true then x0j11 ++ ([102, 102] : List UInt8) else x0j11).length : Int) == 8))] (by kernel_rfl) ?_
          refine Ok.nil ?_
          refine Ok.thenN ?_
          refine Ok.ret ?_
          exact Ok.resH (vs := [.int .i64 (IntKind.wrap .i64 ((puS (if ((x0j11.length : Int) == 6) = true then x0j11 ++ ([102, 102] : List UInt8) else x0j11)).1)), .bool (((if ((x0j11.length : Int) == 6) = true then x0j11 ++ ([102, 102] : List UInt8) else x0j11).length : Int) == 8)]) (.inl rfl) rfl (.cons (.tmp rfl) (.cons (.tmp rfl) .nil)) ((hxj11.trans hxj36).trans hx4) ⟨(IntKind.wrap .i64 ((puS (if ((x0j11.length : Int) == 6) = true then x0j11 ++ ([102, 102] : List UInt8) else x0j11)).1)), (((if ((x0j11.length : Int) == 6) = true then x0j11 ++ ([102, 102] : List UInt8) else x0j11).length : Int) == 8), rfl, rfl, hF⟩
        · replace hF := hF.2 hc5
          rw [hc5] at hI4_0
          obtain ⟨t4_0, p4_0, rfl⟩ := hI4_0
          refine Ok.batch 5 [(0, .string ⟨⟨(if ((x0j11.length : Int) == 6) = true then x0j11 ++ ([102, 102] : List UInt8) else x0j11)⟩⟩), (6, .int .u64 ((puS (if ((x0j11.length : Int) == 6) = true then x0j11 ++ ([102, 102] : List UInt8) else x0j11)).1)), (7, .iface t4_0 p4_0)] (by kernel_rfl) ?_
          refine Ok.nil ?_
          refine Ok.thenN ?_
          refine Ok.seq ?_
          refine Ok.region ?_
          refine Ok.batch 11 [(2, .int .i64 (IntKind.wrap .i64 ((puS (if ((x0j11.length : Int) == 6) = true then x0j11 ++ ([102, 102] : List UInt8) else x0j11)).1))), (3, .bool false)] (by kernel_rfl) ?_
          refine Ok.nil ?_
          refine Ok.thenN ?_
          refine Ok.ret ?_
          exact Ok.resH (vs := [.int .i64 (IntKind.wrap .i64 ((puS (if ((x0j11.length : Int) == 6) = true then x0j11 ++ ([102, 102] : List UInt8) else x0j11)).1)), .bool false]) (.inl rfl) rfl (.cons (.tmp rfl) (.cons (.tmp rfl) .nil)) ((hxj11.trans hxj36).trans hx4) ⟨(IntKind.wrap .i64 ((puS (if ((x0j11.length : Int) == 6) = true then x0j11 ++ ([102, 102] : List UInt8) else x0j11)).1)), false, rfl, rfl, hF⟩
def HXL : List UInt8 := [48, 49, 50, 51, 52, 53, 54, 55, 56, 57, 97, 98, 99, 100, 101, 102]
def dblS (s : List UInt8) : List UInt8 := s.flatMap fun c => [c, c]
def c6 (t : List UInt8) : List UInt8 := if ((t.length : Int) == 6) = true then t ++ [102, 102] else t
def chexR (t : List UInt8) : Int × Bool := (IntKind.wrap .i64 (puS (c6 t)).1, (puS (c6 t)).2 && ((c6 t).length : Int) == 8)
def chexS (s : List UInt8) : Int × Bool := if (!(trimS s HXL == [])) = true then (0, false) else if (((s.length : Int) == 3) || ((s.length : Int) == 4)) = true then chexR (dblS s) else chexR s
def chexP (s : List UInt8) : Prop := s.length ≤ 140737488355328
theorem chex_F (s : List UInt8) (hp : chexP s) : chexF s (fun r r1 => (r, r1) = chexS s) := by
  unfold chexP at hp
  have j36 : ∀ t : List UInt8, t.length ≤ 140737488355328 → chexR t = chexS s → chexj36 (fun r r1 => (r, r1) = chexS s) t := by
    intro t ht he
    change puiP (c6 t) ∧ ((puS (c6 t)).2 = true → (IntKind.wrap .i64 (puS (c6 t)).1, ((c6 t).length : Int) == 8) = chexS s) ∧ ((puS (c6 t)).2 = false → (IntKind.wrap .i64 (puS (c6 t)).1, false) = chexS s)
    refine ⟨?_, fun h => by rw [← he]; unfold chexR; rw [h]; rfl, fun h => by rw [← he]; unfold chexR; rw [h]; rfl⟩
    unfold puiP c6
    split
    · rw [List.length_append]; simp only [List.length_cons, List.length_nil]; omega
    · omega
  have j11 : ∀ t : List UInt8, t.length ≤ 140737488355328 → chexR t = chexS s → chexj11 (fun r r1 => (r, r1) = chexS s) t := fun t ht he =>
    ⟨fun _ => ⟨by rw [maxLen_eq]; simp only [List.length_cons, List.length_nil]; omega, j36 t ht he⟩, fun _ => j36 t ht he⟩
  refine ⟨⟨by omega, by decide, by decide⟩, fun h => ?_, fun h => ⟨fun h2 => ?_, fun h2 => ?_⟩⟩
  · have h : (!(trimS s HXL == [])) = true := h
    unfold chexS; rw [if_t h]
  · have h : (!(trimS s HXL == [])) = false := h
    have hl4 : s.length ≤ 4 := by
      rw [Bool.or_eq_true, beq_iff_eq, beq_iff_eq] at h2; omega
    have he : chexR (dblS s) = chexS s := by unfold chexS; rw [if_f h, if_t h2]
    have hdl : ∀ t : List UInt8, (dblS t).length = 2 * t.length := by
      intro t
      induction t with
      | nil => rfl
      | cons c t ih => rw [show dblS (c :: t) = [c, c] ++ dblS t from rfl, List.length_append, ih]; simp only [List.length_cons, List.length_nil]; omega
    have loop : ∀ (k i : Nat), i + k = s.length → chexl21 s (fun r r1 => (r, r1) = chexS s) (k + 1) (i : Int) (intsOf (dblS (s.take i))) := by
      intro k
      induction k with
      | zero =>
        intro i h
        have hn : decide ((i : Int) < (s.length : Int)) = false := decide_eq_false (by omega)
        rw [List.take_of_length_le (by omega)]
        refine ⟨fun h => (Bool.false_ne_true (hn.symm.trans h)).elim, fun _ => ⟨by unfold stP; rw [bytesOf_intsOf], ?_⟩⟩
        rw [bytesOf_intsOf]
        exact j11 _ (by rw [hdl]; omega) he
      | succ k ih =>
        intro i h
        have hn : decide ((i : Int) < (s.length : Int)) = true := decide_eq_true (by omega)
        have w1 : IntKind.wrap .i64 ((i : Int) + 1) = (i : Int) + 1 := w64 (by omega)
        have hsub : (s.take (Int.toNat ((i : Int) + 1))).drop (Int.toNat (i : Int)) = [s.getD i 0] := by
          rw [show Int.toNat ((i : Int) + 1) = i + 1 by omega, Int.toNat_natCast, take_get (l := s) 0 (by omega), List.drop_append_of_le_length (by rw [List.length_take]; omega), List.drop_of_length_le (by rw [List.length_take]; omega)]; rfl
        have htl : (intsOf (dblS (s.take i))).length ≤ 8 := by rw [intsOf_length, hdl, List.length_take]; omega
        have e2 : (wsS (intsOf (dblS (s.take i))) [s.getD i 0, s.getD i 0]).2.2 = intsOf (dblS (s.take (i + 1))) := by
          rw [take_get (l := s) 0 (by omega)]
          unfold wsS dblS intsOf
          rw [List.flatMap_append, List.map_append]; rfl
        refine ⟨fun _ => ⟨by omega, by rw [w1]; omega, by rw [w1]; omega, ?_⟩, fun h => (Bool.false_ne_true (h.symm.trans hn)).elim⟩
        rw [w1, hsub]
        refine ⟨⟨by decide, by decide, by simp⟩, ?_, ?_⟩
        · show (intsOf (dblS (s.take i))).length + 2 ≤ _; omega
        · show chexl21 s (fun r r1 => (r, r1) = chexS s) (k + 1) ((i : Int) + 1) (wsS (intsOf (dblS (s.take i))) [s.getD i 0, s.getD i 0]).2.2
          rw [e2]
          exact ih (i + 1) (by omega)
    exact ⟨_, loop s.length 0 (by omega)⟩
  · have h : (!(trimS s HXL == [])) = false := h
    exact j11 s hp (by unfold chexS; rw [if_f h, if_f h2])
set_option linter.unusedVariables false in
theorem chex_c {g : Ghost} (xs : List UInt8) (hG3 : SomeIf g 3) (hG4 : SomeIf g 4)  (hp : chexP xs) : CallsG Tryd.prog 45 #[.string ⟨⟨xs⟩⟩] g (.tuple #[.int .i64 ((chexS xs).1), .bool ((chexS xs).2)]) :=
  (chex_ok xs hG3 hG4 _ (chex_F xs hp)).gives (by rintro g' H' v _ ⟨r0, r1, rfl, rfl, hK⟩; obtain ⟨rfl, rfl⟩ : r0 = (chexS xs).1 ∧ r1 = (chexS xs).2 := ⟨congrArg (fun z => z.1) hK, congrArg (fun z => z.2) hK⟩; rfl)
def cparj37 (xs : List UInt8) (K : Int → Bool → Prop) (e5 : List UInt8) (x5l17 : Int) (x20l17 : Int) (C17 : Int → Int → Prop) : Prop :=
  (((((decide (((atoiS (if (decide (x20l17 > 0)) = true then (tpfM e5 ([32] : List UInt8)) else e5)).1) < 0)) || (decide (((atoiS (if (decide (x20l17 > 0)) = true then (tpfM e5 ([32] : List UInt8)) else e5)).1) > 255))) || (!((itoaS ((atoiS (if (decide (x20l17 > 0)) = true then (tpfM e5 ([32] : List UInt8)) else e5)).1)) == (if (decide (x20l17 > 0)) = true then (tpfM e5 ([32] : List UInt8)) else e5))))) = true → K 0 false) ∧ (((((decide (((atoiS (if (decide (x20l17 > 0)) = true then (tpfM e5 ([32] : List UInt8)) else e5)).1) < 0)) || (decide (((atoiS (if (decide (x20l17 > 0)) = true then (tpfM e5 ([32] : List UInt8)) else e5)).1) > 255))) || (!((itoaS ((atoiS (if (decide (x20l17 > 0)) = true then (tpfM e5 ([32] : List UInt8)) else e5)).1)) == (if (decide (x20l17 > 0)) = true then (tpfM e5 ([32] : List UInt8)) else e5))))) = false → C17 (bitOr .i64 (IntKind.wrap .i64 (x5l17 * 2 ^ 8)) ((atoiS (if (decide (x20l17 > 0)) = true then (tpfM ((if (((splS xs ([44] : List UInt8)).length : Int) == 3) = true then ((splS xs ([44] : List UInt8)) ++ ([([50, 53, 53] : List UInt8)] : List (List UInt8))) else (splS xs ([44] : List UInt8))).getD (Int.toNat x20l17) default) ([32] : List UInt8)) else ((if (((splS xs ([44] : List UInt8)).length : Int) == 3) = true then ((splS xs ([44] : List UInt8)) ++ ([([50, 53, 53] : List UInt8)] : List (List UInt8))) else (splS xs ([44] : List UInt8))).getD (Int.toNat x20l17) default))).1)) (IntKind.wrap .i64 (x20l17 + 1)))
def cparj28 (xs : List UInt8) (K : Int → Bool → Prop) (e5 : List UInt8) (x5l17 : Int) (x20l17 : Int) (C17 : Int → Int → Prop) : Prop :=
  atoiP (if (decide (x20l17 > 0)) = true then (tpfM e5 ([32] : List UInt8)) else e5) ∧ (((atoiS (if (decide (x20l17 > 0)) = true then (tpfM e5 ([32] : List UInt8)) else e5)).2) = true → ((((decide (((atoiS (if (decide (x20l17 > 0)) = true then (tpfM e5 ([32] : List UInt8)) else e5)).1) < 0)) || (decide (((atoiS (if (decide (x20l17 > 0)) = true then (tpfM e5 ([32] : List UInt8)) else e5)).1) > 255)))) = true → cparj37 xs K e5 x5l17 x20l17 C17) ∧ ((((decide (((atoiS (if (decide (x20l17 > 0)) = true then (tpfM e5 ([32] : List UInt8)) else e5)).1) < 0)) || (decide (((atoiS (if (decide (x20l17 > 0)) = true then (tpfM e5 ([32] : List UInt8)) else e5)).1) > 255)))) = false → itoaP ((atoiS (if (decide (x20l17 > 0)) = true then (tpfM e5 ([32] : List UInt8)) else e5)).1) ∧ cparj37 xs K e5 x5l17 x20l17 C17)) ∧ (((atoiS (if (decide (x20l17 > 0)) = true then (tpfM e5 ([32] : List UInt8)) else e5)).2) = false → K 0 false)
def cparl17b (xs : List UInt8) (K : Int → Bool → Prop) (x5l17 : Int) (x20l17 : Int) (C17 : Int → Int → Prop) : Prop :=
  ((decide (x20l17 < ((if (((splS xs ([44] : List UInt8)).length : Int) == 3) = true then ((splS xs ([44] : List UInt8)) ++ ([([50, 53, 53] : List UInt8)] : List (List UInt8))) else (splS xs ([44] : List UInt8))).length : Int))) = true → (0 : Int) ≤ x20l17 ∧ Int.toNat x20l17 < (if (((splS xs ([44] : List UInt8)).length : Int) == 3) = true then ((splS xs ([44] : List UInt8)) ++ ([([50, 53, 53] : List UInt8)] : List (List UInt8))) else (splS xs ([44] : List UInt8))).length ∧ ((decide (x20l17 > 0)) = true → cparj28 xs K ((if (((splS xs ([44] : List UInt8)).length : Int) == 3) = true then ((splS xs ([44] : List UInt8)) ++ ([([50, 53, 53] : List UInt8)] : List (List UInt8))) else (splS xs ([44] : List UInt8))).getD (Int.toNat x20l17) default) x5l17 x20l17 C17) ∧ ((decide (x20l17 > 0)) = false → cparj28 xs K ((if (((splS xs ([44] : List UInt8)).length : Int) == 3) = true then ((splS xs ([44] : List UInt8)) ++ ([([50, 53, 53] : List UInt8)] : List (List UInt8))) else (splS xs ([44] : List UInt8))).getD (Int.toNat x20l17) default) x5l17 x20l17 C17)) ∧ ((decide (x20l17 < ((if (((splS xs ([44] : List UInt8)).length : Int) == 3) = true then ((splS xs ([44] : List UInt8)) ++ ([([50, 53, 53] : List UInt8)] : List (List UInt8))) else (splS xs ([44] : List UInt8))).length : Int))) = false → K x5l17 (((if (((splS xs ([44] : List UInt8)).length : Int) == 3) = true then ((splS xs ([44] : List UInt8)) ++ ([([50, 53, 53] : List UInt8)] : List (List UInt8))) else (splS xs ([44] : List UInt8))).length : Int) == 4))
def cparl17 (xs : List UInt8) (K : Int → Bool → Prop) : Nat → Int → Int → Prop
  | 0, _, _ => False
  | k + 1, x5l17, x20l17 => cparl17b xs K x5l17 x20l17 (cparl17 xs K k)
def cparj5 (xs : List UInt8) (K : Int → Bool → Prop) : Prop :=
  ∃ k, cparl17 xs K k 0 0
def cparF (xs : List UInt8) (K : Int → Bool → Prop) : Prop :=
  splP xs ([44] : List UInt8) ∧ (((((splS xs ([44] : List UInt8)).length : Int) == 3)) = true → ((splS xs ([44] : List UInt8)) ++ ([([50, 53, 53] : List UInt8)] : List (List UInt8))).length ≤ 8796093022208 ∧ cparj5 xs K) ∧ (((((splS xs ([44] : List UInt8)).length : Int) == 3)) = false → cparj5 xs K)
set_option maxHeartbeats 4000000 in
set_option maxRecDepth 100000 in
set_option linter.unusedVariables false in
theorem cpar_ok {g : Ghost} (xs : List UInt8) (hG1 : SomeInt g 1) (hG2 : GlobL g 2 (.int .u64) DPow) (hG3 : SomeIf g 3) (hG4 : SomeIf g 4) (K : Int → Bool → Prop)
    (hF : cparF xs K) : CallsH Tryd.prog 47 #[.string ⟨⟨xs⟩⟩] g [] (fun g' H' v => ∃ (r0 : Int), ∃ (r1 : Bool), v = .tuple #[.int .i64 r0, .bool r1] ∧ H' = [] ∧ K r0 r1) := by
  refine CallsH.enter 59 [(0, .string ⟨⟨xs⟩⟩)] Tryd.func47 rfl (by kernel_rfl) (by kernel_rfl) (by kernel_rfl) fun w0 => ?_
  refine Ok.seq ?_
  refine Ok.region ?_
  refine Ok.batch 2 [(0, .string ⟨⟨xs⟩⟩)] (by kernel_rfl) ?_
  refine Ok.nil ?_
  refine Ok.thenN ?_
  refine Ok.seq ?_
  refine Ok.region ?_
  refine Ok.batch 1 [(10, .string ⟨⟨xs⟩⟩)] (by kernel_rfl) ?_
  obtain ⟨hp1, hF⟩ := hF
  refine Ok.op rfl (OpOk.callH [] [] (enters (by kernel_rfl) (fun _ => by kernel_rfl)) rfl (spo_c xs ([44] : List UInt8) hG1 hp1) rfl fun g2 _ _ hx2 hV2 => ?_)
  obtain ⟨a2_0, c2_0, xs2_0, rfl, hL2_0, rfl⟩ := hV2
  replace hG1 := hG1.mono hx2.1
  replace hG2 := hG2.mono hx2.1
  replace hG3 := hG3.mono hx2.1
  replace hG4 := hG4.mono hx2.1
  refine Ok.batch 1 [(4, .slice a2_0 (splS xs ([44] : List UInt8)).length c2_0)] (by kernel_rfl) ?_
  refine Ok.nil ?_
  refine Ok.thenN ?_
  refine Ok.cut (fun a W => ∃ gj5 : Ghost, Gext w0 g2 gj5 ∧ ∃ (ayown2_0_0j5 : Option Addr) (cyown2_0_0j5 : Nat) (xsyown2_0_0j5 : List Value), RepL gj5 (.str) xsyown2_0_0j5 (if (((splS xs ([44] : List UInt8)).length : Int) == 3) = true then ((splS xs ([44] : List UInt8)) ++ ([([50, 53, 53] : List UInt8)] : List (List UInt8))) else (splS xs ([44] : List UInt8))) ∧ StA 59 [(4, .slice ayown2_0_0j5 (if (((splS xs ([44] : List UInt8)).length : Int) == 3) = true then ((splS xs ([44] : List UInt8)) ++ ([([50, 53, 53] : List UInt8)] : List (List UInt8))) else (splS xs ([44] : List UInt8))).length cyown2_0_0j5)] a ∧ StW w0 [.own (.slice ayown2_0_0j5 (if (((splS xs ([44] : List UInt8)).length : Int) == 3) = true then ((splS xs ([44] : List UInt8)) ++ ([([50, 53, 53] : List UInt8)] : List (List UInt8))) else (splS xs ([44] : List UInt8))).length cyown2_0_0j5) 9 1 (if (((splS xs ([44] : List UInt8)).length : Int) == 3) = true then ((splS xs ([44] : List UInt8)) ++ ([([50, 53, 53] : List UInt8)] : List (List UInt8))) else (splS xs ([44] : List UInt8))).length xsyown2_0_0j5] gj5 W ∧ cparj5 xs K) ?_ ?_
  ·
    refine Ok.seq ?_
    refine Ok.region ?_
    refine Ok.batch 3 [(4, .slice a2_0 (splS xs ([44] : List UInt8)).length c2_0), (14, .bool (((splS xs ([44] : List UInt8)).length : Int) == 3))] (by kernel_rfl) ?_
    refine Ok.nil ?_
    refine Ok.thenN ?_
    refine Ok.cond (b := (((splS xs ([44] : List UInt8)).length : Int) == 3)) rfl (fun hc15 => ?_) (fun hc15 => ?_)
    · replace hF := hF.1 hc15
      refine Ok.region ?_
      refine Ok.batch 1 [(15, .slice a2_0 (splS xs ([44] : List UInt8)).length c2_0)] (by kernel_rfl) ?_
      have hL16 : RepL g2 (.str) ([.string ⟨⟨([50, 53, 53] : List UInt8)⟩⟩] : List Value) ([([50, 53, 53] : List UInt8)] : List (List UInt8)) := (RepL.consN (c := [.string ⟨⟨([50, 53, 53] : List UInt8)⟩⟩]) rfl rfl)
      refine Ok.op rfl (OpOk.lit (E := 9) (.str) ([([50, 53, 53] : List UInt8)] : List (List UInt8)) ([.string ⟨⟨([50, 53, 53] : List UInt8)⟩⟩] : List Value) (by kernel_rfl) (by kernel_rfl) rfl (by kernel_rfl) hL16 rfl fun b16 => ?_)
      obtain ⟨hb17, hF⟩ := hF
      refine Ok.op rfl (OpOk.append' (e := .str) 16 8796093022208 1 0 rfl rfl rfl rfl hL2_0 hL16 Tryd.underlying55 (by kernel_rfl) (by kernel_rfl) (by kernel_rfl) hb17 rfl fun a17 c17 xs17 hL17 => ?_)
      refine Ok.batch 1 [(4, .slice a17 ((splS xs ([44] : List UInt8)) ++ ([([50, 53, 53] : List UInt8)] : List (List UInt8))).length c17)] (by kernel_rfl) ?_
      refine Ok.nil ?_
      refine Ok.thenN ?_
      refine Ok.reval 4 rfl (show (.slice a17 ((splS xs ([44] : List UInt8)) ++ ([([50, 53, 53] : List UInt8)] : List (List UInt8))).length c17 : Value) = .slice a17 (if (((splS xs ([44] : List UInt8)).length : Int) == 3) = true then ((splS xs ([44] : List UInt8)) ++ ([([50, 53, 53] : List UInt8)] : List (List UInt8))) else (splS xs ([44] : List UInt8))).length c17 from congrArg (fun l : List (List UInt8) => Value.slice a17 l.length c17) ((if_t hc15).symm)) ?_
      refine Ok.heapEq (H' := [.own (.slice (some ⟨b16, 0, none⟩) ([([50, 53, 53] : List UInt8)] : List (List UInt8)).length 1) 9 1 ([([50, 53, 53] : List UInt8)] : List (List UInt8)).length ([.string ⟨⟨([50, 53, 53] : List UInt8)⟩⟩] : List Value), .own (.slice a17 (if (((splS xs ([44] : List UInt8)).length : Int) == 3) = true then ((splS xs ([44] : List UInt8)) ++ ([([50, 53, 53] : List UInt8)] : List (List UInt8))) else (splS xs ([44] : List UInt8))).length c17) 9 1 (if (((splS xs ([44] : List UInt8)).length : Int) == 3) = true then ((splS xs ([44] : List UInt8)) ++ ([([50, 53, 53] : List UInt8)] : List (List UInt8))) else (splS xs ([44] : List UInt8))).length xs17]) (econs (rfl) (econs (congrArg (fun l : List (List UInt8) => Ent.own (.slice a17 l.length c17) 9 1 l.length xs17) ((if_t hc15).symm)) rfl)) ?_
      exact fun a W hA hW => ⟨g2, (Gext.refl w0 g2), a17, c17, xs17, (Eq.mp (congrArg (fun l : List (List UInt8) => RepL g2 (.str) xs17 l) ((if_t hc15).symm)) hL17), hA.sub (by kernel_rfl), hW.sub (.cons _ (.cons_cons _ .slnil)), hF⟩
    · replace hF := hF.2 hc15
      refine Ok.skip ?_
      refine Ok.thenN ?_
      refine Ok.reval 4 rfl (show (.slice a2_0 (splS xs ([44] : List UInt8)).length c2_0 : Value) = .slice a2_0 (if (((splS xs ([44] : List UInt8)).length : Int) == 3) = true then ((splS xs ([44] : List UInt8)) ++ ([([50, 53, 53] : List UInt8)] : List (List UInt8))) else (splS xs ([44] : List UInt8))).length c2_0 from congrArg (fun l : List (List UInt8) => Value.slice a2_0 l.length c2_0) ((if_f hc15).symm)) ?_
      refine Ok.heapEq (H' := [.own (.slice a2_0 (if (((splS xs ([44] : List UInt8)).length : Int) == 3) = true then ((splS xs ([44] : List UInt8)) ++ ([([50, 53, 53] : List UInt8)] : List (List UInt8))) else (splS xs ([44] : List UInt8))).length c2_0) 9 1 (if (((splS xs ([44] : List UInt8)).length : Int) == 3) = true then ((splS xs ([44] : List UInt8)) ++ ([([50, 53, 53] : List UInt8)] : List (List UInt8))) else (splS xs ([44] : List UInt8))).length xs2_0]) (econs (congrArg (fun l : List (List UInt8) => Ent.own (.slice a2_0 l.length c2_0) 9 1 l.length xs2_0) ((if_f hc15).symm)) rfl) ?_
      exact fun a W hA hW => ⟨g2, (Gext.refl w0 g2), a2_0, c2_0, xs2_0, (Eq.mp (congrArg (fun l : List (List UInt8) => RepL g2 (.str) xs2_0 l) ((if_f hc15).symm)) hL2_0), hA.sub (by kernel_rfl), hW, hF⟩
  ·
    clear hF
    rintro a W ⟨gj5, hxj5, ayown2_0_0j5, cyown2_0_0j5, xsyown2_0_0j5, hLyown2_0_0j5, hA, hW, hF⟩
    refine (?_ : Ok _ _ _ _ _ _) a W hA hW
    clear hA hW
    replace hG1 := hG1.mono hxj5.1
    replace hG2 := hG2.mono hxj5.1
    replace hG3 := hG3.mono hxj5.1
    replace hG4 := hG4.mono hxj5.1
    refine Ok.seq ?_
    refine Ok.region ?_
    refine Ok.batch 1 [(4, .slice ayown2_0_0j5 (if (((splS xs ([44] : List UInt8)).length : Int) == 3) = true then ((splS xs ([44] : List UInt8)) ++ ([([50, 53, 53] : List UInt8)] : List (List UInt8))) else (splS xs ([44] : List UInt8))).length cyown2_0_0j5), (5, .int .i64 0)] (by kernel_rfl) ?_
    refine Ok.nil ?_
    refine Ok.thenN ?_
    refine Ok.seq ?_
    refine Ok.seq ?_
    refine Ok.region ?_
    refine Ok.batch 3 [(4, .slice ayown2_0_0j5 (if (((splS xs ([44] : List UInt8)).length : Int) == 3) = true then ((splS xs ([44] : List UInt8)) ++ ([([50, 53, 53] : List UInt8)] : List (List UInt8))) else (splS xs ([44] : List UInt8))).length cyown2_0_0j5), (5, .int .i64 0), (18, .slice ayown2_0_0j5 (if (((splS xs ([44] : List UInt8)).length : Int) == 3) = true then ((splS xs ([44] : List UInt8)) ++ ([([50, 53, 53] : List UInt8)] : List (List UInt8))) else (splS xs ([44] : List UInt8))).length cyown2_0_0j5), (19, .int .i64 ((if (((splS xs ([44] : List UInt8)).length : Int) == 3) = true then ((splS xs ([44] : List UInt8)) ++ ([([50, 53, 53] : List UInt8)] : List (List UInt8))) else (splS xs ([44] : List UInt8))).length : Int)), (20, .int .i64 0)] (by kernel_rfl) ?_
    refine Ok.nil ?_
    refine Ok.thenN ?_
    refine Ok.block ?_
    obtain ⟨k, hF⟩ := hF
    refine Ok.loop (fun k a W => ∃ gl17 : Ghost, Gext w0 gj5 gl17 ∧ ∃ (x5l17 : Int) (x20l17 : Int), StA 59 [(4, .slice ayown2_0_0j5 (if (((splS xs ([44] : List UInt8)).length : Int) == 3) = true then ((splS xs ([44] : List UInt8)) ++ ([([50, 53, 53] : List UInt8)] : List (List UInt8))) else (splS xs ([44] : List UInt8))).length cyown2_0_0j5), (5, .int .i64 x5l17), (18, .slice ayown2_0_0j5 (if (((splS xs ([44] : List UInt8)).length : Int) == 3) = true then ((splS xs ([44] : List UInt8)) ++ ([([50, 53, 53] : List UInt8)] : List (List UInt8))) else (splS xs ([44] : List UInt8))).length cyown2_0_0j5), (19, .int .i64 ((if (((splS xs ([44] : List UInt8)).length : Int) == 3) = true then ((splS xs ([44] : List UInt8)) ++ ([([50, 53, 53] : List UInt8)] : List (List UInt8))) else (splS xs ([44] : List UInt8))).length : Int)), (20, .int .i64 x20l17)] a ∧ StW w0 [.own (.slice ayown2_0_0j5 (if (((splS xs ([44] : List UInt8)).length : Int) == 3) = true then ((splS xs ([44] : List UInt8)) ++ ([([50, 53, 53] : List UInt8)] : List (List UInt8))) else (splS xs ([44] : List UInt8))).length cyown2_0_0j5) 9 1 (if (((splS xs ([44] : List UInt8)).length : Int) == 3) = true then ((splS xs ([44] : List UInt8)) ++ ([([50, 53, 53] : List UInt8)] : List (List UInt8))) else (splS xs ([44] : List UInt8))).length xsyown2_0_0j5] gl17 W ∧ cparl17 xs K k x5l17 x20l17) k ?_ ?_
    ·
      exact fun a W hA hW => ⟨gj5, (Gext.refl w0 gj5), 0, 0, hA.sub (by kernel_rfl), hW, hF⟩
    ·
      clear hF
      rintro k17 a W ⟨gl17, hxl17, x5l17, x20l17, hA, hW, hF⟩
      cases k17 with
      | zero => exact (hF : False).elim
      | succ k17 =>
        refine (?_ : Ok _ _ _ _ _ _) a W hA hW
        clear hA hW
        replace hLyown2_0_0j5 := hLyown2_0_0j5.mono hxl17.1
        replace hG1 := hG1.mono hxl17.1
        replace hG2 := hG2.mono hxl17.1
        replace hG3 := hG3.mono hxl17.1
        replace hG4 := hG4.mono hxl17.1
        refine Ok.seq ?_
        refine Ok.region ?_
        refine Ok.batch 1 [(4, .slice ayown2_0_0j5 (if (((splS xs ([44] : List UInt8)).length : Int) == 3) = true then ((splS xs ([44] : List UInt8)) ++ ([([50, 53, 53] : List UInt8)] : List (List UInt8))) else (splS xs ([44] : List UInt8))).length cyown2_0_0j5), (5, .int .i64 x5l17), (18, .slice ayown2_0_0j5 (if (((splS xs ([44] : List UInt8)).length : Int) == 3) = true then ((splS xs ([44] : List UInt8)) ++ ([([50, 53, 53] : List UInt8)] : List (List UInt8))) else (splS xs ([44] : List UInt8))).length cyown2_0_0j5), (19, .int .i64 ((if (((splS xs ([44] : List UInt8)).length : Int) == 3) = true then ((splS xs ([44] : List UInt8)) ++ ([([50, 53, 53] : List UInt8)] : List (List UInt8))) else (splS xs ([44] : List UInt8))).length : Int)), (20, .int .i64 x20l17), (21, .bool (decide (x20l17 < ((if (((splS xs ([44] : List UInt8)).length : Int) == 3) = true then ((splS xs ([44] : List UInt8)) ++ ([([50, 53, 53] : List UInt8)] : List (List UInt8))) else (splS xs ([44] : List UInt8))).length : Int))))] (by kernel_rfl) ?_
        refine Ok.nil ?_
        refine Ok.thenN ?_
        refine Ok.seq ?_
        refine Ok.cond (b := decide (x20l17 < ((if (((splS xs ([44] : List UInt8)).length : Int) == 3) = true then ((splS xs ([44] : List UInt8)) ++ ([([50, 53, 53] : List UInt8)] : List (List UInt8))) else (splS xs ([44] : List UInt8))).length : Int))) rfl (fun hc3 => ?_) (fun hc3 => ?_)
        · replace hF := hF.1 hc3
          refine Ok.skip ?_
          refine Ok.thenN ?_
          refine Ok.seq ?_
          refine Ok.block ?_
          refine Ok.seq ?_
          refine Ok.region ?_
          refine Ok.batch 1 [(4, .slice ayown2_0_0j5 (if (((splS xs ([44] : List UInt8)).length : Int) == 3) = true then ((splS xs ([44] : List UInt8)) ++ ([([50, 53, 53] : List UInt8)] : List (List UInt8))) else (splS xs ([44] : List UInt8))).length cyown2_0_0j5), (5, .int .i64 x5l17), (18, .slice ayown2_0_0j5 (if (((splS xs ([44] : List UInt8)).length : Int) == 3) = true then ((splS xs ([44] : List UInt8)) ++ ([([50, 53, 53] : List UInt8)] : List (List UInt8))) else (splS xs ([44] : List UInt8))).length cyown2_0_0j5), (19, .int .i64 ((if (((splS xs ([44] : List UInt8)).length : Int) == 3) = true then ((splS xs ([44] : List UInt8)) ++ ([([50, 53, 53] : List UInt8)] : List (List UInt8))) else (splS xs ([44] : List UInt8))).length : Int)), (20, .int .i64 x20l17), (22, .int .i64 x20l17)] (by kernel_rfl) ?_
          obtain ⟨h05, h15, hF⟩ := hF
          have he5 := get_of (l := (if (((splS xs ([44] : List UInt8)).length : Int) == 3) = true then ((splS xs ([44] : List UInt8)) ++ ([([50, 53, 53] : List UInt8)] : List (List UInt8))) else (splS xs ([44] : List UInt8)))) (default : List UInt8) h15
          generalize hg5 : ((if (((splS xs ([44] : List UInt8)).length : Int) == 3) = true then ((splS xs ([44] : List UInt8)) ++ ([([50, 53, 53] : List UInt8)] : List (List UInt8))) else (splS xs ([44] : List UInt8))).getD (Int.toNat x20l17) default) = e5 at he5 hF ⊢
          refine Ok.op rfl (OpOk.indexOwn (e := .str) (q := x20l17) (el := e5) 0 rfl hLyown2_0_0j5 rfl rfl Tryd.underlying55 (by kernel_rfl) (by kernel_rfl) h05 he5 rfl fun cs4 _ hr4 hc4 => ?_)
          obtain rfl := hr4
          replace hc4 : ∀ j v, ([.string ⟨⟨e5⟩⟩] : List Value)[j]? = some v → xsyown2_0_0j5[Int.toNat x20l17 * 1 + j]? = some v := hc4
          refine Ok.op rfl (OpOk.step (v := .string ⟨⟨e5⟩⟩) (Yields.loadOwn 0 0 rfl hc4 rfl Tryd.underlying9 rfl (by kernel_rfl)) rfl rfl ?_)
          refine Ok.batch 2 [(4, .slice ayown2_0_0j5 (if (((splS xs ([44] : List UInt8)).length : Int) == 3) = true then ((splS xs ([44] : List UInt8)) ++ ([([50, 53, 53] : List UInt8)] : List (List UInt8))) else (splS xs ([44] : List UInt8))).length cyown2_0_0j5), (5, .int .i64 x5l17), (6, .int .i64 x20l17), (7, .string ⟨⟨e5⟩⟩), (18, .slice ayown2_0_0j5 (if (((splS xs ([44] : List UInt8)).length : Int) == 3) = true then ((splS xs ([44] : List UInt8)) ++ ([([50, 53, 53] : List UInt8)] : List (List UInt8))) else (splS xs ([44] : List UInt8))).length cyown2_0_0j5), (19, .int .i64 ((if (((splS xs ([44] : List UInt8)).length : Int) == 3) = true then ((splS xs ([44] : List UInt8)) ++ ([([50, 53, 53] : List UInt8)] : List (List UInt8))) else (splS xs ([44] : List UInt8))).length : Int)), (20, .int .i64 x20l17)] (by kernel_rfl) ?_
          refine Ok.nil ?_
          refine Ok.thenN ?_
          refine Ok.cut (fun a W => ∃ gj28 : Ghost, Gext w0 gl17 gj28 ∧ StA 59 [(4, .slice ayown2_0_0j5 (if (((splS xs ([44] : List UInt8)).length : Int) == 3) = true then ((splS xs ([44] : List UInt8)) ++ ([([50, 53, 53] : List UInt8)] : List (List UInt8))) else (splS xs ([44] : List UInt8))).length cyown2_0_0j5), (5, .int .i64 x5l17), (7, .string ⟨⟨(if (decide (x20l17 > 0)) = true then (tpfM e5 ([32] : List UInt8)) else e5)⟩⟩), (18, .slice ayown2_0_0j5 (if (((splS xs ([44] : List UInt8)).length : Int) == 3) = true then ((splS xs ([44] : List UInt8)) ++ ([([50, 53, 53] : List UInt8)] : List (List UInt8))) else (splS xs ([44] : List UInt8))).length cyown2_0_0j5), (19, .int .i64 ((if (((splS xs ([44] : List UInt8)).length : Int) == 3) = true then ((splS xs ([44] : List UInt8)) ++ ([([50, 53, 53] : List UInt8)] : List (List UInt8))) else (splS xs ([44] : List UInt8))).length : Int)), (20, .int .i64 x20l17)] a ∧ StW w0 [.own (.slice ayown2_0_0j5 (if (((splS xs ([44] : List UInt8)).length : Int) == 3) = true then ((splS xs ([44] : List UInt8)) ++ ([([50, 53, 53] : List UInt8)] : List (List UInt8))) else (splS xs ([44] : List UInt8))).length cyown2_0_0j5) 9 1 (if (((splS xs ([44] : List UInt8)).length : Int) == 3) = true then ((splS xs ([44] : List UInt8)) ++ ([([50, 53, 53] : List UInt8)] : List (List UInt8))) else (splS xs ([44] : List UInt8))).length xsyown2_0_0j5] gj28 W ∧ cparj28 xs K e5 x5l17 x20l17 (cparl17 xs K k17)) ?_ ?_
          ·
            refine Ok.seq ?_
            refine Ok.region ?_
            refine Ok.batch 2 [(4, .slice ayown2_0_0j5 (if (((splS xs ([44] : List UInt8)).length : Int) == 3) = true then ((splS xs ([44] : List UInt8)) ++ ([([50, 53, 53] : List UInt8)] : List (List UInt8))) else (splS xs ([44] : List UInt8))).length cyown2_0_0j5), (5, .int .i64 x5l17), (7, .string ⟨⟨e5⟩⟩), (18, .slice ayown2_0_0j5 (if (((splS xs ([44] : List UInt8)).length : Int) == 3) = true then ((splS xs ([44] : List UInt8)) ++ ([([50, 53, 53] : List UInt8)] : List (List UInt8))) else (splS xs ([44] : List UInt8))).length cyown2_0_0j5), (19, .int .i64 ((if (((splS xs ([44] : List UInt8)).length : Int) == 3) = true then ((splS xs ([44] : List UInt8)) ++ ([([50, 53, 53] : List UInt8)] : List (List UInt8))) else (splS xs ([44] : List UInt8))).length : Int)), (20, .int .i64 x20l17), (26, .bool (decide (x20l17 > 0)))] (by kernel_rfl) ?_
            refine Ok.nil ?_
            refine Ok.thenN ?_
            refine Ok.cond (b := decide (x20l17 > 0)) rfl (fun hc14 => ?_) (fun hc14 => ?_)
            · replace hF := hF.1 hc14
              refine Ok.region ?_
              refine Ok.batch 1 [(4, .slice ayown2_0_0j5 (if (((splS xs ([44] : List UInt8)).length : Int) == 3) = true then ((splS xs ([44] : List UInt8)) ++ ([([50, 53, 53] : List UInt8)] : List (List UInt8))) else (splS xs ([44] : List UInt8))).length cyown2_0_0j5), (5, .int .i64 x5l17), (18, .slice ayown2_0_0j5 (if (((splS xs ([44] : List UInt8)).length : Int) == 3) = true then ((splS xs ([44] : List UInt8)) ++ ([([50, 53, 53] : List UInt8)] : List (List UInt8))) else (splS xs ([44] : List UInt8))).length cyown2_0_0j5), (19, .int .i64 ((if (((splS xs ([44] : List UInt8)).length : Int) == 3) = true then ((splS xs ([44] : List UInt8)) ++ ([([50, 53, 53] : List UInt8)] : List (List UInt8))) else (splS xs ([44] : List UInt8))).length : Int)), (20, .int .i64 x20l17), (27, .string ⟨⟨e5⟩⟩)] (by kernel_rfl) ?_
              refine Ok.op rfl (OpOk.callG (v := .string ⟨⟨(tpfM e5 ([32] : List UInt8))⟩⟩) (enters (by kernel_rfl) (fun _ => by kernel_rfl)) (fun W hW => tpf_c e5 ([32] : List UInt8)) rfl ?_)
              refine Ok.batch 1 [(4, .slice ayown2_0_0j5 (if (((splS xs ([44] : List UInt8)).length : Int) == 3) = true then ((splS xs ([44] : List UInt8)) ++ ([([50, 53, 53] : List UInt8)] : List (List UInt8))) else (splS xs ([44] : List UInt8))).length cyown2_0_0j5), (5, .int .i64 x5l17), (7, .string ⟨⟨(tpfM e5 ([32] : List UInt8))⟩⟩), (18, .slice ayown2_0_0j5 (if (((splS xs ([44] : List UInt8)).length : Int) == 3) = true then ((splS xs ([44] : List UInt8)) ++ ([([50, 53, 53] : List UInt8)] : List (List UInt8))) else (splS xs ([44] : List UInt8))).length cyown2_0_0j5), (19, .int .i64 ((if (((splS xs ([44] : List UInt8)).length : Int) == 3) = true then ((splS xs ([44] : List UInt8)) ++ ([([50, 53, 53] : List UInt8)] : List (List UInt8))) else (splS xs ([44] : List UInt8))).length : Int)), (20, .int .i64 x20l17)] (by kernel_rfl) ?_
              refine Ok.nil ?_
              refine Ok.thenN ?_
              refine Ok.reval 7 rfl (show (.string ⟨⟨(tpfM e5 ([32] : List UInt8))⟩⟩ : Value) = .string ⟨⟨(if (decide (x20l17 > 0)) = true then (tpfM e5 ([32] : List UInt8)) else e5)⟩⟩ from congrArg ((fun s : List UInt8 => Value.string ⟨⟨s⟩⟩)) ((if_t hc14).symm)) ?_
              exact fun a W hA hW => ⟨gl17, (Gext.refl w0 gl17), hA.sub (by kernel_rfl), hW, hF⟩
            · replace hF := hF.2 hc14
              refine Ok.skip ?_
              refine Ok.thenN ?_
              refine Ok.reval 7 rfl (show (.string ⟨⟨e5⟩⟩ : Value) = .string ⟨⟨(if (decide (x20l17 > 0)) = true then (tpfM e5 ([32] : List UInt8)) else e5)⟩⟩ from congrArg ((fun s : List UInt8 => Value.string ⟨⟨s⟩⟩)) ((if_f hc14).symm)) ?_
              exact fun a W hA hW => ⟨gl17, (Gext.refl w0 gl17), hA.sub (by kernel_rfl), hW, hF⟩
          ·
            clear hF
            rintro a W ⟨gj28, hxj28, hA, hW, hF⟩
            refine (?_ : Ok _ _ _ _ _ _) a W hA hW
            clear hA hW
            replace hLyown2_0_0j5 := hLyown2_0_0j5.mono hxj28.1
            replace hG1 := hG1.mono hxj28.1
            replace hG2 := hG2.mono hxj28.1
            replace hG3 := hG3.mono hxj28.1
            replace hG4 := hG4.mono hxj28.1
            refine Ok.seq ?_
            refine Ok.region ?_
            refine Ok.batch 1 [(4, .slice ayown2_0_0j5 (if (((splS xs ([44] : List UInt8)).length : Int) == 3) = true then ((splS xs ([44] : List UInt8)) ++ ([([50, 53, 53] : List UInt8)] : List (List UInt8))) else (splS xs ([44] : List UInt8))).length cyown2_0_0j5), (5, .int .i64 x5l17), (7, .string ⟨⟨(if (decide (x20l17 > 0)) = true then (tpfM e5 ([32] : List UInt8)) else e5)⟩⟩), (18, .slice ayown2_0_0j5 (if (((splS xs ([44] : List UInt8)).length : Int) == 3) = true then ((splS xs ([44] : List UInt8)) ++ ([([50, 53, 53] : List UInt8)] : List (List UInt8))) else (splS xs ([44] : List UInt8))).length cyown2_0_0j5), (19, .int .i64 ((if (((splS xs ([44] : List UInt8)).length : Int) == 3) = true then ((splS xs ([44] : List UInt8)) ++ ([([50, 53, 53] : List UInt8)] : List (List UInt8))) else (splS xs ([44] : List UInt8))).length : Int)), (20, .int .i64 x20l17), (30, .string ⟨⟨(if (decide (x20l17 > 0)) = true then (tpfM e5 ([32] : List UInt8)) else e5)⟩⟩)] (by kernel_rfl) ?_
            obtain ⟨hp6, hF⟩ := hF
            refine Ok.op rfl (OpOk.callH [] [.own (.slice ayown2_0_0j5 (if (((splS xs ([44] : List UInt8)).length : Int) == 3) = true then ((splS xs ([44] : List UInt8)) ++ ([([50, 53, 53] : List UInt8)] : List (List UInt8))) else (splS xs ([44] : List UInt8))).length cyown2_0_0j5) 9 1 (if (((splS xs ([44] : List UInt8)).length : Int) == 3) = true then ((splS xs ([44] : List UInt8)) ++ ([([50, 53, 53] : List UInt8)] : List (List UInt8))) else (splS xs ([44] : List UInt8))).length xsyown2_0_0j5] (enters (by kernel_rfl) (fun _ => by kernel_rfl)) rfl (atoi_c (if (decide (x20l17 > 0)) = true then (tpfM e5 ([32] : List UInt8)) else e5) hG3 hG4 hp6) rfl fun g7 _ _ hx7 hV7 => ?_)
            obtain ⟨i7_0, rfl, hI7_0, rfl⟩ := hV7
            replace hLyown2_0_0j5 := hLyown2_0_0j5.mono hx7.1
            replace hG1 := hG1.mono hx7.1
            replace hG2 := hG2.mono hx7.1
            replace hG3 := hG3.mono hx7.1
            replace hG4 := hG4.mono hx7.1
            refine Ok.split ((atoiS (if (decide (x20l17 > 0)) = true then (tpfM e5 ([32] : List UInt8)) else e5)).2) (fun hc8 => ?_) (fun hc8 => ?_)
            · replace hF := hF.1 hc8
              replace hI7_0 : i7_0 = .nilIface := by rw [hc8] at hI7_0; exact hI7_0
              subst hI7_0
              refine Ok.batch 5 [(4, .slice ayown2_0_0j5 (if (((splS xs ([44] : List UInt8)).length : Int) == 3) = true then ((splS xs ([44] : List UInt8)) ++ ([([50, 53, 53] : List UInt8)] : List (List UInt8))) else (splS xs ([44] : List UInt8))).length cyown2_0_0j5), (5, .int .i64 x5l17), (7, .string ⟨⟨(if (decide (x20l17 > 0)) = true then (tpfM e5 ([32] : List UInt8)) else e5)⟩⟩), (8, .int .i64 ((atoiS (if (decide (x20l17 > 0)) = true then (tpfM e5 ([32] : List UInt8)) else e5)).1)), (9, .nilIface), (18, .slice ayown2_0_0j5 (if (((splS xs ([44] : List UInt8)).length : Int) == 3) = true then ((splS xs ([44] : List UInt8)) ++ ([([50, 53, 53] : List UInt8)] : List (List UInt8))) else (splS xs ([44] : List UInt8))).length cyown2_0_0j5), (19, .int .i64 ((if (((splS xs ([44] : List UInt8)).length : Int) == 3) = true then ((splS xs ([44] : List UInt8)) ++ ([([50, 53, 53] : List UInt8)] : List (List UInt8))) else (splS xs ([44] : List UInt8))).length : Int)), (20, .int .i64 x20l17)] (by kernel_rfl) ?_
              refine Ok.nil ?_
              refine Ok.thenN ?_
              refine Ok.seq ?_
              refine Ok.cut (fun a W => ∃ gj37 : Ghost, Gext w0 g7 gj37 ∧ StA 59 [(4, .slice ayown2_0_0j5 (if (((splS xs ([44] : List UInt8)).length : Int) == 3) = true then ((splS xs ([44] : List UInt8)) ++ ([([50, 53, 53] : List UInt8)] : List (List UInt8))) else (splS xs ([44] : List UInt8))).length cyown2_0_0j5), (5, .int .i64 x5l17), (8, .int .i64 ((atoiS (if (decide (x20l17 > 0)) = true then (tpfM e5 ([32] : List UInt8)) else e5)).1)), (18, .slice ayown2_0_0j5 (if (((splS xs ([44] : List UInt8)).length : Int) == 3) = true then ((splS xs ([44] : List UInt8)) ++ ([([50, 53, 53] : List UInt8)] : List (List UInt8))) else (splS xs ([44] : List UInt8))).length cyown2_0_0j5), (19, .int .i64 ((if (((splS xs ([44] : List UInt8)).length : Int) == 3) = true then ((splS xs ([44] : List UInt8)) ++ ([([50, 53, 53] : List UInt8)] : List (List UInt8))) else (splS xs ([44] : List UInt8))).length : Int)), (20, .int .i64 x20l17), (49, .bool (((decide (((atoiS (if (decide (x20l17 > 0)) = true then (tpfM e5 ([32] : List UInt8)) else e5)).1) < 0)) || (decide (((atoiS (if (decide (x20l17 > 0)) = true then (tpfM e5 ([32] : List UInt8)) else e5)).1) > 255))) || (!((itoaS ((atoiS (if (decide (x20l17 > 0)) = true then (tpfM e5 ([32] : List UInt8)) else e5)).1)) == (if (decide (x20l17 > 0)) = true then (tpfM e5 ([32] : List UInt8)) else e5)))))] a ∧ StW w0 [.own (.slice ayown2_0_0j5 (if (((splS xs ([44] : List UInt8)).length : Int) == 3) = true then ((splS xs ([44] : List UInt8)) ++ ([([50, 53, 53] : List UInt8)] : List (List UInt8))) else (splS xs ([44] : List UInt8))).length cyown2_0_0j5) 9 1 (if (((splS xs ([44] : List UInt8)).length : Int) == 3) = true then ((splS xs ([44] : List UInt8)) ++ ([([50, 53, 53] : List UInt8)] : List (List UInt8))) else (splS xs ([44] : List UInt8))).length xsyown2_0_0j5] gj37 W ∧ cparj37 xs K e5 x5l17 x20l17 (cparl17 xs K k17)) ?_ ?_
              ·
                refine Ok.region ?_
                refine Ok.batch 7 [(4, .slice ayown2_0_0j5 (if (((splS xs ([44] : List UInt8)).length : Int) == 3) = true then ((splS xs ([44] : List UInt8)) ++ ([([50, 53, 53] : List UInt8)] : List (List UInt8))) else (splS xs ([44] : List UInt8))).length cyown2_0_0j5), (5, .int .i64 x5l17), (7, .string ⟨⟨(if (decide (x20l17 > 0)) = true then (tpfM e5 ([32] : List UInt8)) else e5)⟩⟩), (8, .int .i64 ((atoiS (if (decide (x20l17 > 0)) = true then (tpfM e5 ([32] : List UInt8)) else e5)).1)), (18, .slice ayown2_0_0j5 (if (((splS xs ([44] : List UInt8)).length : Int) == 3) = true then ((splS xs ([44] : List UInt8)) ++ ([([50, 53, 53] : List UInt8)] : List (List UInt8))) else (splS xs ([44] : List UInt8))).length cyown2_0_0j5), (19, .int .i64 ((if (((splS xs ([44] : List UInt8)).length : Int) == 3) = true then ((splS xs ([44] : List UInt8)) ++ ([([50, 53, 53] : List UInt8)] : List (List UInt8))) else (splS xs ([44] : List UInt8))).length : Int)), (20, .int .i64 x20l17), (40, .bool (decide (((atoiS (if (decide (x20l17 > 0)) = true then (tpfM e5 ([32] : List UInt8)) else e5)).1) < 0)))] (by kernel_rfl) ?_
                refine Ok.midway 3 [(4, .slice ayown2_0_0j5 (if (((splS xs ([44] : List UInt8)).length : Int) == 3) = true then ((splS xs ([44] : List UInt8)) ++ ([([50, 53, 53] : List UInt8)] : List (List UInt8))) else (splS xs ([44] : List UInt8))).length cyown2_0_0j5), (5, .int .i64 x5l17), (7, .string ⟨⟨(if (decide (x20l17 > 0)) = true then (tpfM e5 ([32] : List UInt8)) else e5)⟩⟩), (8, .int .i64 ((atoiS (if (decide (x20l17 > 0)) = true then (tpfM e5 ([32] : List UInt8)) else e5)).1)), (18, .slice ayown2_0_0j5 (if (((splS xs ([44] : List UInt8)).length : Int) == 3) = true then ((splS xs ([44] : List UInt8)) ++ ([([50, 53, 53] : List UInt8)] : List (List UInt8))) else (splS xs ([44] : List UInt8))).length cyown2_0_0j5), (19, .int .i64 ((if (((splS xs ([44] : List UInt8)).length : Int) == 3) = true then ((splS xs ([44] : List UInt8)) ++ ([([50, 53, 53] : List UInt8)] : List (List UInt8))) else (splS xs ([44] : List UInt8))).length : Int)), (20, .int .i64 x20l17), (43, .bool ((decide (((atoiS (if (decide (x20l17 > 0)) = true then (tpfM e5 ([32] : List UInt8)) else e5)).1) < 0)) || (decide (((atoiS (if (decide (x20l17 > 0)) = true then (tpfM e5 ([32] : List UInt8)) else e5)).1) > 255))))] (fun hR10 => ?_) ?_
                · refine Ok.boolAt 40 (decide (((atoiS (if (decide (x20l17 > 0)) = true then (tpfM e5 ([32] : List UInt8)) else e5)).1) < 0)) rfl (fun hc11 => ?_) (fun hc11 => ?_)
                  · skip
                    refine Ok.batch 3 [(4, .slice ayown2_0_0j5 (if (((splS xs ([44] : List UInt8)).length : Int) == 3) = true then ((splS xs ([44] : List UInt8)) ++ ([([50, 53, 53] : List UInt8)] : List (List UInt8))) else (splS xs ([44] : List UInt8))).length cyown2_0_0j5), (5, .int .i64 x5l17), (7, .string ⟨⟨(if (decide (x20l17 > 0)) = true then (tpfM e5 ([32] : List UInt8)) else e5)⟩⟩), (8, .int .i64 ((atoiS (if (decide (x20l17 > 0)) = true then (tpfM e5 ([32] : List UInt8)) else e5)).1)), (18, .slice ayown2_0_0j5 (if (((splS xs ([44] : List UInt8)).length : Int) == 3) = true then ((splS xs ([44] : List UInt8)) ++ ([([50, 53, 53] : List UInt8)] : List (List UInt8))) else (splS xs ([44] : List UInt8))).length cyown2_0_0j5), (19, .int .i64 ((if (((splS xs ([44] : List UInt8)).length : Int) == 3) = true then ((splS xs ([44] : List UInt8)) ++ ([([50, 53, 53] : List UInt8)] : List (List UInt8))) else (splS xs ([44] : List UInt8))).length : Int)), (20, .int .i64 x20l17), (43, .bool true)] (by kernel_rfl) ?_
                    refine Ok.reval 43 rfl (show (.bool true : Value) = .bool ((decide (((atoiS (if (decide (x20l17 > 0)) = true then (tpfM e5 ([32] : List UInt8)) else e5)).1) < 0)) || (decide (((atoiS (if (decide (x20l17 > 0)) = true then (tpfM e5 ([32] : List UInt8)) else e5)).1) > 255))) from congrArg Value.bool (mor_t hc11)) ?_
                    refine Ok.batch 0 [(4, .slice ayown2_0_0j5 (if (((splS xs ([44] : List UInt8)).length : Int) == 3) = true then ((splS xs ([44] : List UInt8)) ++ ([([50, 53, 53] : List UInt8)] : List (List UInt8))) else (splS xs ([44] : List UInt8))).length cyown2_0_0j5), (5, .int .i64 x5l17), (7, .string ⟨⟨(if (decide (x20l17 > 0)) = true then (tpfM e5 ([32] : List UInt8)) else e5)⟩⟩), (8, .int .i64 ((atoiS (if (decide (x20l17 > 0)) = true then (tpfM e5 ([32] : List UInt8)) else e5)).1)), (18, .slice ayown2_0_0j5 (if (((splS xs ([44] : List UInt8)).length : Int) == 3) = true then ((splS xs ([44] : List UInt8)) ++ ([([50, 53, 53] : List UInt8)] : List (List UInt8))) else (splS xs ([44] : List UInt8))).length cyown2_0_0j5), (19, .int .i64 ((if (((splS xs ([44] : List UInt8)).length : Int) == 3) = true then ((splS xs ([44] : List UInt8)) ++ ([([50, 53, 53] : List UInt8)] : List (List UInt8))) else (splS xs ([44] : List UInt8))).length : Int)), (20, .int .i64 x20l17), (43, .bool ((decide (((atoiS (if (decide (x20l17 > 0)) = true then (tpfM e5 ([32] : List UInt8)) else e5)).1) < 0)) || (decide (((atoiS (if (decide (x20l17 > 0)) = true then (tpfM e5 ([32] : List UInt8)) else e5)).1) > 255))))] (by kernel_rfl) ?_
                    exact hR10
                  · skip
                    refine Ok.batch 3 [(4, .slice ayown2_0_0j5 (if (((splS xs ([44] : List UInt8)).length : Int) == 3) = true then ((splS xs ([44] : List UInt8)) ++ ([([50, 53, 53] : List UInt8)] : List (List UInt8))) else (splS xs ([44] : List UInt8))).length cyown2_0_0j5), (5, .int .i64 x5l17), (7, .string ⟨⟨(if (decide (x20l17 > 0)) = true then (tpfM e5 ([32] : List UInt8)) else e5)⟩⟩), (8, .int .i64 ((atoiS (if (decide (x20l17 > 0)) = true then (tpfM e5 ([32] : List UInt8)) else e5)).1)), (18, .slice ayown2_0_0j5 (if (((splS xs ([44] : List UInt8)).length : Int) == 3) = true then ((splS xs ([44] : List UInt8)) ++ ([([50, 53, 53] : List UInt8)] : List (List UInt8))) else (splS xs ([44] : List UInt8))).length cyown2_0_0j5), (19, .int .i64 ((if (((splS xs ([44] : List UInt8)).length : Int) == 3) = true then ((splS xs ([44] : List UInt8)) ++ ([([50, 53, 53] : List UInt8)] : List (List UInt8))) else (splS xs ([44] : List UInt8))).length : Int)), (20, .int .i64 x20l17), (43, .bool (decide (((atoiS (if (decide (x20l17 > 0)) = true then (tpfM e5 ([32] : List UInt8)) else e5)).1) > 255)))] (by kernel_rfl) ?_
                    refine Ok.reval 43 rfl (show (.bool (decide (((atoiS (if (decide (x20l17 > 0)) = true then (tpfM e5 ([32] : List UInt8)) else e5)).1) > 255)) : Value) = .bool ((decide (((atoiS (if (decide (x20l17 > 0)) = true then (tpfM e5 ([32] : List UInt8)) else e5)).1) < 0)) || (decide (((atoiS (if (decide (x20l17 > 0)) = true then (tpfM e5 ([32] : List UInt8)) else e5)).1) > 255))) from congrArg Value.bool (mor_f hc11)) ?_
                    refine Ok.batch 0 [(4, .slice ayown2_0_0j5 (if (((splS xs ([44] : List UInt8)).length : Int) == 3) = true then ((splS xs ([44] : List UInt8)) ++ ([([50, 53, 53] : List UInt8)] : List (List UInt8))) else (splS xs ([44] : List UInt8))).length cyown2_0_0j5), (5, .int .i64 x5l17), (7, .string ⟨⟨(if (decide (x20l17 > 0)) = true then (tpfM e5 ([32] : List UInt8)) else e5)⟩⟩), (8, .int .i64 ((atoiS (if (decide (x20l17 > 0)) = true then (tpfM e5 ([32] : List UInt8)) else e5)).1)), (18, .slice ayown2_0_0j5 (if (((splS xs ([44] : List UInt8)).length : Int) == 3) = true then ((splS xs ([44] : List UInt8)) ++ ([([50, 53, 53] : List UInt8)] : List (List UInt8))) else (splS xs ([44] : List UInt8))).length cyown2_0_0j5), (19, .int .i64 ((if (((splS xs ([44] : List UInt8)).length : Int) == 3) = true then ((splS xs ([44] : List UInt8)) ++ ([([50, 53, 53] : List UInt8)] : List (List UInt8))) else (splS xs ([44] : List UInt8))).length : Int)), (20, .int .i64 x20l17), (43, .bool ((decide (((atoiS (if (decide (x20l17 > 0)) = true then (tpfM e5 ([32] : List UInt8)) else e5)).1) < 0)) || (decide (((atoiS (if (decide (x20l17 > 0)) = true then (tpfM e5 ([32] : List UInt8)) else e5)).1) > 255))))] (by kernel_rfl) ?_
                    exact hR10
                refine Ok.batch 1 [(4, .slice ayown2_0_0j5 (if (((splS xs ([44] : List UInt8)).length : Int) == 3) = true then ((splS xs ([44] : List UInt8)) ++ ([([50, 53, 53] : List UInt8)] : List (List UInt8))) else (splS xs ([44] : List UInt8))).length cyown2_0_0j5), (5, .int .i64 x5l17), (7, .string ⟨⟨(if (decide (x20l17 > 0)) = true then (tpfM e5 ([32] : List UInt8)) else e5)⟩⟩), (8, .int .i64 ((atoiS (if (decide (x20l17 > 0)) = true then (tpfM e5 ([32] : List UInt8)) else e5)).1)), (18, .slice ayown2_0_0j5 (if (((splS xs ([44] : List UInt8)).length : Int) == 3) = true then ((splS xs ([44] : List UInt8)) ++ ([([50, 53, 53] : List UInt8)] : List (List UInt8))) else (splS xs ([44] : List UInt8))).length cyown2_0_0j5), (19, .int .i64 ((if (((splS xs ([44] : List UInt8)).length : Int) == 3) = true then ((splS xs ([44] : List UInt8)) ++ ([([50, 53, 53] : List UInt8)] : List (List UInt8))) else (splS xs ([44] : List UInt8))).length : Int)), (20, .int .i64 x20l17), (44, .bool ((decide (((atoiS (if (decide (x20l17 > 0)) = true then (tpfM e5 ([32] : List UInt8)) else e5)).1) < 0)) || (decide (((atoiS (if (decide (x20l17 > 0)) = true then (tpfM e5 ([32] : List UInt8)) else e5)).1) > 255))))] (by kernel_rfl) ?_
                refine Ok.boolAt 44 (((decide (((atoiS (if (decide (x20l17 > 0)) = true then (tpfM e5 ([32] : List UInt8)) else e5)).1) < 0)) || (decide (((atoiS (if (decide (x20l17 > 0)) = true then (tpfM e5 ([32] : List UInt8)) else e5)).1) > 255)))) rfl (fun hc12 => ?_) (fun hc12 => ?_)
                · replace hF := hF.1 hc12
                  refine Ok.batch 5 [(4, .slice ayown2_0_0j5 (if (((splS xs ([44] : List UInt8)).length : Int) == 3) = true then ((splS xs ([44] : List UInt8)) ++ ([([50, 53, 53] : List UInt8)] : List (List UInt8))) else (splS xs ([44] : List UInt8))).length cyown2_0_0j5), (5, .int .i64 x5l17), (8, .int .i64 ((atoiS (if (decide (x20l17 > 0)) = true then (tpfM e5 ([32] : List UInt8)) else e5)).1)), (18, .slice ayown2_0_0j5 (if (((splS xs ([44] : List UInt8)).length : Int) == 3) = true then ((splS xs ([44] : List UInt8)) ++ ([([50, 53, 53] : List UInt8)] : List (List UInt8))) else (splS xs ([44] : List UInt8))).length cyown2_0_0j5), (19, .int .i64 ((if (((splS xs ([44] : List UInt8)).length : Int) == 3) = true then ((splS xs ([44] : List UInt8)) ++ ([([50, 53, 53] : List UInt8)] : List (List UInt8))) else (splS xs ([44] : List UInt8))).length : Int)), (20, .int .i64 x20l17), (49, .bool true)] (by kernel_rfl) ?_
                  refine Ok.nil ?_
                  refine Ok.thenN ?_
                  refine Ok.reval 49 rfl (show (.bool true : Value) = .bool (((decide (((atoiS (if (decide (x20l17 > 0)) = true then (tpfM e5 ([32] : List UInt8)) else e5)).1) < 0)) || (decide (((atoiS (if (decide (x20l17 > 0)) = true then (tpfM e5 ([32] : List UInt8)) else e5)).1) > 255))) || (!((itoaS ((atoiS (if (decide (x20l17 > 0)) = true then (tpfM e5 ([32] : List UInt8)) else e5)).1)) == (if (decide (x20l17 > 0)) = true then (tpfM e5 ([32] : List UInt8)) else e5)))) from congrArg (Value.bool) (mor_t hc12)) ?_
                  exact fun a W hA hW => ⟨g7, (Gext.refl w0 g7), hA.sub (by kernel_rfl), hW, hF⟩
                · replace hF := hF.2 hc12
                  refine Ok.batch 1 [(4, .slice ayown2_0_0j5 (if (((splS xs ([44] : List UInt8)).length : Int) == 3) = true then ((splS xs ([44] : List UInt8)) ++ ([([50, 53, 53] : List UInt8)] : List (List UInt8))) else (splS xs ([44] : List UInt8))).length cyown2_0_0j5), (5, .int .i64 x5l17), (7, .string ⟨⟨(if (decide (x20l17 > 0)) = true then (tpfM e5 ([32] : List UInt8)) else e5)⟩⟩), (8, .int .i64 ((atoiS (if (decide (x20l17 > 0)) = true then (tpfM e5 ([32] : List UInt8)) else e5)).1)), (18, .slice ayown2_0_0j5 (if (((splS xs ([44] : List UInt8)).length : Int) == 3) = true then ((splS xs ([44] : List UInt8)) ++ ([([50, 53, 53] : List UInt8)] : List (List UInt8))) else (splS xs ([44] : List UInt8))).length cyown2_0_0j5), (19, .int .i64 ((if (((splS xs ([44] : List UInt8)).length : Int) == 3) = true then ((splS xs ([44] : List UInt8)) ++ ([([50, 53, 53] : List UInt8)] : List (List UInt8))) else (splS xs ([44] : List UInt8))).length : Int)), (20, .int .i64 x20l17), (44, .bool false), (45, .int .i64 ((atoiS (if (decide (x20l17 > 0)) = true then (tpfM e5 ([32] : List UInt8)) else e5)).1))] (by kernel_rfl) ?_
                  obtain ⟨hp13, hF⟩ := hF
                  refine Ok.opYes (j := 10) (d := 44) (want := false) (b := false) rfl (by kernel_rfl) (by kernel_rfl) rfl (OpOk.callG (v := .string ⟨⟨(itoaS ((atoiS (if (decide (x20l17 > 0)) = true then (tpfM e5 ([32] : List UInt8)) else e5)).1))⟩⟩) (enters (by kernel_rfl) (fun _ => by kernel_rfl)) (fun W hW => itoa_c ((atoiS (if (decide (x20l17 > 0)) = true then (tpfM e5 ([32] : List UInt8)) else e5)).1) (hG2.mono hW.sees) hp13) rfl ?_)
                  refine Ok.batch 1 [(4, .slice ayown2_0_0j5 (if (((splS xs ([44] : List UInt8)).length : Int) == 3) = true then ((splS xs ([44] : List UInt8)) ++ ([([50, 53, 53] : List UInt8)] : List (List UInt8))) else (splS xs ([44] : List UInt8))).length cyown2_0_0j5), (5, .int .i64 x5l17), (8, .int .i64 ((atoiS (if (decide (x20l17 > 0)) = true then (tpfM e5 ([32] : List UInt8)) else e5)).1)), (18, .slice ayown2_0_0j5 (if (((splS xs ([44] : List UInt8)).length : Int) == 3) = true then ((splS xs ([44] : List UInt8)) ++ ([([50, 53, 53] : List UInt8)] : List (List UInt8))) else (splS xs ([44] : List UInt8))).length cyown2_0_0j5), (19, .int .i64 ((if (((splS xs ([44] : List UInt8)).length : Int) == 3) = true then ((splS xs ([44] : List UInt8)) ++ ([([50, 53, 53] : List UInt8)] : List (List UInt8))) else (splS xs ([44] : List UInt8))).length : Int)), (20, .int .i64 x20l17), (44, .bool false), (46, .string ⟨⟨(itoaS ((atoiS (if (decide (x20l17 > 0)) = true then (tpfM e5 ([32] : List UInt8)) else e5)).1))⟩⟩), (47, .string ⟨⟨(if (decide (x20l17 > 0)) = true then (tpfM e5 ([32] : List UInt8)) else e5)⟩⟩)] (by kernel_rfl) ?_
                  refine Ok.opYes (j := 10) (d := 44) (want := false) (b := false) rfl (by kernel_rfl) (by kernel_rfl) rfl (OpOk.step (v := .bool (!((itoaS ((atoiS (if (decide (x20l17 > 0)) = true then (tpfM e5 ([32] : List UInt8)) else e5)).1)) == (if (decide (x20l17 > 0)) = true then (tpfM e5 ([32] : List UInt8)) else e5)))) (Yields.strCmp (f := .neq) (a := (itoaS ((atoiS (if (decide (x20l17 > 0)) = true then (tpfM e5 ([32] : List UInt8)) else e5)).1))) (b := (if (decide (x20l17 > 0)) = true then (tpfM e5 ([32] : List UInt8)) else e5)) (by kernel_rfl) (by kernel_rfl) rfl) rfl rfl ?_)
                  refine Ok.batch 1 [(4, .slice ayown2_0_0j5 (if (((splS xs ([44] : List UInt8)).length : Int) == 3) = true then ((splS xs ([44] : List UInt8)) ++ ([([50, 53, 53] : List UInt8)] : List (List UInt8))) else (splS xs ([44] : List UInt8))).length cyown2_0_0j5), (5, .int .i64 x5l17), (8, .int .i64 ((atoiS (if (decide (x20l17 > 0)) = true then (tpfM e5 ([32] : List UInt8)) else e5)).1)), (18, .slice ayown2_0_0j5 (if (((splS xs ([44] : List UInt8)).length : Int) == 3) = true then ((splS xs ([44] : List UInt8)) ++ ([([50, 53, 53] : List UInt8)] : List (List UInt8))) else (splS xs ([44] : List UInt8))).length cyown2_0_0j5), (19, .int .i64 ((if (((splS xs ([44] : List UInt8)).length : Int) == 3) = true then ((splS xs ([44] : List UInt8)) ++ ([([50, 53, 53] : List UInt8)] : List (List UInt8))) else (splS xs ([44] : List UInt8))).length : Int)), (20, .int .i64 x20l17), (49, .bool (!((itoaS ((atoiS (if (decide (x20l17 > 0)) = true then (tpfM e5 ([32] : List UInt8)) else e5)).1)) == (if (decide (x20l17 > 0)) = true then (tpfM e5 ([32] : List UInt8)) else e5))))] (by kernel_rfl) ?_
                  refine Ok.nil ?_
                  refine Ok.thenN ?_
                  refine Ok.reval 49 rfl (show (.bool (!((itoaS ((atoiS (if (decide (x20l17 > 0)) = true then (tpfM e5 ([32] : List UInt8)) else e5)).1)) == (if (decide (x20l17 > 0)) = true then (tpfM e5 ([32] : List UInt8)) else e5))) : Value) = .bool (((decide (((atoiS (if (decide (x20l17 > 0)) = true then (tpfM e5 ([32] : List UInt8)) else e5)).1) < 0)) || (decide (((atoiS (if (decide (x20l17 > 0)) = true then (tpfM e5 ([32] : List UInt8)) else e5)).1) > 255))) || (!((itoaS ((atoiS (if (decide (x20l17 > 0)) = true then (tpfM e5 ([32] : List UInt8)) else e5)).1)) == (if (decide (x20l17 > 0)) = true then (tpfM e5 ([32] : List UInt8)) else e5)))) from congrArg (Value.bool) (mor_f hc12)) ?_
                  exact fun a W hA hW => ⟨g7, (Gext.refl w0 g7), hA.sub (by kernel_rfl), hW, hF⟩
              ·
                clear hF
                rintro a W ⟨gj37, hxj37, hA, hW, hF⟩
                refine (?_ : Ok _ _ _ _ _ _) a W hA hW
                clear hA hW
                replace hLyown2_0_0j5 := hLyown2_0_0j5.mono hxj37.1
                replace hG1 := hG1.mono hxj37.1
                replace hG2 := hG2.mono hxj37.1
                replace hG3 := hG3.mono hxj37.1
                replace hG4 := hG4.mono hxj37.1
                refine Ok.cond (b := (((decide (((atoiS (if (decide (x20l17 > 0)) = true then (tpfM e5 ([32] : List UInt8)) else e5)).1) < 0)) || (decide (((atoiS (if (decide (x20l17 > 0)) = true then (tpfM e5 ([32] : List UInt8)) else e5)).1) > 255))) || (!((itoaS ((atoiS (if (decide (x20l17 > 0)) = true then (tpfM e5 ([32] : List UInt8)) else e5)).1)) == (if (decide (x20l17 > 0)) = true then (tpfM e5 ([32] : List UInt8)) else e5))))) rfl (fun hc9 => ?_) (fun hc9 => ?_)
                · replace hF := hF.1 hc9
                  refine Ok.seq ?_
                  refine Ok.region ?_
                  refine Ok.batch 2 [(2, .int .i64 0), (3, .bool false)] (by kernel_rfl) ?_
                  refine Ok.nil ?_
                  refine Ok.thenN ?_
                  refine Ok.ret ?_
                  refine Ok.thenR ?_
                  refine Ok.blockR ?_
                  refine Ok.thenR ?_
                  refine Ok.thenR ?_
                  refine Ok.blockR ?_
                  refine Ok.thenR ?_
                  exact Ok.resP (vs := [.int .i64 0, .bool false]) [] [] (by decide) rfl (.inl rfl) rfl (.cons (.tmp rfl) (.cons (.tmp rfl) .nil)) (((((hx2.trans hxj5).trans hxl17).trans hxj28).trans hx7).trans hxj37) ⟨0, false, rfl, rfl, hF⟩
                · replace hF := hF.2 hc9
                  refine Ok.skip ?_
                  refine Ok.thenN ?_
                  refine Ok.region ?_
                  refine Ok.batch 5 [(4, .slice ayown2_0_0j5 (if (((splS xs ([44] : List UInt8)).length : Int) == 3) = true then ((splS xs ([44] : List UInt8)) ++ ([([50, 53, 53] : List UInt8)] : List (List UInt8))) else (splS xs ([44] : List UInt8))).length cyown2_0_0j5), (5, .int .i64 (bitOr .i64 (IntKind.wrap .i64 (x5l17 * 2 ^ 8)) ((atoiS (if (decide (x20l17 > 0)) = true then (tpfM e5 ([32] : List UInt8)) else e5)).1))), (18, .slice ayown2_0_0j5 (if (((splS xs ([44] : List UInt8)).length : Int) == 3) = true then ((splS xs ([44] : List UInt8)) ++ ([([50, 53, 53] : List UInt8)] : List (List UInt8))) else (splS xs ([44] : List UInt8))).length cyown2_0_0j5), (19, .int .i64 ((if (((splS xs ([44] : List UInt8)).length : Int) == 3) = true then ((splS xs ([44] : List UInt8)) ++ ([([50, 53, 53] : List UInt8)] : List (List UInt8))) else (splS xs ([44] : List UInt8))).length : Int)), (20, .int .i64 x20l17)] (by kernel_rfl) ?_
                  refine Ok.nil ?_
                  refine Ok.blockN ?_
                  refine Ok.thenN ?_
                  refine Ok.region ?_
                  refine Ok.batch 2 [(4, .slice ayown2_0_0j5 (if (((splS xs ([44] : List UInt8)).length : Int) == 3) = true then ((splS xs ([44] : List UInt8)) ++ ([([50, 53, 53] : List UInt8)] : List (List UInt8))) else (splS xs ([44] : List UInt8))).length cyown2_0_0j5), (5, .int .i64 (bitOr .i64 (IntKind.wrap .i64 (x5l17 * 2 ^ 8)) ((atoiS (if (decide (x20l17 > 0)) = true then (tpfM e5 ([32] : List UInt8)) else e5)).1))), (18, .slice ayown2_0_0j5 (if (((splS xs ([44] : List UInt8)).length : Int) == 3) = true then ((splS xs ([44] : List UInt8)) ++ ([([50, 53, 53] : List UInt8)] : List (List UInt8))) else (splS xs ([44] : List UInt8))).length cyown2_0_0j5), (19, .int .i64 ((if (((splS xs ([44] : List UInt8)).length : Int) == 3) = true then ((splS xs ([44] : List UInt8)) ++ ([([50, 53, 53] : List UInt8)] : List (List UInt8))) else (splS xs ([44] : List UInt8))).length : Int)), (20, .int .i64 (IntKind.wrap .i64 (x20l17 + 1)))] (by kernel_rfl) ?_
                  refine Ok.nil ?_
                  refine Ok.thenN ?_
                  subst hg5
                  exact fun a W hA hW => ⟨k17, Nat.lt_succ_self _, gj37, (((hxl17.trans hxj28).trans hx7).trans hxj37), bitOr .i64 (IntKind.wrap .i64 (x5l17 * 2 ^ 8)) ((atoiS (if (decide (x20l17 > 0)) = true then (tpfM ((if (((splS xs ([44] : List UInt8)).length : Int) == 3) = true then ((splS xs ([44] : List UInt8)) ++ ([([50, 53, 53] : List UInt8)] : List (List UInt8))) else (splS xs ([44] : List UInt8))).getD (Int.toNat x20l17) default) ([32] : List UInt8)) else ((if (((splS xs ([44] : List UInt8)).length : Int) == 3) = true then ((splS xs ([44] : List UInt8)) ++ ([([50, 53, 53] : List UInt8)] : List (List UInt8))) else (splS xs ([44] : List UInt8))).getD (Int.toNat x20l17) default))).1), IntKind.wrap .i64 (x20l17 + 1), hA.sub (by kernel_rfl), hW, hF⟩
            · replace hF := hF.2 hc8
              rw [hc8] at hI7_0
              obtain ⟨t7_0, p7_0, rfl⟩ := hI7_0
              refine Ok.batch 5 [(4, .slice ayown2_0_0j5 (if (((splS xs ([44] : List UInt8)).length : Int) == 3) = true then ((splS xs ([44] : List UInt8)) ++ ([([50, 53, 53] : List UInt8)] : List (List UInt8))) else (splS xs ([44] : List UInt8))).length cyown2_0_0j5), (5, .int .i64 x5l17), (7, .string ⟨⟨(if (decide (x20l17 > 0)) = true then (tpfM e5 ([32] : List UInt8)) else e5)⟩⟩), (8, .int .i64 ((atoiS (if (decide (x20l17 > 0)) = true then (tpfM e5 ([32] : List UInt8)) else e5)).1)), (9, .iface t7_0 p7_0), (18, .slice ayown2_0_0j5 (if (((splS xs ([44] : List UInt8)).length : Int) == 3) = true then ((splS xs ([44] : List UInt8)) ++ ([([50, 53, 53] : List UInt8)] : List (List UInt8))) else (splS xs ([44] : List UInt8))).length cyown2_0_0j5), (19, .int .i64 ((if (((splS xs ([44] : List UInt8)).length : Int) == 3) = true then ((splS xs ([44] : List UInt8)) ++ ([([50, 53, 53] : List UInt8)] : List (List UInt8))) else (splS xs ([44] : List UInt8))).length : Int)), (20, .int .i64 x20l17)] (by kernel_rfl) ?_
              refine Ok.nil ?_
              refine Ok.thenN ?_
              refine Ok.seq ?_
              refine Ok.seq ?_
              refine Ok.region ?_
              refine Ok.batch 16 [(4, .slice ayown2_0_0j5 (if (((splS xs ([44] : List UInt8)).length : Int) == 3) = true then ((splS xs ([44] : List UInt8)) ++ ([([50, 53, 53] : List UInt8)] : List (List UInt8))) else (splS xs ([44] : List UInt8))).length cyown2_0_0j5), (5, .int .i64 x5l17), (8, .int .i64 ((atoiS (if (decide (x20l17 > 0)) = true then (tpfM e5 ([32] : List UInt8)) else e5)).1)), (18, .slice ayown2_0_0j5 (if (((splS xs ([44] : List UInt8)).length : Int) == 3) = true then ((splS xs ([44] : List UInt8)) ++ ([([50, 53, 53] : List UInt8)] : List (List UInt8))) else (splS xs ([44] : List UInt8))).length cyown2_0_0j5), (19, .int .i64 ((if (((splS xs ([44] : List UInt8)).length : Int) == 3) = true then ((splS xs ([44] : List UInt8)) ++ ([([50, 53, 53] : List UInt8)] : List (List UInt8))) else (splS xs ([44] : List UInt8))).length : Int)), (20, .int .i64 x20l17), (49, .bool true)] (by kernel_rfl) ?_
              refine Ok.nil ?_
              refine Ok.thenN ?_
              refine Ok.cond (b := true) rfl (fun _ => ?_) (fun h => by cases h)
              refine Ok.seq ?_
              refine Ok.region ?_
              refine Ok.batch 2 [(2, .int .i64 0), (3, .bool false)] (by kernel_rfl) ?_
              refine Ok.nil ?_
              refine Ok.thenN ?_
              refine Ok.ret ?_
              refine Ok.thenR ?_
              refine Ok.blockR ?_
              refine Ok.thenR ?_
              refine Ok.thenR ?_
              refine Ok.blockR ?_
              refine Ok.thenR ?_
              exact Ok.resP (vs := [.int .i64 0, .bool false]) [] [] (by decide) rfl (.inl rfl) rfl (.cons (.tmp rfl) (.cons (.tmp rfl) .nil)) ((((hx2.trans hxj5).trans hxl17).trans hxj28).trans hx7) ⟨0, false, rfl, rfl, hF⟩
        · replace hF := hF.2 hc3
          refine Ok.exit ?_
          refine Ok.thenE ?_
          refine Ok.thenE ?_
          refine Ok.blockHit ?_
          refine Ok.thenN ?_
          refine Ok.seq ?_
          refine Ok.region ?_
          refine Ok.batch 6 [(2, .int .i64 x5l17), (3, .bool (((if (((splS xs ([44] : List UInt8)).length : Int) == 3) = true then ((splS xs ([44] : List UInt8)) ++ ([([50, 53, 53] : List UInt8)] : List (List UInt8))) else (splS xs ([44] : List UInt8))).length : Int) == 4))] (by kernel_rfl) ?_
          refine Ok.nil ?_
          refine Ok.thenN ?_
          refine Ok.ret ?_
          exact Ok.resP (vs := [.int .i64 x5l17, .bool (((if (((splS xs ([44] : List UInt8)).length : Int) == 3) = true then ((splS xs ([44] : List UInt8)) ++ ([([50, 53, 53] : List UInt8)] : List (List UInt8))) else (splS xs ([44] : List UInt8))).length : Int) == 4)]) [] [] (by decide) rfl (.inl rfl) rfl (.cons (.tmp rfl) (.cons (.tmp rfl) .nil)) ((hx2.trans hxj5).trans hxl17) ⟨x5l17, (((if (((splS xs ([44] : List UInt8)).length : Int) == 3) = true then ((splS xs ([44] : List UInt8)) ++ ([([50, 53, 53] : List UInt8)] : List (List UInt8))) else (splS xs ([44] : List UInt8))).length : Int) == 4), rfl, rfl, hF⟩
def cl4 (s : List UInt8) : List (List UInt8) := if (((splS s [44]).length : Int) == 3) = true then splS s [44] ++ [[50, 53, 53]] else splS s [44]
def cpw (w : List UInt8) (i : Int) : List UInt8 := if decide (i > 0) = true then tpfM w [32] else w
def cpOk (w : List UInt8) : Bool := (atoiS w).2 && !((decide ((atoiS w).1 < 0) || decide ((atoiS w).1 > 255)) || !(itoaS (atoiS w).1 == w))
def cparN : List (List UInt8) → Int → Int → Option Int
  | [], _, c => some c
  | w :: r, i, c => if cpOk (cpw w i) = true then cparN r (i + 1) (bitOr .i64 (IntKind.wrap .i64 (c * 2 ^ 8)) (atoiS (cpw w i)).1) else none
def cparS (s : List UInt8) : Int × Bool := match cparN (cl4 s) 0 0 with
  | some c => (c, ((cl4 s).length : Int) == 4)
  | none => (0, false)
def cparP (s : List UInt8) : Prop := s.length ≤ 1000
theorem cl4_len {s : List UInt8} (hp : cparP s) : (cl4 s).length ≤ 1002 ∧ ∀ w ∈ cl4 s, w.length ≤ 1000 := by
  unfold cparP at hp
  have h1 := sp44_len s
  have h2 := sp44_sub s
  unfold cl4
  rw [spl44]
  split
  · refine ⟨by rw [List.length_append]; simp only [List.length_cons, List.length_nil]; omega, fun w hw => ?_⟩
    rcases List.mem_append.1 hw with hw | hw
    · have := h2 w hw; omega
    · rw [List.mem_singleton] at hw; rw [hw]; simp
  · exact ⟨by omega, fun w hw => by have := h2 w hw; omega⟩
theorem tpf_len (w p : List UInt8) : (tpfM w p).length ≤ w.length := by
  unfold tpfM sltpM
  repeat' split
  all_goals simp
theorem cpw_len (w : List UInt8) (i : Int) : (cpw w i).length ≤ w.length := by
  unfold cpw
  split
  · exact tpf_len _ _
  · exact Nat.le_refl _
theorem cpar_F (s : List UInt8) (hp : cparP s) : cparF s (fun r r1 => (r, r1) = cparS s) := by
  obtain ⟨hl, hw⟩ := cl4_len hp
  have hp' := hp
  unfold cparP at hp'
  have loop : ∀ (k i : Nat) (c : Int), i + k = (cl4 s).length → cparN (cl4 s) 0 0 = cparN ((cl4 s).drop i) (i : Int) c → cparl17 s (fun r r1 => (r, r1) = cparS s) (k + 1) c (i : Int) := by
    intro k
    induction k with
    | zero =>
      intro i c h he
      have hn : decide ((i : Int) < ((cl4 s).length : Int)) = false := decide_eq_false (by omega)
      rw [List.drop_of_length_le (by omega)] at he
      refine ⟨fun h => (Bool.false_ne_true (hn.symm.trans h)).elim, fun _ => ?_⟩
      show (c, ((cl4 s).length : Int) == 4) = cparS s
      unfold cparS
      rw [he]; rfl
    | succ k ih =>
      intro i c h he
      have hn : decide ((i : Int) < ((cl4 s).length : Int)) = true := decide_eq_true (by omega)
      rw [drop_get (l := cl4 s) default (by omega), cparN] at he
      have hwl : ((cl4 s).getD i default).length ≤ 1000 := hw _ (by rw [List.getD_eq_getElem?_getD, List.getElem?_eq_getElem (show i < (cl4 s).length by omega), Option.getD_some]; exact List.getElem_mem _)
      have hcl := cpw_len ((cl4 s).getD i default) (i : Int)
      have hnone : cpOk (cpw ((cl4 s).getD i default) (i : Int)) = false → (0, false) = cparS s := fun h => by
        rw [if_f h] at he
        unfold cparS; rw [he]
      have j37 : (atoiS (cpw ((cl4 s).getD i default) (i : Int))).2 = true → cparj37 s (fun r r1 => (r, r1) = cparS s) ((cl4 s).getD (Int.toNat (i : Int)) default) c (i : Int) (cparl17 s (fun r r1 => (r, r1) = cparS s) (k + 1)) := by
        intro hok
        rw [Int.toNat_natCast]
        change (((decide ((atoiS (cpw ((cl4 s).getD i default) (i : Int))).1 < 0) || decide ((atoiS (cpw ((cl4 s).getD i default) (i : Int))).1 > 255)) || !(itoaS (atoiS (cpw ((cl4 s).getD i default) (i : Int))).1 == cpw ((cl4 s).getD i default) (i : Int))) = true → (0, false) = cparS s) ∧
          (((decide ((atoiS (cpw ((cl4 s).getD i default) (i : Int))).1 < 0) || decide ((atoiS (cpw ((cl4 s).getD i default) (i : Int))).1 > 255)) || !(itoaS (atoiS (cpw ((cl4 s).getD i default) (i : Int))).1 == cpw ((cl4 s).getD i default) (i : Int))) = false →
            cparl17 s (fun r r1 => (r, r1) = cparS s) (k + 1) (bitOr .i64 (IntKind.wrap .i64 (c * 2 ^ 8)) (atoiS (cpw ((cl4 s).getD (Int.toNat (i : Int)) default) (i : Int))).1) (IntKind.wrap .i64 ((i : Int) + 1)))
        refine ⟨fun hb => hnone (by unfold cpOk; rw [hok, hb]; rfl), fun hb => ?_⟩
        rw [if_t (show cpOk (cpw ((cl4 s).getD i default) (i : Int)) = true by unfold cpOk; rw [hok, hb]; rfl)] at he
        rw [Int.toNat_natCast, w64 (x := (i : Int) + 1) (by omega)]
        exact ih (i + 1) _ (by omega) he
      have j28 : cparj28 s (fun r r1 => (r, r1) = cparS s) ((cl4 s).getD (Int.toNat (i : Int)) default) c (i : Int) (cparl17 s (fun r r1 => (r, r1) = cparS s) (k + 1)) := by
        rw [Int.toNat_natCast] at j37 ⊢
        change atoiP (cpw ((cl4 s).getD i default) (i : Int)) ∧ ((atoiS (cpw ((cl4 s).getD i default) (i : Int))).2 = true → ((decide ((atoiS (cpw ((cl4 s).getD i default) (i : Int))).1 < 0) || decide ((atoiS (cpw ((cl4 s).getD i default) (i : Int))).1 > 255)) = true → cparj37 s (fun r r1 => (r, r1) = cparS s) ((cl4 s).getD i default) c (i : Int) (cparl17 s (fun r r1 => (r, r1) = cparS s) (k + 1))) ∧ ((decide ((atoiS (cpw ((cl4 s).getD i default) (i : Int))).1 < 0) || decide ((atoiS (cpw ((cl4 s).getD i default) (i : Int))).1 > 255)) = false → itoaP (atoiS (cpw ((cl4 s).getD i default) (i : Int))).1 ∧ cparj37 s (fun r r1 => (r, r1) = cparS s) ((cl4 s).getD i default) c (i : Int) (cparl17 s (fun r r1 => (r, r1) = cparS s) (k + 1)))) ∧ ((atoiS (cpw ((cl4 s).getD i default) (i : Int))).2 = false → (0, false) = cparS s)
        refine ⟨by unfold atoiP; omega, fun h => ⟨fun _ => j37 h, fun hb => ⟨?_, j37 h⟩⟩, fun h => hnone (by unfold cpOk; rw [h]; rfl)⟩
        rw [Bool.or_eq_false_iff, decide_eq_false_iff_not, decide_eq_false_iff_not] at hb
        unfold itoaP; omega
      exact ⟨fun _ => ⟨by omega, by rw [Int.toNat_natCast]; show i < (cl4 s).length; omega, fun _ => j28, fun _ => j28⟩, fun h => (Bool.false_ne_true (h.symm.trans hn)).elim⟩
  have j5 : cparj5 s (fun r r1 => (r, r1) = cparS s) := ⟨_, loop (cl4 s).length 0 0 (by omega) rfl⟩
  refine ⟨⟨by omega, by decide⟩, fun h => ⟨?_, j5⟩, fun _ => j5⟩
  rw [beq_iff_eq] at h
  rw [List.length_append]; simp only [List.length_cons, List.length_nil]; omega
set_option linter.unusedVariables false in
theorem cpar_c {g : Ghost} (xs : List UInt8) (hG1 : SomeInt g 1) (hG2 : GlobL g 2 (.int .u64) DPow) (hG3 : SomeIf g 3) (hG4 : SomeIf g 4)  (hp : cparP xs) : CallsG Tryd.prog 47 #[.string ⟨⟨xs⟩⟩] g (.tuple #[.int .i64 ((cparS xs).1), .bool ((cparS xs).2)]) :=
  (cpar_ok xs hG1 hG2 hG3 hG4 _ (cpar_F xs hp)).gives (by rintro g' H' v _ ⟨r0, r1, rfl, rfl, hK⟩; obtain ⟨rfl, rfl⟩ : r0 = (cparS xs).1 ∧ r1 = (cparS xs).2 := ⟨congrArg (fun z => z.1) hK, congrArg (fun z => z.2) hK⟩; rfl)
def crdj25 (xs : List UInt8) (K : Int → Int → Prop) : Prop :=
  ((!(if ((cpfM (clowS xs) ([35] : List UInt8)).2) = true then (chexS ((cpfM (clowS xs) ([35] : List UInt8)).1)).2 else ((((cpfM (clowS xs) ([114, 103, 98, 40] : List UInt8)).2) && ((hsfM ((cpfM (clowS xs) ([114, 103, 98, 40] : List UInt8)).1) ([41] : List UInt8)) && (decide ((((cpfM (clowS xs) ([114, 103, 98, 40] : List UInt8)).1).length : Int) ≤ 40)))) && ((cparS (((cpfM (clowS xs) ([114, 103, 98, 40] : List UInt8)).1).take (Int.toNat (IntKind.wrap .i64 ((((cpfM (clowS xs) ([114, 103, 98, 40] : List UInt8)).1).length : Int) - 1))))).2)))) = true → K 0 4) ∧ ((!(if ((cpfM (clowS xs) ([35] : List UInt8)).2) = true then (chexS ((cpfM (clowS xs) ([35] : List UInt8)).1)).2 else ((((cpfM (clowS xs) ([114, 103, 98, 40] : List UInt8)).2) && ((hsfM ((cpfM (clowS xs) ([114, 103, 98, 40] : List UInt8)).1) ([41] : List UInt8)) && (decide ((((cpfM (clowS xs) ([114, 103, 98, 40] : List UInt8)).1).length : Int) ≤ 40)))) && ((cparS (((cpfM (clowS xs) ([114, 103, 98, 40] : List UInt8)).1).take (Int.toNat (IntKind.wrap .i64 ((((cpfM (clowS xs) ([114, 103, 98, 40] : List UInt8)).1).length : Int) - 1))))).2)))) = false → K (if ((cpfM (clowS xs) ([35] : List UInt8)).2) = true then (chexS ((cpfM (clowS xs) ([35] : List UInt8)).1)).1 else (if (((cpfM (clowS xs) ([114, 103, 98, 40] : List UInt8)).2) && ((hsfM ((cpfM (clowS xs) ([114, 103, 98, 40] : List UInt8)).1) ([41] : List UInt8)) && (decide ((((cpfM (clowS xs) ([114, 103, 98, 40] : List UInt8)).1).length : Int) ≤ 40)))) = true then (cparS (((cpfM (clowS xs) ([114, 103, 98, 40] : List UInt8)).1).take (Int.toNat (IntKind.wrap .i64 ((((cpfM (clowS xs) ([114, 103, 98, 40] : List UInt8)).1).length : Int) - 1))))).1 else 0)) 0)
def crdj34 (xs : List UInt8) (K : Int → Int → Prop) : Prop :=
  (((((cpfM (clowS xs) ([114, 103, 98, 40] : List UInt8)).2) && ((hsfM ((cpfM (clowS xs) ([114, 103, 98, 40] : List UInt8)).1) ([41] : List UInt8)) && (decide ((((cpfM (clowS xs) ([114, 103, 98, 40] : List UInt8)).1).length : Int) ≤ 40))))) = true → (0 : Int) ≤ 0 ∧ (0 : Int) ≤ (IntKind.wrap .i64 ((((cpfM (clowS xs) ([114, 103, 98, 40] : List UInt8)).1).length : Int) - 1)) ∧ (IntKind.wrap .i64 ((((cpfM (clowS xs) ([114, 103, 98, 40] : List UInt8)).1).length : Int) - 1)) ≤ (((cpfM (clowS xs) ([114, 103, 98, 40] : List UInt8)).1).length : Int) ∧ cparP (((cpfM (clowS xs) ([114, 103, 98, 40] : List UInt8)).1).take (Int.toNat (IntKind.wrap .i64 ((((cpfM (clowS xs) ([114, 103, 98, 40] : List UInt8)).1).length : Int) - 1)))) ∧ crdj25 xs K) ∧ (((((cpfM (clowS xs) ([114, 103, 98, 40] : List UInt8)).2) && ((hsfM ((cpfM (clowS xs) ([114, 103, 98, 40] : List UInt8)).1) ([41] : List UInt8)) && (decide ((((cpfM (clowS xs) ([114, 103, 98, 40] : List UInt8)).1).length : Int) ≤ 40))))) = false → crdj25 xs K)
def crdF (xs : List UInt8) (K : Int → Int → Prop) : Prop :=
  clowP xs ∧ ((((clowS xs) == ([116, 114, 97, 110, 115, 112, 97, 114, 101, 110, 116] : List UInt8))) = true → K 0 0) ∧ ((((clowS xs) == ([116, 114, 97, 110, 115, 112, 97, 114, 101, 110, 116] : List UInt8))) = false → (((cnamM (clowS xs)).2) = true → K (bitOr .i64 (IntKind.wrap .i64 (((cnamM (clowS xs)).1) * 2 ^ 8)) 255) 0) ∧ (((cnamM (clowS xs)).2) = false → (((cpfM (clowS xs) ([35] : List UInt8)).2) = true → chexP ((cpfM (clowS xs) ([35] : List UInt8)).1) ∧ crdj25 xs K) ∧ (((cpfM (clowS xs) ([35] : List UInt8)).2) = false → (((cpfM (clowS xs) ([114, 103, 98, 40] : List UInt8)).2) = true → hsP ((cpfM (clowS xs) ([114, 103, 98, 40] : List UInt8)).1) ([41] : List UInt8) ∧ crdj34 xs K) ∧ (((cpfM (clowS xs) ([114, 103, 98, 40] : List UInt8)).2) = false → crdj34 xs K))))
set_option maxHeartbeats 4000000 in
set_option maxRecDepth 100000 in
set_option linter.unusedVariables false in
theorem crd_ok {g : Ghost} (xs : List UInt8) (hG1 : SomeInt g 1) (hG2 : GlobL g 2 (.int .u64) DPow) (hG3 : SomeIf g 3) (hG4 : SomeIf g 4) (K : Int → Int → Prop)
    (hF : crdF xs K) : CallsH Tryd.prog 18 #[.string ⟨⟨xs⟩⟩] g [] (fun g' H' v => ∃ (r0 : Int), ∃ (r1 : Int), v = .tuple #[.int .i64 r0, .int .i64 r1] ∧ H' = [] ∧ K r0 r1) := by
  refine CallsH.enter 63 [(0, .string ⟨⟨xs⟩⟩)] Tryd.func18 rfl (by kernel_rfl) (by kernel_rfl) (by kernel_rfl) fun w0 => ?_
  refine Ok.seq ?_
  refine Ok.region ?_
  refine Ok.batch 2 [(0, .string ⟨⟨xs⟩⟩)] (by kernel_rfl) ?_
  refine Ok.nil ?_
  refine Ok.thenN ?_
  refine Ok.seq ?_
  refine Ok.region ?_
  refine Ok.batch 1 [(12, .string ⟨⟨xs⟩⟩)] (by kernel_rfl) ?_
  obtain ⟨hp1, hF⟩ := hF
  refine Ok.op rfl (OpOk.callG (v := .string ⟨⟨(clowS xs)⟩⟩) (enters (by kernel_rfl) (fun _ => by kernel_rfl)) (fun W hW => clow_c xs hp1) rfl ?_)
  refine Ok.batch 1 [(0, .string ⟨⟨(clowS xs)⟩⟩)] (by kernel_rfl) ?_
  refine Ok.nil ?_
  refine Ok.thenN ?_
  refine Ok.seq ?_
  refine Ok.seq ?_
  refine Ok.region ?_
  refine Ok.batch 1 [(0, .string ⟨⟨(clowS xs)⟩⟩), (14, .string ⟨⟨(clowS xs)⟩⟩)] (by kernel_rfl) ?_
  refine Ok.op rfl (OpOk.step (v := .bool ((clowS xs) == ([116, 114, 97, 110, 115, 112, 97, 114, 101, 110, 116] : List UInt8))) (Yields.strCmp (f := .eql) (a := (clowS xs)) (b := ([116, 114, 97, 110, 115, 112, 97, 114, 101, 110, 116] : List UInt8)) (by kernel_rfl) (by kernel_rfl) rfl) rfl rfl ?_)
  refine Ok.nil ?_
  refine Ok.thenN ?_
  refine Ok.cond (b := ((clowS xs) == ([116, 114, 97, 110, 115, 112, 97, 114, 101, 110, 116] : List UInt8))) rfl (fun hc2 => ?_) (fun hc2 => ?_)
  · replace hF := hF.1 hc2
    refine Ok.seq ?_
    refine Ok.region ?_
    refine Ok.batch 2 [(2, .int .i64 0), (3, .int .i64 0)] (by kernel_rfl) ?_
    refine Ok.nil ?_
    refine Ok.thenN ?_
    refine Ok.ret ?_
    refine Ok.thenR ?_
    exact Ok.resH (vs := [.int .i64 0, .int .i64 0]) (.inl rfl) rfl (.cons (.tmp rfl) (.cons (.tmp rfl) .nil)) (Gext.refl w0 g) ⟨0, 0, rfl, rfl, hF⟩
  · replace hF := hF.2 hc2
    refine Ok.skip ?_
    refine Ok.thenN ?_
    refine Ok.seq ?_
    refine Ok.seq ?_
    refine Ok.region ?_
    refine Ok.batch 1 [(0, .string ⟨⟨(clowS xs)⟩⟩), (17, .string ⟨⟨(clowS xs)⟩⟩)] (by kernel_rfl) ?_
    refine Ok.op rfl (OpOk.callG (v := .tuple #[.int .i64 ((cnamM (clowS xs)).1), .bool ((cnamM (clowS xs)).2)]) (enters (by kernel_rfl) (fun _ => by kernel_rfl)) (fun W hW => cnam_c (clowS xs)) rfl ?_)
    refine Ok.batch 5 [(0, .string ⟨⟨(clowS xs)⟩⟩), (4, .int .i64 ((cnamM (clowS xs)).1)), (5, .bool ((cnamM (clowS xs)).2))] (by kernel_rfl) ?_
    refine Ok.nil ?_
    refine Ok.thenN ?_
    refine Ok.seq ?_
    refine Ok.region ?_
    refine Ok.batch 1 [(0, .string ⟨⟨(clowS xs)⟩⟩), (4, .int .i64 ((cnamM (clowS xs)).1)), (21, .bool ((cnamM (clowS xs)).2))] (by kernel_rfl) ?_
    refine Ok.nil ?_
    refine Ok.thenN ?_
    refine Ok.cond (b := (cnamM (clowS xs)).2) rfl (fun hc3 => ?_) (fun hc3 => ?_)
    · replace hF := hF.1 hc3
      refine Ok.seq ?_
      refine Ok.region ?_
      refine Ok.batch 5 [(2, .int .i64 (bitOr .i64 (IntKind.wrap .i64 (((cnamM (clowS xs)).1) * 2 ^ 8)) 255)), (3, .int .i64 0)] (by kernel_rfl) ?_
      refine Ok.nil ?_
      refine Ok.thenN ?_
      refine Ok.ret ?_
      refine Ok.thenR ?_
      exact Ok.resH (vs := [.int .i64 (bitOr .i64 (IntKind.wrap .i64 (((cnamM (clowS xs)).1) * 2 ^ 8)) 255), .int .i64 0]) (.inl rfl) rfl (.cons (.tmp rfl) (.cons (.tmp rfl) .nil)) (Gext.refl w0 g) ⟨(bitOr .i64 (IntKind.wrap .i64 (((cnamM (clowS xs)).1) * 2 ^ 8)) 255), 0, rfl, rfl, hF⟩
    · replace hF := hF.2 hc3
      refine Ok.skip ?_
      refine Ok.thenN ?_
      refine Ok.seq ?_
      refine Ok.region ?_
      refine Ok.batch 2 [(0, .string ⟨⟨(clowS xs)⟩⟩), (6, .int .i64 0), (7, .bool false)] (by kernel_rfl) ?_
      refine Ok.nil ?_
      refine Ok.thenN ?_
      refine Ok.cut (fun a W => StA 63 [(6, .int .i64 (if ((cpfM (clowS xs) ([35] : List UInt8)).2) = true then (chexS ((cpfM (clowS xs) ([35] : List UInt8)).1)).1 else (if (((cpfM (clowS xs) ([114, 103, 98, 40] : List UInt8)).2) && ((hsfM ((cpfM (clowS xs) ([114, 103, 98, 40] : List UInt8)).1) ([41] : List UInt8)) && (decide ((((cpfM (clowS xs) ([114, 103, 98, 40] : List UInt8)).1).length : Int) ≤ 40)))) = true then (cparS (((cpfM (clowS xs) ([114, 103, 98, 40] : List UInt8)).1).take (Int.toNat (IntKind.wrap .i64 ((((cpfM (clowS xs) ([114, 103, 98, 40] : List UInt8)).1).length : Int) - 1))))).1 else 0))), (7, .bool (if ((cpfM (clowS xs) ([35] : List UInt8)).2) = true then (chexS ((cpfM (clowS xs) ([35] : List UInt8)).1)).2 else ((((cpfM (clowS xs) ([114, 103, 98, 40] : List UInt8)).2) && ((hsfM ((cpfM (clowS xs) ([114, 103, 98, 40] : List UInt8)).1) ([41] : List UInt8)) && (decide ((((cpfM (clowS xs) ([114, 103, 98, 40] : List UInt8)).1).length : Int) ≤ 40)))) && ((cparS (((cpfM (clowS xs) ([114, 103, 98, 40] : List UInt8)).1).take (Int.toNat (IntKind.wrap .i64 ((((cpfM (clowS xs) ([114, 103, 98, 40] : List UInt8)).1).length : Int) - 1))))).2))))] a ∧ StW w0 [] g W ∧ crdj25 xs K) ?_ ?_
      ·
        refine Ok.seq ?_
        refine Ok.region ?_
        refine Ok.batch 1 [(0, .string ⟨⟨(clowS xs)⟩⟩), (6, .int .i64 0), (7, .bool false), (26, .string ⟨⟨(clowS xs)⟩⟩)] (by kernel_rfl) ?_
        refine Ok.op rfl (OpOk.callG (v := .tuple #[.string ⟨⟨(cpfM (clowS xs) ([35] : List UInt8)).1⟩⟩, .bool ((cpfM (clowS xs) ([35] : List UInt8)).2)]) (enters (by kernel_rfl) (fun _ => by kernel_rfl)) (fun W hW => cpf_c (clowS xs) ([35] : List UInt8)) rfl ?_)
        refine Ok.batch 5 [(0, .string ⟨⟨(clowS xs)⟩⟩), (6, .int .i64 0), (7, .bool false), (8, .string ⟨⟨(cpfM (clowS xs) ([35] : List UInt8)).1⟩⟩), (9, .bool ((cpfM (clowS xs) ([35] : List UInt8)).2))] (by kernel_rfl) ?_
        refine Ok.nil ?_
        refine Ok.thenN ?_
        refine Ok.seq ?_
        refine Ok.region ?_
        refine Ok.batch 1 [(0, .string ⟨⟨(clowS xs)⟩⟩), (6, .int .i64 0), (7, .bool false), (8, .string ⟨⟨(cpfM (clowS xs) ([35] : List UInt8)).1⟩⟩), (30, .bool ((cpfM (clowS xs) ([35] : List UInt8)).2))] (by kernel_rfl) ?_
        refine Ok.nil ?_
        refine Ok.thenN ?_
        refine Ok.cond (b := (cpfM (clowS xs) ([35] : List UInt8)).2) rfl (fun hc5 => ?_) (fun hc5 => ?_)
        · replace hF := hF.1 hc5
          refine Ok.region ?_
          refine Ok.batch 1 [(32, .string ⟨⟨(cpfM (clowS xs) ([35] : List UInt8)).1⟩⟩)] (by kernel_rfl) ?_
          obtain ⟨hp6, hF⟩ := hF
          refine Ok.op rfl (OpOk.callG (v := .tuple #[.int .i64 ((chexS ((cpfM (clowS xs) ([35] : List UInt8)).1)).1), .bool ((chexS ((cpfM (clowS xs) ([35] : List UInt8)).1)).2)]) (enters (by kernel_rfl) (fun _ => by kernel_rfl)) (fun W hW => chex_c ((cpfM (clowS xs) ([35] : List UInt8)).1) (hG3.mono hW.sees) (hG4.mono hW.sees) hp6) rfl ?_)
          refine Ok.batch 5 [(6, .int .i64 ((chexS ((cpfM (clowS xs) ([35] : List UInt8)).1)).1)), (7, .bool ((chexS ((cpfM (clowS xs) ([35] : List UInt8)).1)).2))] (by kernel_rfl) ?_
          refine Ok.nil ?_
          refine Ok.thenN ?_
          refine Ok.reval 6 rfl (show (.int .i64 ((chexS ((cpfM (clowS xs) ([35] : List UInt8)).1)).1) : Value) = .int .i64 (if ((cpfM (clowS xs) ([35] : List UInt8)).2) = true then (chexS ((cpfM (clowS xs) ([35] : List UInt8)).1)).1 else (if (((cpfM (clowS xs) ([114, 103, 98, 40] : List UInt8)).2) && ((hsfM ((cpfM (clowS xs) ([114, 103, 98, 40] : List UInt8)).1) ([41] : List UInt8)) && (decide ((((cpfM (clowS xs) ([114, 103, 98, 40] : List UInt8)).1).length : Int) ≤ 40)))) = true then (cparS (((cpfM (clowS xs) ([114, 103, 98, 40] : List UInt8)).1).take (Int.toNat (IntKind.wrap .i64 ((((cpfM (clowS xs) ([114, 103, 98, 40] : List UInt8)).1).length : Int) - 1))))).1 else 0)) from congrArg (Value.int .i64) ((if_t hc5).symm)) ?_
          refine Ok.reval 7 rfl (show (.bool ((chexS ((cpfM (clowS xs) ([35] : List UInt8)).1)).2) : Value) = .bool (if ((cpfM (clowS xs) ([35] : List UInt8)).2) = true then (chexS ((cpfM (clowS xs) ([35] : List UInt8)).1)).2 else ((((cpfM (clowS xs) ([114, 103, 98, 40] : List UInt8)).2) && ((hsfM ((cpfM (clowS xs) ([114, 103, 98, 40] : List UInt8)).1) ([41] : List UInt8)) && (decide ((((cpfM (clowS xs) ([114, 103, 98, 40] : List UInt8)).1).length : Int) ≤ 40)))) && ((cparS (((cpfM (clowS xs) ([114, 103, 98, 40] : List UInt8)).1).take (Int.toNat (IntKind.wrap .i64 ((((cpfM (clowS xs) ([114, 103, 98, 40] : List UInt8)).1).length : Int) - 1))))).2))) from congrArg (Value.bool) ((if_t hc5).symm)) ?_
          exact fun a W hA hW => ⟨hA.sub (by kernel_rfl), hW, hF⟩
        · replace hF := hF.2 hc5
          refine Ok.seq ?_
          refine Ok.region ?_
          refine Ok.batch 1 [(6, .int .i64 0), (7, .bool false), (37, .string ⟨⟨(clowS xs)⟩⟩)] (by kernel_rfl) ?_
          refine Ok.op rfl (OpOk.callG (v := .tuple #[.string ⟨⟨(cpfM (clowS xs) ([114, 103, 98, 40] : List UInt8)).1⟩⟩, .bool ((cpfM (clowS xs) ([114, 103, 98, 40] : List UInt8)).2)]) (enters (by kernel_rfl) (fun _ => by kernel_rfl)) (fun W hW => cpf_c (clowS xs) ([114, 103, 98, 40] : List UInt8)) rfl ?_)
          refine Ok.batch 5 [(6, .int .i64 0), (7, .bool false), (10, .string ⟨⟨(cpfM (clowS xs) ([114, 103, 98, 40] : List UInt8)).1⟩⟩), (11, .bool ((cpfM (clowS xs) ([114, 103, 98, 40] : List UInt8)).2))] (by kernel_rfl) ?_
          refine Ok.nil ?_
          refine Ok.thenN ?_
          refine Ok.cut (fun a W => StA 63 [(6, .int .i64 0), (7, .bool false), (10, .string ⟨⟨(cpfM (clowS xs) ([114, 103, 98, 40] : List UInt8)).1⟩⟩), (50, .bool (((cpfM (clowS xs) ([114, 103, 98, 40] : List UInt8)).2) && ((hsfM ((cpfM (clowS xs) ([114, 103, 98, 40] : List UInt8)).1) ([41] : List UInt8)) && (decide ((((cpfM (clowS xs) ([114, 103, 98, 40] : List UInt8)).1).length : Int) ≤ 40)))))] a ∧ StW w0 [] g W ∧ crdj34 xs K) ?_ ?_
          ·
            refine Ok.region ?_
            refine Ok.batch 2 [(6, .int .i64 0), (7, .bool false), (10, .string ⟨⟨(cpfM (clowS xs) ([114, 103, 98, 40] : List UInt8)).1⟩⟩), (42, .bool ((cpfM (clowS xs) ([114, 103, 98, 40] : List UInt8)).2))] (by kernel_rfl) ?_
            refine Ok.boolAt 42 ((cpfM (clowS xs) ([114, 103, 98, 40] : List UInt8)).2) rfl (fun hc10 => ?_) (fun hc10 => ?_)
            · replace hF := hF.1 hc10
              refine Ok.batch 1 [(6, .int .i64 0), (7, .bool false), (10, .string ⟨⟨(cpfM (clowS xs) ([114, 103, 98, 40] : List UInt8)).1⟩⟩), (42, .bool true), (43, .string ⟨⟨(cpfM (clowS xs) ([114, 103, 98, 40] : List UInt8)).1⟩⟩)] (by kernel_rfl) ?_
              obtain ⟨hp11, hF⟩ := hF
              refine Ok.opYes (j := 1) (d := 42) (want := true) (b := true) rfl (by kernel_rfl) (by kernel_rfl) rfl (OpOk.callG (v := .bool (hsfM ((cpfM (clowS xs) ([114, 103, 98, 40] : List UInt8)).1) ([41] : List UInt8))) (enters (by kernel_rfl) (fun _ => by kernel_rfl)) (fun W hW => hsf_c ((cpfM (clowS xs) ([114, 103, 98, 40] : List UInt8)).1) ([41] : List UInt8) hp11) rfl ?_)
              refine Ok.batch 2 [(6, .int .i64 0), (7, .bool false), (10, .string ⟨⟨(cpfM (clowS xs) ([114, 103, 98, 40] : List UInt8)).1⟩⟩), (46, .bool (hsfM ((cpfM (clowS xs) ([114, 103, 98, 40] : List UInt8)).1) ([41] : List UInt8)))] (by kernel_rfl) ?_
              refine Ok.midway 4 [(6, .int .i64 0), (7, .bool false), (10, .string ⟨⟨(cpfM (clowS xs) ([114, 103, 98, 40] : List UInt8)).1⟩⟩), (50, .bool ((hsfM ((cpfM (clowS xs) ([114, 103, 98, 40] : List UInt8)).1) ([41] : List UInt8)) && (decide ((((cpfM (clowS xs) ([114, 103, 98, 40] : List UInt8)).1).length : Int) ≤ 40))))] (fun hR12 => ?_) ?_
              · refine Ok.boolAt 46 ((hsfM ((cpfM (clowS xs) ([114, 103, 98, 40] : List UInt8)).1) ([41] : List UInt8))) rfl (fun hc13 => ?_) (fun hc13 => ?_)
                · skip
                  refine Ok.batch 4 [(6, .int .i64 0), (7, .bool false), (10, .string ⟨⟨(cpfM (clowS xs) ([114, 103, 98, 40] : List UInt8)).1⟩⟩), (50, .bool (decide ((((cpfM (clowS xs) ([114, 103, 98, 40] : List UInt8)).1).length : Int) ≤ 40)))] (by kernel_rfl) ?_
                  refine Ok.reval 50 rfl (show (.bool (decide ((((cpfM (clowS xs) ([114, 103, 98, 40] : List UInt8)).1).length : Int) ≤ 40)) : Value) = .bool ((hsfM ((cpfM (clowS xs) ([114, 103, 98, 40] : List UInt8)).1) ([41] : List UInt8)) && (decide ((((cpfM (clowS xs) ([114, 103, 98, 40] : List UInt8)).1).length : Int) ≤ 40))) from congrArg Value.bool (mand_t hc13)) ?_
                  refine Ok.batch 0 [(6, .int .i64 0), (7, .bool false), (10, .string ⟨⟨(cpfM (clowS xs) ([114, 103, 98, 40] : List UInt8)).1⟩⟩), (50, .bool ((hsfM ((cpfM (clowS xs) ([114, 103, 98, 40] : List UInt8)).1) ([41] : List UInt8)) && (decide ((((cpfM (clowS xs) ([114, 103, 98, 40] : List UInt8)).1).length : Int) ≤ 40))))] (by kernel_rfl) ?_
                  exact hR12
                · skip
                  refine Ok.batch 4 [(6, .int .i64 0), (7, .bool false), (10, .string ⟨⟨(cpfM (clowS xs) ([114, 103, 98, 40] : List UInt8)).1⟩⟩), (50, .bool false)] (by kernel_rfl) ?_
                  refine Ok.reval 50 rfl (show (.bool false : Value) = .bool ((hsfM ((cpfM (clowS xs) ([114, 103, 98, 40] : List UInt8)).1) ([41] : List UInt8)) && (decide ((((cpfM (clowS xs) ([114, 103, 98, 40] : List UInt8)).1).length : Int) ≤ 40))) from congrArg Value.bool (mand_f hc13)) ?_
                  refine Ok.batch 0 [(6, .int .i64 0), (7, .bool false), (10, .string ⟨⟨(cpfM (clowS xs) ([114, 103, 98, 40] : List UInt8)).1⟩⟩), (50, .bool ((hsfM ((cpfM (clowS xs) ([114, 103, 98, 40] : List UInt8)).1) ([41] : List UInt8)) && (decide ((((cpfM (clowS xs) ([114, 103, 98, 40] : List UInt8)).1).length : Int) ≤ 40))))] (by kernel_rfl) ?_
                  exact hR12
              refine Ok.nil ?_
              refine Ok.thenN ?_
              refine Ok.reval 50 rfl (show (.bool ((hsfM ((cpfM (clowS xs) ([114, 103, 98, 40] : List UInt8)).1) ([41] : List UInt8)) && (decide ((((cpfM (clowS xs) ([114, 103, 98, 40] : List UInt8)).1).length : Int) ≤ 40))) : Value) = .bool (((cpfM (clowS xs) ([114, 103, 98, 40] : List UInt8)).2) && ((hsfM ((cpfM (clowS xs) ([114, 103, 98, 40] : List UInt8)).1) ([41] : List UInt8)) && (decide ((((cpfM (clowS xs) ([114, 103, 98, 40] : List UInt8)).1).length : Int) ≤ 40)))) from congrArg (Value.bool) (mand_t hc10)) ?_
              exact fun a W hA hW => ⟨hA.sub (by kernel_rfl), hW, hF⟩
            · replace hF := hF.2 hc10
              refine Ok.batch 8 [(6, .int .i64 0), (7, .bool false), (10, .string ⟨⟨(cpfM (clowS xs) ([114, 103, 98, 40] : List UInt8)).1⟩⟩), (50, .bool false)] (by kernel_rfl) ?_
              refine Ok.nil ?_
              refine Ok.thenN ?_
              refine Ok.reval 50 rfl (show (.bool false : Value) = .bool (((cpfM (clowS xs) ([114, 103, 98, 40] : List UInt8)).2) && ((hsfM ((cpfM (clowS xs) ([114, 103, 98, 40] : List UInt8)).1) ([41] : List UInt8)) && (decide ((((cpfM (clowS xs) ([114, 103, 98, 40] : List UInt8)).1).length : Int) ≤ 40)))) from congrArg (Value.bool) (mand_f hc10)) ?_
              exact fun a W hA hW => ⟨hA.sub (by kernel_rfl), hW, hF⟩
          ·
            clear hF
            rintro a W ⟨hA, hW, hF⟩
            refine (?_ : Ok _ _ _ _ _ _) a W hA hW
            clear hA hW
            refine Ok.cond (b := (((cpfM (clowS xs) ([114, 103, 98, 40] : List UInt8)).2) && ((hsfM ((cpfM (clowS xs) ([114, 103, 98, 40] : List UInt8)).1) ([41] : List UInt8)) && (decide ((((cpfM (clowS xs) ([114, 103, 98, 40] : List UInt8)).1).length : Int) ≤ 40))))) rfl (fun hc7 => ?_) (fun hc7 => ?_)
            · replace hF := hF.1 hc7
              refine Ok.region ?_
              refine Ok.batch 4 [(52, .string ⟨⟨(cpfM (clowS xs) ([114, 103, 98, 40] : List UInt8)).1⟩⟩), (55, .int .i64 (IntKind.wrap .i64 ((((cpfM (clowS xs) ([114, 103, 98, 40] : List UInt8)).1).length : Int) - 1)))] (by kernel_rfl) ?_
              obtain ⟨h08, h18, h28, hF⟩ := hF
              refine Ok.op rfl (OpOk.step (v := .string ⟨⟨((cpfM (clowS xs) ([114, 103, 98, 40] : List UInt8)).1).take (Int.toNat (IntKind.wrap .i64 ((((cpfM (clowS xs) ([114, 103, 98, 40] : List UInt8)).1).length : Int) - 1)))⟩⟩) (Yields.sliceStr (s := ((cpfM (clowS xs) ([114, 103, 98, 40] : List UInt8)).1)) (l := 0) (h := (IntKind.wrap .i64 ((((cpfM (clowS xs) ([114, 103, 98, 40] : List UInt8)).1).length : Int) - 1))) (by kernel_rfl) Tryd.underlying9 (.inr ⟨rfl, rfl⟩) (.inl ⟨_, _, rfl, rfl⟩) h08 h18 h28 (((cpfM (clowS xs) ([114, 103, 98, 40] : List UInt8)).1).take (Int.toNat (IntKind.wrap .i64 ((((cpfM (clowS xs) ([114, 103, 98, 40] : List UInt8)).1).length : Int) - 1)))) (by simp)) rfl rfl ?_)
              obtain ⟨hp9, hF⟩ := hF
              refine Ok.op rfl (OpOk.callG (v := .tuple #[.int .i64 ((cparS (((cpfM (clowS xs) ([114, 103, 98, 40] : List UInt8)).1).take (Int.toNat (IntKind.wrap .i64 ((((cpfM (clowS xs) ([114, 103, 98, 40] : List UInt8)).1).length : Int) - 1))))).1), .bool ((cparS (((cpfM (clowS xs) ([114, 103, 98, 40] : List UInt8)).1).take (Int.toNat (IntKind.wrap .i64 ((((cpfM (clowS xs) ([114, 103, 98, 40] : List UInt8)).1).length : Int) - 1))))).2)]) (enters (by kernel_rfl) (fun _ => by kernel_rfl)) (fun W hW => cpar_c (((cpfM (clowS xs) ([114, 103, 98, 40] : List UInt8)).1).take (Int.toNat (IntKind.wrap .i64 ((((cpfM (clowS xs) ([114, 103, 98, 40] : List UInt8)).1).length : Int) - 1)))) (hG1.mono hW.sees) (hG2.mono hW.sees) (hG3.mono hW.sees) (hG4.mono hW.sees) hp9) rfl ?_)
              refine Ok.batch 5 [(6, .int .i64 ((cparS (((cpfM (clowS xs) ([114, 103, 98, 40] : List UInt8)).1).take (Int.toNat (IntKind.wrap .i64 ((((cpfM (clowS xs) ([114, 103, 98, 40] : List UInt8)).1).length : Int) - 1))))).1)), (7, .bool ((cparS (((cpfM (clowS xs) ([114, 103, 98, 40] : List UInt8)).1).take (Int.toNat (IntKind.wrap .i64 ((((cpfM (clowS xs) ([114, 103, 98, 40] : List UInt8)).1).length : Int) - 1))))).2))] (by kernel_rfl) ?_
              refine Ok.nil ?_
              refine Ok.thenN ?_
              refine Ok.reval 6 rfl (show (.int .i64 ((cparS (((cpfM (clowS xs) ([114, 103, 98, 40] : List UInt8)).1).take (Int.toNat (IntKind.wrap .i64 ((((cpfM (clowS xs) ([114, 103, 98, 40] : List UInt8)).1).length : Int) - 1))))).1) : Value) = .int .i64 (if ((cpfM (clowS xs) ([35] : List UInt8)).2) = true then (chexS ((cpfM (clowS xs) ([35] : List UInt8)).1)).1 else (if (((cpfM (clowS xs) ([114, 103, 98, 40] : List UInt8)).2) && ((hsfM ((cpfM (clowS xs) ([114, 103, 98, 40] : List UInt8)).1) ([41] : List UInt8)) && (decide ((((cpfM (clowS xs) ([114, 103, 98, 40] : List UInt8)).1).length : Int) ≤ 40)))) = true then (cparS (((cpfM (clowS xs) ([114, 103, 98, 40] : List UInt8)).1).take (Int.toNat (IntKind.wrap .i64 ((((cpfM (clowS xs) ([114, 103, 98, 40] : List UInt8)).1).length : Int) - 1))))).1 else 0)) from congrArg (Value.int .i64) ((Eq.trans ((if_t hc7).symm) ((if_f hc5).symm)))) ?_
              refine Ok.reval 7 rfl (show (.bool ((cparS (((cpfM (clowS xs) ([114, 103, 98, 40] : List UInt8)).1).take (Int.toNat (IntKind.wrap .i64 ((((cpfM (clowS xs) ([114, 103, 98, 40] : List UInt8)).1).length : Int) - 1))))).2) : Value) = .bool (if ((cpfM (clowS xs) ([35] : List UInt8)).2) = true then (chexS ((cpfM (clowS xs) ([35] : List UInt8)).1)).2 else ((((cpfM (clowS xs) ([114, 103, 98, 40] : List UInt8)).2) && ((hsfM ((cpfM (clowS xs) ([114, 103, 98, 40] : List UInt8)).1) ([41] : List UInt8)) && (decide ((((cpfM (clowS xs) ([114, 103, 98, 40] : List UInt8)).1).length : Int) ≤ 40)))) && ((cparS (((cpfM (clowS xs) ([114, 103, 98, 40] : List UInt8)).1).take (Int.toNat (IntKind.wrap .i64 ((((cpfM (clowS xs) ([114, 103, 98, 40] : List UInt8)).1).length : Int) - 1))))).2))) from congrArg (Value.bool) ((Eq.trans (mand_t hc7) ((if_f hc5).symm)))) ?_
              exact fun a W hA hW => ⟨hA.sub (by kernel_rfl), hW, hF⟩
            · replace hF := hF.2 hc7
              refine Ok.skip ?_
              refine Ok.thenN ?_
              refine Ok.reval 6 rfl (show (.int .i64 0 : Value) = .int .i64 (if ((cpfM (clowS xs) ([35] : List UInt8)).2) = true then (chexS ((cpfM (clowS xs) ([35] : List UInt8)).1)).1 else (if (((cpfM (clowS xs) ([114, 103, 98, 40] : List UInt8)).2) && ((hsfM ((cpfM (clowS xs) ([114, 103, 98, 40] : List UInt8)).1) ([41] : List UInt8)) && (decide ((((cpfM (clowS xs) ([114, 103, 98, 40] : List UInt8)).1).length : Int) ≤ 40)))) = true then (cparS (((cpfM (clowS xs) ([114, 103, 98, 40] : List UInt8)).1).take (Int.toNat (IntKind.wrap .i64 ((((cpfM (clowS xs) ([114, 103, 98, 40] : List UInt8)).1).length : Int) - 1))))).1 else 0)) from congrArg (Value.int .i64) ((Eq.trans ((if_f hc7).symm) ((if_f hc5).symm)))) ?_
              refine Ok.reval 7 rfl (show (.bool false : Value) = .bool (if ((cpfM (clowS xs) ([35] : List UInt8)).2) = true then (chexS ((cpfM (clowS xs) ([35] : List UInt8)).1)).2 else ((((cpfM (clowS xs) ([114, 103, 98, 40] : List UInt8)).2) && ((hsfM ((cpfM (clowS xs) ([114, 103, 98, 40] : List UInt8)).1) ([41] : List UInt8)) && (decide ((((cpfM (clowS xs) ([114, 103, 98, 40] : List UInt8)).1).length : Int) ≤ 40)))) && ((cparS (((cpfM (clowS xs) ([114, 103, 98, 40] : List UInt8)).1).take (Int.toNat (IntKind.wrap .i64 ((((cpfM (clowS xs) ([114, 103, 98, 40] : List UInt8)).1).length : Int) - 1))))).2))) from congrArg (Value.bool) ((Eq.trans (mand_f hc7) ((if_f hc5).symm)))) ?_
              exact fun a W hA hW => ⟨hA.sub (by kernel_rfl), hW, hF⟩
      ·
        clear hF
        rintro a W ⟨hA, hW, hF⟩
        refine (?_ : Ok _ _ _ _ _ _) a W hA hW
        clear hA hW
        refine Ok.seq ?_
        refine Ok.seq ?_
        refine Ok.region ?_
        refine Ok.batch 2 [(6, .int .i64 (if ((cpfM (clowS xs) ([35] : List UInt8)).2) = true then (chexS ((cpfM (clowS xs) ([35] : List UInt8)).1)).1 else (if (((cpfM (clowS xs) ([114, 103, 98, 40] : List UInt8)).2) && ((hsfM ((cpfM (clowS xs) ([114, 103, 98, 40] : List UInt8)).1) ([41] : List UInt8)) && (decide ((((cpfM (clowS xs) ([114, 103, 98, 40] : List UInt8)).1).length : Int) ≤ 40)))) = true then (cparS (((cpfM (clowS xs) ([114, 103, 98, 40] : List UInt8)).1).take (Int.toNat (IntKind.wrap .i64 ((((cpfM (clowS xs) ([114, 103, 98, 40] : List UInt8)).1).length : Int) - 1))))).1 else 0))), (61, .bool (!(if ((cpfM (clowS xs) ([35] : List UInt8)).2) = true then (chexS ((cpfM (clowS xs) ([35] : List UInt8)).1)).2 else ((((cpfM (clowS xs) ([114, 103, 98, 40] : List UInt8)).2) && ((hsfM ((cpfM (clowS xs) ([114, 103, 98, 40] : List UInt8)).1) ([41] : List UInt8)) && (decide ((((cpfM (clowS xs) ([114, 103, 98, 40] : List UInt8)).1).length : Int) ≤ 40)))) && ((cparS (((cpfM (clowS xs) ([114, 103, 98, 40] : List UInt8)).1).take (Int.toNat (IntKind.wrap .i64 ((((cpfM (clowS xs) ([114, 103, 98, 40] : List UInt8)).1).length : Int) - 1))))).2)))))] (by kernel_rfl) ?_
        refine Ok.nil ?_
        refine Ok.thenN ?_
        refine Ok.cond (b := !(if ((cpfM (clowS xs) ([35] : List UInt8)).2) = true then (chexS ((cpfM (clowS xs) ([35] : List UInt8)).1)).2 else ((((cpfM (clowS xs) ([114, 103, 98, 40] : List UInt8)).2) && ((hsfM ((cpfM (clowS xs) ([114, 103, 98, 40] : List UInt8)).1) ([41] : List UInt8)) && (decide ((((cpfM (clowS xs) ([114, 103, 98, 40] : List UInt8)).1).length : Int) ≤ 40)))) && ((cparS (((cpfM (clowS xs) ([114, 103, 98, 40] : List UInt8)).1).take (Int.toNat (IntKind.wrap .i64 ((((cpfM (clowS xs) ([114, 103, 98, 40] : List UInt8)).1).length : Int) - 1))))).2)))) rfl (fun hc4 => ?_) (fun hc4 => ?_)
        · replace hF := hF.1 hc4
          refine Ok.seq ?_
          refine Ok.region ?_
          refine Ok.batch 2 [(2, .int .i64 0), (3, .int .i64 4)] (by kernel_rfl) ?_
          refine Ok.nil ?_
          refine Ok.thenN ?_
          refine Ok.ret ?_
          refine Ok.thenR ?_
          exact Ok.resH (vs := [.int .i64 0, .int .i64 4]) (.inl rfl) rfl (.cons (.tmp rfl) (.cons (.tmp rfl) .nil)) (Gext.refl w0 g) ⟨0, 4, rfl, rfl, hF⟩
        · replace hF := hF.2 hc4
          refine Ok.skip ?_
          refine Ok.thenN ?_
          refine Ok.seq ?_
          refine Ok.region ?_
          refine Ok.batch 3 [(2, .int .i64 (if ((cpfM (clowS xs) ([35] : List UInt8)).2) = true then (chexS ((cpfM (clowS xs) ([35] : List UInt8)).1)).1 else (if (((cpfM (clowS xs) ([114, 103, 98, 40] : List UInt8)).2) && ((hsfM ((cpfM (clowS xs) ([114, 103, 98, 40] : List UInt8)).1) ([41] : List UInt8)) && (decide ((((cpfM (clowS xs) ([114, 103, 98, 40] : List UInt8)).1).length : Int) ≤ 40)))) = true then (cparS (((cpfM (clowS xs) ([114, 103, 98, 40] : List UInt8)).1).take (Int.toNat (IntKind.wrap .i64 ((((cpfM (clowS xs) ([114, 103, 98, 40] : List UInt8)).1).length : Int) - 1))))).1 else 0))), (3, .int .i64 0)] (by kernel_rfl) ?_
          refine Ok.nil ?_
          refine Ok.thenN ?_
          refine Ok.ret ?_
          exact Ok.resH (vs := [.int .i64 (if ((cpfM (clowS xs) ([35] : List UInt8)).2) = true then (chexS ((cpfM (clowS xs) ([35] : List UInt8)).1)).1 else (if (((cpfM (clowS xs) ([114, 103, 98, 40] : List UInt8)).2) && ((hsfM ((cpfM (clowS xs) ([114, 103, 98, 40] : List UInt8)).1) ([41] : List UInt8)) && (decide ((((cpfM (clowS xs) ([114, 103, 98, 40] : List UInt8)).1).length : Int) ≤ 40)))) = true then (cparS (((cpfM (clowS xs) ([114, 103, 98, 40] : List UInt8)).1).take (Int.toNat (IntKind.wrap .i64 ((((cpfM (clowS xs) ([114, 103, 98, 40] : List UInt8)).1).length : Int) - 1))))).1 else 0)), .int .i64 0]) (.inl rfl) rfl (.cons (.tmp rfl) (.cons (.tmp rfl) .nil)) (Gext.refl w0 g) ⟨(if ((cpfM (clowS xs) ([35] : List UInt8)).2) = true then (chexS ((cpfM (clowS xs) ([35] : List UInt8)).1)).1 else (if (((cpfM (clowS xs) ([114, 103, 98, 40] : List UInt8)).2) && ((hsfM ((cpfM (clowS xs) ([114, 103, 98, 40] : List UInt8)).1) ([41] : List UInt8)) && (decide ((((cpfM (clowS xs) ([114, 103, 98, 40] : List UInt8)).1).length : Int) ≤ 40)))) = true then (cparS (((cpfM (clowS xs) ([114, 103, 98, 40] : List UInt8)).1).take (Int.toNat (IntKind.wrap .i64 ((((cpfM (clowS xs) ([114, 103, 98, 40] : List UInt8)).1).length : Int) - 1))))).1 else 0)), 0, rfl, rfl, hF⟩
def crgb (t : List UInt8) : Bool := (cpfM t [114, 103, 98, 40]).2 && (hsfM (cpfM t [114, 103, 98, 40]).1 [41] && decide (((cpfM t [114, 103, 98, 40]).1.length : Int) ≤ 40))
def cin (t : List UInt8) : List UInt8 := (cpfM t [114, 103, 98, 40]).1.take (Int.toNat (IntKind.wrap .i64 (((cpfM t [114, 103, 98, 40]).1.length : Int) - 1)))
def crdR (t : List UInt8) : Int × Bool := if (cpfM t [35]).2 = true then chexS (cpfM t [35]).1 else if crgb t = true then cparS (cin t) else (0, false)
def crdT (t : List UInt8) : Int × Int := if (t == [116, 114, 97, 110, 115, 112, 97, 114, 101, 110, 116]) = true then (0, 0) else if (cnamM t).2 = true then (bitOr .i64 (IntKind.wrap .i64 ((cnamM t).1 * 2 ^ 8)) 255, 0) else if (crdR t).2 = true then ((crdR t).1, 0) else (0, 4)
def crdS (s : List UInt8) : Int × Int := crdT (clowS s)
def crdP (s : List UInt8) : Prop := s.length ≤ 140737488355328
theorem cpf_len (t p : List UInt8) : (cpfM t p).1.length ≤ t.length := by
  unfold cpfM slcpM
  repeat' split
  all_goals simp
theorem hsf_pos {t : List UInt8} (h : hsfM t [41] = true) : 1 ≤ t.length := by
  cases t with
  | nil => exact absurd h (by decide)
  | cons a l => simp
theorem crd_F (s : List UInt8) (hp : crdP s) : crdF s (fun r r1 => (r, r1) = crdS s) := by
  unfold crdP at hp
  have hl : (clowS s).length = s.length := List.length_map ..
  have h1 := cpf_len (clowS s) [35]
  have h2 := cpf_len (clowS s) [114, 103, 98, 40]
  refine ⟨by unfold clowP; omega, fun h => by unfold crdS crdT; rw [if_t h], fun h => ⟨fun hn => by unfold crdS crdT; rw [if_f h, if_t hn], fun hn => ?_⟩⟩
  have he : crdS s = if (crdR (clowS s)).2 = true then ((crdR (clowS s)).1, 0) else (0, 4) := by unfold crdS crdT; rw [if_f h, if_f hn]
  have j25 : crdj25 s (fun r r1 => (r, r1) = crdS s) := by
    change ((!(if (cpfM (clowS s) [35]).2 = true then (chexS (cpfM (clowS s) [35]).1).2 else (crgb (clowS s) && (cparS (cin (clowS s))).2))) = true → (0, 4) = crdS s) ∧ ((!(if (cpfM (clowS s) [35]).2 = true then (chexS (cpfM (clowS s) [35]).1).2 else (crgb (clowS s) && (cparS (cin (clowS s))).2))) = false → ((if (cpfM (clowS s) [35]).2 = true then (chexS (cpfM (clowS s) [35]).1).1 else (if crgb (clowS s) = true then (cparS (cin (clowS s))).1 else 0)), 0) = crdS s)
    rw [he]
    unfold crdR
    cases hc : (cpfM (clowS s) [35]).2
    · cases hg : crgb (clowS s)
      · exact ⟨fun _ => rfl, fun h => (by cases h)⟩
      · refine ⟨fun h => ?_, fun h => ?_⟩
        · have h' : (cparS (cin (clowS s))).2 = false := by simpa using h
          simp [h']
        · have h' : (cparS (cin (clowS s))).2 = true := by simpa using h
          simp [h']
    · refine ⟨fun h => ?_, fun h => ?_⟩
      · have h' : (chexS (cpfM (clowS s) [35]).1).2 = false := by simpa using h
        simp [h']
      · have h' : (chexS (cpfM (clowS s) [35]).1).2 = true := by simpa using h
        simp [h']
  have j34 : crdj34 s (fun r r1 => (r, r1) = crdS s) := by
    refine ⟨fun h => ?_, fun _ => j25⟩
    rw [Bool.and_eq_true, Bool.and_eq_true, decide_eq_true_eq] at h
    have hpos := hsf_pos h.2.1
    have w1 : IntKind.wrap .i64 (((cpfM (clowS s) [114, 103, 98, 40]).1.length : Int) - 1) = ((cpfM (clowS s) [114, 103, 98, 40]).1.length : Int) - 1 := w64 (by omega)
    rw [w1]
    exact ⟨by omega, by omega, by omega, by unfold cparP; rw [List.length_take]; omega, j25⟩
  refine ⟨fun _ => ⟨by unfold chexP; omega, j25⟩, fun _ => ⟨fun _ => ⟨by unfold hsP; omega, j34⟩, fun _ => j34⟩⟩
set_option linter.unusedVariables false in
theorem crd_c {g : Ghost} (xs : List UInt8) (hG1 : SomeInt g 1) (hG2 : GlobL g 2 (.int .u64) DPow) (hG3 : SomeIf g 3) (hG4 : SomeIf g 4)  (hp : crdP xs) : CallsG Tryd.prog 18 #[.string ⟨⟨xs⟩⟩] g (.tuple #[.int .i64 ((crdS xs).1), .int .i64 ((crdS xs).2)]) :=
  (crd_ok xs hG1 hG2 hG3 hG4 _ (crd_F xs hp)).gives (by rintro g' H' v _ ⟨r0, r1, rfl, rfl, hK⟩; obtain ⟨rfl, rfl⟩ : r0 = (crdS xs).1 ∧ r1 = (crdS xs).2 := ⟨congrArg (fun z => z.1) hK, congrArg (fun z => z.2) hK⟩; rfl)
end Go.Proofs.YteocjdpjpkjlaaaDoor.Co
