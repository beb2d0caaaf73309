/- The script reader: texts, signs, the next token. -/
import Derived.Test.YtaojddkfacnddaaDoorJlb
namespace Go.Proofs.YtaojddkfacnddaaDoor.Jl
open Go Go.Eng Go.RowKit Bld Fl
set_option linter.unusedVariables false
theorem esc_x (x : RD) : (jescS x).2.2 = x := by
  unfold jescS; repeat' split
  all_goals rfl
theorem pk_pos {x : RD} {n : Int} (h : (jpeekS x n).1 ≠ 0) : x.2.1 + n < (x.1.length : Int) := by
  unfold jpeekS at h
  by_cases hc : x.2.1 + n < (x.1.length : Int)
  · exact hc
  · exact absurd (if_f (decide_eq_false hc)) h
theorem esc_rd (x : RD) (hp : rdP x) : 0 ≤ (jescS x).2.1 ∧ x.2.1 + (jescS x).2.1 ≤ (x.1.length : Int) := by
  obtain ⟨h1, h2, h3⟩ := hp
  unfold jescS
  split
  · rename_i h
    have := pk_pos (x := x) (n := 0) (fun h0 => by rw [h0] at h; exact absurd h (by decide))
    constructor <;> show _ ≤ _ <;> dsimp only <;> omega
  · split
    · rename_i h
      have := pk_pos (x := x) (n := 0) (fun h0 => by rw [h0] at h; exact absurd h (by decide))
      constructor <;> dsimp only <;> omega
    · split
      · rename_i h
        have := pk_pos (x := x) (n := 0) (fun h0 => by rw [h0] at h; exact absurd h (by decide))
        constructor <;> dsimp only <;> omega
      · split
        · split
          · rename_i h
            have := pk_pos (x := x) (n := 2) (fun h0 => by
              rw [Bool.and_eq_true] at h
              have h5 := of_decide_eq_true h.2
              unfold hexI at h5
              rw [h0] at h5
              exact absurd h5 (by decide))
            constructor <;> dsimp only <;> omega
          · constructor <;> dsimp only <;> omega
        · constructor <;> dsimp only <;> omega
def noTok : TK := (0, 0, 0, [], 0)
def txN (s : List UInt8) (o : List TK) : Nat → Int → List Int → TK × Int × RD
  | 0, i, _ => (noTok, 4, (s, i, o))
  | k + 1, i, acc => if decide (i < (s.length : Int)) = true then
      if (((s.getD i.toNat 0).toNat : Int) == 34) = true then ((3, 0, 0, bytesOf acc, 0), 0, (s, i + 1, o)) else if decide (((s.getD i.toNat 0).toNat : Int) < 32) = true then (noTok, 4, (s, i + 1, o))
      else if (((s.getD i.toNat 0).toNat : Int) == 92) = true then (if ((jescS (s, i + 1, o)).2.1 == 0) = true then (noTok, 4, (s, i + 1, o)) else txN s o k (i + 1 + (jescS (s, i + 1, o)).2.1) (acc ++ [(jescS (s, i + 1, o)).1]))
      else txN s o k (i + 1) (acc ++ [((s.getD i.toNat 0).toNat : Int)])
    else (noTok, 4, (s, i, o))
def jtxtj21 (e4 : UInt8) (yown2_0l9 : List (Int)) (ybxr_0l9 : List UInt8) (ybxr_1l9 : Int) (yown_xr_2_0l9 : List (Int × Int × Int × List UInt8 × Int)) (C9 : (List (Int)) → (List UInt8) → Int → (List (Int × Int × Int × List UInt8 × Int)) → Prop) : Prop :=
  (yown2_0l9 ++ ([(if ((e4.toNat : Int) == 92) = true then (jescS (ybxr_0l9, IntKind.wrap .i64 (ybxr_1l9 + 1), yown_xr_2_0l9)).1 else (e4.toNat : Int))] : List (Int))).length ≤ 140737488355328 ∧ C9 (yown2_0l9 ++ ([(if (((ybxr_0l9.getD (Int.toNat ybxr_1l9) 0).toNat : Int) == 92) = true then (jescS (ybxr_0l9, IntKind.wrap .i64 (ybxr_1l9 + 1), yown_xr_2_0l9)).1 else ((ybxr_0l9.getD (Int.toNat ybxr_1l9) 0).toNat : Int))] : List (Int))) (if (((ybxr_0l9.getD (Int.toNat ybxr_1l9) 0).toNat : Int) == 92) = true then ((jescS (ybxr_0l9, IntKind.wrap .i64 (ybxr_1l9 + 1), yown_xr_2_0l9)).2.2).1 else ybxr_0l9) (if (((ybxr_0l9.getD (Int.toNat ybxr_1l9) 0).toNat : Int) == 92) = true then IntKind.wrap .i64 (((((jescS (ybxr_0l9, IntKind.wrap .i64 (ybxr_1l9 + 1), yown_xr_2_0l9)).2.2).2).1) + ((jescS (ybxr_0l9, IntKind.wrap .i64 (ybxr_1l9 + 1), yown_xr_2_0l9)).2.1)) else IntKind.wrap .i64 (ybxr_1l9 + 1)) (if (((ybxr_0l9.getD (Int.toNat ybxr_1l9) 0).toNat : Int) == 92) = true then (((jescS (ybxr_0l9, IntKind.wrap .i64 (ybxr_1l9 + 1), yown_xr_2_0l9)).2.2).2).2 else yown_xr_2_0l9)
def jtxtl9b (K : (Int × Int × Int × List UInt8 × Int) → Int → (List UInt8 × Int × List (Int × Int × Int × List UInt8 × Int)) → Prop) (yown2_0l9 : List (Int)) (ybxr_0l9 : List UInt8) (ybxr_1l9 : Int) (yown_xr_2_0l9 : List (Int × Int × Int × List UInt8 × Int)) (C9 : (List (Int)) → (List UInt8) → Int → (List (Int × Int × Int × List UInt8 × Int)) → Prop) : Prop :=
  ((decide (ybxr_1l9 < (ybxr_0l9.length : Int))) = true → (0 : Int) ≤ ybxr_1l9 ∧ Int.toNat ybxr_1l9 < ybxr_0l9.length ∧ (((((ybxr_0l9.getD (Int.toNat ybxr_1l9) 0).toNat : Int) == 34)) = true → K (3, 0, 0, (bytesOf yown2_0l9), 0) 0 (ybxr_0l9, IntKind.wrap .i64 (ybxr_1l9 + 1), yown_xr_2_0l9)) ∧ (((((ybxr_0l9.getD (Int.toNat ybxr_1l9) 0).toNat : Int) == 34)) = false → ((decide (((ybxr_0l9.getD (Int.toNat ybxr_1l9) 0).toNat : Int) < 32)) = true → K (0, 0, 0, ([] : List UInt8), 0) 4 (ybxr_0l9, IntKind.wrap .i64 (ybxr_1l9 + 1), yown_xr_2_0l9)) ∧ ((decide (((ybxr_0l9.getD (Int.toNat ybxr_1l9) 0).toNat : Int) < 32)) = false → (((((ybxr_0l9.getD (Int.toNat ybxr_1l9) 0).toNat : Int) == 92)) = true → rdP (ybxr_0l9, IntKind.wrap .i64 (ybxr_1l9 + 1), yown_xr_2_0l9) ∧ (((((jescS (ybxr_0l9, IntKind.wrap .i64 (ybxr_1l9 + 1), yown_xr_2_0l9)).2.1) == 0)) = true → K (0, 0, 0, ([] : List UInt8), 0) 4 (((jescS (ybxr_0l9, IntKind.wrap .i64 (ybxr_1l9 + 1), yown_xr_2_0l9)).2.2).1, (((jescS (ybxr_0l9, IntKind.wrap .i64 (ybxr_1l9 + 1), yown_xr_2_0l9)).2.2).2).1, (((jescS (ybxr_0l9, IntKind.wrap .i64 (ybxr_1l9 + 1), yown_xr_2_0l9)).2.2).2).2)) ∧ (((((jescS (ybxr_0l9, IntKind.wrap .i64 (ybxr_1l9 + 1), yown_xr_2_0l9)).2.1) == 0)) = false → jtxtj21 (ybxr_0l9.getD (Int.toNat ybxr_1l9) 0) yown2_0l9 ybxr_0l9 ybxr_1l9 yown_xr_2_0l9 C9)) ∧ (((((ybxr_0l9.getD (Int.toNat ybxr_1l9) 0).toNat : Int) == 92)) = false → jtxtj21 (ybxr_0l9.getD (Int.toNat ybxr_1l9) 0) yown2_0l9 ybxr_0l9 ybxr_1l9 yown_xr_2_0l9 C9)))) ∧ ((decide (ybxr_1l9 < (ybxr_0l9.length : Int))) = false → K (0, 0, 0, ([] : List UInt8), 0) 4 (ybxr_0l9, ybxr_1l9, yown_xr_2_0l9))
def jtxtl9 (K : (Int × Int × Int × List UInt8 × Int) → Int → (List UInt8 × Int × List (Int × Int × Int × List UInt8 × Int)) → Prop) : Nat → (List (Int)) → (List UInt8) → Int → (List (Int × Int × Int × List UInt8 × Int)) → Prop
  | 0, _, _, _, _ => False
  | k + 1, yown2_0l9, ybxr_0l9, ybxr_1l9, yown_xr_2_0l9 => jtxtl9b K yown2_0l9 ybxr_0l9 ybxr_1l9 yown_xr_2_0l9 (jtxtl9 K k)
def jtxtF (xr : List UInt8 × Int × List (Int × Int × Int × List UInt8 × Int)) (K : (Int × Int × Int × List UInt8 × Int) → Int → (List UInt8 × Int × List (Int × Int × Int × List UInt8 × Int)) → Prop) : Prop :=
  ∃ k, jtxtl9 K k ([] : List (Int)) xr.1 (IntKind.wrap .i64 (xr.2.1 + 1)) xr.2.2
set_option maxHeartbeats 4000000 in
set_option maxRecDepth 100000 in
set_option linter.unusedVariables false in
theorem jtxt_ok {g : Ghost} {bxr : Nat} {axr_0 : Option Addr} {cxr_0 : Nat} {xsxr_0 : List Value} (xr : List UInt8 × Int × List (Int × Int × Int × List UInt8 × Int)) (hLxr_0 : RepL g (.pair (.int .i64) (.pair (.int .i64) (.pair (.int .i64) (.pair (.str) (.int .i64))))) xsxr_0 xr.2.2) (K : (Int × Int × Int × List UInt8 × Int) → Int → (List UInt8 × Int × List (Int × Int × Int × List UInt8 × Int)) → Prop)
    (hF : jtxtF xr K) : CallsH Tryd.prog 34 #[.pointer (some ⟨bxr, 0, none⟩)] g [.blk bxr (.cells #[.string ⟨⟨xr.1⟩⟩, .int .i64 xr.2.1, .slice axr_0 xr.2.2.length cxr_0] 37), .own (.slice axr_0 xr.2.2.length cxr_0) 39 5 xr.2.2.length xsxr_0] (fun g' H' v => ∃ (r0 : Int × Int × Int × List UInt8 × Int), ∃ (r1 : Int), ∃ (fxr : List UInt8 × Int × List (Int × Int × Int × List UInt8 × Int)), ∃ (afxr_0 : Option Addr) (cfxr_0 : Nat) (xsfxr_0 : List Value), v = .tuple #[.agg #[.int .i64 r0.1, .int .i64 r0.2.1, .int .i64 r0.2.2.1, .string ⟨⟨r0.2.2.2.1⟩⟩, .int .i64 r0.2.2.2.2], .int .i64 r1] ∧ RepL g' (.pair (.int .i64) (.pair (.int .i64) (.pair (.int .i64) (.pair (.str) (.int .i64))))) xsfxr_0 fxr.2.2 ∧ H' = [.blk bxr (.cells #[.string ⟨⟨fxr.1⟩⟩, .int .i64 fxr.2.1, .slice afxr_0 fxr.2.2.length cfxr_0] 37), .own (.slice afxr_0 fxr.2.2.length cfxr_0) 39 5 fxr.2.2.length xsfxr_0] ∧ K r0 r1 fxr) := by
  refine CallsH.enter 76 [(0, .pointer (some ⟨bxr, 0, none⟩))] Tryd.func34 rfl (by kernel_rfl) (by kernel_rfl) (by kernel_rfl) fun w0 => ?_
  refine Ok.seq ?_
  refine Ok.region ?_
  refine Ok.op rfl (OpOk.alloc (z := .agg #[.int .i64 0, .int .i64 0, .int .i64 0, .string ⟨⟨([] : List UInt8)⟩⟩, .int .i64 0]) (cs := #[.int .i64 0, .int .i64 0, .int .i64 0, .string ⟨⟨([] : List UInt8)⟩⟩, .int .i64 0]) (by kernel_rfl) (by kernel_rfl) rfl fun b1 => ?_)
  refine Ok.batch 1 [(0, .pointer (some ⟨bxr, 0, none⟩)), (2, .pointer (some ⟨b1, 0, none⟩))] (by kernel_rfl) ?_
  refine Ok.nil ?_
  refine Ok.thenN ?_
  refine Ok.seq ?_
  refine Ok.region ?_
  refine Ok.batch 1 [(0, .pointer (some ⟨bxr, 0, none⟩)), (2, .pointer (some ⟨b1, 0, none⟩)), (4, .slice none 0 0)] (by kernel_rfl) ?_
  have hL2 : RepL g (.int .u8) [] [] := rfl
  refine Ok.ownNil 5 1 ?_
  refine Ok.nil ?_
  refine Ok.thenN ?_
  refine Ok.seq ?_
  refine Ok.seq ?_
  refine Ok.region ?_
  refine Ok.batch 3 [(0, .pointer (some ⟨bxr, 0, none⟩)), (2, .pointer (some ⟨b1, 0, none⟩)), (4, .slice none ([] : List (Int)).length 0), (8, .pointer (some ⟨bxr, 0, none⟩)), (10, .pointer (some ⟨bxr, 1, none⟩))] (by kernel_rfl) ?_
  refine Ok.op rfl (OpOk.step (v := .int .i64 xr.2.1) (Yields.load 2 rfl rfl Tryd.underlying3 rfl (by kernel_rfl)) rfl rfl ?_)
  refine Ok.batch 3 [(0, .pointer (some ⟨bxr, 0, none⟩)), (2, .pointer (some ⟨b1, 0, none⟩)), (4, .slice none ([] : List (Int)).length 0), (12, .int .i64 (IntKind.wrap .i64 (xr.2.1 + 1))), (14, .pointer (some ⟨bxr, 1, none⟩))] (by kernel_rfl) ?_
  refine Ok.op rfl (OpOk.store (k := 1) (v := .int .i64 (IntKind.wrap .i64 (xr.2.1 + 1))) (H' := [.own (.slice none ([] : List (Int)).length 0) 5 1 ([] : List (Int)).length ([]), .blk b1 (.cells #[.int .i64 0, .int .i64 0, .int .i64 0, .string ⟨⟨([] : List UInt8)⟩⟩, .int .i64 0] 39), .blk bxr (.cells #[.string ⟨⟨xr.1⟩⟩, .int .i64 (IntKind.wrap .i64 (xr.2.1 + 1)), .slice axr_0 xr.2.2.length cxr_0] 37), .own (.slice axr_0 xr.2.2.length cxr_0) 39 5 xr.2.2.length xsxr_0]) 2 rfl rfl rfl (by kernel_rfl) (by kernel_rfl) (by kernel_rfl) (by kernel_rfl) (by kernel_rfl) ?_)
  refine Ok.nil ?_
  refine Ok.thenN ?_
  refine Ok.block ?_
  obtain ⟨k, hF⟩ := hF
  refine Ok.loop (fun k a W => ∃ gl9 : Ghost, Gext w0 g gl9 ∧ ∃ (ayown2_0l9 : Option Addr) (cyown2_0l9 : Nat) (yown2_0l9 : List (Int)) (xsyown2_0l9 : List Value) (ybxr_0l9 : List UInt8) (ybxr_1l9 : Int) (ayown_xr_2_0l9 : Option Addr) (cyown_xr_2_0l9 : Nat) (yown_xr_2_0l9 : List (Int × Int × Int × List UInt8 × Int)) (xsyown_xr_2_0l9 : List Value), RepL gl9 (.int .u8) xsyown2_0l9 yown2_0l9 ∧ RepL gl9 (.pair (.int .i64) (.pair (.int .i64) (.pair (.int .i64) (.pair (.str) (.int .i64))))) xsyown_xr_2_0l9 yown_xr_2_0l9 ∧ StA 76 [(0, .pointer (some ⟨bxr, 0, none⟩)), (2, .pointer (some ⟨b1, 0, none⟩)), (4, .slice ayown2_0l9 yown2_0l9.length cyown2_0l9)] a ∧ StW w0 [.own (.slice ayown2_0l9 yown2_0l9.length cyown2_0l9) 5 1 yown2_0l9.length xsyown2_0l9, .blk b1 (.cells #[.int .i64 0, .int .i64 0, .int .i64 0, .string ⟨⟨([] : List UInt8)⟩⟩, .int .i64 0] 39), .blk bxr (.cells #[.string ⟨⟨ybxr_0l9⟩⟩, .int .i64 ybxr_1l9, .slice ayown_xr_2_0l9 yown_xr_2_0l9.length cyown_xr_2_0l9] 37), .own (.slice ayown_xr_2_0l9 yown_xr_2_0l9.length cyown_xr_2_0l9) 39 5 yown_xr_2_0l9.length xsyown_xr_2_0l9] gl9 W ∧ jtxtl9 K k yown2_0l9 ybxr_0l9 ybxr_1l9 yown_xr_2_0l9) k ?_ ?_
  ·
    exact fun a W hA hW => ⟨g, (Gext.refl w0 g), none, 0, ([] : List (Int)), [], xr.1, IntKind.wrap .i64 (xr.2.1 + 1), axr_0, cxr_0, xr.2.2, xsxr_0, hL2, hLxr_0, hA.sub (by kernel_rfl), hW, hF⟩
  ·
    clear hF
    rintro k9 a W ⟨gl9, hxl9, ayown2_0l9, cyown2_0l9, yown2_0l9, xsyown2_0l9, ybxr_0l9, ybxr_1l9, ayown_xr_2_0l9, cyown_xr_2_0l9, yown_xr_2_0l9, xsyown_xr_2_0l9, hLyown2_0l9, hLyown_xr_2_0l9, hA, hW, hF⟩
    cases k9 with
    | zero => exact (hF : False).elim
    | succ k9 =>
      refine (?_ : Ok _ _ _ _ _ _) a W hA hW
      clear hA hW
      refine Ok.seq ?_
      refine Ok.seq ?_
      refine Ok.quiet' (by kernel_rfl) (by kernel_rfl) ?_
      refine OkQ.batch 3 [(0, .pointer (some ⟨bxr, 0, none⟩)), (2, .pointer (some ⟨b1, 0, none⟩)), (4, .slice ayown2_0l9 yown2_0l9.length cyown2_0l9), (17, .pointer (some ⟨bxr, 1, none⟩))] (by kernel_rfl) ?_
      refine OkQ.op rfl (OpQ.step (v := .int .i64 ybxr_1l9) (Yields.load 2 rfl rfl Tryd.underlying3 rfl (by kernel_rfl)) rfl rfl ?_)
      refine OkQ.batch 3 [(0, .pointer (some ⟨bxr, 0, none⟩)), (2, .pointer (some ⟨b1, 0, none⟩)), (4, .slice ayown2_0l9 yown2_0l9.length cyown2_0l9), (18, .int .i64 ybxr_1l9), (21, .pointer (some ⟨bxr, 0, none⟩))] (by kernel_rfl) ?_
      refine OkQ.op rfl (OpQ.step (v := .string ⟨⟨ybxr_0l9⟩⟩) (Yields.load 2 rfl rfl Tryd.underlying9 rfl (by kernel_rfl)) rfl rfl ?_)
      refine OkQ.batch 2 [(0, .pointer (some ⟨bxr, 0, none⟩)), (2, .pointer (some ⟨b1, 0, none⟩)), (4, .slice ayown2_0l9 yown2_0l9.length cyown2_0l9), (24, .bool (decide (ybxr_1l9 < (ybxr_0l9.length : Int))))] (by kernel_rfl) ?_
      refine OkQ.nil ?_
      refine Ok.thenN ?_
      refine Ok.cond (b := decide (ybxr_1l9 < (ybxr_0l9.length : Int))) rfl (fun hc3 => ?_) (fun hc3 => ?_)
      · replace hF := hF.1 hc3
        refine Ok.skip ?_
        refine Ok.thenN ?_
        refine Ok.block ?_
        refine Ok.seq ?_
        refine Ok.quiet' (by kernel_rfl) (by kernel_rfl) ?_
        refine OkQ.batch 3 [(0, .pointer (some ⟨bxr, 0, none⟩)), (2, .pointer (some ⟨b1, 0, none⟩)), (4, .slice ayown2_0l9 yown2_0l9.length cyown2_0l9), (27, .pointer (some ⟨bxr, 0, none⟩))] (by kernel_rfl) ?_
        refine OkQ.op rfl (OpQ.step (v := .string ⟨⟨ybxr_0l9⟩⟩) (Yields.load 2 rfl rfl Tryd.underlying9 rfl (by kernel_rfl)) rfl rfl ?_)
        refine OkQ.batch 3 [(0, .pointer (some ⟨bxr, 0, none⟩)), (2, .pointer (some ⟨b1, 0, none⟩)), (4, .slice ayown2_0l9 yown2_0l9.length cyown2_0l9), (28, .string ⟨⟨ybxr_0l9⟩⟩), (31, .pointer (some ⟨bxr, 1, none⟩))] (by kernel_rfl) ?_
        refine OkQ.op rfl (OpQ.step (v := .int .i64 ybxr_1l9) (Yields.load 2 rfl rfl Tryd.underlying3 rfl (by kernel_rfl)) rfl rfl ?_)
        obtain ⟨h04, h14, hF⟩ := hF
        have he4 := get_of (l := ybxr_0l9) (0 : UInt8) h14
        generalize hg4 : (ybxr_0l9.getD (Int.toNat ybxr_1l9) 0) = e4 at he4 hF ⊢
        refine OkQ.op rfl (OpQ.step (v := .int .u8 (e4.toNat : Int)) (Yields.indexStr (k := .i64) (i := ybxr_1l9) (s := ybxr_0l9) (b := e4) (by kernel_rfl) (by kernel_rfl) Tryd.underlying9 h04 he4) rfl rfl ?_)
        refine OkQ.batch 1 [(0, .pointer (some ⟨bxr, 0, none⟩)), (2, .pointer (some ⟨b1, 0, none⟩)), (4, .slice ayown2_0l9 yown2_0l9.length cyown2_0l9), (5, .int .u8 (e4.toNat : Int))] (by kernel_rfl) ?_
        refine OkQ.nil ?_
        refine Ok.thenN ?_
        refine Ok.seq ?_
        refine Ok.region ?_
        refine Ok.batch 3 [(0, .pointer (some ⟨bxr, 0, none⟩)), (2, .pointer (some ⟨b1, 0, none⟩)), (4, .slice ayown2_0l9 yown2_0l9.length cyown2_0l9), (5, .int .u8 (e4.toNat : Int)), (34, .pointer (some ⟨bxr, 0, none⟩)), (36, .pointer (some ⟨bxr, 1, none⟩))] (by kernel_rfl) ?_
        refine Ok.op rfl (OpOk.step (v := .int .i64 ybxr_1l9) (Yields.load 2 rfl rfl Tryd.underlying3 rfl (by kernel_rfl)) rfl rfl ?_)
        refine Ok.batch 3 [(0, .pointer (some ⟨bxr, 0, none⟩)), (2, .pointer (some ⟨b1, 0, none⟩)), (4, .slice ayown2_0l9 yown2_0l9.length cyown2_0l9), (5, .int .u8 (e4.toNat : Int)), (38, .int .i64 (IntKind.wrap .i64 (ybxr_1l9 + 1))), (40, .pointer (some ⟨bxr, 1, none⟩))] (by kernel_rfl) ?_
        refine Ok.op rfl (OpOk.store (k := 1) (v := .int .i64 (IntKind.wrap .i64 (ybxr_1l9 + 1))) (H' := [.own (.slice ayown2_0l9 yown2_0l9.length cyown2_0l9) 5 1 yown2_0l9.length xsyown2_0l9, .blk b1 (.cells #[.int .i64 0, .int .i64 0, .int .i64 0, .string ⟨⟨([] : List UInt8)⟩⟩, .int .i64 0] 39), .blk bxr (.cells #[.string ⟨⟨ybxr_0l9⟩⟩, .int .i64 (IntKind.wrap .i64 (ybxr_1l9 + 1)), .slice ayown_xr_2_0l9 yown_xr_2_0l9.length cyown_xr_2_0l9] 37), .own (.slice ayown_xr_2_0l9 yown_xr_2_0l9.length cyown_xr_2_0l9) 39 5 yown_xr_2_0l9.length xsyown_xr_2_0l9]) 2 rfl rfl rfl (by kernel_rfl) (by kernel_rfl) (by kernel_rfl) (by kernel_rfl) (by kernel_rfl) ?_)
        refine Ok.nil ?_
        refine Ok.thenN ?_
        refine Ok.cut (fun a W => ∃ gj21 : Ghost, Gext w0 gl9 gj21 ∧ ∃ (ayown_xr_2_0j21 : Option Addr) (cyown_xr_2_0j21 : Nat) (xsyown_xr_2_0j21 : List Value), RepL gj21 (.pair (.int .i64) (.pair (.int .i64) (.pair (.int .i64) (.pair (.str) (.int .i64))))) xsyown_xr_2_0j21 (if ((e4.toNat : Int) == 92) = true then (((jescS (ybxr_0l9, IntKind.wrap .i64 (ybxr_1l9 + 1), yown_xr_2_0l9)).2.2).2).2 else yown_xr_2_0l9) ∧ StA 76 [(0, .pointer (some ⟨bxr, 0, none⟩)), (2, .pointer (some ⟨b1, 0, none⟩)), (4, .slice ayown2_0l9 yown2_0l9.length cyown2_0l9), (5, .int .u8 (if ((e4.toNat : Int) == 92) = true then (jescS (ybxr_0l9, IntKind.wrap .i64 (ybxr_1l9 + 1), yown_xr_2_0l9)).1 else (e4.toNat : Int)))] a ∧ StW w0 [.blk bxr (.cells #[.string ⟨⟨(if ((e4.toNat : Int) == 92) = true then ((jescS (ybxr_0l9, IntKind.wrap .i64 (ybxr_1l9 + 1), yown_xr_2_0l9)).2.2).1 else ybxr_0l9)⟩⟩, .int .i64 (if ((e4.toNat : Int) == 92) = true then IntKind.wrap .i64 (((((jescS (ybxr_0l9, IntKind.wrap .i64 (ybxr_1l9 + 1), yown_xr_2_0l9)).2.2).2).1) + ((jescS (ybxr_0l9, IntKind.wrap .i64 (ybxr_1l9 + 1), yown_xr_2_0l9)).2.1)) else IntKind.wrap .i64 (ybxr_1l9 + 1)), .slice ayown_xr_2_0j21 (if ((e4.toNat : Int) == 92) = true then (((jescS (ybxr_0l9, IntKind.wrap .i64 (ybxr_1l9 + 1), yown_xr_2_0l9)).2.2).2).2 else yown_xr_2_0l9).length cyown_xr_2_0j21] 37), .own (.slice ayown_xr_2_0j21 (if ((e4.toNat : Int) == 92) = true then (((jescS (ybxr_0l9, IntKind.wrap .i64 (ybxr_1l9 + 1), yown_xr_2_0l9)).2.2).2).2 else yown_xr_2_0l9).length cyown_xr_2_0j21) 39 5 (if ((e4.toNat : Int) == 92) = true then (((jescS (ybxr_0l9, IntKind.wrap .i64 (ybxr_1l9 + 1), yown_xr_2_0l9)).2.2).2).2 else yown_xr_2_0l9).length xsyown_xr_2_0j21, .own (.slice ayown2_0l9 yown2_0l9.length cyown2_0l9) 5 1 yown2_0l9.length xsyown2_0l9, .blk b1 (.cells #[.int .i64 0, .int .i64 0, .int .i64 0, .string ⟨⟨([] : List UInt8)⟩⟩, .int .i64 0] 39)] gj21 W ∧ jtxtj21 e4 yown2_0l9 ybxr_0l9 ybxr_1l9 yown_xr_2_0l9 (jtxtl9 K k9)) ?_ ?_
        ·
          refine Ok.block ?_
          refine Ok.seq ?_
          refine Ok.region ?_
          refine Ok.batch 3 [(0, .pointer (some ⟨bxr, 0, none⟩)), (2, .pointer (some ⟨b1, 0, none⟩)), (4, .slice ayown2_0l9 yown2_0l9.length cyown2_0l9), (5, .int .u8 (e4.toNat : Int)), (41, .bool ((e4.toNat : Int) == 34))] (by kernel_rfl) ?_
          refine Ok.nil ?_
          refine Ok.thenN ?_
          refine Ok.cond (b := ((e4.toNat : Int) == 34)) rfl (fun hc7 => ?_) (fun hc7 => ?_)
          · replace hF := hF.1 hc7
            refine Ok.seq ?_
            refine Ok.region ?_
            refine Ok.batch 1 [(2, .pointer (some ⟨b1, 0, none⟩)), (44, .slice ayown2_0l9 yown2_0l9.length cyown2_0l9)] (by kernel_rfl) ?_
            refine Ok.op rfl (OpOk.step (v := .string ⟨⟨(bytesOf yown2_0l9)⟩⟩) (Yields.strOfOwn 0 (by kernel_rfl) rfl rfl hLyown2_0l9 Tryd.underlying48 Tryd.underlying9 Tryd.underlying5) rfl rfl ?_)
            refine Ok.batch 1 [(2, .pointer (some ⟨b1, 0, none⟩)), (46, .agg #[.int .i64 3, .int .i64 0, .int .i64 0, .string ⟨⟨(bytesOf yown2_0l9)⟩⟩, .int .i64 0])] (by kernel_rfl) ?_
            refine Ok.op rfl (OpOk.store (k := 5) (v := .agg #[.int .i64 3, .int .i64 0, .int .i64 0, .string ⟨⟨(bytesOf yown2_0l9)⟩⟩, .int .i64 0]) (H' := [.own (.slice ayown2_0l9 yown2_0l9.length cyown2_0l9) 5 1 yown2_0l9.length xsyown2_0l9, .blk b1 (.cells #[.int .i64 3, .int .i64 0, .int .i64 0, .string ⟨⟨(bytesOf yown2_0l9)⟩⟩, .int .i64 0] 39), .blk bxr (.cells #[.string ⟨⟨ybxr_0l9⟩⟩, .int .i64 (IntKind.wrap .i64 (ybxr_1l9 + 1)), .slice ayown_xr_2_0l9 yown_xr_2_0l9.length cyown_xr_2_0l9] 37), .own (.slice ayown_xr_2_0l9 yown_xr_2_0l9.length cyown_xr_2_0l9) 39 5 yown_xr_2_0l9.length xsyown_xr_2_0l9]) 1 rfl rfl rfl (by kernel_rfl) (by kernel_rfl) (by kernel_rfl) (by kernel_rfl) (by kernel_rfl) ?_)
            refine Ok.batch 1 [(2, .pointer (some ⟨b1, 0, none⟩)), (3, .int .i64 0)] (by kernel_rfl) ?_
            refine Ok.nil ?_
            refine Ok.thenN ?_
            refine Ok.ret ?_
            refine Ok.blockR ?_
            refine Ok.thenR ?_
            refine Ok.blockR ?_
            refine Ok.thenR ?_
            refine Ok.blockR ?_
            refine Ok.thenR ?_
            exact Ok.resP (vs := [.agg #[.int .i64 3, .int .i64 0, .int .i64 0, .string ⟨⟨(bytesOf yown2_0l9)⟩⟩, .int .i64 0], .int .i64 0]) [2, 3] [.blk bxr (.cells #[.string ⟨⟨ybxr_0l9⟩⟩, .int .i64 (IntKind.wrap .i64 (ybxr_1l9 + 1)), .slice ayown_xr_2_0l9 yown_xr_2_0l9.length cyown_xr_2_0l9] 37), .own (.slice ayown_xr_2_0l9 yown_xr_2_0l9.length cyown_xr_2_0l9) 39 5 yown_xr_2_0l9.length xsyown_xr_2_0l9] (by decide) rfl (.inl rfl) rfl (.cons (.cellAgg 1 5 #[.int .i64 3, .int .i64 0, .int .i64 0, .string ⟨⟨(bytesOf yown2_0l9)⟩⟩, .int .i64 0] rfl rfl Tryd.underlying39 rfl (by kernel_rfl) (by kernel_rfl) (by kernel_rfl)) (.cons (.tmp rfl) .nil)) hxl9 ⟨(3, 0, 0, (bytesOf yown2_0l9), 0), 0, (ybxr_0l9, IntKind.wrap .i64 (ybxr_1l9 + 1), yown_xr_2_0l9), ayown_xr_2_0l9, cyown_xr_2_0l9, xsyown_xr_2_0l9, rfl, hLyown_xr_2_0l9, rfl, hF⟩
          · replace hF := hF.2 hc7
            refine Ok.seq ?_
            refine Ok.region ?_
            refine Ok.batch 3 [(0, .pointer (some ⟨bxr, 0, none⟩)), (2, .pointer (some ⟨b1, 0, none⟩)), (4, .slice ayown2_0l9 yown2_0l9.length cyown2_0l9), (5, .int .u8 (e4.toNat : Int)), (47, .bool (decide ((e4.toNat : Int) < 32)))] (by kernel_rfl) ?_
            refine Ok.nil ?_
            refine Ok.thenN ?_
            refine Ok.cond (b := decide ((e4.toNat : Int) < 32)) rfl (fun hc8 => ?_) (fun hc8 => ?_)
            · replace hF := hF.1 hc8
              refine Ok.seq ?_
              refine Ok.region ?_
              refine Ok.batch 1 [(2, .pointer (some ⟨b1, 0, none⟩)), (50, .agg #[.int .i64 0, .int .i64 0, .int .i64 0, .string ⟨⟨([] : List UInt8)⟩⟩, .int .i64 0])] (by kernel_rfl) ?_
              refine Ok.op rfl (OpOk.store (k := 5) (v := .agg #[.int .i64 0, .int .i64 0, .int .i64 0, .string ⟨⟨([] : List UInt8)⟩⟩, .int .i64 0]) (H' := [.own (.slice ayown2_0l9 yown2_0l9.length cyown2_0l9) 5 1 yown2_0l9.length xsyown2_0l9, .blk b1 (.cells #[.int .i64 0, .int .i64 0, .int .i64 0, .string ⟨⟨([] : List UInt8)⟩⟩, .int .i64 0] 39), .blk bxr (.cells #[.string ⟨⟨ybxr_0l9⟩⟩, .int .i64 (IntKind.wrap .i64 (ybxr_1l9 + 1)), .slice ayown_xr_2_0l9 yown_xr_2_0l9.length cyown_xr_2_0l9] 37), .own (.slice ayown_xr_2_0l9 yown_xr_2_0l9.length cyown_xr_2_0l9) 39 5 yown_xr_2_0l9.length xsyown_xr_2_0l9]) 1 rfl rfl rfl (by kernel_rfl) (by kernel_rfl) (by kernel_rfl) (by kernel_rfl) (by kernel_rfl) ?_)
              refine Ok.batch 1 [(2, .pointer (some ⟨b1, 0, none⟩)), (3, .int .i64 4)] (by kernel_rfl) ?_
              refine Ok.nil ?_
              refine Ok.thenN ?_
              refine Ok.ret ?_
              refine Ok.blockR ?_
              refine Ok.thenR ?_
              refine Ok.blockR ?_
              refine Ok.thenR ?_
              refine Ok.blockR ?_
              refine Ok.thenR ?_
              exact Ok.resP (vs := [.agg #[.int .i64 0, .int .i64 0, .int .i64 0, .string ⟨⟨([] : List UInt8)⟩⟩, .int .i64 0], .int .i64 4]) [2, 3] [.blk bxr (.cells #[.string ⟨⟨ybxr_0l9⟩⟩, .int .i64 (IntKind.wrap .i64 (ybxr_1l9 + 1)), .slice ayown_xr_2_0l9 yown_xr_2_0l9.length cyown_xr_2_0l9] 37), .own (.slice ayown_xr_2_0l9 yown_xr_2_0l9.length cyown_xr_2_0l9) 39 5 yown_xr_2_0l9.length xsyown_xr_2_0l9] (by decide) rfl (.inl rfl) rfl (.cons (.cellAgg 1 5 #[.int .i64 0, .int .i64 0, .int .i64 0, .string ⟨⟨([] : List UInt8)⟩⟩, .int .i64 0] rfl rfl Tryd.underlying39 rfl (by kernel_rfl) (by kernel_rfl) (by kernel_rfl)) (.cons (.tmp rfl) .nil)) hxl9 ⟨(0, 0, 0, ([] : List UInt8), 0), 4, (ybxr_0l9, IntKind.wrap .i64 (ybxr_1l9 + 1), yown_xr_2_0l9), ayown_xr_2_0l9, cyown_xr_2_0l9, xsyown_xr_2_0l9, rfl, hLyown_xr_2_0l9, rfl, hF⟩
            · replace hF := hF.2 hc8
              refine Ok.seq ?_
              refine Ok.region ?_
              refine Ok.batch 3 [(0, .pointer (some ⟨bxr, 0, none⟩)), (2, .pointer (some ⟨b1, 0, none⟩)), (4, .slice ayown2_0l9 yown2_0l9.length cyown2_0l9), (5, .int .u8 (e4.toNat : Int)), (51, .bool ((e4.toNat : Int) == 92))] (by kernel_rfl) ?_
              refine Ok.nil ?_
              refine Ok.thenN ?_
              refine Ok.cond (b := ((e4.toNat : Int) == 92)) rfl (fun hc9 => ?_) (fun hc9 => ?_)
              · replace hF := hF.1 hc9
                refine Ok.seq ?_
                refine Ok.region ?_
                refine Ok.batch 1 [(0, .pointer (some ⟨bxr, 0, none⟩)), (2, .pointer (some ⟨b1, 0, none⟩)), (4, .slice ayown2_0l9 yown2_0l9.length cyown2_0l9), (55, .pointer (some ⟨bxr, 0, none⟩))] (by kernel_rfl) ?_
                obtain ⟨hp10, hF⟩ := hF
                refine Ok.entries [2, 3, 0, 1] [.blk bxr (.cells #[.string ⟨⟨ybxr_0l9⟩⟩, .int .i64 (IntKind.wrap .i64 (ybxr_1l9 + 1)), .slice ayown_xr_2_0l9 yown_xr_2_0l9.length cyown_xr_2_0l9] 37), .own (.slice ayown_xr_2_0l9 yown_xr_2_0l9.length cyown_xr_2_0l9) 39 5 yown_xr_2_0l9.length xsyown_xr_2_0l9, .own (.slice ayown2_0l9 yown2_0l9.length cyown2_0l9) 5 1 yown2_0l9.length xsyown2_0l9, .blk b1 (.cells #[.int .i64 0, .int .i64 0, .int .i64 0, .string ⟨⟨([] : List UInt8)⟩⟩, .int .i64 0] 39)] (by decide) rfl ?_
                refine Ok.op rfl (OpOk.callH [.blk bxr (.cells #[.string ⟨⟨ybxr_0l9⟩⟩, .int .i64 (IntKind.wrap .i64 (ybxr_1l9 + 1)), .slice ayown_xr_2_0l9 yown_xr_2_0l9.length cyown_xr_2_0l9] 37), .own (.slice ayown_xr_2_0l9 yown_xr_2_0l9.length cyown_xr_2_0l9) 39 5 yown_xr_2_0l9.length xsyown_xr_2_0l9] [.own (.slice ayown2_0l9 yown2_0l9.length cyown2_0l9) 5 1 yown2_0l9.length xsyown2_0l9, .blk b1 (.cells #[.int .i64 0, .int .i64 0, .int .i64 0, .string ⟨⟨([] : List UInt8)⟩⟩, .int .i64 0] 39)] (enters (by kernel_rfl) (fun _ => by kernel_rfl)) rfl (jesc_c (ybxr_0l9, IntKind.wrap .i64 (ybxr_1l9 + 1), yown_xr_2_0l9) hLyown_xr_2_0l9 hp10) rfl fun g11 _ _ hx11 hV11 => ?_)
                obtain ⟨a11_0, c11_0, xs11_0, rfl, hL11_0, rfl⟩ := hV11
                replace hLyown2_0l9 := hLyown2_0l9.mono hx11.1
                refine Ok.batch 5 [(0, .pointer (some ⟨bxr, 0, none⟩)), (2, .pointer (some ⟨b1, 0, none⟩)), (4, .slice ayown2_0l9 yown2_0l9.length cyown2_0l9), (6, .int .u8 ((jescS (ybxr_0l9, IntKind.wrap .i64 (ybxr_1l9 + 1), yown_xr_2_0l9)).1)), (7, .int .i64 ((jescS (ybxr_0l9, IntKind.wrap .i64 (ybxr_1l9 + 1), yown_xr_2_0l9)).2.1))] (by kernel_rfl) ?_
                refine Ok.nil ?_
                refine Ok.thenN ?_
                refine Ok.seq ?_
                refine Ok.seq ?_
                refine Ok.region ?_
                refine Ok.batch 2 [(0, .pointer (some ⟨bxr, 0, none⟩)), (2, .pointer (some ⟨b1, 0, none⟩)), (4, .slice ayown2_0l9 yown2_0l9.length cyown2_0l9), (6, .int .u8 ((jescS (ybxr_0l9, IntKind.wrap .i64 (ybxr_1l9 + 1), yown_xr_2_0l9)).1)), (7, .int .i64 ((jescS (ybxr_0l9, IntKind.wrap .i64 (ybxr_1l9 + 1), yown_xr_2_0l9)).2.1)), (60, .bool (((jescS (ybxr_0l9, IntKind.wrap .i64 (ybxr_1l9 + 1), yown_xr_2_0l9)).2.1) == 0))] (by kernel_rfl) ?_
                refine Ok.nil ?_
                refine Ok.thenN ?_
                refine Ok.cond (b := (((jescS (ybxr_0l9, IntKind.wrap .i64 (ybxr_1l9 + 1), yown_xr_2_0l9)).2.1) == 0)) rfl (fun hc12 => ?_) (fun hc12 => ?_)
                · replace hF := hF.1 hc12
                  refine Ok.seq ?_
                  refine Ok.region ?_
                  refine Ok.batch 1 [(2, .pointer (some ⟨b1, 0, none⟩)), (61, .agg #[.int .i64 0, .int .i64 0, .int .i64 0, .string ⟨⟨([] : List UInt8)⟩⟩, .int .i64 0])] (by kernel_rfl) ?_
                  refine Ok.op rfl (OpOk.store (k := 5) (v := .agg #[.int .i64 0, .int .i64 0, .int .i64 0, .string ⟨⟨([] : List UInt8)⟩⟩, .int .i64 0]) (H' := [.blk bxr (.cells #[.string ⟨⟨((jescS (ybxr_0l9, IntKind.wrap .i64 (ybxr_1l9 + 1), yown_xr_2_0l9)).2.2).1⟩⟩, .int .i64 ((((jescS (ybxr_0l9, IntKind.wrap .i64 (ybxr_1l9 + 1), yown_xr_2_0l9)).2.2).2).1), .slice a11_0 ((((jescS (ybxr_0l9, IntKind.wrap .i64 (ybxr_1l9 + 1), yown_xr_2_0l9)).2.2).2).2).length c11_0] 37), .own (.slice a11_0 ((((jescS (ybxr_0l9, IntKind.wrap .i64 (ybxr_1l9 + 1), yown_xr_2_0l9)).2.2).2).2).length c11_0) 39 5 ((((jescS (ybxr_0l9, IntKind.wrap .i64 (ybxr_1l9 + 1), yown_xr_2_0l9)).2.2).2).2).length xs11_0, .own (.slice ayown2_0l9 yown2_0l9.length cyown2_0l9) 5 1 yown2_0l9.length xsyown2_0l9, .blk b1 (.cells #[.int .i64 0, .int .i64 0, .int .i64 0, .string ⟨⟨([] : List UInt8)⟩⟩, .int .i64 0] 39)]) 3 rfl rfl rfl (by kernel_rfl) (by kernel_rfl) (by kernel_rfl) (by kernel_rfl) (by kernel_rfl) ?_)
                  refine Ok.batch 1 [(2, .pointer (some ⟨b1, 0, none⟩)), (3, .int .i64 4)] (by kernel_rfl) ?_
                  refine Ok.nil ?_
                  refine Ok.thenN ?_
                  refine Ok.ret ?_
                  refine Ok.thenR ?_
                  refine Ok.blockR ?_
                  refine Ok.thenR ?_
                  refine Ok.blockR ?_
                  refine Ok.thenR ?_
                  refine Ok.blockR ?_
                  refine Ok.thenR ?_
                  exact Ok.resP (vs := [.agg #[.int .i64 0, .int .i64 0, .int .i64 0, .string ⟨⟨([] : List UInt8)⟩⟩, .int .i64 0], .int .i64 4]) [0, 1] [.blk bxr (.cells #[.string ⟨⟨((jescS (ybxr_0l9, IntKind.wrap .i64 (ybxr_1l9 + 1), yown_xr_2_0l9)).2.2).1⟩⟩, .int .i64 ((((jescS (ybxr_0l9, IntKind.wrap .i64 (ybxr_1l9 + 1), yown_xr_2_0l9)).2.2).2).1), .slice a11_0 ((((jescS (ybxr_0l9, IntKind.wrap .i64 (ybxr_1l9 + 1), yown_xr_2_0l9)).2.2).2).2).length c11_0] 37), .own (.slice a11_0 ((((jescS (ybxr_0l9, IntKind.wrap .i64 (ybxr_1l9 + 1), yown_xr_2_0l9)).2.2).2).2).length c11_0) 39 5 ((((jescS (ybxr_0l9, IntKind.wrap .i64 (ybxr_1l9 + 1), yown_xr_2_0l9)).2.2).2).2).length xs11_0] (by decide) rfl (.inl rfl) rfl (.cons (.cellAgg 3 5 #[.int .i64 0, .int .i64 0, .int .i64 0, .string ⟨⟨([] : List UInt8)⟩⟩, .int .i64 0] rfl rfl Tryd.underlying39 rfl (by kernel_rfl) (by kernel_rfl) (by kernel_rfl)) (.cons (.tmp rfl) .nil)) (hxl9.trans hx11) ⟨(0, 0, 0, ([] : List UInt8), 0), 4, (((jescS (ybxr_0l9, IntKind.wrap .i64 (ybxr_1l9 + 1), yown_xr_2_0l9)).2.2).1, (((jescS (ybxr_0l9, IntKind.wrap .i64 (ybxr_1l9 + 1), yown_xr_2_0l9)).2.2).2).1, (((jescS (ybxr_0l9, IntKind.wrap .i64 (ybxr_1l9 + 1), yown_xr_2_0l9)).2.2).2).2), a11_0, c11_0, xs11_0, rfl, hL11_0, rfl, hF⟩
                · replace hF := hF.2 hc12
                  refine Ok.skip ?_
                  refine Ok.thenN ?_
                  refine Ok.seq ?_
                  refine Ok.region ?_
                  refine Ok.batch 2 [(0, .pointer (some ⟨bxr, 0, none⟩)), (2, .pointer (some ⟨b1, 0, none⟩)), (4, .slice ayown2_0l9 yown2_0l9.length cyown2_0l9), (5, .int .u8 ((jescS (ybxr_0l9, IntKind.wrap .i64 (ybxr_1l9 + 1), yown_xr_2_0l9)).1)), (7, .int .i64 ((jescS (ybxr_0l9, IntKind.wrap .i64 (ybxr_1l9 + 1), yown_xr_2_0l9)).2.1))] (by kernel_rfl) ?_
                  refine Ok.nil ?_
                  refine Ok.thenN ?_
                  refine Ok.region ?_
                  refine Ok.batch 3 [(0, .pointer (some ⟨bxr, 0, none⟩)), (2, .pointer (some ⟨b1, 0, none⟩)), (4, .slice ayown2_0l9 yown2_0l9.length cyown2_0l9), (5, .int .u8 ((jescS (ybxr_0l9, IntKind.wrap .i64 (ybxr_1l9 + 1), yown_xr_2_0l9)).1)), (7, .int .i64 ((jescS (ybxr_0l9, IntKind.wrap .i64 (ybxr_1l9 + 1), yown_xr_2_0l9)).2.1)), (63, .pointer (some ⟨bxr, 0, none⟩)), (65, .pointer (some ⟨bxr, 1, none⟩))] (by kernel_rfl) ?_
                  refine Ok.op rfl (OpOk.step (v := .int .i64 ((((jescS (ybxr_0l9, IntKind.wrap .i64 (ybxr_1l9 + 1), yown_xr_2_0l9)).2.2).2).1)) (Yields.load 0 rfl rfl Tryd.underlying3 rfl (by kernel_rfl)) rfl rfl ?_)
                  refine Ok.batch 4 [(0, .pointer (some ⟨bxr, 0, none⟩)), (2, .pointer (some ⟨b1, 0, none⟩)), (4, .slice ayown2_0l9 yown2_0l9.length cyown2_0l9), (5, .int .u8 ((jescS (ybxr_0l9, IntKind.wrap .i64 (ybxr_1l9 + 1), yown_xr_2_0l9)).1)), (68, .int .i64 (IntKind.wrap .i64 (((((jescS (ybxr_0l9, IntKind.wrap .i64 (ybxr_1l9 + 1), yown_xr_2_0l9)).2.2).2).1) + ((jescS (ybxr_0l9, IntKind.wrap .i64 (ybxr_1l9 + 1), yown_xr_2_0l9)).2.1)))), (70, .pointer (some ⟨bxr, 1, none⟩))] (by kernel_rfl) ?_
                  refine Ok.op rfl (OpOk.store (k := 1) (v := .int .i64 (IntKind.wrap .i64 (((((jescS (ybxr_0l9, IntKind.wrap .i64 (ybxr_1l9 + 1), yown_xr_2_0l9)).2.2).2).1) + ((jescS (ybxr_0l9, IntKind.wrap .i64 (ybxr_1l9 + 1), yown_xr_2_0l9)).2.1)))) (H' := [.blk bxr (.cells #[.string ⟨⟨((jescS (ybxr_0l9, IntKind.wrap .i64 (ybxr_1l9 + 1), yown_xr_2_0l9)).2.2).1⟩⟩, .int .i64 (IntKind.wrap .i64 (((((jescS (ybxr_0l9, IntKind.wrap .i64 (ybxr_1l9 + 1), yown_xr_2_0l9)).2.2).2).1) + ((jescS (ybxr_0l9, IntKind.wrap .i64 (ybxr_1l9 + 1), yown_xr_2_0l9)).2.1))), .slice a11_0 ((((jescS (ybxr_0l9, IntKind.wrap .i64 (ybxr_1l9 + 1), yown_xr_2_0l9)).2.2).2).2).length c11_0] 37), .own (.slice a11_0 ((((jescS (ybxr_0l9, IntKind.wrap .i64 (ybxr_1l9 + 1), yown_xr_2_0l9)).2.2).2).2).length c11_0) 39 5 ((((jescS (ybxr_0l9, IntKind.wrap .i64 (ybxr_1l9 + 1), yown_xr_2_0l9)).2.2).2).2).length xs11_0, .own (.slice ayown2_0l9 yown2_0l9.length cyown2_0l9) 5 1 yown2_0l9.length xsyown2_0l9, .blk b1 (.cells #[.int .i64 0, .int .i64 0, .int .i64 0, .string ⟨⟨([] : List UInt8)⟩⟩, .int .i64 0] 39)]) 0 rfl rfl rfl (by kernel_rfl) (by kernel_rfl) (by kernel_rfl) (by kernel_rfl) (by kernel_rfl) ?_)
                  refine Ok.nil ?_
                  refine Ok.blockN ?_
                  refine Ok.thenN ?_
                  refine Ok.reval 5 rfl (show (.int .u8 ((jescS (ybxr_0l9, IntKind.wrap .i64 (ybxr_1l9 + 1), yown_xr_2_0l9)).1) : Value) = .int .u8 (if ((e4.toNat : Int) == 92) = true then (jescS (ybxr_0l9, IntKind.wrap .i64 (ybxr_1l9 + 1), yown_xr_2_0l9)).1 else (e4.toNat : Int)) from congrArg (Value.int .u8) ((if_t hc9).symm)) ?_
                  refine Ok.heapEq (H' := [.blk bxr (.cells #[.string ⟨⟨(if ((e4.toNat : Int) == 92) = true then ((jescS (ybxr_0l9, IntKind.wrap .i64 (ybxr_1l9 + 1), yown_xr_2_0l9)).2.2).1 else ybxr_0l9)⟩⟩, .int .i64 (if ((e4.toNat : Int) == 92) = true then IntKind.wrap .i64 (((((jescS (ybxr_0l9, IntKind.wrap .i64 (ybxr_1l9 + 1), yown_xr_2_0l9)).2.2).2).1) + ((jescS (ybxr_0l9, IntKind.wrap .i64 (ybxr_1l9 + 1), yown_xr_2_0l9)).2.1)) else IntKind.wrap .i64 (ybxr_1l9 + 1)), .slice a11_0 (if ((e4.toNat : Int) == 92) = true then (((jescS (ybxr_0l9, IntKind.wrap .i64 (ybxr_1l9 + 1), yown_xr_2_0l9)).2.2).2).2 else yown_xr_2_0l9).length c11_0] 37), .own (.slice a11_0 (if ((e4.toNat : Int) == 92) = true then (((jescS (ybxr_0l9, IntKind.wrap .i64 (ybxr_1l9 + 1), yown_xr_2_0l9)).2.2).2).2 else yown_xr_2_0l9).length c11_0) 39 5 (if ((e4.toNat : Int) == 92) = true then (((jescS (ybxr_0l9, IntKind.wrap .i64 (ybxr_1l9 + 1), yown_xr_2_0l9)).2.2).2).2 else yown_xr_2_0l9).length xs11_0, .own (.slice ayown2_0l9 yown2_0l9.length cyown2_0l9) 5 1 yown2_0l9.length xsyown2_0l9, .blk b1 (.cells #[.int .i64 0, .int .i64 0, .int .i64 0, .string ⟨⟨([] : List UInt8)⟩⟩, .int .i64 0] 39)]) (econs (congrArg (fun l : List Value => Ent.blk bxr (.cells ⟨l⟩ 37)) (lcons (congrArg ((fun s : List UInt8 => Value.string ⟨⟨s⟩⟩)) ((if_t hc9).symm)) (lcons (congrArg (Value.int .i64) ((if_t hc9).symm)) (lcons (congrArg (fun l : List (Int × Int × Int × List UInt8 × Int) => Value.slice a11_0 l.length c11_0) ((if_t hc9).symm)) rfl)))) (econs (congrArg (fun l : List (Int × Int × Int × List UInt8 × Int) => Ent.own (.slice a11_0 l.length c11_0) 39 5 l.length xs11_0) ((if_t hc9).symm)) (econs (rfl) (econs (rfl) rfl)))) ?_
                  exact fun a W hA hW => ⟨g11, hx11, a11_0, c11_0, xs11_0, (Eq.mp (congrArg (fun l : List (Int × Int × Int × List UInt8 × Int) => RepL g11 (.pair (.int .i64) (.pair (.int .i64) (.pair (.int .i64) (.pair (.str) (.int .i64))))) xs11_0 l) ((if_t hc9).symm)) hL11_0), hA.sub (by kernel_rfl), hW, hF⟩
              · replace hF := hF.2 hc9
                refine Ok.skip ?_
                refine Ok.blockN ?_
                refine Ok.thenN ?_
                refine Ok.reval 5 rfl (show (.int .u8 (e4.toNat : Int) : Value) = .int .u8 (if ((e4.toNat : Int) == 92) = true then (jescS (ybxr_0l9, IntKind.wrap .i64 (ybxr_1l9 + 1), yown_xr_2_0l9)).1 else (e4.toNat : Int)) from congrArg (Value.int .u8) ((if_f hc9).symm)) ?_
                refine Ok.heapEq (H' := [.own (.slice ayown2_0l9 yown2_0l9.length cyown2_0l9) 5 1 yown2_0l9.length xsyown2_0l9, .blk b1 (.cells #[.int .i64 0, .int .i64 0, .int .i64 0, .string ⟨⟨([] : List UInt8)⟩⟩, .int .i64 0] 39), .blk bxr (.cells #[.string ⟨⟨(if ((e4.toNat : Int) == 92) = true then ((jescS (ybxr_0l9, IntKind.wrap .i64 (ybxr_1l9 + 1), yown_xr_2_0l9)).2.2).1 else ybxr_0l9)⟩⟩, .int .i64 (if ((e4.toNat : Int) == 92) = true then IntKind.wrap .i64 (((((jescS (ybxr_0l9, IntKind.wrap .i64 (ybxr_1l9 + 1), yown_xr_2_0l9)).2.2).2).1) + ((jescS (ybxr_0l9, IntKind.wrap .i64 (ybxr_1l9 + 1), yown_xr_2_0l9)).2.1)) else IntKind.wrap .i64 (ybxr_1l9 + 1)), .slice ayown_xr_2_0l9 (if ((e4.toNat : Int) == 92) = true then (((jescS (ybxr_0l9, IntKind.wrap .i64 (ybxr_1l9 + 1), yown_xr_2_0l9)).2.2).2).2 else yown_xr_2_0l9).length cyown_xr_2_0l9] 37), .own (.slice ayown_xr_2_0l9 (if ((e4.toNat : Int) == 92) = true then (((jescS (ybxr_0l9, IntKind.wrap .i64 (ybxr_1l9 + 1), yown_xr_2_0l9)).2.2).2).2 else yown_xr_2_0l9).length cyown_xr_2_0l9) 39 5 (if ((e4.toNat : Int) == 92) = true then (((jescS (ybxr_0l9, IntKind.wrap .i64 (ybxr_1l9 + 1), yown_xr_2_0l9)).2.2).2).2 else yown_xr_2_0l9).length xsyown_xr_2_0l9]) (econs (rfl) (econs (rfl) (econs (congrArg (fun l : List Value => Ent.blk bxr (.cells ⟨l⟩ 37)) (lcons (congrArg ((fun s : List UInt8 => Value.string ⟨⟨s⟩⟩)) ((if_f hc9).symm)) (lcons (congrArg (Value.int .i64) ((if_f hc9).symm)) (lcons (congrArg (fun l : List (Int × Int × Int × List UInt8 × Int) => Value.slice ayown_xr_2_0l9 l.length cyown_xr_2_0l9) ((if_f hc9).symm)) rfl)))) (econs (congrArg (fun l : List (Int × Int × Int × List UInt8 × Int) => Ent.own (.slice ayown_xr_2_0l9 l.length cyown_xr_2_0l9) 39 5 l.length xsyown_xr_2_0l9) ((if_f hc9).symm)) rfl)))) ?_
                exact fun a W hA hW => ⟨gl9, (Gext.refl w0 gl9), ayown_xr_2_0l9, cyown_xr_2_0l9, xsyown_xr_2_0l9, (Eq.mp (congrArg (fun l : List (Int × Int × Int × List UInt8 × Int) => RepL gl9 (.pair (.int .i64) (.pair (.int .i64) (.pair (.int .i64) (.pair (.str) (.int .i64))))) xsyown_xr_2_0l9 l) ((if_f hc9).symm)) hLyown_xr_2_0l9), hA.sub (by kernel_rfl), hW.pick [2, 3, 0, 1] _ (by decide) rfl, hF⟩
        ·
          clear hF
          rintro a W ⟨gj21, hxj21, ayown_xr_2_0j21, cyown_xr_2_0j21, xsyown_xr_2_0j21, hLyown_xr_2_0j21, hA, hW, hF⟩
          refine (?_ : Ok _ _ _ _ _ _) a W hA hW
          clear hA hW
          replace hLyown2_0l9 := hLyown2_0l9.mono hxj21.1
          refine Ok.region ?_
          refine Ok.batch 2 [(0, .pointer (some ⟨bxr, 0, none⟩)), (2, .pointer (some ⟨b1, 0, none⟩)), (71, .slice ayown2_0l9 yown2_0l9.length cyown2_0l9), (72, .int .u8 (if ((e4.toNat : Int) == 92) = true then (jescS (ybxr_0l9, IntKind.wrap .i64 (ybxr_1l9 + 1), yown_xr_2_0l9)).1 else (e4.toNat : Int)))] (by kernel_rfl) ?_
          have hL5 : RepL gj21 (.int .u8) ([.int .u8 (if ((e4.toNat : Int) == 92) = true then (jescS (ybxr_0l9, IntKind.wrap .i64 (ybxr_1l9 + 1), yown_xr_2_0l9)).1 else (e4.toNat : Int))] : List Value) ([(if ((e4.toNat : Int) == 92) = true then (jescS (ybxr_0l9, IntKind.wrap .i64 (ybxr_1l9 + 1), yown_xr_2_0l9)).1 else (e4.toNat : Int))] : List (Int)) := (RepL.consN (c := [.int .u8 (if ((e4.toNat : Int) == 92) = true then (jescS (ybxr_0l9, IntKind.wrap .i64 (ybxr_1l9 + 1), yown_xr_2_0l9)).1 else (e4.toNat : Int))]) rfl rfl)
          refine Ok.op rfl (OpOk.lit (E := 5) (.int .u8) ([(if ((e4.toNat : Int) == 92) = true then (jescS (ybxr_0l9, IntKind.wrap .i64 (ybxr_1l9 + 1), yown_xr_2_0l9)).1 else (e4.toNat : Int))] : List (Int)) ([.int .u8 (if ((e4.toNat : Int) == 92) = true then (jescS (ybxr_0l9, IntKind.wrap .i64 (ybxr_1l9 + 1), yown_xr_2_0l9)).1 else (e4.toNat : Int))] : List Value) (by kernel_rfl) (by kernel_rfl) rfl (by kernel_rfl) hL5 rfl fun b5 => ?_)
          obtain ⟨hb6, hF⟩ := hF
          refine Ok.op rfl (OpOk.append' (e := .int .u8) 1 140737488355328 3 0 rfl rfl rfl rfl hLyown2_0l9 hL5 Tryd.underlying48 (by kernel_rfl) (by kernel_rfl) (by kernel_rfl) hb6 rfl fun a6 c6 xs6 hL6 => ?_)
          refine Ok.batch 1 [(0, .pointer (some ⟨bxr, 0, none⟩)), (2, .pointer (some ⟨b1, 0, none⟩)), (4, .slice a6 (yown2_0l9 ++ ([(if ((e4.toNat : Int) == 92) = true then (jescS (ybxr_0l9, IntKind.wrap .i64 (ybxr_1l9 + 1), yown_xr_2_0l9)).1 else (e4.toNat : Int))] : List (Int))).length c6)] (by kernel_rfl) ?_
          refine Ok.nil ?_
          refine Ok.blockN ?_
          refine Ok.thenN ?_
          subst hg4
          exact fun a W hA hW => ⟨k9, Nat.lt_succ_self _, gj21, (hxl9.trans hxj21), a6, c6, (yown2_0l9 ++ ([(if (((ybxr_0l9.getD (Int.toNat ybxr_1l9) 0).toNat : Int) == 92) = true then (jescS (ybxr_0l9, IntKind.wrap .i64 (ybxr_1l9 + 1), yown_xr_2_0l9)).1 else ((ybxr_0l9.getD (Int.toNat ybxr_1l9) 0).toNat : Int))] : List (Int))), xs6, (if (((ybxr_0l9.getD (Int.toNat ybxr_1l9) 0).toNat : Int) == 92) = true then ((jescS (ybxr_0l9, IntKind.wrap .i64 (ybxr_1l9 + 1), yown_xr_2_0l9)).2.2).1 else ybxr_0l9), (if (((ybxr_0l9.getD (Int.toNat ybxr_1l9) 0).toNat : Int) == 92) = true then IntKind.wrap .i64 (((((jescS (ybxr_0l9, IntKind.wrap .i64 (ybxr_1l9 + 1), yown_xr_2_0l9)).2.2).2).1) + ((jescS (ybxr_0l9, IntKind.wrap .i64 (ybxr_1l9 + 1), yown_xr_2_0l9)).2.1)) else IntKind.wrap .i64 (ybxr_1l9 + 1)), ayown_xr_2_0j21, cyown_xr_2_0j21, (if (((ybxr_0l9.getD (Int.toNat ybxr_1l9) 0).toNat : Int) == 92) = true then (((jescS (ybxr_0l9, IntKind.wrap .i64 (ybxr_1l9 + 1), yown_xr_2_0l9)).2.2).2).2 else yown_xr_2_0l9), xsyown_xr_2_0j21, hL6, hLyown_xr_2_0j21, hA.sub (by kernel_rfl), hW.pick [3, 4, 1, 2] _ (by decide) rfl, hF⟩
      · replace hF := hF.2 hc3
        refine Ok.exit ?_
        refine Ok.thenE ?_
        refine Ok.thenE ?_
        refine Ok.blockHit ?_
        refine Ok.thenN ?_
        refine Ok.seq ?_
        refine Ok.region ?_
        refine Ok.batch 1 [(2, .pointer (some ⟨b1, 0, none⟩)), (75, .agg #[.int .i64 0, .int .i64 0, .int .i64 0, .string ⟨⟨([] : List UInt8)⟩⟩, .int .i64 0])] (by kernel_rfl) ?_
        refine Ok.op rfl (OpOk.store (k := 5) (v := .agg #[.int .i64 0, .int .i64 0, .int .i64 0, .string ⟨⟨([] : List UInt8)⟩⟩, .int .i64 0]) (H' := [.own (.slice ayown2_0l9 yown2_0l9.length cyown2_0l9) 5 1 yown2_0l9.length xsyown2_0l9, .blk b1 (.cells #[.int .i64 0, .int .i64 0, .int .i64 0, .string ⟨⟨([] : List UInt8)⟩⟩, .int .i64 0] 39), .blk bxr (.cells #[.string ⟨⟨ybxr_0l9⟩⟩, .int .i64 ybxr_1l9, .slice ayown_xr_2_0l9 yown_xr_2_0l9.length cyown_xr_2_0l9] 37), .own (.slice ayown_xr_2_0l9 yown_xr_2_0l9.length cyown_xr_2_0l9) 39 5 yown_xr_2_0l9.length xsyown_xr_2_0l9]) 1 rfl rfl rfl (by kernel_rfl) (by kernel_rfl) (by kernel_rfl) (by kernel_rfl) (by kernel_rfl) ?_)
        refine Ok.batch 1 [(2, .pointer (some ⟨b1, 0, none⟩)), (3, .int .i64 4)] (by kernel_rfl) ?_
        refine Ok.nil ?_
        refine Ok.thenN ?_
        refine Ok.ret ?_
        exact Ok.resP (vs := [.agg #[.int .i64 0, .int .i64 0, .int .i64 0, .string ⟨⟨([] : List UInt8)⟩⟩, .int .i64 0], .int .i64 4]) [2, 3] [.blk bxr (.cells #[.string ⟨⟨ybxr_0l9⟩⟩, .int .i64 ybxr_1l9, .slice ayown_xr_2_0l9 yown_xr_2_0l9.length cyown_xr_2_0l9] 37), .own (.slice ayown_xr_2_0l9 yown_xr_2_0l9.length cyown_xr_2_0l9) 39 5 yown_xr_2_0l9.length xsyown_xr_2_0l9] (by decide) rfl (.inl rfl) rfl (.cons (.cellAgg 1 5 #[.int .i64 0, .int .i64 0, .int .i64 0, .string ⟨⟨([] : List UInt8)⟩⟩, .int .i64 0] rfl rfl Tryd.underlying39 rfl (by kernel_rfl) (by kernel_rfl) (by kernel_rfl)) (.cons (.tmp rfl) .nil)) hxl9 ⟨(0, 0, 0, ([] : List UInt8), 0), 4, (ybxr_0l9, ybxr_1l9, yown_xr_2_0l9), ayown_xr_2_0l9, cyown_xr_2_0l9, xsyown_xr_2_0l9, rfl, hLyown_xr_2_0l9, rfl, hF⟩
def jtxtS (x : RD) : TK × Int × RD := txN x.1 x.2.2 (x.1.length + 1) (x.2.1 + 1) []
def jtxtP (x : RD) : Prop := x.1.length ≤ 1000000 ∧ 0 ≤ x.2.1 ∧ x.2.1 < (x.1.length : Int)
theorem jtxt_F (x : RD) (hp : jtxtP x) : jtxtF x (fun r r1 r2 => (r, r1, r2) = jtxtS x) := by
  obtain ⟨h1, h2, h3⟩ := hp
  have loop : ∀ (k : Nat) (i : Int) (acc : List Int), (x.1.length : Int) ≤ i + k → 0 ≤ i → i ≤ (x.1.length : Int) → (acc.length : Int) ≤ i → jtxtS x = txN x.1 x.2.2 (k + 1) i acc →
      jtxtl9 (fun r r1 r2 => (r, r1, r2) = jtxtS x) (k + 1) acc x.1 i x.2.2 := by
    intro k
    induction k with
    | zero =>
      intro i acc ha hb hc hd he
      have hn : decide (i < (x.1.length : Int)) = false := decide_eq_false (by omega)
      rw [txN, if_f hn] at he
      exact ⟨fun h => (Bool.false_ne_true (hn.symm.trans h)).elim, fun _ => he.symm⟩
    | succ k ih =>
      intro i acc ha hb hc hd he
      rw [txN] at he
      refine ⟨fun hn => ?_, fun hn => by rw [if_f hn] at he; exact he.symm⟩
      rw [if_t hn] at he
      have hlt := of_decide_eq_true hn
      have hw : IntKind.wrap .i64 (i + 1) = i + 1 := w64 (by omega)
      refine ⟨hb, by omega, fun hq => ?_, fun hq => ?_⟩
      · rw [if_t hq] at he
        rw [hw]; exact he.symm
      · rw [if_f hq] at he
        refine ⟨fun hs => ?_, fun hs => ?_⟩
        · rw [if_t hs] at he
          rw [hw]; exact he.symm
        · rw [if_f hs] at he
          refine ⟨fun hl => ?_, fun hl => ?_⟩
          · rw [if_t hl] at he
            have hr := esc_rd (x.1, i + 1, x.2.2) ⟨h1, by show 0 ≤ i + 1; omega, by show i + 1 ≤ (x.1.length : Int); omega⟩
            have hr2 : i + 1 + (jescS (x.1, i + 1, x.2.2)).2.1 ≤ (x.1.length : Int) := hr.2
            have hr1 := hr.1
            rw [hw]
            refine ⟨⟨h1, by show 0 ≤ i + 1; omega, by show i + 1 ≤ (x.1.length : Int); omega⟩, fun hz => ?_, fun hz => ?_⟩
            · rw [if_t hz] at he
              rw [esc_x]; exact he.symm
            · rw [if_f hz] at he
              unfold jtxtj21
              rw [hw, if_t hl, if_t hl, if_t hl, if_t hl, esc_x]
              refine ⟨by rw [List.length_append]; simp only [List.length_cons, List.length_nil]; omega, ?_⟩
              dsimp only
              rw [w64 (by omega)]
              exact ih _ _ (by have : (jescS (x.1, i + 1, x.2.2)).2.1 ≠ 0 := fun h0 => by rw [h0] at hz; exact absurd hz (by decide)
                               omega) (by omega) hr2 (by rw [List.length_append]; simp only [List.length_cons, List.length_nil]; omega) he
          · rw [if_f hl] at he
            unfold jtxtj21
            rw [if_f hl, if_f hl, if_f hl, if_f hl, hw]
            exact ⟨by rw [List.length_append]; simp only [List.length_cons, List.length_nil]; omega, ih _ _ (by omega) (by omega) (by omega) (by rw [List.length_append]; simp only [List.length_cons, List.length_nil]; omega) he⟩
  unfold jtxtF
  rw [w64 (by omega)]
  exact ⟨_, loop x.1.length (x.2.1 + 1) [] (by omega) (by omega) (by omega) (by show (0 : Int) ≤ _; omega) rfl⟩
set_option linter.unusedVariables false in
theorem jtxt_c {g : Ghost} {bxr : Nat} {axr_0 : Option Addr} {cxr_0 : Nat} {xsxr_0 : List Value} (xr : List UInt8 × Int × List (Int × Int × Int × List UInt8 × Int)) (hLxr_0 : RepL g (.pair (.int .i64) (.pair (.int .i64) (.pair (.int .i64) (.pair (.str) (.int .i64))))) xsxr_0 xr.2.2)  (hp : jtxtP xr) : CallsH Tryd.prog 34 #[.pointer (some ⟨bxr, 0, none⟩)] g [.blk bxr (.cells #[.string ⟨⟨xr.1⟩⟩, .int .i64 xr.2.1, .slice axr_0 xr.2.2.length cxr_0] 37), .own (.slice axr_0 xr.2.2.length cxr_0) 39 5 xr.2.2.length xsxr_0] (fun g' H' v => ∃ (afxr_0 : Option Addr) (cfxr_0 : Nat) (xsfxr_0 : List Value), v = .tuple #[.agg #[.int .i64 ((jtxtS xr).1).1, .int .i64 ((jtxtS xr).1).2.1, .int .i64 ((jtxtS xr).1).2.2.1, .string ⟨⟨((jtxtS xr).1).2.2.2.1⟩⟩, .int .i64 ((jtxtS xr).1).2.2.2.2], .int .i64 ((jtxtS xr).2.1)] ∧ RepL g' (.pair (.int .i64) (.pair (.int .i64) (.pair (.int .i64) (.pair (.str) (.int .i64))))) xsfxr_0 ((jtxtS xr).2.2).2.2 ∧ H' = [.blk bxr (.cells #[.string ⟨⟨((jtxtS xr).2.2).1⟩⟩, .int .i64 ((jtxtS xr).2.2).2.1, .slice afxr_0 ((jtxtS xr).2.2).2.2.length cfxr_0] 37), .own (.slice afxr_0 ((jtxtS xr).2.2).2.2.length cfxr_0) 39 5 ((jtxtS xr).2.2).2.2.length xsfxr_0]) :=
  (jtxt_ok xr hLxr_0 _ (jtxt_F xr hp)).mono (by rintro g' H' v _ ⟨r0, r1, fxr, afxr_0, cfxr_0, xsfxr_0, rfl, hLfxr_0, rfl, hK⟩; obtain ⟨rfl, rfl, rfl⟩ : r0 = (jtxtS xr).1 ∧ r1 = (jtxtS xr).2.1 ∧ fxr = (jtxtS xr).2.2 := ⟨congrArg (fun z => z.1) hK, congrArg (fun z => z.2.1) hK, congrArg (fun z => z.2.2) hK⟩; exact ⟨afxr_0, cfxr_0, xsfxr_0, rfl, hLfxr_0, rfl⟩)
theorem txN_rd (s : List UInt8) (o : List TK) (hs : s.length ≤ 1000000) : ∀ (k : Nat) (i : Int) (acc : List Int), 0 ≤ i → i ≤ (s.length : Int) → rdP (txN s o k i acc).2.2 ∧ (txN s o k i acc).2.2.1 = s ∧ (txN s o k i acc).2.2.2.2 = o
  | 0, i, acc, h1, h2 => ⟨⟨hs, h1, h2⟩, rfl, rfl⟩
  | k + 1, i, acc, h1, h2 => by
    rw [txN]
    split
    · rename_i hn
      have hlt := of_decide_eq_true hn
      have hr := esc_rd (s, i + 1, o) ⟨hs, by show 0 ≤ i + 1; omega, by show i + 1 ≤ (s.length : Int); omega⟩
      have hr2 : i + 1 + (jescS (s, i + 1, o)).2.1 ≤ (s.length : Int) := hr.2
      have h3 : rdP (s, i + 1, o) := ⟨hs, by show 0 ≤ i + 1; omega, by show i + 1 ≤ (s.length : Int); omega⟩
      split
      · exact ⟨h3, rfl, rfl⟩
      · split
        · exact ⟨h3, rfl, rfl⟩
        · split
          · split
            · exact ⟨h3, rfl, rfl⟩
            · exact txN_rd s o hs k _ _ (by have := hr.1; omega) hr2
          · exact txN_rd s o hs k _ _ (by omega) (by omega)
    · exact ⟨⟨hs, h1, h2⟩, rfl, rfl⟩
def jsigj14 (x8l7 : Int) (C7 : Int → Prop) : Prop :=
  C7 (IntKind.wrap .i64 (x8l7 + 1))
def jsigl7b (xr : List UInt8 × Int × List (Int × Int × Int × List UInt8 × Int)) (K : (Int × Int × Int × List UInt8 × Int) → Int → (List UInt8 × Int × List (Int × Int × Int × List UInt8 × Int)) → Prop) (x8l7 : Int) (C7 : Int → Prop) : Prop :=
  ((decide (x8l7 < 2)) = true → (0 : Int) ≤ x8l7 ∧ Int.toNat x8l7 < ([2, 1] : List (Int)).length ∧ ((decide ((IntKind.wrap .i64 (xr.2.1 + (([2, 1] : List (Int)).getD (Int.toNat x8l7) default))) > (xr.1.length : Int))) = true → jsigj14 x8l7 C7) ∧ ((decide ((IntKind.wrap .i64 (xr.2.1 + (([2, 1] : List (Int)).getD (Int.toNat x8l7) default))) > (xr.1.length : Int))) = false → (0 : Int) ≤ xr.2.1 ∧ (xr.2.1 : Int) ≤ (IntKind.wrap .i64 (xr.2.1 + (([2, 1] : List (Int)).getD (Int.toNat x8l7) default))) ∧ (IntKind.wrap .i64 (xr.2.1 + (([2, 1] : List (Int)).getD (Int.toNat x8l7) default))) ≤ (xr.1.length : Int) ∧ fieldsP ([61, 61, 32, 33, 61, 32, 60, 61, 32, 62, 61, 32, 38, 38, 32, 124, 124, 32, 61, 32, 33, 32, 60, 32, 62, 32, 43, 32, 45, 32, 42, 32, 47, 32, 37, 32, 40, 32, 41, 32, 91, 32, 93, 32, 123, 32, 125, 32, 44, 32, 59, 32, 58, 32, 46, 32, 63] : List UInt8) ∧ inP (fieldsS ([61, 61, 32, 33, 61, 32, 60, 61, 32, 62, 61, 32, 38, 38, 32, 124, 124, 32, 61, 32, 33, 32, 60, 32, 62, 32, 43, 32, 45, 32, 42, 32, 47, 32, 37, 32, 40, 32, 41, 32, 91, 32, 93, 32, 123, 32, 125, 32, 44, 32, 59, 32, 58, 32, 46, 32, 63] : List UInt8)) ((xr.1.take (Int.toNat (IntKind.wrap .i64 (xr.2.1 + (([2, 1] : List (Int)).getD (Int.toNat x8l7) default))))).drop (Int.toNat xr.2.1)) ∧ (((sconM (fieldsS ([61, 61, 32, 33, 61, 32, 60, 61, 32, 62, 61, 32, 38, 38, 32, 124, 124, 32, 61, 32, 33, 32, 60, 32, 62, 32, 43, 32, 45, 32, 42, 32, 47, 32, 37, 32, 40, 32, 41, 32, 91, 32, 93, 32, 123, 32, 125, 32, 44, 32, 59, 32, 58, 32, 46, 32, 63] : List UInt8)) ((xr.1.take (Int.toNat (IntKind.wrap .i64 (xr.2.1 + (([2, 1] : List (Int)).getD (Int.toNat x8l7) default))))).drop (Int.toNat xr.2.1)))) = true → K (4, 0, 0, (xr.1.take (Int.toNat (IntKind.wrap .i64 (xr.2.1 + (([2, 1] : List (Int)).getD (Int.toNat x8l7) default))))).drop (Int.toNat xr.2.1), 0) 0 (xr.1, IntKind.wrap .i64 (xr.2.1 + (([2, 1] : List (Int)).getD (Int.toNat x8l7) default)), xr.2.2)) ∧ (((sconM (fieldsS ([61, 61, 32, 33, 61, 32, 60, 61, 32, 62, 61, 32, 38, 38, 32, 124, 124, 32, 61, 32, 33, 32, 60, 32, 62, 32, 43, 32, 45, 32, 42, 32, 47, 32, 37, 32, 40, 32, 41, 32, 91, 32, 93, 32, 123, 32, 125, 32, 44, 32, 59, 32, 58, 32, 46, 32, 63] : List UInt8)) ((xr.1.take (Int.toNat (IntKind.wrap .i64 (xr.2.1 + (([2, 1] : List (Int)).getD (Int.toNat x8l7) default))))).drop (Int.toNat xr.2.1)))) = false → jsigj14 x8l7 C7))) ∧ ((decide (x8l7 < 2)) = false → K (0, 0, 0, ([] : List UInt8), 0) 4 xr)
def jsigl7 (xr : List UInt8 × Int × List (Int × Int × Int × List UInt8 × Int)) (K : (Int × Int × Int × List UInt8 × Int) → Int → (List UInt8 × Int × List (Int × Int × Int × List UInt8 × Int)) → Prop) : Nat → Int → Prop
  | 0, _ => False
  | k + 1, x8l7 => jsigl7b xr K x8l7 (jsigl7 xr K k)
def jsigF (xr : List UInt8 × Int × List (Int × Int × Int × List UInt8 × Int)) (K : (Int × Int × Int × List UInt8 × Int) → Int → (List UInt8 × Int × List (Int × Int × Int × List UInt8 × Int)) → Prop) : Prop :=
  ∃ k, jsigl7 xr K k 0
set_option maxHeartbeats 4000000 in
set_option maxRecDepth 100000 in
set_option linter.unusedVariables false in
theorem jsig_ok {g : Ghost} {bxr : Nat} {axr_0 : Option Addr} {cxr_0 : Nat} {xsxr_0 : List Value} (xr : List UInt8 × Int × List (Int × Int × Int × List UInt8 × Int)) (hLxr_0 : RepL g (.pair (.int .i64) (.pair (.int .i64) (.pair (.int .i64) (.pair (.str) (.int .i64))))) xsxr_0 xr.2.2) (hG0 : GlobL g 0 (.int .u8) DSpace) (K : (Int × Int × Int × List UInt8 × Int) → Int → (List UInt8 × Int × List (Int × Int × Int × List UInt8 × Int)) → Prop)
    (hF : jsigF xr K) : CallsH Tryd.prog 35 #[.pointer (some ⟨bxr, 0, none⟩)] g [.blk bxr (.cells #[.string ⟨⟨xr.1⟩⟩, .int .i64 xr.2.1, .slice axr_0 xr.2.2.length cxr_0] 37), .own (.slice axr_0 xr.2.2.length cxr_0) 39 5 xr.2.2.length xsxr_0] (fun g' H' v => ∃ (r0 : Int × Int × Int × List UInt8 × Int), ∃ (r1 : Int), ∃ (fxr : List UInt8 × Int × List (Int × Int × Int × List UInt8 × Int)), ∃ (afxr_0 : Option Addr) (cfxr_0 : Nat) (xsfxr_0 : List Value), v = .tuple #[.agg #[.int .i64 r0.1, .int .i64 r0.2.1, .int .i64 r0.2.2.1, .string ⟨⟨r0.2.2.2.1⟩⟩, .int .i64 r0.2.2.2.2], .int .i64 r1] ∧ RepL g' (.pair (.int .i64) (.pair (.int .i64) (.pair (.int .i64) (.pair (.str) (.int .i64))))) xsfxr_0 fxr.2.2 ∧ H' = [.blk bxr (.cells #[.string ⟨⟨fxr.1⟩⟩, .int .i64 fxr.2.1, .slice afxr_0 fxr.2.2.length cfxr_0] 37), .own (.slice afxr_0 fxr.2.2.length cfxr_0) 39 5 fxr.2.2.length xsfxr_0] ∧ K r0 r1 fxr) := by
  refine CallsH.enter 53 [(0, .pointer (some ⟨bxr, 0, none⟩))] Tryd.func35 rfl (by kernel_rfl) (by kernel_rfl) (by kernel_rfl) fun w0 => ?_
  refine Ok.seq ?_
  refine Ok.region ?_
  refine Ok.op rfl (OpOk.alloc (z := .agg #[.int .i64 0, .int .i64 0, .int .i64 0, .string ⟨⟨([] : List UInt8)⟩⟩, .int .i64 0]) (cs := #[.int .i64 0, .int .i64 0, .int .i64 0, .string ⟨⟨([] : List UInt8)⟩⟩, .int .i64 0]) (by kernel_rfl) (by kernel_rfl) rfl fun b1 => ?_)
  refine Ok.batch 1 [(0, .pointer (some ⟨bxr, 0, none⟩)), (2, .pointer (some ⟨b1, 0, none⟩))] (by kernel_rfl) ?_
  refine Ok.nil ?_
  refine Ok.thenN ?_
  refine Ok.seq ?_
  refine Ok.seq ?_
  refine Ok.region ?_
  refine Ok.batch 2 [(0, .pointer (some ⟨bxr, 0, none⟩)), (2, .pointer (some ⟨b1, 0, none⟩)), (7, .agg #[.int .i64 2, .int .i64 1]), (8, .int .i64 0)] (by kernel_rfl) ?_
  refine Ok.nil ?_
  refine Ok.thenN ?_
  refine Ok.block ?_
  obtain ⟨k, hF⟩ := hF
  refine Ok.loop (fun k a W => ∃ gl7 : Ghost, Gext w0 g gl7 ∧ ∃ (x8l7 : Int), StA 53 [(0, .pointer (some ⟨bxr, 0, none⟩)), (2, .pointer (some ⟨b1, 0, none⟩)), (7, .agg #[.int .i64 2, .int .i64 1]), (8, .int .i64 x8l7)] a ∧ StW w0 [.blk b1 (.cells #[.int .i64 0, .int .i64 0, .int .i64 0, .string ⟨⟨([] : List UInt8)⟩⟩, .int .i64 0] 39), .blk bxr (.cells #[.string ⟨⟨xr.1⟩⟩, .int .i64 xr.2.1, .slice axr_0 xr.2.2.length cxr_0] 37), .own (.slice axr_0 xr.2.2.length cxr_0) 39 5 xr.2.2.length xsxr_0] gl7 W ∧ jsigl7 xr K k x8l7) k ?_ ?_
  ·
    exact fun a W hA hW => ⟨g, (Gext.refl w0 g), 0, hA.sub (by kernel_rfl), hW, hF⟩
  ·
    clear hF
    rintro k7 a W ⟨gl7, hxl7, x8l7, hA, hW, hF⟩
    cases k7 with
    | zero => exact (hF : False).elim
    | succ k7 =>
      refine (?_ : Ok _ _ _ _ _ _) a W hA hW
      clear hA hW
      replace hLxr_0 := hLxr_0.mono hxl7.1
      replace hG0 := hG0.mono hxl7.1
      refine Ok.seq ?_
      refine Ok.region ?_
      refine Ok.batch 1 [(0, .pointer (some ⟨bxr, 0, none⟩)), (2, .pointer (some ⟨b1, 0, none⟩)), (7, .agg #[.int .i64 2, .int .i64 1]), (8, .int .i64 x8l7), (9, .bool (decide (x8l7 < 2)))] (by kernel_rfl) ?_
      refine Ok.nil ?_
      refine Ok.thenN ?_
      refine Ok.seq ?_
      refine Ok.cond (b := decide (x8l7 < 2)) rfl (fun hc2 => ?_) (fun hc2 => ?_)
      · replace hF := hF.1 hc2
        refine Ok.skip ?_
        refine Ok.thenN ?_
        refine Ok.cut (fun a W => ∃ gj14 : Ghost, Gext w0 gl7 gj14 ∧ StA 53 [(0, .pointer (some ⟨bxr, 0, none⟩)), (2, .pointer (some ⟨b1, 0, none⟩)), (7, .agg #[.int .i64 2, .int .i64 1]), (8, .int .i64 x8l7)] a ∧ StW w0 [.blk b1 (.cells #[.int .i64 0, .int .i64 0, .int .i64 0, .string ⟨⟨([] : List UInt8)⟩⟩, .int .i64 0] 39), .blk bxr (.cells #[.string ⟨⟨xr.1⟩⟩, .int .i64 xr.2.1, .slice axr_0 xr.2.2.length cxr_0] 37), .own (.slice axr_0 xr.2.2.length cxr_0) 39 5 xr.2.2.length xsxr_0] gj14 W ∧ jsigj14 x8l7 (jsigl7 xr K k7)) ?_ ?_
        ·
          refine Ok.block ?_
          refine Ok.seq ?_
          refine Ok.region ?_
          obtain ⟨h03, h13, hF⟩ := hF
          have he3 := get_of (l := ([2, 1] : List (Int))) (default : Int) h13
          generalize hg3 : (([2, 1] : List (Int)).getD (Int.toNat x8l7) default) = e3 at he3 hF ⊢
          have he4' : (#[.int .i64 2, .int .i64 1] : Array Value)[Int.toNat x8l7]? = some (.int .i64 e3) := by have := congrArg (Option.map (Value.int .i64)) he3; rw [← List.getElem?_map] at this; simpa using this
          have hl4 : x8l7 < (2 : Int) := by have := (List.getElem?_eq_some_iff.1 he3).1; have : ([2, 1] : List (Int)).length = 2 := rfl; omega
          refine Ok.op rfl (OpOk.step (v := .int .i64 e3) (Yields.indexAgg (i := x8l7) rfl rfl Tryd.underlying83 Tryd.underlying3 rfl (by kernel_rfl) h03 hl4 he4') rfl rfl ?_)
          refine Ok.batch 1 [(0, .pointer (some ⟨bxr, 0, none⟩)), (2, .pointer (some ⟨b1, 0, none⟩)), (5, .int .i64 e3), (7, .agg #[.int .i64 2, .int .i64 1]), (8, .int .i64 x8l7)] (by kernel_rfl) ?_
          refine Ok.nil ?_
          refine Ok.thenN ?_
          refine Ok.seq ?_
          refine Ok.seq ?_
          refine Ok.quiet' (by kernel_rfl) (by kernel_rfl) ?_
          refine OkQ.batch 3 [(0, .pointer (some ⟨bxr, 0, none⟩)), (2, .pointer (some ⟨b1, 0, none⟩)), (5, .int .i64 e3), (7, .agg #[.int .i64 2, .int .i64 1]), (8, .int .i64 x8l7), (13, .pointer (some ⟨bxr, 1, none⟩))] (by kernel_rfl) ?_
          refine OkQ.op rfl (OpQ.step (v := .int .i64 xr.2.1) (Yields.load 1 rfl rfl Tryd.underlying3 rfl (by kernel_rfl)) rfl rfl ?_)
          refine OkQ.batch 5 [(0, .pointer (some ⟨bxr, 0, none⟩)), (2, .pointer (some ⟨b1, 0, none⟩)), (5, .int .i64 e3), (7, .agg #[.int .i64 2, .int .i64 1]), (8, .int .i64 x8l7), (16, .int .i64 (IntKind.wrap .i64 (xr.2.1 + e3))), (19, .pointer (some ⟨bxr, 0, none⟩))] (by kernel_rfl) ?_
          refine OkQ.op rfl (OpQ.step (v := .string ⟨⟨xr.1⟩⟩) (Yields.load 1 rfl rfl Tryd.underlying9 rfl (by kernel_rfl)) rfl rfl ?_)
          refine OkQ.batch 2 [(0, .pointer (some ⟨bxr, 0, none⟩)), (2, .pointer (some ⟨b1, 0, none⟩)), (5, .int .i64 e3), (7, .agg #[.int .i64 2, .int .i64 1]), (8, .int .i64 x8l7), (22, .bool (decide ((IntKind.wrap .i64 (xr.2.1 + e3)) > (xr.1.length : Int))))] (by kernel_rfl) ?_
          refine OkQ.nil ?_
          refine Ok.thenN ?_
          refine Ok.cond (b := decide ((IntKind.wrap .i64 (xr.2.1 + e3)) > (xr.1.length : Int))) rfl (fun hc5 => ?_) (fun hc5 => ?_)
          · replace hF := hF.1 hc5
            refine Ok.exit ?_
            refine Ok.thenE ?_
            refine Ok.blockHit ?_
            refine Ok.thenN ?_
            subst hg3
            exact fun a W hA hW => ⟨gl7, (Gext.refl w0 gl7), hA.sub (by kernel_rfl), hW, hF⟩
          · replace hF := hF.2 hc5
            refine Ok.skip ?_
            refine Ok.thenN ?_
            refine Ok.seq ?_
            refine Ok.quiet' (by kernel_rfl) (by kernel_rfl) ?_
            refine OkQ.batch 3 [(0, .pointer (some ⟨bxr, 0, none⟩)), (2, .pointer (some ⟨b1, 0, none⟩)), (5, .int .i64 e3), (7, .agg #[.int .i64 2, .int .i64 1]), (8, .int .i64 x8l7), (25, .pointer (some ⟨bxr, 0, none⟩))] (by kernel_rfl) ?_
            refine OkQ.op rfl (OpQ.step (v := .string ⟨⟨xr.1⟩⟩) (Yields.load 1 rfl rfl Tryd.underlying9 rfl (by kernel_rfl)) rfl rfl ?_)
            refine OkQ.batch 3 [(0, .pointer (some ⟨bxr, 0, none⟩)), (2, .pointer (some ⟨b1, 0, none⟩)), (5, .int .i64 e3), (7, .agg #[.int .i64 2, .int .i64 1]), (8, .int .i64 x8l7), (26, .string ⟨⟨xr.1⟩⟩), (29, .pointer (some ⟨bxr, 1, none⟩))] (by kernel_rfl) ?_
            refine OkQ.op rfl (OpQ.step (v := .int .i64 xr.2.1) (Yields.load 1 rfl rfl Tryd.underlying3 rfl (by kernel_rfl)) rfl rfl ?_)
            refine OkQ.batch 3 [(0, .pointer (some ⟨bxr, 0, none⟩)), (2, .pointer (some ⟨b1, 0, none⟩)), (5, .int .i64 e3), (7, .agg #[.int .i64 2, .int .i64 1]), (8, .int .i64 x8l7), (26, .string ⟨⟨xr.1⟩⟩), (30, .int .i64 xr.2.1), (33, .pointer (some ⟨bxr, 1, none⟩))] (by kernel_rfl) ?_
            refine OkQ.op rfl (OpQ.step (v := .int .i64 xr.2.1) (Yields.load 1 rfl rfl Tryd.underlying3 rfl (by kernel_rfl)) rfl rfl ?_)
            refine OkQ.batch 2 [(0, .pointer (some ⟨bxr, 0, none⟩)), (2, .pointer (some ⟨b1, 0, none⟩)), (5, .int .i64 e3), (7, .agg #[.int .i64 2, .int .i64 1]), (8, .int .i64 x8l7), (26, .string ⟨⟨xr.1⟩⟩), (30, .int .i64 xr.2.1), (36, .int .i64 (IntKind.wrap .i64 (xr.2.1 + e3)))] (by kernel_rfl) ?_
            obtain ⟨h06, h16, h26, hF⟩ := hF
            refine OkQ.op rfl (OpQ.step (v := .string ⟨⟨(xr.1.take (Int.toNat (IntKind.wrap .i64 (xr.2.1 + e3)))).drop (Int.toNat xr.2.1)⟩⟩) (Yields.sliceStr (s := xr.1) (l := xr.2.1) (h := (IntKind.wrap .i64 (xr.2.1 + e3))) (by kernel_rfl) Tryd.underlying9 (.inl ⟨_, _, rfl, rfl⟩) (.inl ⟨_, _, rfl, rfl⟩) h06 h16 h26 ((xr.1.take (Int.toNat (IntKind.wrap .i64 (xr.2.1 + e3)))).drop (Int.toNat xr.2.1)) rfl) rfl rfl ?_)
            refine OkQ.batch 1 [(0, .pointer (some ⟨bxr, 0, none⟩)), (2, .pointer (some ⟨b1, 0, none⟩)), (5, .int .i64 e3), (6, .string ⟨⟨(xr.1.take (Int.toNat (IntKind.wrap .i64 (xr.2.1 + e3)))).drop (Int.toNat xr.2.1)⟩⟩), (7, .agg #[.int .i64 2, .int .i64 1]), (8, .int .i64 x8l7)] (by kernel_rfl) ?_
            refine OkQ.nil ?_
            refine Ok.thenN ?_
            refine Ok.seq ?_
            refine Ok.region ?_
            obtain ⟨hp7, hF⟩ := hF
            refine Ok.op rfl (OpOk.callH [] [.blk b1 (.cells #[.int .i64 0, .int .i64 0, .int .i64 0, .string ⟨⟨([] : List UInt8)⟩⟩, .int .i64 0] 39), .blk bxr (.cells #[.string ⟨⟨xr.1⟩⟩, .int .i64 xr.2.1, .slice axr_0 xr.2.2.length cxr_0] 37), .own (.slice axr_0 xr.2.2.length cxr_0) 39 5 xr.2.2.length xsxr_0] (enters (by kernel_rfl) (fun _ => by kernel_rfl)) rfl (fields_c ([61, 61, 32, 33, 61, 32, 60, 61, 32, 62, 61, 32, 38, 38, 32, 124, 124, 32, 61, 32, 33, 32, 60, 32, 62, 32, 43, 32, 45, 32, 42, 32, 47, 32, 37, 32, 40, 32, 41, 32, 91, 32, 93, 32, 123, 32, 125, 32, 44, 32, 59, 32, 58, 32, 46, 32, 63] : List UInt8) hG0 hp7) rfl fun g8 _ _ hx8 hV8 => ?_)
            obtain ⟨a8_0, c8_0, rfl, hR8_0, rfl⟩ := hV8
            replace hLxr_0 := hLxr_0.mono hx8.1
            replace hG0 := hG0.mono hx8.1
            refine Ok.batch 1 [(0, .pointer (some ⟨bxr, 0, none⟩)), (2, .pointer (some ⟨b1, 0, none⟩)), (5, .int .i64 e3), (6, .string ⟨⟨(xr.1.take (Int.toNat (IntKind.wrap .i64 (xr.2.1 + e3)))).drop (Int.toNat xr.2.1)⟩⟩), (7, .agg #[.int .i64 2, .int .i64 1]), (8, .int .i64 x8l7), (38, .slice a8_0 (fieldsS ([61, 61, 32, 33, 61, 32, 60, 61, 32, 62, 61, 32, 38, 38, 32, 124, 124, 32, 61, 32, 33, 32, 60, 32, 62, 32, 43, 32, 45, 32, 42, 32, 47, 32, 37, 32, 40, 32, 41, 32, 91, 32, 93, 32, 123, 32, 125, 32, 44, 32, 59, 32, 58, 32, 46, 32, 63] : List UInt8)).length c8_0), (39, .string ⟨⟨(xr.1.take (Int.toNat (IntKind.wrap .i64 (xr.2.1 + e3)))).drop (Int.toNat xr.2.1)⟩⟩)] (by kernel_rfl) ?_
            obtain ⟨hp9, hF⟩ := hF
            refine Ok.op rfl (OpOk.callG (v := .bool (sconM (fieldsS ([61, 61, 32, 33, 61, 32, 60, 61, 32, 62, 61, 32, 38, 38, 32, 124, 124, 32, 61, 32, 33, 32, 60, 32, 62, 32, 43, 32, 45, 32, 42, 32, 47, 32, 37, 32, 40, 32, 41, 32, 91, 32, 93, 32, 123, 32, 125, 32, 44, 32, 59, 32, 58, 32, 46, 32, 63] : List UInt8)) ((xr.1.take (Int.toNat (IntKind.wrap .i64 (xr.2.1 + e3)))).drop (Int.toNat xr.2.1)))) (enters (by kernel_rfl) (fun _ => by kernel_rfl)) (fun W hW => scon_c (fieldsS ([61, 61, 32, 33, 61, 32, 60, 61, 32, 62, 61, 32, 38, 38, 32, 124, 124, 32, 61, 32, 33, 32, 60, 32, 62, 32, 43, 32, 45, 32, 42, 32, 47, 32, 37, 32, 40, 32, 41, 32, 91, 32, 93, 32, 123, 32, 125, 32, 44, 32, 59, 32, 58, 32, 46, 32, 63] : List UInt8)) ((xr.1.take (Int.toNat (IntKind.wrap .i64 (xr.2.1 + e3)))).drop (Int.toNat xr.2.1)) (hR8_0.mono hW.sees) hp9) rfl ?_)
            refine Ok.nil ?_
            refine Ok.thenN ?_
            refine Ok.cond (b := (sconM (fieldsS ([61, 61, 32, 33, 61, 32, 60, 61, 32, 62, 61, 32, 38, 38, 32, 124, 124, 32, 61, 32, 33, 32, 60, 32, 62, 32, 43, 32, 45, 32, 42, 32, 47, 32, 37, 32, 40, 32, 41, 32, 91, 32, 93, 32, 123, 32, 125, 32, 44, 32, 59, 32, 58, 32, 46, 32, 63] : List UInt8)) ((xr.1.take (Int.toNat (IntKind.wrap .i64 (xr.2.1 + e3)))).drop (Int.toNat xr.2.1)))) rfl (fun hc10 => ?_) (fun hc10 => ?_)
            · replace hF := hF.1 hc10
              refine Ok.seq ?_
              refine Ok.region ?_
              refine Ok.batch 3 [(2, .pointer (some ⟨b1, 0, none⟩)), (5, .int .i64 e3), (6, .string ⟨⟨(xr.1.take (Int.toNat (IntKind.wrap .i64 (xr.2.1 + e3)))).drop (Int.toNat xr.2.1)⟩⟩), (41, .pointer (some ⟨bxr, 0, none⟩)), (43, .pointer (some ⟨bxr, 1, none⟩))] (by kernel_rfl) ?_
              refine Ok.op rfl (OpOk.step (v := .int .i64 xr.2.1) (Yields.load 1 rfl rfl Tryd.underlying3 rfl (by kernel_rfl)) rfl rfl ?_)
              refine Ok.batch 4 [(2, .pointer (some ⟨b1, 0, none⟩)), (6, .string ⟨⟨(xr.1.take (Int.toNat (IntKind.wrap .i64 (xr.2.1 + e3)))).drop (Int.toNat xr.2.1)⟩⟩), (46, .int .i64 (IntKind.wrap .i64 (xr.2.1 + e3))), (48, .pointer (some ⟨bxr, 1, none⟩))] (by kernel_rfl) ?_
              refine Ok.op rfl (OpOk.store (k := 1) (v := .int .i64 (IntKind.wrap .i64 (xr.2.1 + e3))) (H' := [.blk b1 (.cells #[.int .i64 0, .int .i64 0, .int .i64 0, .string ⟨⟨([] : List UInt8)⟩⟩, .int .i64 0] 39), .blk bxr (.cells #[.string ⟨⟨xr.1⟩⟩, .int .i64 (IntKind.wrap .i64 (xr.2.1 + e3)), .slice axr_0 xr.2.2.length cxr_0] 37), .own (.slice axr_0 xr.2.2.length cxr_0) 39 5 xr.2.2.length xsxr_0]) 1 rfl rfl rfl (by kernel_rfl) (by kernel_rfl) (by kernel_rfl) (by kernel_rfl) (by kernel_rfl) ?_)
              refine Ok.nil ?_
              refine Ok.thenN ?_
              refine Ok.seq ?_
              refine Ok.region ?_
              refine Ok.batch 2 [(2, .pointer (some ⟨b1, 0, none⟩)), (50, .agg #[.int .i64 4, .int .i64 0, .int .i64 0, .string ⟨⟨(xr.1.take (Int.toNat (IntKind.wrap .i64 (xr.2.1 + e3)))).drop (Int.toNat xr.2.1)⟩⟩, .int .i64 0])] (by kernel_rfl) ?_
              refine Ok.op rfl (OpOk.store (k := 5) (v := .agg #[.int .i64 4, .int .i64 0, .int .i64 0, .string ⟨⟨(xr.1.take (Int.toNat (IntKind.wrap .i64 (xr.2.1 + e3)))).drop (Int.toNat xr.2.1)⟩⟩, .int .i64 0]) (H' := [.blk b1 (.cells #[.int .i64 4, .int .i64 0, .int .i64 0, .string ⟨⟨(xr.1.take (Int.toNat (IntKind.wrap .i64 (xr.2.1 + e3)))).drop (Int.toNat xr.2.1)⟩⟩, .int .i64 0] 39), .blk bxr (.cells #[.string ⟨⟨xr.1⟩⟩, .int .i64 (IntKind.wrap .i64 (xr.2.1 + e3)), .slice axr_0 xr.2.2.length cxr_0] 37), .own (.slice axr_0 xr.2.2.length cxr_0) 39 5 xr.2.2.length xsxr_0]) 0 rfl rfl rfl (by kernel_rfl) (by kernel_rfl) (by kernel_rfl) (by kernel_rfl) (by kernel_rfl) ?_)
              refine Ok.batch 1 [(2, .pointer (some ⟨b1, 0, none⟩)), (3, .int .i64 0)] (by kernel_rfl) ?_
              refine Ok.nil ?_
              refine Ok.thenN ?_
              refine Ok.ret ?_
              refine Ok.blockR ?_
              refine Ok.thenR ?_
              refine Ok.thenR ?_
              refine Ok.blockR ?_
              refine Ok.thenR ?_
              exact Ok.resP (vs := [.agg #[.int .i64 4, .int .i64 0, .int .i64 0, .string ⟨⟨(xr.1.take (Int.toNat (IntKind.wrap .i64 (xr.2.1 + e3)))).drop (Int.toNat xr.2.1)⟩⟩, .int .i64 0], .int .i64 0]) [1, 2] [.blk bxr (.cells #[.string ⟨⟨xr.1⟩⟩, .int .i64 (IntKind.wrap .i64 (xr.2.1 + e3)), .slice axr_0 xr.2.2.length cxr_0] 37), .own (.slice axr_0 xr.2.2.length cxr_0) 39 5 xr.2.2.length xsxr_0] (by decide) rfl (.inl rfl) rfl (.cons (.cellAgg 0 5 #[.int .i64 4, .int .i64 0, .int .i64 0, .string ⟨⟨(xr.1.take (Int.toNat (IntKind.wrap .i64 (xr.2.1 + e3)))).drop (Int.toNat xr.2.1)⟩⟩, .int .i64 0] rfl rfl Tryd.underlying39 rfl (by kernel_rfl) (by kernel_rfl) (by kernel_rfl)) (.cons (.tmp rfl) .nil)) (hxl7.trans hx8) ⟨(4, 0, 0, (xr.1.take (Int.toNat (IntKind.wrap .i64 (xr.2.1 + e3)))).drop (Int.toNat xr.2.1), 0), 0, (xr.1, IntKind.wrap .i64 (xr.2.1 + e3), xr.2.2), axr_0, cxr_0, xsxr_0, rfl, hLxr_0, rfl, hF⟩
            · replace hF := hF.2 hc10
              refine Ok.skip ?_
              refine Ok.blockN ?_
              refine Ok.thenN ?_
              subst hg3
              exact fun a W hA hW => ⟨g8, hx8, hA.sub (by kernel_rfl), hW, hF⟩
        ·
          clear hF
          rintro a W ⟨gj14, hxj14, hA, hW, hF⟩
          refine (?_ : Ok _ _ _ _ _ _) a W hA hW
          clear hA hW
          replace hLxr_0 := hLxr_0.mono hxj14.1
          replace hG0 := hG0.mono hxj14.1
          refine Ok.region ?_
          refine Ok.batch 2 [(0, .pointer (some ⟨bxr, 0, none⟩)), (2, .pointer (some ⟨b1, 0, none⟩)), (7, .agg #[.int .i64 2, .int .i64 1]), (8, .int .i64 (IntKind.wrap .i64 (x8l7 + 1)))] (by kernel_rfl) ?_
          refine Ok.nil ?_
          refine Ok.thenN ?_
          exact fun a W hA hW => ⟨k7, Nat.lt_succ_self _, gj14, (hxl7.trans hxj14), IntKind.wrap .i64 (x8l7 + 1), hA.sub (by kernel_rfl), hW, hF⟩
      · replace hF := hF.2 hc2
        refine Ok.exit ?_
        refine Ok.thenE ?_
        refine Ok.thenE ?_
        refine Ok.blockHit ?_
        refine Ok.thenN ?_
        refine Ok.seq ?_
        refine Ok.region ?_
        refine Ok.batch 1 [(2, .pointer (some ⟨b1, 0, none⟩)), (52, .agg #[.int .i64 0, .int .i64 0, .int .i64 0, .string ⟨⟨([] : List UInt8)⟩⟩, .int .i64 0])] (by kernel_rfl) ?_
        refine Ok.op rfl (OpOk.store (k := 5) (v := .agg #[.int .i64 0, .int .i64 0, .int .i64 0, .string ⟨⟨([] : List UInt8)⟩⟩, .int .i64 0]) (H' := [.blk b1 (.cells #[.int .i64 0, .int .i64 0, .int .i64 0, .string ⟨⟨([] : List UInt8)⟩⟩, .int .i64 0] 39), .blk bxr (.cells #[.string ⟨⟨xr.1⟩⟩, .int .i64 xr.2.1, .slice axr_0 xr.2.2.length cxr_0] 37), .own (.slice axr_0 xr.2.2.length cxr_0) 39 5 xr.2.2.length xsxr_0]) 0 rfl rfl rfl (by kernel_rfl) (by kernel_rfl) (by kernel_rfl) (by kernel_rfl) (by kernel_rfl) ?_)
        refine Ok.batch 1 [(2, .pointer (some ⟨b1, 0, none⟩)), (3, .int .i64 4)] (by kernel_rfl) ?_
        refine Ok.nil ?_
        refine Ok.thenN ?_
        refine Ok.ret ?_
        exact Ok.resP (vs := [.agg #[.int .i64 0, .int .i64 0, .int .i64 0, .string ⟨⟨([] : List UInt8)⟩⟩, .int .i64 0], .int .i64 4]) [1, 2] [.blk bxr (.cells #[.string ⟨⟨xr.1⟩⟩, .int .i64 xr.2.1, .slice axr_0 xr.2.2.length cxr_0] 37), .own (.slice axr_0 xr.2.2.length cxr_0) 39 5 xr.2.2.length xsxr_0] (by decide) rfl (.inl rfl) rfl (.cons (.cellAgg 0 5 #[.int .i64 0, .int .i64 0, .int .i64 0, .string ⟨⟨([] : List UInt8)⟩⟩, .int .i64 0] rfl rfl Tryd.underlying39 rfl (by kernel_rfl) (by kernel_rfl) (by kernel_rfl)) (.cons (.tmp rfl) .nil)) hxl7 ⟨(0, 0, 0, ([] : List UInt8), 0), 4, xr, axr_0, cxr_0, xsxr_0, rfl, hLxr_0, rfl, hF⟩
def sgW (x : RD) (n : Int) : List UInt8 := (x.1.take (Int.toNat (x.2.1 + n))).drop (Int.toNat x.2.1)
def sgT (x : RD) (n : Int) : Bool := !(decide (x.2.1 + n > (x.1.length : Int))) && sconM (fieldsS SG) (sgW x n)
def sgR (x : RD) (n : Int) : TK × Int × RD := ((4, 0, 0, sgW x n, 0), 0, (x.1, x.2.1 + n, x.2.2))
def jsigS (x : RD) : TK × Int × RD := if sgT x 2 = true then sgR x 2 else if sgT x 1 = true then sgR x 1 else (noTok, 4, x)
theorem jsig_F (x : RD) (hp : rdP x) : jsigF x (fun r r1 r2 => (r, r1, r2) = jsigS x) := by
  obtain ⟨h1, h2, h3⟩ := hp
  have step : ∀ (n : Int) (j : Nat) (C : Int → Prop), j < 2 → ([2, 1] : List Int).getD j default = n → 1 ≤ n → n ≤ 2 → (sgT x n = true → jsigS x = sgR x n) → (sgT x n = false → C ((j : Int) + 1)) →
      jsigl7b x (fun r r1 r2 => (r, r1, r2) = jsigS x) (j : Int) C := by
    intro n j C hj hn hn1 hn2 ht hf
    have hw : IntKind.wrap .i64 (x.2.1 + n) = x.2.1 + n := w64 (by omega)
    have go : sgT x n = false → jsigj14 (j : Int) C := fun h => by
      unfold jsigj14; rw [w64 (by omega)]; exact hf h
    refine ⟨fun _ => ⟨by omega, by rw [Int.toNat_natCast]; exact hj, ?_, ?_⟩, fun h => by have := of_decide_eq_false h; omega⟩
    · rw [Int.toNat_natCast, hn, hw]
      exact fun h => go (by unfold sgT; rw [h]; rfl)
    · rw [Int.toNat_natCast, hn, hw]
      refine fun h => ⟨h2, by omega, by have := of_decide_eq_false h; omega, SG_f, in_f _ SG_f, fun hs => ?_, fun hs => go ?_⟩
      · exact (ht (by unfold sgT; rw [h]; exact hs)).symm
      · unfold sgT; rw [h]; exact hs
  refine ⟨3, ?_⟩
  refine step 2 0 _ (by decide) rfl (by decide) (by decide) (fun h => by unfold jsigS; rw [if_t h]) (fun ha => ?_)
  refine step 1 1 _ (by decide) rfl (by decide) (by decide) (fun h => by unfold jsigS; rw [if_f ha, if_t h]) (fun hb => ?_)
  refine ⟨fun h => absurd (of_decide_eq_true h) (by decide), fun _ => ?_⟩
  unfold jsigS; rw [if_f ha, if_f hb]; rfl
set_option linter.unusedVariables false in
theorem jsig_c {g : Ghost} {bxr : Nat} {axr_0 : Option Addr} {cxr_0 : Nat} {xsxr_0 : List Value} (xr : List UInt8 × Int × List (Int × Int × Int × List UInt8 × Int)) (hLxr_0 : RepL g (.pair (.int .i64) (.pair (.int .i64) (.pair (.int .i64) (.pair (.str) (.int .i64))))) xsxr_0 xr.2.2) (hG0 : GlobL g 0 (.int .u8) DSpace)  (hp : rdP xr) : CallsH Tryd.prog 35 #[.pointer (some ⟨bxr, 0, none⟩)] g [.blk bxr (.cells #[.string ⟨⟨xr.1⟩⟩, .int .i64 xr.2.1, .slice axr_0 xr.2.2.length cxr_0] 37), .own (.slice axr_0 xr.2.2.length cxr_0) 39 5 xr.2.2.length xsxr_0] (fun g' H' v => ∃ (afxr_0 : Option Addr) (cfxr_0 : Nat) (xsfxr_0 : List Value), v = .tuple #[.agg #[.int .i64 ((jsigS xr).1).1, .int .i64 ((jsigS xr).1).2.1, .int .i64 ((jsigS xr).1).2.2.1, .string ⟨⟨((jsigS xr).1).2.2.2.1⟩⟩, .int .i64 ((jsigS xr).1).2.2.2.2], .int .i64 ((jsigS xr).2.1)] ∧ RepL g' (.pair (.int .i64) (.pair (.int .i64) (.pair (.int .i64) (.pair (.str) (.int .i64))))) xsfxr_0 ((jsigS xr).2.2).2.2 ∧ H' = [.blk bxr (.cells #[.string ⟨⟨((jsigS xr).2.2).1⟩⟩, .int .i64 ((jsigS xr).2.2).2.1, .slice afxr_0 ((jsigS xr).2.2).2.2.length cfxr_0] 37), .own (.slice afxr_0 ((jsigS xr).2.2).2.2.length cfxr_0) 39 5 ((jsigS xr).2.2).2.2.length xsfxr_0]) :=
  (jsig_ok xr hLxr_0 hG0 _ (jsig_F xr hp)).mono (by rintro g' H' v _ ⟨r0, r1, fxr, afxr_0, cfxr_0, xsfxr_0, rfl, hLfxr_0, rfl, hK⟩; obtain ⟨rfl, rfl, rfl⟩ : r0 = (jsigS xr).1 ∧ r1 = (jsigS xr).2.1 ∧ fxr = (jsigS xr).2.2 := ⟨congrArg (fun z => z.1) hK, congrArg (fun z => z.2.1) hK, congrArg (fun z => z.2.2) hK⟩; exact ⟨afxr_0, cfxr_0, xsfxr_0, rfl, hLfxr_0, rfl⟩)
def jnxtF (xr : List UInt8 × Int × List (Int × Int × Int × List UInt8 × Int)) (K : (Int × Int × Int × List UInt8 × Int) → Int → (List UInt8 × Int × List (Int × Int × Int × List UInt8 × Int)) → Prop) : Prop :=
  jpeekP xr 0 ∧ (((jletM ((jpeekS xr 0).1))) = true → rdP (((jpeekS xr 0).2).1, (((jpeekS xr 0).2).2).1, (((jpeekS xr 0).2).2).2) ∧ K (((jnameS (((jpeekS xr 0).2).1, (((jpeekS xr 0).2).2).1, (((jpeekS xr 0).2).2).2)).1).1, (((jnameS (((jpeekS xr 0).2).1, (((jpeekS xr 0).2).2).1, (((jpeekS xr 0).2).2).2)).1).2).1, ((((jnameS (((jpeekS xr 0).2).1, (((jpeekS xr 0).2).2).1, (((jpeekS xr 0).2).2).2)).1).2).2).1, (((((jnameS (((jpeekS xr 0).2).1, (((jpeekS xr 0).2).2).1, (((jpeekS xr 0).2).2).2)).1).2).2).2).1, (((((jnameS (((jpeekS xr 0).2).1, (((jpeekS xr 0).2).2).1, (((jpeekS xr 0).2).2).2)).1).2).2).2).2) 0 (((jnameS (((jpeekS xr 0).2).1, (((jpeekS xr 0).2).2).1, (((jpeekS xr 0).2).2).2)).2).1, (((jnameS (((jpeekS xr 0).2).1, (((jpeekS xr 0).2).2).1, (((jpeekS xr 0).2).2).2)).2).2).1, (((jnameS (((jpeekS xr 0).2).1, (((jpeekS xr 0).2).2).1, (((jpeekS xr 0).2).2).2)).2).2).2)) ∧ (((jletM ((jpeekS xr 0).1))) = false → (((jdigM ((jpeekS xr 0).1))) = true → rdP (((jpeekS xr 0).2).1, (((jpeekS xr 0).2).2).1, (((jpeekS xr 0).2).2).2) ∧ K (((jnumS (((jpeekS xr 0).2).1, (((jpeekS xr 0).2).2).1, (((jpeekS xr 0).2).2).2)).1).1, (((jnumS (((jpeekS xr 0).2).1, (((jpeekS xr 0).2).2).1, (((jpeekS xr 0).2).2).2)).1).2).1, ((((jnumS (((jpeekS xr 0).2).1, (((jpeekS xr 0).2).2).1, (((jpeekS xr 0).2).2).2)).1).2).2).1, (((((jnumS (((jpeekS xr 0).2).1, (((jpeekS xr 0).2).2).1, (((jpeekS xr 0).2).2).2)).1).2).2).2).1, (((((jnumS (((jpeekS xr 0).2).1, (((jpeekS xr 0).2).2).1, (((jpeekS xr 0).2).2).2)).1).2).2).2).2) ((jnumS (((jpeekS xr 0).2).1, (((jpeekS xr 0).2).2).1, (((jpeekS xr 0).2).2).2)).2.1) (((jnumS (((jpeekS xr 0).2).1, (((jpeekS xr 0).2).2).1, (((jpeekS xr 0).2).2).2)).2.2).1, (((jnumS (((jpeekS xr 0).2).1, (((jpeekS xr 0).2).2).1, (((jpeekS xr 0).2).2).2)).2.2).2).1, (((jnumS (((jpeekS xr 0).2).1, (((jpeekS xr 0).2).2).1, (((jpeekS xr 0).2).2).2)).2.2).2).2)) ∧ (((jdigM ((jpeekS xr 0).1))) = false → (((((jpeekS xr 0).1) == 34)) = true → jtxtP (((jpeekS xr 0).2).1, (((jpeekS xr 0).2).2).1, (((jpeekS xr 0).2).2).2) ∧ K (((jtxtS (((jpeekS xr 0).2).1, (((jpeekS xr 0).2).2).1, (((jpeekS xr 0).2).2).2)).1).1, (((jtxtS (((jpeekS xr 0).2).1, (((jpeekS xr 0).2).2).1, (((jpeekS xr 0).2).2).2)).1).2).1, ((((jtxtS (((jpeekS xr 0).2).1, (((jpeekS xr 0).2).2).1, (((jpeekS xr 0).2).2).2)).1).2).2).1, (((((jtxtS (((jpeekS xr 0).2).1, (((jpeekS xr 0).2).2).1, (((jpeekS xr 0).2).2).2)).1).2).2).2).1, (((((jtxtS (((jpeekS xr 0).2).1, (((jpeekS xr 0).2).2).1, (((jpeekS xr 0).2).2).2)).1).2).2).2).2) ((jtxtS (((jpeekS xr 0).2).1, (((jpeekS xr 0).2).2).1, (((jpeekS xr 0).2).2).2)).2.1) (((jtxtS (((jpeekS xr 0).2).1, (((jpeekS xr 0).2).2).1, (((jpeekS xr 0).2).2).2)).2.2).1, (((jtxtS (((jpeekS xr 0).2).1, (((jpeekS xr 0).2).2).1, (((jpeekS xr 0).2).2).2)).2.2).2).1, (((jtxtS (((jpeekS xr 0).2).1, (((jpeekS xr 0).2).2).1, (((jpeekS xr 0).2).2).2)).2.2).2).2)) ∧ (((((jpeekS xr 0).1) == 34)) = false → rdP (((jpeekS xr 0).2).1, (((jpeekS xr 0).2).2).1, (((jpeekS xr 0).2).2).2) ∧ K (((jsigS (((jpeekS xr 0).2).1, (((jpeekS xr 0).2).2).1, (((jpeekS xr 0).2).2).2)).1).1, (((jsigS (((jpeekS xr 0).2).1, (((jpeekS xr 0).2).2).1, (((jpeekS xr 0).2).2).2)).1).2).1, ((((jsigS (((jpeekS xr 0).2).1, (((jpeekS xr 0).2).2).1, (((jpeekS xr 0).2).2).2)).1).2).2).1, (((((jsigS (((jpeekS xr 0).2).1, (((jpeekS xr 0).2).2).1, (((jpeekS xr 0).2).2).2)).1).2).2).2).1, (((((jsigS (((jpeekS xr 0).2).1, (((jpeekS xr 0).2).2).1, (((jpeekS xr 0).2).2).2)).1).2).2).2).2) ((jsigS (((jpeekS xr 0).2).1, (((jpeekS xr 0).2).2).1, (((jpeekS xr 0).2).2).2)).2.1) (((jsigS (((jpeekS xr 0).2).1, (((jpeekS xr 0).2).2).1, (((jpeekS xr 0).2).2).2)).2.2).1, (((jsigS (((jpeekS xr 0).2).1, (((jpeekS xr 0).2).2).1, (((jpeekS xr 0).2).2).2)).2.2).2).1, (((jsigS (((jpeekS xr 0).2).1, (((jpeekS xr 0).2).2).1, (((jpeekS xr 0).2).2).2)).2.2).2).2))))
set_option maxHeartbeats 4000000 in
set_option maxRecDepth 100000 in
set_option linter.unusedVariables false in
theorem jnxt_ok {g : Ghost} {bxr : Nat} {axr_0 : Option Addr} {cxr_0 : Nat} {xsxr_0 : List Value} (xr : List UInt8 × Int × List (Int × Int × Int × List UInt8 × Int)) (hLxr_0 : RepL g (.pair (.int .i64) (.pair (.int .i64) (.pair (.int .i64) (.pair (.str) (.int .i64))))) xsxr_0 xr.2.2) (hG0 : GlobL g 0 (.int .u8) DSpace) (K : (Int × Int × Int × List UInt8 × Int) → Int → (List UInt8 × Int × List (Int × Int × Int × List UInt8 × Int)) → Prop)
    (hF : jnxtF xr K) : CallsH Tryd.prog 14 #[.pointer (some ⟨bxr, 0, none⟩)] g [.blk bxr (.cells #[.string ⟨⟨xr.1⟩⟩, .int .i64 xr.2.1, .slice axr_0 xr.2.2.length cxr_0] 37), .own (.slice axr_0 xr.2.2.length cxr_0) 39 5 xr.2.2.length xsxr_0] (fun g' H' v => ∃ (r0 : Int × Int × Int × List UInt8 × Int), ∃ (r1 : Int), ∃ (fxr : List UInt8 × Int × List (Int × Int × Int × List UInt8 × Int)), ∃ (afxr_0 : Option Addr) (cfxr_0 : Nat) (xsfxr_0 : List Value), v = .tuple #[.agg #[.int .i64 r0.1, .int .i64 r0.2.1, .int .i64 r0.2.2.1, .string ⟨⟨r0.2.2.2.1⟩⟩, .int .i64 r0.2.2.2.2], .int .i64 r1] ∧ RepL g' (.pair (.int .i64) (.pair (.int .i64) (.pair (.int .i64) (.pair (.str) (.int .i64))))) xsfxr_0 fxr.2.2 ∧ H' = [.blk bxr (.cells #[.string ⟨⟨fxr.1⟩⟩, .int .i64 fxr.2.1, .slice afxr_0 fxr.2.2.length cfxr_0] 37), .own (.slice afxr_0 fxr.2.2.length cfxr_0) 39 5 fxr.2.2.length xsfxr_0] ∧ K r0 r1 fxr) := by
  refine CallsH.enter 30 [(0, .pointer (some ⟨bxr, 0, none⟩))] Tryd.func14 rfl (by kernel_rfl) (by kernel_rfl) (by kernel_rfl) fun w0 => ?_
  refine Ok.seq ?_
  refine Ok.region ?_
  refine Ok.op rfl (OpOk.alloc (z := .agg #[.int .i64 0, .int .i64 0, .int .i64 0, .string ⟨⟨([] : List UInt8)⟩⟩, .int .i64 0]) (cs := #[.int .i64 0, .int .i64 0, .int .i64 0, .string ⟨⟨([] : List UInt8)⟩⟩, .int .i64 0]) (by kernel_rfl) (by kernel_rfl) rfl fun b1 => ?_)
  refine Ok.batch 1 [(0, .pointer (some ⟨bxr, 0, none⟩)), (2, .pointer (some ⟨b1, 0, none⟩))] (by kernel_rfl) ?_
  refine Ok.nil ?_
  refine Ok.thenN ?_
  refine Ok.seq ?_
  refine Ok.seq ?_
  refine Ok.region ?_
  refine Ok.batch 1 [(0, .pointer (some ⟨bxr, 0, none⟩)), (2, .pointer (some ⟨b1, 0, none⟩)), (5, .pointer (some ⟨bxr, 0, none⟩))] (by kernel_rfl) ?_
  obtain ⟨hp2, hF⟩ := hF
  refine Ok.entries [1, 2, 0] [.blk bxr (.cells #[.string ⟨⟨xr.1⟩⟩, .int .i64 xr.2.1, .slice axr_0 xr.2.2.length cxr_0] 37), .own (.slice axr_0 xr.2.2.length cxr_0) 39 5 xr.2.2.length xsxr_0, .blk b1 (.cells #[.int .i64 0, .int .i64 0, .int .i64 0, .string ⟨⟨([] : List UInt8)⟩⟩, .int .i64 0] 39)] (by decide) rfl ?_
  refine Ok.op rfl (OpOk.callH [.blk bxr (.cells #[.string ⟨⟨xr.1⟩⟩, .int .i64 xr.2.1, .slice axr_0 xr.2.2.length cxr_0] 37), .own (.slice axr_0 xr.2.2.length cxr_0) 39 5 xr.2.2.length xsxr_0] [.blk b1 (.cells #[.int .i64 0, .int .i64 0, .int .i64 0, .string ⟨⟨([] : List UInt8)⟩⟩, .int .i64 0] 39)] (enters (by kernel_rfl) (fun _ => by kernel_rfl)) rfl (jpeek_c xr 0 hLxr_0 hp2) rfl fun g3 _ _ hx3 hV3 => ?_)
  obtain ⟨a3_0, c3_0, xs3_0, rfl, hL3_0, rfl⟩ := hV3
  replace hG0 := hG0.mono hx3.1
  refine Ok.batch 1 [(0, .pointer (some ⟨bxr, 0, none⟩)), (2, .pointer (some ⟨b1, 0, none⟩)), (4, .int .u8 ((jpeekS xr 0).1))] (by kernel_rfl) ?_
  refine Ok.nil ?_
  refine Ok.thenN ?_
  refine Ok.block ?_
  refine Ok.seq ?_
  refine Ok.region ?_
  refine Ok.batch 1 [(0, .pointer (some ⟨bxr, 0, none⟩)), (2, .pointer (some ⟨b1, 0, none⟩)), (4, .int .u8 ((jpeekS xr 0).1)), (8, .int .u8 ((jpeekS xr 0).1))] (by kernel_rfl) ?_
  refine Ok.op rfl (OpOk.callG (v := .bool (jletM ((jpeekS xr 0).1))) (enters (by kernel_rfl) (fun _ => by kernel_rfl)) (fun W hW => jlet_c ((jpeekS xr 0).1)) rfl ?_)
  refine Ok.batch 1 [(0, .pointer (some ⟨bxr, 0, none⟩)), (2, .pointer (some ⟨b1, 0, none⟩)), (4, .int .u8 ((jpeekS xr 0).1)), (7, .bool (jletM ((jpeekS xr 0).1)))] (by kernel_rfl) ?_
  refine Ok.nil ?_
  refine Ok.thenN ?_
  refine Ok.cond (b := (jletM ((jpeekS xr 0).1))) rfl (fun hc4 => ?_) (fun hc4 => ?_)
  · replace hF := hF.1 hc4
    refine Ok.seq ?_
    refine Ok.region ?_
    refine Ok.batch 1 [(2, .pointer (some ⟨b1, 0, none⟩)), (10, .pointer (some ⟨bxr, 0, none⟩))] (by kernel_rfl) ?_
    obtain ⟨hp5, hF⟩ := hF
    refine Ok.op rfl (OpOk.callH [.blk bxr (.cells #[.string ⟨⟨((jpeekS xr 0).2).1⟩⟩, .int .i64 ((((jpeekS xr 0).2).2).1), .slice a3_0 ((((jpeekS xr 0).2).2).2).length c3_0] 37), .own (.slice a3_0 ((((jpeekS xr 0).2).2).2).length c3_0) 39 5 ((((jpeekS xr 0).2).2).2).length xs3_0] [.blk b1 (.cells #[.int .i64 0, .int .i64 0, .int .i64 0, .string ⟨⟨([] : List UInt8)⟩⟩, .int .i64 0] 39)] (enters (by kernel_rfl) (fun _ => by kernel_rfl)) rfl (jname_c (((jpeekS xr 0).2).1, (((jpeekS xr 0).2).2).1, (((jpeekS xr 0).2).2).2) hL3_0 hG0 hp5) rfl fun g6 _ _ hx6 hV6 => ?_)
    obtain ⟨a6_0, c6_0, xs6_0, rfl, hL6_0, rfl⟩ := hV6
    replace hG0 := hG0.mono hx6.1
    refine Ok.op rfl (OpOk.store (k := 5) (v := .agg #[.int .i64 (((jnameS (((jpeekS xr 0).2).1, (((jpeekS xr 0).2).2).1, (((jpeekS xr 0).2).2).2)).1).1), .int .i64 ((((jnameS (((jpeekS xr 0).2).1, (((jpeekS xr 0).2).2).1, (((jpeekS xr 0).2).2).2)).1).2).1), .int .i64 (((((jnameS (((jpeekS xr 0).2).1, (((jpeekS xr 0).2).2).1, (((jpeekS xr 0).2).2).2)).1).2).2).1), .string ⟨⟨(((((jnameS (((jpeekS xr 0).2).1, (((jpeekS xr 0).2).2).1, (((jpeekS xr 0).2).2).2)).1).2).2).2).1⟩⟩, .int .i64 ((((((jnameS (((jpeekS xr 0).2).1, (((jpeekS xr 0).2).2).1, (((jpeekS xr 0).2).2).2)).1).2).2).2).2)]) (H' := [.blk bxr (.cells #[.string ⟨⟨((jnameS (((jpeekS xr 0).2).1, (((jpeekS xr 0).2).2).1, (((jpeekS xr 0).2).2).2)).2).1⟩⟩, .int .i64 ((((jnameS (((jpeekS xr 0).2).1, (((jpeekS xr 0).2).2).1, (((jpeekS xr 0).2).2).2)).2).2).1), .slice a6_0 ((((jnameS (((jpeekS xr 0).2).1, (((jpeekS xr 0).2).2).1, (((jpeekS xr 0).2).2).2)).2).2).2).length c6_0] 37), .own (.slice a6_0 ((((jnameS (((jpeekS xr 0).2).1, (((jpeekS xr 0).2).2).1, (((jpeekS xr 0).2).2).2)).2).2).2).length c6_0) 39 5 ((((jnameS (((jpeekS xr 0).2).1, (((jpeekS xr 0).2).2).1, (((jpeekS xr 0).2).2).2)).2).2).2).length xs6_0, .blk b1 (.cells #[.int .i64 (((jnameS (((jpeekS xr 0).2).1, (((jpeekS xr 0).2).2).1, (((jpeekS xr 0).2).2).2)).1).1), .int .i64 ((((jnameS (((jpeekS xr 0).2).1, (((jpeekS xr 0).2).2).1, (((jpeekS xr 0).2).2).2)).1).2).1), .int .i64 (((((jnameS (((jpeekS xr 0).2).1, (((jpeekS xr 0).2).2).1, (((jpeekS xr 0).2).2).2)).1).2).2).1), .string ⟨⟨(((((jnameS (((jpeekS xr 0).2).1, (((jpeekS xr 0).2).2).1, (((jpeekS xr 0).2).2).2)).1).2).2).2).1⟩⟩, .int .i64 ((((((jnameS (((jpeekS xr 0).2).1, (((jpeekS xr 0).2).2).1, (((jpeekS xr 0).2).2).2)).1).2).2).2).2)] 39)]) 2 rfl rfl rfl (by kernel_rfl) (by kernel_rfl) (by kernel_rfl) (by kernel_rfl) (by kernel_rfl) ?_)
    refine Ok.batch 1 [(2, .pointer (some ⟨b1, 0, none⟩)), (3, .int .i64 0)] (by kernel_rfl) ?_
    refine Ok.nil ?_
    refine Ok.thenN ?_
    refine Ok.ret ?_
    refine Ok.blockR ?_
    refine Ok.thenR ?_
    exact Ok.resP (vs := [.agg #[.int .i64 (((jnameS (((jpeekS xr 0).2).1, (((jpeekS xr 0).2).2).1, (((jpeekS xr 0).2).2).2)).1).1), .int .i64 ((((jnameS (((jpeekS xr 0).2).1, (((jpeekS xr 0).2).2).1, (((jpeekS xr 0).2).2).2)).1).2).1), .int .i64 (((((jnameS (((jpeekS xr 0).2).1, (((jpeekS xr 0).2).2).1, (((jpeekS xr 0).2).2).2)).1).2).2).1), .string ⟨⟨(((((jnameS (((jpeekS xr 0).2).1, (((jpeekS xr 0).2).2).1, (((jpeekS xr 0).2).2).2)).1).2).2).2).1⟩⟩, .int .i64 ((((((jnameS (((jpeekS xr 0).2).1, (((jpeekS xr 0).2).2).1, (((jpeekS xr 0).2).2).2)).1).2).2).2).2)], .int .i64 0]) [0, 1] [.blk bxr (.cells #[.string ⟨⟨((jnameS (((jpeekS xr 0).2).1, (((jpeekS xr 0).2).2).1, (((jpeekS xr 0).2).2).2)).2).1⟩⟩, .int .i64 ((((jnameS (((jpeekS xr 0).2).1, (((jpeekS xr 0).2).2).1, (((jpeekS xr 0).2).2).2)).2).2).1), .slice a6_0 ((((jnameS (((jpeekS xr 0).2).1, (((jpeekS xr 0).2).2).1, (((jpeekS xr 0).2).2).2)).2).2).2).length c6_0] 37), .own (.slice a6_0 ((((jnameS (((jpeekS xr 0).2).1, (((jpeekS xr 0).2).2).1, (((jpeekS xr 0).2).2).2)).2).2).2).length c6_0) 39 5 ((((jnameS (((jpeekS xr 0).2).1, (((jpeekS xr 0).2).2).1, (((jpeekS xr 0).2).2).2)).2).2).2).length xs6_0] (by decide) rfl (.inl rfl) rfl (.cons (.cellAgg 2 5 #[.int .i64 (((jnameS (((jpeekS xr 0).2).1, (((jpeekS xr 0).2).2).1, (((jpeekS xr 0).2).2).2)).1).1), .int .i64 ((((jnameS (((jpeekS xr 0).2).1, (((jpeekS xr 0).2).2).1, (((jpeekS xr 0).2).2).2)).1).2).1), .int .i64 (((((jnameS (((jpeekS xr 0).2).1, (((jpeekS xr 0).2).2).1, (((jpeekS xr 0).2).2).2)).1).2).2).1), .string ⟨⟨(((((jnameS (((jpeekS xr 0).2).1, (((jpeekS xr 0).2).2).1, (((jpeekS xr 0).2).2).2)).1).2).2).2).1⟩⟩, .int .i64 ((((((jnameS (((jpeekS xr 0).2).1, (((jpeekS xr 0).2).2).1, (((jpeekS xr 0).2).2).2)).1).2).2).2).2)] rfl rfl Tryd.underlying39 rfl (by kernel_rfl) (by kernel_rfl) (by kernel_rfl)) (.cons (.tmp rfl) .nil)) (hx3.trans hx6) ⟨(((jnameS (((jpeekS xr 0).2).1, (((jpeekS xr 0).2).2).1, (((jpeekS xr 0).2).2).2)).1).1, (((jnameS (((jpeekS xr 0).2).1, (((jpeekS xr 0).2).2).1, (((jpeekS xr 0).2).2).2)).1).2).1, ((((jnameS (((jpeekS xr 0).2).1, (((jpeekS xr 0).2).2).1, (((jpeekS xr 0).2).2).2)).1).2).2).1, (((((jnameS (((jpeekS xr 0).2).1, (((jpeekS xr 0).2).2).1, (((jpeekS xr 0).2).2).2)).1).2).2).2).1, (((((jnameS (((jpeekS xr 0).2).1, (((jpeekS xr 0).2).2).1, (((jpeekS xr 0).2).2).2)).1).2).2).2).2), 0, (((jnameS (((jpeekS xr 0).2).1, (((jpeekS xr 0).2).2).1, (((jpeekS xr 0).2).2).2)).2).1, (((jnameS (((jpeekS xr 0).2).1, (((jpeekS xr 0).2).2).1, (((jpeekS xr 0).2).2).2)).2).2).1, (((jnameS (((jpeekS xr 0).2).1, (((jpeekS xr 0).2).2).1, (((jpeekS xr 0).2).2).2)).2).2).2), a6_0, c6_0, xs6_0, rfl, hL6_0, rfl, hF⟩
  · replace hF := hF.2 hc4
    refine Ok.seq ?_
    refine Ok.region ?_
    refine Ok.batch 1 [(0, .pointer (some ⟨bxr, 0, none⟩)), (2, .pointer (some ⟨b1, 0, none⟩)), (4, .int .u8 ((jpeekS xr 0).1)), (13, .int .u8 ((jpeekS xr 0).1))] (by kernel_rfl) ?_
    refine Ok.op rfl (OpOk.callG (v := .bool (jdigM ((jpeekS xr 0).1))) (enters (by kernel_rfl) (fun _ => by kernel_rfl)) (fun W hW => jdig_c ((jpeekS xr 0).1)) rfl ?_)
    refine Ok.batch 1 [(0, .pointer (some ⟨bxr, 0, none⟩)), (2, .pointer (some ⟨b1, 0, none⟩)), (4, .int .u8 ((jpeekS xr 0).1)), (12, .bool (jdigM ((jpeekS xr 0).1)))] (by kernel_rfl) ?_
    refine Ok.nil ?_
    refine Ok.thenN ?_
    refine Ok.cond (b := (jdigM ((jpeekS xr 0).1))) rfl (fun hc7 => ?_) (fun hc7 => ?_)
    · replace hF := hF.1 hc7
      refine Ok.seq ?_
      refine Ok.region ?_
      refine Ok.batch 1 [(2, .pointer (some ⟨b1, 0, none⟩)), (15, .pointer (some ⟨bxr, 0, none⟩))] (by kernel_rfl) ?_
      obtain ⟨hp8, hF⟩ := hF
      refine Ok.op rfl (OpOk.callH [.blk bxr (.cells #[.string ⟨⟨((jpeekS xr 0).2).1⟩⟩, .int .i64 ((((jpeekS xr 0).2).2).1), .slice a3_0 ((((jpeekS xr 0).2).2).2).length c3_0] 37), .own (.slice a3_0 ((((jpeekS xr 0).2).2).2).length c3_0) 39 5 ((((jpeekS xr 0).2).2).2).length xs3_0] [.blk b1 (.cells #[.int .i64 0, .int .i64 0, .int .i64 0, .string ⟨⟨([] : List UInt8)⟩⟩, .int .i64 0] 39)] (enters (by kernel_rfl) (fun _ => by kernel_rfl)) rfl (jnum_c (((jpeekS xr 0).2).1, (((jpeekS xr 0).2).2).1, (((jpeekS xr 0).2).2).2) hL3_0 hp8) rfl fun g9 _ _ hx9 hV9 => ?_)
      obtain ⟨a9_0, c9_0, xs9_0, rfl, hL9_0, rfl⟩ := hV9
      replace hG0 := hG0.mono hx9.1
      refine Ok.batch 2 [(2, .pointer (some ⟨b1, 0, none⟩)), (17, .agg #[.int .i64 (((jnumS (((jpeekS xr 0).2).1, (((jpeekS xr 0).2).2).1, (((jpeekS xr 0).2).2).2)).1).1), .int .i64 ((((jnumS (((jpeekS xr 0).2).1, (((jpeekS xr 0).2).2).1, (((jpeekS xr 0).2).2).2)).1).2).1), .int .i64 (((((jnumS (((jpeekS xr 0).2).1, (((jpeekS xr 0).2).2).1, (((jpeekS xr 0).2).2).2)).1).2).2).1), .string ⟨⟨(((((jnumS (((jpeekS xr 0).2).1, (((jpeekS xr 0).2).2).1, (((jpeekS xr 0).2).2).2)).1).2).2).2).1⟩⟩, .int .i64 ((((((jnumS (((jpeekS xr 0).2).1, (((jpeekS xr 0).2).2).1, (((jpeekS xr 0).2).2).2)).1).2).2).2).2)]), (18, .int .i64 ((jnumS (((jpeekS xr 0).2).1, (((jpeekS xr 0).2).2).1, (((jpeekS xr 0).2).2).2)).2.1))] (by kernel_rfl) ?_
      refine Ok.op rfl (OpOk.store (k := 5) (v := .agg #[.int .i64 (((jnumS (((jpeekS xr 0).2).1, (((jpeekS xr 0).2).2).1, (((jpeekS xr 0).2).2).2)).1).1), .int .i64 ((((jnumS (((jpeekS xr 0).2).1, (((jpeekS xr 0).2).2).1, (((jpeekS xr 0).2).2).2)).1).2).1), .int .i64 (((((jnumS (((jpeekS xr 0).2).1, (((jpeekS xr 0).2).2).1, (((jpeekS xr 0).2).2).2)).1).2).2).1), .string ⟨⟨(((((jnumS (((jpeekS xr 0).2).1, (((jpeekS xr 0).2).2).1, (((jpeekS xr 0).2).2).2)).1).2).2).2).1⟩⟩, .int .i64 ((((((jnumS (((jpeekS xr 0).2).1, (((jpeekS xr 0).2).2).1, (((jpeekS xr 0).2).2).2)).1).2).2).2).2)]) (H' := [.blk bxr (.cells #[.string ⟨⟨((jnumS (((jpeekS xr 0).2).1, (((jpeekS xr 0).2).2).1, (((jpeekS xr 0).2).2).2)).2.2).1⟩⟩, .int .i64 ((((jnumS (((jpeekS xr 0).2).1, (((jpeekS xr 0).2).2).1, (((jpeekS xr 0).2).2).2)).2.2).2).1), .slice a9_0 ((((jnumS (((jpeekS xr 0).2).1, (((jpeekS xr 0).2).2).1, (((jpeekS xr 0).2).2).2)).2.2).2).2).length c9_0] 37), .own (.slice a9_0 ((((jnumS (((jpeekS xr 0).2).1, (((jpeekS xr 0).2).2).1, (((jpeekS xr 0).2).2).2)).2.2).2).2).length c9_0) 39 5 ((((jnumS (((jpeekS xr 0).2).1, (((jpeekS xr 0).2).2).1, (((jpeekS xr 0).2).2).2)).2.2).2).2).length xs9_0, .blk b1 (.cells #[.int .i64 (((jnumS (((jpeekS xr 0).2).1, (((jpeekS xr 0).2).2).1, (((jpeekS xr 0).2).2).2)).1).1), .int .i64 ((((jnumS (((jpeekS xr 0).2).1, (((jpeekS xr 0).2).2).1, (((jpeekS xr 0).2).2).2)).1).2).1), .int .i64 (((((jnumS (((jpeekS xr 0).2).1, (((jpeekS xr 0).2).2).1, (((jpeekS xr 0).2).2).2)).1).2).2).1), .string ⟨⟨(((((jnumS (((jpeekS xr 0).2).1, (((jpeekS xr 0).2).2).1, (((jpeekS xr 0).2).2).2)).1).2).2).2).1⟩⟩, .int .i64 ((((((jnumS (((jpeekS xr 0).2).1, (((jpeekS xr 0).2).2).1, (((jpeekS xr 0).2).2).2)).1).2).2).2).2)] 39)]) 2 rfl rfl rfl (by kernel_rfl) (by kernel_rfl) (by kernel_rfl) (by kernel_rfl) (by kernel_rfl) ?_)
      refine Ok.batch 1 [(2, .pointer (some ⟨b1, 0, none⟩)), (3, .int .i64 ((jnumS (((jpeekS xr 0).2).1, (((jpeekS xr 0).2).2).1, (((jpeekS xr 0).2).2).2)).2.1))] (by kernel_rfl) ?_
      refine Ok.nil ?_
      refine Ok.thenN ?_
      refine Ok.ret ?_
      refine Ok.blockR ?_
      refine Ok.thenR ?_
      exact Ok.resP (vs := [.agg #[.int .i64 (((jnumS (((jpeekS xr 0).2).1, (((jpeekS xr 0).2).2).1, (((jpeekS xr 0).2).2).2)).1).1), .int .i64 ((((jnumS (((jpeekS xr 0).2).1, (((jpeekS xr 0).2).2).1, (((jpeekS xr 0).2).2).2)).1).2).1), .int .i64 (((((jnumS (((jpeekS xr 0).2).1, (((jpeekS xr 0).2).2).1, (((jpeekS xr 0).2).2).2)).1).2).2).1), .string ⟨⟨(((((jnumS (((jpeekS xr 0).2).1, (((jpeekS xr 0).2).2).1, (((jpeekS xr 0).2).2).2)).1).2).2).2).1⟩⟩, .int .i64 ((((((jnumS (((jpeekS xr 0).2).1, (((jpeekS xr 0).2).2).1, (((jpeekS xr 0).2).2).2)).1).2).2).2).2)], .int .i64 ((jnumS (((jpeekS xr 0).2).1, (((jpeekS xr 0).2).2).1, (((jpeekS xr 0).2).2).2)).2.1)]) [0, 1] [.blk bxr (.cells #[.string ⟨⟨((jnumS (((jpeekS xr 0).2).1, (((jpeekS xr 0).2).2).1, (((jpeekS xr 0).2).2).2)).2.2).1⟩⟩, .int .i64 ((((jnumS (((jpeekS xr 0).2).1, (((jpeekS xr 0).2).2).1, (((jpeekS xr 0).2).2).2)).2.2).2).1), .slice a9_0 ((((jnumS (((jpeekS xr 0).2).1, (((jpeekS xr 0).2).2).1, (((jpeekS xr 0).2).2).2)).2.2).2).2).length c9_0] 37), .own (.slice a9_0 ((((jnumS (((jpeekS xr 0).2).1, (((jpeekS xr 0).2).2).1, (((jpeekS xr 0).2).2).2)).2.2).2).2).length c9_0) 39 5 ((((jnumS (((jpeekS xr 0).2).1, (((jpeekS xr 0).2).2).1, (((jpeekS xr 0).2).2).2)).2.2).2).2).length xs9_0] (by decide) rfl (.inl rfl) rfl (.cons (.cellAgg 2 5 #[.int .i64 (((jnumS (((jpeekS xr 0).2).1, (((jpeekS xr 0).2).2).1, (((jpeekS xr 0).2).2).2)).1).1), .int .i64 ((((jnumS (((jpeekS xr 0).2).1, (((jpeekS xr 0).2).2).1, (((jpeekS xr 0).2).2).2)).1).2).1), .int .i64 (((((jnumS (((jpeekS xr 0).2).1, (((jpeekS xr 0).2).2).1, (((jpeekS xr 0).2).2).2)).1).2).2).1), .string ⟨⟨(((((jnumS (((jpeekS xr 0).2).1, (((jpeekS xr 0).2).2).1, (((jpeekS xr 0).2).2).2)).1).2).2).2).1⟩⟩, .int .i64 ((((((jnumS (((jpeekS xr 0).2).1, (((jpeekS xr 0).2).2).1, (((jpeekS xr 0).2).2).2)).1).2).2).2).2)] rfl rfl Tryd.underlying39 rfl (by kernel_rfl) (by kernel_rfl) (by kernel_rfl)) (.cons (.tmp rfl) .nil)) (hx3.trans hx9) ⟨(((jnumS (((jpeekS xr 0).2).1, (((jpeekS xr 0).2).2).1, (((jpeekS xr 0).2).2).2)).1).1, (((jnumS (((jpeekS xr 0).2).1, (((jpeekS xr 0).2).2).1, (((jpeekS xr 0).2).2).2)).1).2).1, ((((jnumS (((jpeekS xr 0).2).1, (((jpeekS xr 0).2).2).1, (((jpeekS xr 0).2).2).2)).1).2).2).1, (((((jnumS (((jpeekS xr 0).2).1, (((jpeekS xr 0).2).2).1, (((jpeekS xr 0).2).2).2)).1).2).2).2).1, (((((jnumS (((jpeekS xr 0).2).1, (((jpeekS xr 0).2).2).1, (((jpeekS xr 0).2).2).2)).1).2).2).2).2), ((jnumS (((jpeekS xr 0).2).1, (((jpeekS xr 0).2).2).1, (((jpeekS xr 0).2).2).2)).2.1), (((jnumS (((jpeekS xr 0).2).1, (((jpeekS xr 0).2).2).1, (((jpeekS xr 0).2).2).2)).2.2).1, (((jnumS (((jpeekS xr 0).2).1, (((jpeekS xr 0).2).2).1, (((jpeekS xr 0).2).2).2)).2.2).2).1, (((jnumS (((jpeekS xr 0).2).1, (((jpeekS xr 0).2).2).1, (((jpeekS xr 0).2).2).2)).2.2).2).2), a9_0, c9_0, xs9_0, rfl, hL9_0, rfl, hF⟩
    · replace hF := hF.2 hc7
      refine Ok.seq ?_
      refine Ok.region ?_
      refine Ok.batch 3 [(0, .pointer (some ⟨bxr, 0, none⟩)), (2, .pointer (some ⟨b1, 0, none⟩)), (19, .bool (((jpeekS xr 0).1) == 34))] (by kernel_rfl) ?_
      refine Ok.nil ?_
      refine Ok.thenN ?_
      refine Ok.cond (b := (((jpeekS xr 0).1) == 34)) rfl (fun hc10 => ?_) (fun hc10 => ?_)
      · replace hF := hF.1 hc10
        refine Ok.seq ?_
        refine Ok.region ?_
        refine Ok.batch 1 [(2, .pointer (some ⟨b1, 0, none⟩)), (22, .pointer (some ⟨bxr, 0, none⟩))] (by kernel_rfl) ?_
        obtain ⟨hp11, hF⟩ := hF
        refine Ok.op rfl (OpOk.callH [.blk bxr (.cells #[.string ⟨⟨((jpeekS xr 0).2).1⟩⟩, .int .i64 ((((jpeekS xr 0).2).2).1), .slice a3_0 ((((jpeekS xr 0).2).2).2).length c3_0] 37), .own (.slice a3_0 ((((jpeekS xr 0).2).2).2).length c3_0) 39 5 ((((jpeekS xr 0).2).2).2).length xs3_0] [.blk b1 (.cells #[.int .i64 0, .int .i64 0, .int .i64 0, .string ⟨⟨([] : List UInt8)⟩⟩, .int .i64 0] 39)] (enters (by kernel_rfl) (fun _ => by kernel_rfl)) rfl (jtxt_c (((jpeekS xr 0).2).1, (((jpeekS xr 0).2).2).1, (((jpeekS xr 0).2).2).2) hL3_0 hp11) rfl fun g12 _ _ hx12 hV12 => ?_)
        obtain ⟨a12_0, c12_0, xs12_0, rfl, hL12_0, rfl⟩ := hV12
        replace hG0 := hG0.mono hx12.1
        refine Ok.batch 2 [(2, .pointer (some ⟨b1, 0, none⟩)), (24, .agg #[.int .i64 (((jtxtS (((jpeekS xr 0).2).1, (((jpeekS xr 0).2).2).1, (((jpeekS xr 0).2).2).2)).1).1), .int .i64 ((((jtxtS (((jpeekS xr 0).2).1, (((jpeekS xr 0).2).2).1, (((jpeekS xr 0).2).2).2)).1).2).1), .int .i64 (((((jtxtS (((jpeekS xr 0).2).1, (((jpeekS xr 0).2).2).1, (((jpeekS xr 0).2).2).2)).1).2).2).1), .string ⟨⟨(((((jtxtS (((jpeekS xr 0).2).1, (((jpeekS xr 0).2).2).1, (((jpeekS xr 0).2).2).2)).1).2).2).2).1⟩⟩, .int .i64 ((((((jtxtS (((jpeekS xr 0).2).1, (((jpeekS xr 0).2).2).1, (((jpeekS xr 0).2).2).2)).1).2).2).2).2)]), (25, .int .i64 ((jtxtS (((jpeekS xr 0).2).1, (((jpeekS xr 0).2).2).1, (((jpeekS xr 0).2).2).2)).2.1))] (by kernel_rfl) ?_
        refine Ok.op rfl (OpOk.store (k := 5) (v := .agg #[.int .i64 (((jtxtS (((jpeekS xr 0).2).1, (((jpeekS xr 0).2).2).1, (((jpeekS xr 0).2).2).2)).1).1), .int .i64 ((((jtxtS (((jpeekS xr 0).2).1, (((jpeekS xr 0).2).2).1, (((jpeekS xr 0).2).2).2)).1).2).1), .int .i64 (((((jtxtS (((jpeekS xr 0).2).1, (((jpeekS xr 0).2).2).1, (((jpeekS xr 0).2).2).2)).1).2).2).1), .string ⟨⟨(((((jtxtS (((jpeekS xr 0).2).1, (((jpeekS xr 0).2).2).1, (((jpeekS xr 0).2).2).2)).1).2).2).2).1⟩⟩, .int .i64 ((((((jtxtS (((jpeekS xr 0).2).1, (((jpeekS xr 0).2).2).1, (((jpeekS xr 0).2).2).2)).1).2).2).2).2)]) (H' := [.blk bxr (.cells #[.string ⟨⟨((jtxtS (((jpeekS xr 0).2).1, (((jpeekS xr 0).2).2).1, (((jpeekS xr 0).2).2).2)).2.2).1⟩⟩, .int .i64 ((((jtxtS (((jpeekS xr 0).2).1, (((jpeekS xr 0).2).2).1, (((jpeekS xr 0).2).2).2)).2.2).2).1), .slice a12_0 ((((jtxtS (((jpeekS xr 0).2).1, (((jpeekS xr 0).2).2).1, (((jpeekS xr 0).2).2).2)).2.2).2).2).length c12_0] 37), .own (.slice a12_0 ((((jtxtS (((jpeekS xr 0).2).1, (((jpeekS xr 0).2).2).1, (((jpeekS xr 0).2).2).2)).2.2).2).2).length c12_0) 39 5 ((((jtxtS (((jpeekS xr 0).2).1, (((jpeekS xr 0).2).2).1, (((jpeekS xr 0).2).2).2)).2.2).2).2).length xs12_0, .blk b1 (.cells #[.int .i64 (((jtxtS (((jpeekS xr 0).2).1, (((jpeekS xr 0).2).2).1, (((jpeekS xr 0).2).2).2)).1).1), .int .i64 ((((jtxtS (((jpeekS xr 0).2).1, (((jpeekS xr 0).2).2).1, (((jpeekS xr 0).2).2).2)).1).2).1), .int .i64 (((((jtxtS (((jpeekS xr 0).2).1, (((jpeekS xr 0).2).2).1, (((jpeekS xr 0).2).2).2)).1).2).2).1), .string ⟨⟨(((((jtxtS (((jpeekS xr 0).2).1, (((jpeekS xr 0).2).2).1, (((jpeekS xr 0).2).2).2)).1).2).2).2).1⟩⟩, .int .i64 ((((((jtxtS (((jpeekS xr 0).2).1, (((jpeekS xr 0).2).2).1, (((jpeekS xr 0).2).2).2)).1).2).2).2).2)] 39)]) 2 rfl rfl rfl (by kernel_rfl) (by kernel_rfl) (by kernel_rfl) (by kernel_rfl) (by kernel_rfl) ?_)
        refine Ok.batch 1 [(2, .pointer (some ⟨b1, 0, none⟩)), (3, .int .i64 ((jtxtS (((jpeekS xr 0).2).1, (((jpeekS xr 0).2).2).1, (((jpeekS xr 0).2).2).2)).2.1))] (by kernel_rfl) ?_
        refine Ok.nil ?_
        refine Ok.thenN ?_
        refine Ok.ret ?_
        refine Ok.blockR ?_
        refine Ok.thenR ?_
        exact Ok.resP (vs := [.agg #[.int .i64 (((jtxtS (((jpeekS xr 0).2).1, (((jpeekS xr 0).2).2).1, (((jpeekS xr 0).2).2).2)).1).1), .int .i64 ((((jtxtS (((jpeekS xr 0).2).1, (((jpeekS xr 0).2).2).1, (((jpeekS xr 0).2).2).2)).1).2).1), .int .i64 (((((jtxtS (((jpeekS xr 0).2).1, (((jpeekS xr 0).2).2).1, (((jpeekS xr 0).2).2).2)).1).2).2).1), .string ⟨⟨(((((jtxtS (((jpeekS xr 0).2).1, (((jpeekS xr 0).2).2).1, (((jpeekS xr 0).2).2).2)).1).2).2).2).1⟩⟩, .int .i64 ((((((jtxtS (((jpeekS xr 0).2).1, (((jpeekS xr 0).2).2).1, (((jpeekS xr 0).2).2).2)).1).2).2).2).2)], .int .i64 ((jtxtS (((jpeekS xr 0).2).1, (((jpeekS xr 0).2).2).1, (((jpeekS xr 0).2).2).2)).2.1)]) [0, 1] [.blk bxr (.cells #[.string ⟨⟨((jtxtS (((jpeekS xr 0).2).1, (((jpeekS xr 0).2).2).1, (((jpeekS xr 0).2).2).2)).2.2).1⟩⟩, .int .i64 ((((jtxtS (((jpeekS xr 0).2).1, (((jpeekS xr 0).2).2).1, (((jpeekS xr 0).2).2).2)).2.2).2).1), .slice a12_0 ((((jtxtS (((jpeekS xr 0).2).1, (((jpeekS xr 0).2).2).1, (((jpeekS xr 0).2).2).2)).2.2).2).2).length c12_0] 37), .own (.slice a12_0 ((((jtxtS (((jpeekS xr 0).2).1, (((jpeekS xr 0).2).2).1, (((jpeekS xr 0).2).2).2)).2.2).2).2).length c12_0) 39 5 ((((jtxtS (((jpeekS xr 0).2).1, (((jpeekS xr 0).2).2).1, (((jpeekS xr 0).2).2).2)).2.2).2).2).length xs12_0] (by decide) rfl (.inl rfl) rfl (.cons (.cellAgg 2 5 #[.int .i64 (((jtxtS (((jpeekS xr 0).2).1, (((jpeekS xr 0).2).2).1, (((jpeekS xr 0).2).2).2)).1).1), .int .i64 ((((jtxtS (((jpeekS xr 0).2).1, (((jpeekS xr 0).2).2).1, (((jpeekS xr 0).2).2).2)).1).2).1), .int .i64 (((((jtxtS (((jpeekS xr 0).2).1, (((jpeekS xr 0).2).2).1, (((jpeekS xr 0).2).2).2)).1).2).2).1), .string ⟨⟨(((((jtxtS (((jpeekS xr 0).2).1, (((jpeekS xr 0).2).2).1, (((jpeekS xr 0).2).2).2)).1).2).2).2).1⟩⟩, .int .i64 ((((((jtxtS (((jpeekS xr 0).2).1, (((jpeekS xr 0).2).2).1, (((jpeekS xr 0).2).2).2)).1).2).2).2).2)] rfl rfl Tryd.underlying39 rfl (by kernel_rfl) (by kernel_rfl) (by kernel_rfl)) (.cons (.tmp rfl) .nil)) (hx3.trans hx12) ⟨(((jtxtS (((jpeekS xr 0).2).1, (((jpeekS xr 0).2).2).1, (((jpeekS xr 0).2).2).2)).1).1, (((jtxtS (((jpeekS xr 0).2).1, (((jpeekS xr 0).2).2).1, (((jpeekS xr 0).2).2).2)).1).2).1, ((((jtxtS (((jpeekS xr 0).2).1, (((jpeekS xr 0).2).2).1, (((jpeekS xr 0).2).2).2)).1).2).2).1, (((((jtxtS (((jpeekS xr 0).2).1, (((jpeekS xr 0).2).2).1, (((jpeekS xr 0).2).2).2)).1).2).2).2).1, (((((jtxtS (((jpeekS xr 0).2).1, (((jpeekS xr 0).2).2).1, (((jpeekS xr 0).2).2).2)).1).2).2).2).2), ((jtxtS (((jpeekS xr 0).2).1, (((jpeekS xr 0).2).2).1, (((jpeekS xr 0).2).2).2)).2.1), (((jtxtS (((jpeekS xr 0).2).1, (((jpeekS xr 0).2).2).1, (((jpeekS xr 0).2).2).2)).2.2).1, (((jtxtS (((jpeekS xr 0).2).1, (((jpeekS xr 0).2).2).1, (((jpeekS xr 0).2).2).2)).2.2).2).1, (((jtxtS (((jpeekS xr 0).2).1, (((jpeekS xr 0).2).2).1, (((jpeekS xr 0).2).2).2)).2.2).2).2), a12_0, c12_0, xs12_0, rfl, hL12_0, rfl, hF⟩
      · replace hF := hF.2 hc10
        refine Ok.skip ?_
        refine Ok.blockN ?_
        refine Ok.thenN ?_
        refine Ok.seq ?_
        refine Ok.region ?_
        refine Ok.batch 1 [(2, .pointer (some ⟨b1, 0, none⟩)), (26, .pointer (some ⟨bxr, 0, none⟩))] (by kernel_rfl) ?_
        obtain ⟨hp13, hF⟩ := hF
        refine Ok.op rfl (OpOk.callH [.blk bxr (.cells #[.string ⟨⟨((jpeekS xr 0).2).1⟩⟩, .int .i64 ((((jpeekS xr 0).2).2).1), .slice a3_0 ((((jpeekS xr 0).2).2).2).length c3_0] 37), .own (.slice a3_0 ((((jpeekS xr 0).2).2).2).length c3_0) 39 5 ((((jpeekS xr 0).2).2).2).length xs3_0] [.blk b1 (.cells #[.int .i64 0, .int .i64 0, .int .i64 0, .string ⟨⟨([] : List UInt8)⟩⟩, .int .i64 0] 39)] (enters (by kernel_rfl) (fun _ => by kernel_rfl)) rfl (jsig_c (((jpeekS xr 0).2).1, (((jpeekS xr 0).2).2).1, (((jpeekS xr 0).2).2).2) hL3_0 hG0 hp13) rfl fun g14 _ _ hx14 hV14 => ?_)
        obtain ⟨a14_0, c14_0, xs14_0, rfl, hL14_0, rfl⟩ := hV14
        replace hG0 := hG0.mono hx14.1
        refine Ok.batch 2 [(2, .pointer (some ⟨b1, 0, none⟩)), (28, .agg #[.int .i64 (((jsigS (((jpeekS xr 0).2).1, (((jpeekS xr 0).2).2).1, (((jpeekS xr 0).2).2).2)).1).1), .int .i64 ((((jsigS (((jpeekS xr 0).2).1, (((jpeekS xr 0).2).2).1, (((jpeekS xr 0).2).2).2)).1).2).1), .int .i64 (((((jsigS (((jpeekS xr 0).2).1, (((jpeekS xr 0).2).2).1, (((jpeekS xr 0).2).2).2)).1).2).2).1), .string ⟨⟨(((((jsigS (((jpeekS xr 0).2).1, (((jpeekS xr 0).2).2).1, (((jpeekS xr 0).2).2).2)).1).2).2).2).1⟩⟩, .int .i64 ((((((jsigS (((jpeekS xr 0).2).1, (((jpeekS xr 0).2).2).1, (((jpeekS xr 0).2).2).2)).1).2).2).2).2)]), (29, .int .i64 ((jsigS (((jpeekS xr 0).2).1, (((jpeekS xr 0).2).2).1, (((jpeekS xr 0).2).2).2)).2.1))] (by kernel_rfl) ?_
        refine Ok.op rfl (OpOk.store (k := 5) (v := .agg #[.int .i64 (((jsigS (((jpeekS xr 0).2).1, (((jpeekS xr 0).2).2).1, (((jpeekS xr 0).2).2).2)).1).1), .int .i64 ((((jsigS (((jpeekS xr 0).2).1, (((jpeekS xr 0).2).2).1, (((jpeekS xr 0).2).2).2)).1).2).1), .int .i64 (((((jsigS (((jpeekS xr 0).2).1, (((jpeekS xr 0).2).2).1, (((jpeekS xr 0).2).2).2)).1).2).2).1), .string ⟨⟨(((((jsigS (((jpeekS xr 0).2).1, (((jpeekS xr 0).2).2).1, (((jpeekS xr 0).2).2).2)).1).2).2).2).1⟩⟩, .int .i64 ((((((jsigS (((jpeekS xr 0).2).1, (((jpeekS xr 0).2).2).1, (((jpeekS xr 0).2).2).2)).1).2).2).2).2)]) (H' := [.blk bxr (.cells #[.string ⟨⟨((jsigS (((jpeekS xr 0).2).1, (((jpeekS xr 0).2).2).1, (((jpeekS xr 0).2).2).2)).2.2).1⟩⟩, .int .i64 ((((jsigS (((jpeekS xr 0).2).1, (((jpeekS xr 0).2).2).1, (((jpeekS xr 0).2).2).2)).2.2).2).1), .slice a14_0 ((((jsigS (((jpeekS xr 0).2).1, (((jpeekS xr 0).2).2).1, (((jpeekS xr 0).2).2).2)).2.2).2).2).length c14_0] 37), .own (.slice a14_0 ((((jsigS (((jpeekS xr 0).2).1, (((jpeekS xr 0).2).2).1, (((jpeekS xr 0).2).2).2)).2.2).2).2).length c14_0) 39 5 ((((jsigS (((jpeekS xr 0).2).1, (((jpeekS xr 0).2).2).1, (((jpeekS xr 0).2).2).2)).2.2).2).2).length xs14_0, .blk b1 (.cells #[.int .i64 (((jsigS (((jpeekS xr 0).2).1, (((jpeekS xr 0).2).2).1, (((jpeekS xr 0).2).2).2)).1).1), .int .i64 ((((jsigS (((jpeekS xr 0).2).1, (((jpeekS xr 0).2).2).1, (((jpeekS xr 0).2).2).2)).1).2).1), .int .i64 (((((jsigS (((jpeekS xr 0).2).1, (((jpeekS xr 0).2).2).1, (((jpeekS xr 0).2).2).2)).1).2).2).1), .string ⟨⟨(((((jsigS (((jpeekS xr 0).2).1, (((jpeekS xr 0).2).2).1, (((jpeekS xr 0).2).2).2)).1).2).2).2).1⟩⟩, .int .i64 ((((((jsigS (((jpeekS xr 0).2).1, (((jpeekS xr 0).2).2).1, (((jpeekS xr 0).2).2).2)).1).2).2).2).2)] 39)]) 2 rfl rfl rfl (by kernel_rfl) (by kernel_rfl) (by kernel_rfl) (by kernel_rfl) (by kernel_rfl) ?_)
        refine Ok.batch 1 [(2, .pointer (some ⟨b1, 0, none⟩)), (3, .int .i64 ((jsigS (((jpeekS xr 0).2).1, (((jpeekS xr 0).2).2).1, (((jpeekS xr 0).2).2).2)).2.1))] (by kernel_rfl) ?_
        refine Ok.nil ?_
        refine Ok.thenN ?_
        refine Ok.ret ?_
        exact Ok.resP (vs := [.agg #[.int .i64 (((jsigS (((jpeekS xr 0).2).1, (((jpeekS xr 0).2).2).1, (((jpeekS xr 0).2).2).2)).1).1), .int .i64 ((((jsigS (((jpeekS xr 0).2).1, (((jpeekS xr 0).2).2).1, (((jpeekS xr 0).2).2).2)).1).2).1), .int .i64 (((((jsigS (((jpeekS xr 0).2).1, (((jpeekS xr 0).2).2).1, (((jpeekS xr 0).2).2).2)).1).2).2).1), .string ⟨⟨(((((jsigS (((jpeekS xr 0).2).1, (((jpeekS xr 0).2).2).1, (((jpeekS xr 0).2).2).2)).1).2).2).2).1⟩⟩, .int .i64 ((((((jsigS (((jpeekS xr 0).2).1, (((jpeekS xr 0).2).2).1, (((jpeekS xr 0).2).2).2)).1).2).2).2).2)], .int .i64 ((jsigS (((jpeekS xr 0).2).1, (((jpeekS xr 0).2).2).1, (((jpeekS xr 0).2).2).2)).2.1)]) [0, 1] [.blk bxr (.cells #[.string ⟨⟨((jsigS (((jpeekS xr 0).2).1, (((jpeekS xr 0).2).2).1, (((jpeekS xr 0).2).2).2)).2.2).1⟩⟩, .int .i64 ((((jsigS (((jpeekS xr 0).2).1, (((jpeekS xr 0).2).2).1, (((jpeekS xr 0).2).2).2)).2.2).2).1), .slice a14_0 ((((jsigS (((jpeekS xr 0).2).1, (((jpeekS xr 0).2).2).1, (((jpeekS xr 0).2).2).2)).2.2).2).2).length c14_0] 37), .own (.slice a14_0 ((((jsigS (((jpeekS xr 0).2).1, (((jpeekS xr 0).2).2).1, (((jpeekS xr 0).2).2).2)).2.2).2).2).length c14_0) 39 5 ((((jsigS (((jpeekS xr 0).2).1, (((jpeekS xr 0).2).2).1, (((jpeekS xr 0).2).2).2)).2.2).2).2).length xs14_0] (by decide) rfl (.inl rfl) rfl (.cons (.cellAgg 2 5 #[.int .i64 (((jsigS (((jpeekS xr 0).2).1, (((jpeekS xr 0).2).2).1, (((jpeekS xr 0).2).2).2)).1).1), .int .i64 ((((jsigS (((jpeekS xr 0).2).1, (((jpeekS xr 0).2).2).1, (((jpeekS xr 0).2).2).2)).1).2).1), .int .i64 (((((jsigS (((jpeekS xr 0).2).1, (((jpeekS xr 0).2).2).1, (((jpeekS xr 0).2).2).2)).1).2).2).1), .string ⟨⟨(((((jsigS (((jpeekS xr 0).2).1, (((jpeekS xr 0).2).2).1, (((jpeekS xr 0).2).2).2)).1).2).2).2).1⟩⟩, .int .i64 ((((((jsigS (((jpeekS xr 0).2).1, (((jpeekS xr 0).2).2).1, (((jpeekS xr 0).2).2).2)).1).2).2).2).2)] rfl rfl Tryd.underlying39 rfl (by kernel_rfl) (by kernel_rfl) (by kernel_rfl)) (.cons (.tmp rfl) .nil)) (hx3.trans hx14) ⟨(((jsigS (((jpeekS xr 0).2).1, (((jpeekS xr 0).2).2).1, (((jpeekS xr 0).2).2).2)).1).1, (((jsigS (((jpeekS xr 0).2).1, (((jpeekS xr 0).2).2).1, (((jpeekS xr 0).2).2).2)).1).2).1, ((((jsigS (((jpeekS xr 0).2).1, (((jpeekS xr 0).2).2).1, (((jpeekS xr 0).2).2).2)).1).2).2).1, (((((jsigS (((jpeekS xr 0).2).1, (((jpeekS xr 0).2).2).1, (((jpeekS xr 0).2).2).2)).1).2).2).2).1, (((((jsigS (((jpeekS xr 0).2).1, (((jpeekS xr 0).2).2).1, (((jpeekS xr 0).2).2).2)).1).2).2).2).2), ((jsigS (((jpeekS xr 0).2).1, (((jpeekS xr 0).2).2).1, (((jpeekS xr 0).2).2).2)).2.1), (((jsigS (((jpeekS xr 0).2).1, (((jpeekS xr 0).2).2).1, (((jpeekS xr 0).2).2).2)).2.2).1, (((jsigS (((jpeekS xr 0).2).1, (((jpeekS xr 0).2).2).1, (((jpeekS xr 0).2).2).2)).2.2).2).1, (((jsigS (((jpeekS xr 0).2).1, (((jpeekS xr 0).2).2).1, (((jpeekS xr 0).2).2).2)).2.2).2).2), a14_0, c14_0, xs14_0, rfl, hL14_0, rfl, hF⟩
def jnxtS (x : RD) : TK × Int × RD :=
  if jletM (jpeekS x 0).1 = true then ((jnameS x).1, 0, (jnameS x).2) else if jdigM (jpeekS x 0).1 = true then jnumS x else if ((jpeekS x 0).1 == 34) = true then jtxtS x else jsigS x
theorem jnxt_F (x : RD) (hp : jtxtP x) : jnxtF x (fun r r1 r2 => (r, r1, r2) = jnxtS x) := by
  have hr : rdP x := ⟨hp.1, hp.2.1, by have := hp.2.2; omega⟩
  unfold jnxtS
  refine ⟨⟨hr, by omega, by omega⟩, fun h => ⟨hr, ?_⟩, fun h => ⟨fun h5 => ⟨hr, ?_⟩, fun h5 => ⟨fun h6 => ⟨hp, ?_⟩, fun h6 => ⟨hr, ?_⟩⟩⟩⟩
  · rw [if_t h]; rfl
  · rw [if_f h, if_t h5]; rfl
  · rw [if_f h, if_f h5, if_t h6]; rfl
  · rw [if_f h, if_f h5, if_f h6]; rfl
set_option linter.unusedVariables false in
theorem jnxt_c {g : Ghost} {bxr : Nat} {axr_0 : Option Addr} {cxr_0 : Nat} {xsxr_0 : List Value} (xr : List UInt8 × Int × List (Int × Int × Int × List UInt8 × Int)) (hLxr_0 : RepL g (.pair (.int .i64) (.pair (.int .i64) (.pair (.int .i64) (.pair (.str) (.int .i64))))) xsxr_0 xr.2.2) (hG0 : GlobL g 0 (.int .u8) DSpace)  (hp : jtxtP xr) : CallsH Tryd.prog 14 #[.pointer (some ⟨bxr, 0, none⟩)] g [.blk bxr (.cells #[.string ⟨⟨xr.1⟩⟩, .int .i64 xr.2.1, .slice axr_0 xr.2.2.length cxr_0] 37), .own (.slice axr_0 xr.2.2.length cxr_0) 39 5 xr.2.2.length xsxr_0] (fun g' H' v => ∃ (afxr_0 : Option Addr) (cfxr_0 : Nat) (xsfxr_0 : List Value), v = .tuple #[.agg #[.int .i64 ((jnxtS xr).1).1, .int .i64 ((jnxtS xr).1).2.1, .int .i64 ((jnxtS xr).1).2.2.1, .string ⟨⟨((jnxtS xr).1).2.2.2.1⟩⟩, .int .i64 ((jnxtS xr).1).2.2.2.2], .int .i64 ((jnxtS xr).2.1)] ∧ RepL g' (.pair (.int .i64) (.pair (.int .i64) (.pair (.int .i64) (.pair (.str) (.int .i64))))) xsfxr_0 ((jnxtS xr).2.2).2.2 ∧ H' = [.blk bxr (.cells #[.string ⟨⟨((jnxtS xr).2.2).1⟩⟩, .int .i64 ((jnxtS xr).2.2).2.1, .slice afxr_0 ((jnxtS xr).2.2).2.2.length cfxr_0] 37), .own (.slice afxr_0 ((jnxtS xr).2.2).2.2.length cfxr_0) 39 5 ((jnxtS xr).2.2).2.2.length xsfxr_0]) :=
  (jnxt_ok xr hLxr_0 hG0 _ (jnxt_F xr hp)).mono (by rintro g' H' v _ ⟨r0, r1, fxr, afxr_0, cfxr_0, xsfxr_0, rfl, hLfxr_0, rfl, hK⟩; obtain ⟨rfl, rfl, rfl⟩ : r0 = (jnxtS xr).1 ∧ r1 = (jnxtS xr).2.1 ∧ fxr = (jnxtS xr).2.2 := ⟨congrArg (fun z => z.1) hK, congrArg (fun z => z.2.1) hK, congrArg (fun z => z.2.2) hK⟩; exact ⟨afxr_0, cfxr_0, xsfxr_0, rfl, hLfxr_0, rfl⟩)
end Go.Proofs.YtaojddkfacnddaaDoor.Jl
