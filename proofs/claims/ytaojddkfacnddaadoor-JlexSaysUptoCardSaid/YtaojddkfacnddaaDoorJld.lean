/- The script reader: all tokens; a text in quotes. -/
import Derived.Test.YtaojddkfacnddaaDoorJlc
namespace Go.Proofs.YtaojddkfacnddaaDoor.Jl
open Go Go.Eng Go.RowKit Bld Fl
set_option linter.unusedVariables false

def jtokj30 (K : (List (Int × Int × Int × List UInt8 × Int)) → Int → Prop) (yb3_0l17 : List UInt8) (yb3_1l17 : Int) (yown2_0l17 : List (Int × Int × Int × List UInt8 × Int)) (C17 : (List UInt8) → Int → (List (Int × Int × Int × List UInt8 × Int)) → Prop) : Prop :=
  ((((if ((((jnxtS (yb3_0l17, yb3_1l17, yown2_0l17)).2.1) == 0) && ((((((jnxtS (yb3_0l17, yb3_1l17, yown2_0l17)).2.2).2).2).length : Int) == 1000)) = true then 2 else (jnxtS (yb3_0l17, yb3_1l17, yown2_0l17)).2.1) != 0)) = true → K ([]) (if ((((jnxtS (yb3_0l17, yb3_1l17, yown2_0l17)).2.1) == 0) && ((((((jnxtS (yb3_0l17, yb3_1l17, yown2_0l17)).2.2).2).2).length : Int) == 1000)) = true then 2 else (jnxtS (yb3_0l17, yb3_1l17, yown2_0l17)).2.1)) ∧ ((((if ((((jnxtS (yb3_0l17, yb3_1l17, yown2_0l17)).2.1) == 0) && ((((((jnxtS (yb3_0l17, yb3_1l17, yown2_0l17)).2.2).2).2).length : Int) == 1000)) = true then 2 else (jnxtS (yb3_0l17, yb3_1l17, yown2_0l17)).2.1) != 0)) = false → (((((jnxtS (yb3_0l17, yb3_1l17, yown2_0l17)).2.2).2).2) ++ ([(((jnxtS (yb3_0l17, yb3_1l17, yown2_0l17)).1).1, yb3_1l17, (((jnxtS (yb3_0l17, yb3_1l17, yown2_0l17)).2.2).2).1, (((((jnxtS (yb3_0l17, yb3_1l17, yown2_0l17)).1).2).2).2).1, (((((jnxtS (yb3_0l17, yb3_1l17, yown2_0l17)).1).2).2).2).2)] : List (Int × Int × Int × List UInt8 × Int))).length ≤ 2932031007402 ∧ rdP (((jnxtS (yb3_0l17, yb3_1l17, yown2_0l17)).2.2).1, (((jnxtS (yb3_0l17, yb3_1l17, yown2_0l17)).2.2).2).1, (((((jnxtS (yb3_0l17, yb3_1l17, yown2_0l17)).2.2).2).2) ++ ([(((jnxtS (yb3_0l17, yb3_1l17, yown2_0l17)).1).1, yb3_1l17, (((jnxtS (yb3_0l17, yb3_1l17, yown2_0l17)).2.2).2).1, (((((jnxtS (yb3_0l17, yb3_1l17, yown2_0l17)).1).2).2).2).1, (((((jnxtS (yb3_0l17, yb3_1l17, yown2_0l17)).1).2).2).2).2)] : List (Int × Int × Int × List UInt8 × Int)))) ∧ C17 ((jskipS (((jnxtS (yb3_0l17, yb3_1l17, yown2_0l17)).2.2).1, (((jnxtS (yb3_0l17, yb3_1l17, yown2_0l17)).2.2).2).1, (((((jnxtS (yb3_0l17, yb3_1l17, yown2_0l17)).2.2).2).2) ++ ([(((jnxtS (yb3_0l17, yb3_1l17, yown2_0l17)).1).1, yb3_1l17, (((jnxtS (yb3_0l17, yb3_1l17, yown2_0l17)).2.2).2).1, (((((jnxtS (yb3_0l17, yb3_1l17, yown2_0l17)).1).2).2).2).1, (((((jnxtS (yb3_0l17, yb3_1l17, yown2_0l17)).1).2).2).2).2)] : List (Int × Int × Int × List UInt8 × Int))))).1) (((jskipS (((jnxtS (yb3_0l17, yb3_1l17, yown2_0l17)).2.2).1, (((jnxtS (yb3_0l17, yb3_1l17, yown2_0l17)).2.2).2).1, (((((jnxtS (yb3_0l17, yb3_1l17, yown2_0l17)).2.2).2).2) ++ ([(((jnxtS (yb3_0l17, yb3_1l17, yown2_0l17)).1).1, yb3_1l17, (((jnxtS (yb3_0l17, yb3_1l17, yown2_0l17)).2.2).2).1, (((((jnxtS (yb3_0l17, yb3_1l17, yown2_0l17)).1).2).2).2).1, (((((jnxtS (yb3_0l17, yb3_1l17, yown2_0l17)).1).2).2).2).2)] : List (Int × Int × Int × List UInt8 × Int))))).2).1) (((jskipS (((jnxtS (yb3_0l17, yb3_1l17, yown2_0l17)).2.2).1, (((jnxtS (yb3_0l17, yb3_1l17, yown2_0l17)).2.2).2).1, (((((jnxtS (yb3_0l17, yb3_1l17, yown2_0l17)).2.2).2).2) ++ ([(((jnxtS (yb3_0l17, yb3_1l17, yown2_0l17)).1).1, yb3_1l17, (((jnxtS (yb3_0l17, yb3_1l17, yown2_0l17)).2.2).2).1, (((((jnxtS (yb3_0l17, yb3_1l17, yown2_0l17)).1).2).2).2).1, (((((jnxtS (yb3_0l17, yb3_1l17, yown2_0l17)).1).2).2).2).2)] : List (Int × Int × Int × List UInt8 × Int))))).2).2))
def jtokj31 (K : (List (Int × Int × Int × List UInt8 × Int)) → Int → Prop) (yb3_0l17 : List UInt8) (yb3_1l17 : Int) (yown2_0l17 : List (Int × Int × Int × List UInt8 × Int)) (C17 : (List UInt8) → Int → (List (Int × Int × Int × List UInt8 × Int)) → Prop) : Prop :=
  ((((((jnxtS (yb3_0l17, yb3_1l17, yown2_0l17)).2.1) == 0) && ((((((jnxtS (yb3_0l17, yb3_1l17, yown2_0l17)).2.2).2).2).length : Int) == 1000))) = true → jtokj30 K yb3_0l17 yb3_1l17 yown2_0l17 C17) ∧ ((((((jnxtS (yb3_0l17, yb3_1l17, yown2_0l17)).2.1) == 0) && ((((((jnxtS (yb3_0l17, yb3_1l17, yown2_0l17)).2.2).2).2).length : Int) == 1000))) = false → jtokj30 K yb3_0l17 yb3_1l17 yown2_0l17 C17)
def jtokl17b (xs : List UInt8) (K : (List (Int × Int × Int × List UInt8 × Int)) → Int → Prop) (yb3_0l17 : List UInt8) (yb3_1l17 : Int) (yown2_0l17 : List (Int × Int × Int × List UInt8 × Int)) (C17 : (List UInt8) → Int → (List (Int × Int × Int × List UInt8 × Int)) → Prop) : Prop :=
  ((decide (yb3_1l17 < (xs.length : Int))) = true → jtxtP (yb3_0l17, yb3_1l17, yown2_0l17) ∧ (((((jnxtS (yb3_0l17, yb3_1l17, yown2_0l17)).2.1) == 0)) = true → jtokj31 K yb3_0l17 yb3_1l17 yown2_0l17 C17) ∧ (((((jnxtS (yb3_0l17, yb3_1l17, yown2_0l17)).2.1) == 0)) = false → jtokj31 K yb3_0l17 yb3_1l17 yown2_0l17 C17)) ∧ ((decide (yb3_1l17 < (xs.length : Int))) = false → K yown2_0l17 0)
def jtokl17 (xs : List UInt8) (K : (List (Int × Int × Int × List UInt8 × Int)) → Int → Prop) : Nat → (List UInt8) → Int → (List (Int × Int × Int × List UInt8 × Int)) → Prop
  | 0, _, _, _ => False
  | k + 1, yb3_0l17, yb3_1l17, yown2_0l17 => jtokl17b xs K yb3_0l17 yb3_1l17 yown2_0l17 (jtokl17 xs K k)
def jtokF (xs : List UInt8) (K : (List (Int × Int × Int × List UInt8 × Int)) → Int → Prop) : Prop :=
  ((decide ((xs.length : Int) > 2000)) = true → K ([]) 2) ∧ ((decide ((xs.length : Int) > 2000)) = false → rdP (xs, 0, ([] : List (Int × Int × Int × List UInt8 × Int))) ∧ ∃ k, jtokl17 xs K k ((jskipS (xs, 0, ([] : List (Int × Int × Int × List UInt8 × Int)))).1) (((jskipS (xs, 0, ([] : List (Int × Int × Int × List UInt8 × Int)))).2).1) (((jskipS (xs, 0, ([] : List (Int × Int × Int × List UInt8 × Int)))).2).2))
set_option maxHeartbeats 4000000 in
set_option maxRecDepth 100000 in
set_option linter.unusedVariables false in
theorem jtok_ok {g : Ghost} (xs : List UInt8) (hG0 : GlobL g 0 (.int .u8) DSpace) (K : (List (Int × Int × Int × List UInt8 × Int)) → Int → Prop)
    (hF : jtokF xs K) : CallsH Tryd.prog 5 #[.string ⟨⟨xs⟩⟩] g [] (fun g' H' v => ∃ (r0 : List (Int × Int × Int × List UInt8 × Int)), ∃ (r1 : Int), ∃ (ar0_0 : Option Addr) (cr0_0 : Nat), v = .tuple #[.slice ar0_0 r0.length cr0_0, .int .i64 r1] ∧ Rep g' (.slice (.pair (.int .i64) (.pair (.int .i64) (.pair (.int .i64) (.pair (.str) (.int .i64)))))) [.slice ar0_0 r0.length cr0_0] r0 ∧ H' = [] ∧ K r0 r1) := by
  refine CallsH.enter 68 [(0, .string ⟨⟨xs⟩⟩)] Tryd.func5 rfl (by kernel_rfl) (by kernel_rfl) (by kernel_rfl) fun w0 => ?_
  refine Ok.seq ?_
  refine Ok.region ?_
  refine Ok.batch 2 [(0, .string ⟨⟨xs⟩⟩)] (by kernel_rfl) ?_
  refine Ok.nil ?_
  refine Ok.thenN ?_
  refine Ok.seq ?_
  refine Ok.seq ?_
  refine Ok.region ?_
  refine Ok.batch 3 [(0, .string ⟨⟨xs⟩⟩), (10, .bool (decide ((xs.length : Int) > 2000)))] (by kernel_rfl) ?_
  refine Ok.nil ?_
  refine Ok.thenN ?_
  refine Ok.cond (b := decide ((xs.length : Int) > 2000)) rfl (fun hc1 => ?_) (fun hc1 => ?_)
  · replace hF := hF.1 hc1
    refine Ok.seq ?_
    refine Ok.region ?_
    refine Ok.batch 2 [(2, .slice none 0 0), (3, .int .i64 2)] (by kernel_rfl) ?_
    refine Ok.nil ?_
    refine Ok.thenN ?_
    refine Ok.ret ?_
    refine Ok.thenR ?_
    exact Ok.resH (vs := [.slice none 0 0, .int .i64 2]) (.inl rfl) rfl (.cons (.tmp rfl) (.cons (.tmp rfl) .nil)) (Gext.refl w0 g) ⟨([]), 2, none, 0, rfl, Rep.nil, rfl, hF⟩
  · replace hF := hF.2 hc1
    refine Ok.skip ?_
    refine Ok.thenN ?_
    refine Ok.seq ?_
    refine Ok.region ?_
    refine Ok.batch 2 [(0, .string ⟨⟨xs⟩⟩), (12, .agg #[.string ⟨⟨xs⟩⟩, .int .i64 0, .slice none 0 0])] (by kernel_rfl) ?_
    have hL2 : RepL g (.pair (.int .i64) (.pair (.int .i64) (.pair (.int .i64) (.pair (.str) (.int .i64))))) [] [] := rfl
    refine Ok.ownNil 39 5 ?_
    refine Ok.op rfl (OpOk.box (v := .agg #[.string ⟨⟨xs⟩⟩, .int .i64 0, .slice none ([] : List (Int × Int × Int × List UInt8 × Int)).length 0]) (cs := #[.string ⟨⟨xs⟩⟩, .int .i64 0, .slice none ([] : List (Int × Int × Int × List UInt8 × Int)).length 0]) rfl (by kernel_rfl) rfl fun b3 => ?_)
    refine Ok.batch 1 [(0, .string ⟨⟨xs⟩⟩), (4, .pointer (some ⟨b3, 0, none⟩))] (by kernel_rfl) ?_
    refine Ok.nil ?_
    refine Ok.thenN ?_
    refine Ok.seq ?_
    refine Ok.seq ?_
    refine Ok.region ?_
    refine Ok.batch 1 [(0, .string ⟨⟨xs⟩⟩), (4, .pointer (some ⟨b3, 0, none⟩)), (14, .pointer (some ⟨b3, 0, none⟩))] (by kernel_rfl) ?_
    obtain ⟨hp4, hF⟩ := hF
    refine Ok.op rfl (OpOk.callH [.blk b3 (.cells #[.string ⟨⟨xs⟩⟩, .int .i64 0, .slice none ([] : List (Int × Int × Int × List UInt8 × Int)).length 0] 37), .own (.slice none ([] : List (Int × Int × Int × List UInt8 × Int)).length 0) 39 5 ([] : List (Int × Int × Int × List UInt8 × Int)).length ([])] [] (enters (by kernel_rfl) (fun _ => by kernel_rfl)) rfl (jskip_c (xs, 0, ([] : List (Int × Int × Int × List UInt8 × Int))) hL2 hp4) rfl fun g5 _ _ hx5 hV5 => ?_)
    obtain ⟨a5_0, c5_0, xs5_0, rfl, hL5_0, rfl⟩ := hV5
    replace hG0 := hG0.mono hx5.1
    refine Ok.nil ?_
    refine Ok.thenN ?_
    refine Ok.block ?_
    obtain ⟨k, hF⟩ := hF
    refine Ok.loop (fun k a W => ∃ gl17 : Ghost, Gext w0 g5 gl17 ∧ ∃ (yb3_0l17 : List UInt8) (yb3_1l17 : Int) (ayown2_0l17 : Option Addr) (cyown2_0l17 : Nat) (yown2_0l17 : List (Int × Int × Int × List UInt8 × Int)) (xsyown2_0l17 : List Value), RepL gl17 (.pair (.int .i64) (.pair (.int .i64) (.pair (.int .i64) (.pair (.str) (.int .i64))))) xsyown2_0l17 yown2_0l17 ∧ StA 68 [(0, .string ⟨⟨xs⟩⟩), (4, .pointer (some ⟨b3, 0, none⟩))] a ∧ StW w0 [.blk b3 (.cells #[.string ⟨⟨yb3_0l17⟩⟩, .int .i64 yb3_1l17, .slice ayown2_0l17 yown2_0l17.length cyown2_0l17] 37), .own (.slice ayown2_0l17 yown2_0l17.length cyown2_0l17) 39 5 yown2_0l17.length xsyown2_0l17] gl17 W ∧ jtokl17 xs K k yb3_0l17 yb3_1l17 yown2_0l17) k ?_ ?_
    ·
      exact fun a W hA hW => ⟨g5, (Gext.refl w0 g5), (jskipS (xs, 0, ([] : List (Int × Int × Int × List UInt8 × Int)))).1, ((jskipS (xs, 0, ([] : List (Int × Int × Int × List UInt8 × Int)))).2).1, a5_0, c5_0, ((jskipS (xs, 0, ([] : List (Int × Int × Int × List UInt8 × Int)))).2).2, xs5_0, hL5_0, hA.sub (by kernel_rfl), hW, hF⟩
    ·
      clear hF
      rintro k17 a W ⟨gl17, hxl17, yb3_0l17, yb3_1l17, ayown2_0l17, cyown2_0l17, yown2_0l17, xsyown2_0l17, hLyown2_0l17, hA, hW, hF⟩
      cases k17 with
      | zero => exact (hF : False).elim
      | succ k17 =>
        refine (?_ : Ok _ _ _ _ _ _) a W hA hW
        clear hA hW
        replace hG0 := hG0.mono hxl17.1
        refine Ok.seq ?_
        refine Ok.seq ?_
        refine Ok.region ?_
        refine Ok.batch 3 [(0, .string ⟨⟨xs⟩⟩), (4, .pointer (some ⟨b3, 0, none⟩)), (18, .pointer (some ⟨b3, 1, none⟩))] (by kernel_rfl) ?_
        refine Ok.op rfl (OpOk.step (v := .int .i64 yb3_1l17) (Yields.load 0 rfl rfl Tryd.underlying3 rfl (by kernel_rfl)) rfl rfl ?_)
        refine Ok.batch 3 [(0, .string ⟨⟨xs⟩⟩), (4, .pointer (some ⟨b3, 0, none⟩)), (22, .bool (decide (yb3_1l17 < (xs.length : Int))))] (by kernel_rfl) ?_
        refine Ok.nil ?_
        refine Ok.thenN ?_
        refine Ok.cond (b := decide (yb3_1l17 < (xs.length : Int))) rfl (fun hc6 => ?_) (fun hc6 => ?_)
        · replace hF := hF.1 hc6
          refine Ok.skip ?_
          refine Ok.thenN ?_
          refine Ok.seq ?_
          refine Ok.block ?_
          refine Ok.seq ?_
          refine Ok.region ?_
          refine Ok.batch 3 [(0, .string ⟨⟨xs⟩⟩), (4, .pointer (some ⟨b3, 0, none⟩)), (27, .pointer (some ⟨b3, 1, none⟩))] (by kernel_rfl) ?_
          refine Ok.op rfl (OpOk.step (v := .int .i64 yb3_1l17) (Yields.load 0 rfl rfl Tryd.underlying3 rfl (by kernel_rfl)) rfl rfl ?_)
          refine Ok.batch 1 [(0, .string ⟨⟨xs⟩⟩), (4, .pointer (some ⟨b3, 0, none⟩)), (5, .int .i64 yb3_1l17)] (by kernel_rfl) ?_
          refine Ok.nil ?_
          refine Ok.thenN ?_
          refine Ok.seq ?_
          refine Ok.region ?_
          refine Ok.batch 1 [(0, .string ⟨⟨xs⟩⟩), (4, .pointer (some ⟨b3, 0, none⟩)), (5, .int .i64 yb3_1l17), (30, .pointer (some ⟨b3, 0, none⟩))] (by kernel_rfl) ?_
          obtain ⟨hp7, hF⟩ := hF
          refine Ok.op rfl (OpOk.callH [.blk b3 (.cells #[.string ⟨⟨yb3_0l17⟩⟩, .int .i64 yb3_1l17, .slice ayown2_0l17 yown2_0l17.length cyown2_0l17] 37), .own (.slice ayown2_0l17 yown2_0l17.length cyown2_0l17) 39 5 yown2_0l17.length xsyown2_0l17] [] (enters (by kernel_rfl) (fun _ => by kernel_rfl)) rfl (jnxt_c (yb3_0l17, yb3_1l17, yown2_0l17) hLyown2_0l17 hG0 hp7) rfl fun g8 _ _ hx8 hV8 => ?_)
          obtain ⟨a8_0, c8_0, xs8_0, rfl, hL8_0, rfl⟩ := hV8
          replace hG0 := hG0.mono hx8.1
          refine Ok.batch 3 [(0, .string ⟨⟨xs⟩⟩), (4, .pointer (some ⟨b3, 0, none⟩)), (5, .int .i64 yb3_1l17), (32, .agg #[.int .i64 (((jnxtS (yb3_0l17, yb3_1l17, yown2_0l17)).1).1), .int .i64 ((((jnxtS (yb3_0l17, yb3_1l17, yown2_0l17)).1).2).1), .int .i64 (((((jnxtS (yb3_0l17, yb3_1l17, yown2_0l17)).1).2).2).1), .string ⟨⟨(((((jnxtS (yb3_0l17, yb3_1l17, yown2_0l17)).1).2).2).2).1⟩⟩, .int .i64 ((((((jnxtS (yb3_0l17, yb3_1l17, yown2_0l17)).1).2).2).2).2)]), (33, .int .i64 ((jnxtS (yb3_0l17, yb3_1l17, yown2_0l17)).2.1))] (by kernel_rfl) ?_
          refine Ok.op rfl (OpOk.alloc (z := .agg #[.int .i64 0, .int .i64 0, .int .i64 0, .string ⟨⟨([] : List UInt8)⟩⟩, .int .i64 0]) (cs := #[.int .i64 0, .int .i64 0, .int .i64 0, .string ⟨⟨([] : List UInt8)⟩⟩, .int .i64 0]) (by kernel_rfl) (by kernel_rfl) rfl fun b9 => ?_)
          refine Ok.op rfl (OpOk.store (k := 5) (v := .agg #[.int .i64 (((jnxtS (yb3_0l17, yb3_1l17, yown2_0l17)).1).1), .int .i64 ((((jnxtS (yb3_0l17, yb3_1l17, yown2_0l17)).1).2).1), .int .i64 (((((jnxtS (yb3_0l17, yb3_1l17, yown2_0l17)).1).2).2).1), .string ⟨⟨(((((jnxtS (yb3_0l17, yb3_1l17, yown2_0l17)).1).2).2).2).1⟩⟩, .int .i64 ((((((jnxtS (yb3_0l17, yb3_1l17, yown2_0l17)).1).2).2).2).2)]) (H' := [.blk b9 (.cells #[.int .i64 (((jnxtS (yb3_0l17, yb3_1l17, yown2_0l17)).1).1), .int .i64 ((((jnxtS (yb3_0l17, yb3_1l17, yown2_0l17)).1).2).1), .int .i64 (((((jnxtS (yb3_0l17, yb3_1l17, yown2_0l17)).1).2).2).1), .string ⟨⟨(((((jnxtS (yb3_0l17, yb3_1l17, yown2_0l17)).1).2).2).2).1⟩⟩, .int .i64 ((((((jnxtS (yb3_0l17, yb3_1l17, yown2_0l17)).1).2).2).2).2)] 39), .blk b3 (.cells #[.string ⟨⟨((jnxtS (yb3_0l17, yb3_1l17, yown2_0l17)).2.2).1⟩⟩, .int .i64 ((((jnxtS (yb3_0l17, yb3_1l17, yown2_0l17)).2.2).2).1), .slice a8_0 ((((jnxtS (yb3_0l17, yb3_1l17, yown2_0l17)).2.2).2).2).length c8_0] 37), .own (.slice a8_0 ((((jnxtS (yb3_0l17, yb3_1l17, yown2_0l17)).2.2).2).2).length c8_0) 39 5 ((((jnxtS (yb3_0l17, yb3_1l17, yown2_0l17)).2.2).2).2).length xs8_0]) 0 rfl rfl rfl (by kernel_rfl) (by kernel_rfl) (by kernel_rfl) (by kernel_rfl) (by kernel_rfl) ?_)
          refine Ok.batch 1 [(0, .string ⟨⟨xs⟩⟩), (4, .pointer (some ⟨b3, 0, none⟩)), (5, .int .i64 yb3_1l17), (6, .pointer (some ⟨b9, 0, none⟩)), (7, .int .i64 ((jnxtS (yb3_0l17, yb3_1l17, yown2_0l17)).2.1))] (by kernel_rfl) ?_
          refine Ok.nil ?_
          refine Ok.thenN ?_
          refine Ok.cut (fun a W => ∃ gj30 : Ghost, Gext w0 g8 gj30 ∧ StA 68 [(0, .string ⟨⟨xs⟩⟩), (4, .pointer (some ⟨b3, 0, none⟩)), (5, .int .i64 yb3_1l17), (6, .pointer (some ⟨b9, 0, none⟩)), (7, .int .i64 (if ((((jnxtS (yb3_0l17, yb3_1l17, yown2_0l17)).2.1) == 0) && ((((((jnxtS (yb3_0l17, yb3_1l17, yown2_0l17)).2.2).2).2).length : Int) == 1000)) = true then 2 else (jnxtS (yb3_0l17, yb3_1l17, yown2_0l17)).2.1))] a ∧ StW w0 [.blk b9 (.cells #[.int .i64 (((jnxtS (yb3_0l17, yb3_1l17, yown2_0l17)).1).1), .int .i64 ((((jnxtS (yb3_0l17, yb3_1l17, yown2_0l17)).1).2).1), .int .i64 (((((jnxtS (yb3_0l17, yb3_1l17, yown2_0l17)).1).2).2).1), .string ⟨⟨(((((jnxtS (yb3_0l17, yb3_1l17, yown2_0l17)).1).2).2).2).1⟩⟩, .int .i64 ((((((jnxtS (yb3_0l17, yb3_1l17, yown2_0l17)).1).2).2).2).2)] 39), .blk b3 (.cells #[.string ⟨⟨((jnxtS (yb3_0l17, yb3_1l17, yown2_0l17)).2.2).1⟩⟩, .int .i64 ((((jnxtS (yb3_0l17, yb3_1l17, yown2_0l17)).2.2).2).1), .slice a8_0 ((((jnxtS (yb3_0l17, yb3_1l17, yown2_0l17)).2.2).2).2).length c8_0] 37), .own (.slice a8_0 ((((jnxtS (yb3_0l17, yb3_1l17, yown2_0l17)).2.2).2).2).length c8_0) 39 5 ((((jnxtS (yb3_0l17, yb3_1l17, yown2_0l17)).2.2).2).2).length xs8_0] gj30 W ∧ jtokj30 K yb3_0l17 yb3_1l17 yown2_0l17 (jtokl17 xs K k17)) ?_ ?_
          ·
            refine Ok.cut (fun a W => ∃ gj31 : Ghost, Gext w0 g8 gj31 ∧ StA 68 [(0, .string ⟨⟨xs⟩⟩), (4, .pointer (some ⟨b3, 0, none⟩)), (5, .int .i64 yb3_1l17), (6, .pointer (some ⟨b9, 0, none⟩)), (7, .int .i64 ((jnxtS (yb3_0l17, yb3_1l17, yown2_0l17)).2.1)), (43, .bool ((((jnxtS (yb3_0l17, yb3_1l17, yown2_0l17)).2.1) == 0) && ((((((jnxtS (yb3_0l17, yb3_1l17, yown2_0l17)).2.2).2).2).length : Int) == 1000)))] a ∧ StW w0 [.blk b9 (.cells #[.int .i64 (((jnxtS (yb3_0l17, yb3_1l17, yown2_0l17)).1).1), .int .i64 ((((jnxtS (yb3_0l17, yb3_1l17, yown2_0l17)).1).2).1), .int .i64 (((((jnxtS (yb3_0l17, yb3_1l17, yown2_0l17)).1).2).2).1), .string ⟨⟨(((((jnxtS (yb3_0l17, yb3_1l17, yown2_0l17)).1).2).2).2).1⟩⟩, .int .i64 ((((((jnxtS (yb3_0l17, yb3_1l17, yown2_0l17)).1).2).2).2).2)] 39), .blk b3 (.cells #[.string ⟨⟨((jnxtS (yb3_0l17, yb3_1l17, yown2_0l17)).2.2).1⟩⟩, .int .i64 ((((jnxtS (yb3_0l17, yb3_1l17, yown2_0l17)).2.2).2).1), .slice a8_0 ((((jnxtS (yb3_0l17, yb3_1l17, yown2_0l17)).2.2).2).2).length c8_0] 37), .own (.slice a8_0 ((((jnxtS (yb3_0l17, yb3_1l17, yown2_0l17)).2.2).2).2).length c8_0) 39 5 ((((jnxtS (yb3_0l17, yb3_1l17, yown2_0l17)).2.2).2).2).length xs8_0] gj31 W ∧ jtokj31 K yb3_0l17 yb3_1l17 yown2_0l17 (jtokl17 xs K k17)) ?_ ?_
            ·
              refine Ok.region ?_
              refine Ok.batch 3 [(0, .string ⟨⟨xs⟩⟩), (4, .pointer (some ⟨b3, 0, none⟩)), (5, .int .i64 yb3_1l17), (6, .pointer (some ⟨b9, 0, none⟩)), (7, .int .i64 ((jnxtS (yb3_0l17, yb3_1l17, yown2_0l17)).2.1)), (36, .bool (((jnxtS (yb3_0l17, yb3_1l17, yown2_0l17)).2.1) == 0))] (by kernel_rfl) ?_
              refine Ok.boolAt 36 ((((jnxtS (yb3_0l17, yb3_1l17, yown2_0l17)).2.1) == 0)) rfl (fun hc16 => ?_) (fun hc16 => ?_)
              · replace hF := hF.1 hc16
                refine Ok.batch 3 [(0, .string ⟨⟨xs⟩⟩), (4, .pointer (some ⟨b3, 0, none⟩)), (5, .int .i64 yb3_1l17), (6, .pointer (some ⟨b9, 0, none⟩)), (7, .int .i64 ((jnxtS (yb3_0l17, yb3_1l17, yown2_0l17)).2.1)), (36, .bool true), (39, .pointer (some ⟨b3, 2, none⟩))] (by kernel_rfl) ?_
                refine Ok.opYes (j := 2) (d := 36) (want := true) (b := true) rfl (by kernel_rfl) (by kernel_rfl) rfl (OpOk.step (v := .slice a8_0 ((((jnxtS (yb3_0l17, yb3_1l17, yown2_0l17)).2.2).2).2).length c8_0) (Yields.load 1 rfl rfl Tryd.underlying22 rfl (by kernel_rfl)) rfl rfl ?_)
                refine Ok.batch 3 [(0, .string ⟨⟨xs⟩⟩), (4, .pointer (some ⟨b3, 0, none⟩)), (5, .int .i64 yb3_1l17), (6, .pointer (some ⟨b9, 0, none⟩)), (7, .int .i64 ((jnxtS (yb3_0l17, yb3_1l17, yown2_0l17)).2.1)), (43, .bool ((((((jnxtS (yb3_0l17, yb3_1l17, yown2_0l17)).2.2).2).2).length : Int) == 1000))] (by kernel_rfl) ?_
                refine Ok.nil ?_
                refine Ok.thenN ?_
                refine Ok.reval 43 rfl (show (.bool ((((((jnxtS (yb3_0l17, yb3_1l17, yown2_0l17)).2.2).2).2).length : Int) == 1000) : Value) = .bool ((((jnxtS (yb3_0l17, yb3_1l17, yown2_0l17)).2.1) == 0) && ((((((jnxtS (yb3_0l17, yb3_1l17, yown2_0l17)).2.2).2).2).length : Int) == 1000)) from congrArg (Value.bool) (mand_t hc16)) ?_
                exact fun a W hA hW => ⟨g8, (Gext.refl w0 g8), hA.sub (by kernel_rfl), hW, hF⟩
              · replace hF := hF.2 hc16
                refine Ok.batch 7 [(0, .string ⟨⟨xs⟩⟩), (4, .pointer (some ⟨b3, 0, none⟩)), (5, .int .i64 yb3_1l17), (6, .pointer (some ⟨b9, 0, none⟩)), (7, .int .i64 ((jnxtS (yb3_0l17, yb3_1l17, yown2_0l17)).2.1)), (43, .bool false)] (by kernel_rfl) ?_
                refine Ok.nil ?_
                refine Ok.thenN ?_
                refine Ok.reval 43 rfl (show (.bool false : Value) = .bool ((((jnxtS (yb3_0l17, yb3_1l17, yown2_0l17)).2.1) == 0) && ((((((jnxtS (yb3_0l17, yb3_1l17, yown2_0l17)).2.2).2).2).length : Int) == 1000)) from congrArg (Value.bool) (mand_f hc16)) ?_
                exact fun a W hA hW => ⟨g8, (Gext.refl w0 g8), hA.sub (by kernel_rfl), hW, hF⟩
            ·
              clear hF
              rintro a W ⟨gj31, hxj31, hA, hW, hF⟩
              refine (?_ : Ok _ _ _ _ _ _) a W hA hW
              clear hA hW
              replace hL8_0 := hL8_0.mono hxj31.1
              replace hG0 := hG0.mono hxj31.1
              refine Ok.cond (b := ((((jnxtS (yb3_0l17, yb3_1l17, yown2_0l17)).2.1) == 0) && ((((((jnxtS (yb3_0l17, yb3_1l17, yown2_0l17)).2.2).2).2).length : Int) == 1000))) rfl (fun hc15 => ?_) (fun hc15 => ?_)
              · replace hF := hF.1 hc15
                refine Ok.region ?_
                refine Ok.batch 1 [(0, .string ⟨⟨xs⟩⟩), (4, .pointer (some ⟨b3, 0, none⟩)), (5, .int .i64 yb3_1l17), (6, .pointer (some ⟨b9, 0, none⟩)), (7, .int .i64 2)] (by kernel_rfl) ?_
                refine Ok.nil ?_
                refine Ok.thenN ?_
                refine Ok.reval 7 rfl (show (.int .i64 2 : Value) = .int .i64 (if ((((jnxtS (yb3_0l17, yb3_1l17, yown2_0l17)).2.1) == 0) && ((((((jnxtS (yb3_0l17, yb3_1l17, yown2_0l17)).2.2).2).2).length : Int) == 1000)) = true then 2 else (jnxtS (yb3_0l17, yb3_1l17, yown2_0l17)).2.1) from congrArg (Value.int .i64) ((if_t hc15).symm)) ?_
                exact fun a W hA hW => ⟨gj31, hxj31, hA.sub (by kernel_rfl), hW, hF⟩
              · replace hF := hF.2 hc15
                refine Ok.skip ?_
                refine Ok.thenN ?_
                refine Ok.reval 7 rfl (show (.int .i64 ((jnxtS (yb3_0l17, yb3_1l17, yown2_0l17)).2.1) : Value) = .int .i64 (if ((((jnxtS (yb3_0l17, yb3_1l17, yown2_0l17)).2.1) == 0) && ((((((jnxtS (yb3_0l17, yb3_1l17, yown2_0l17)).2.2).2).2).length : Int) == 1000)) = true then 2 else (jnxtS (yb3_0l17, yb3_1l17, yown2_0l17)).2.1) from congrArg (Value.int .i64) ((if_f hc15).symm)) ?_
                exact fun a W hA hW => ⟨gj31, hxj31, hA.sub (by kernel_rfl), hW, hF⟩
          ·
            clear hF
            rintro a W ⟨gj30, hxj30, hA, hW, hF⟩
            refine (?_ : Ok _ _ _ _ _ _) a W hA hW
            clear hA hW
            replace hL8_0 := hL8_0.mono hxj30.1
            replace hG0 := hG0.mono hxj30.1
            refine Ok.seq ?_
            refine Ok.seq ?_
            refine Ok.region ?_
            refine Ok.batch 2 [(0, .string ⟨⟨xs⟩⟩), (4, .pointer (some ⟨b3, 0, none⟩)), (5, .int .i64 yb3_1l17), (6, .pointer (some ⟨b9, 0, none⟩)), (7, .int .i64 (if ((((jnxtS (yb3_0l17, yb3_1l17, yown2_0l17)).2.1) == 0) && ((((((jnxtS (yb3_0l17, yb3_1l17, yown2_0l17)).2.2).2).2).length : Int) == 1000)) = true then 2 else (jnxtS (yb3_0l17, yb3_1l17, yown2_0l17)).2.1)), (45, .bool ((if ((((jnxtS (yb3_0l17, yb3_1l17, yown2_0l17)).2.1) == 0) && ((((((jnxtS (yb3_0l17, yb3_1l17, yown2_0l17)).2.2).2).2).length : Int) == 1000)) = true then 2 else (jnxtS (yb3_0l17, yb3_1l17, yown2_0l17)).2.1) != 0))] (by kernel_rfl) ?_
            refine Ok.nil ?_
            refine Ok.thenN ?_
            refine Ok.cond (b := ((if ((((jnxtS (yb3_0l17, yb3_1l17, yown2_0l17)).2.1) == 0) && ((((((jnxtS (yb3_0l17, yb3_1l17, yown2_0l17)).2.2).2).2).length : Int) == 1000)) = true then 2 else (jnxtS (yb3_0l17, yb3_1l17, yown2_0l17)).2.1) != 0)) rfl (fun hc10 => ?_) (fun hc10 => ?_)
            · replace hF := hF.1 hc10
              refine Ok.seq ?_
              refine Ok.region ?_
              refine Ok.batch 3 [(2, .slice none 0 0), (3, .int .i64 (if ((((jnxtS (yb3_0l17, yb3_1l17, yown2_0l17)).2.1) == 0) && ((((((jnxtS (yb3_0l17, yb3_1l17, yown2_0l17)).2.2).2).2).length : Int) == 1000)) = true then 2 else (jnxtS (yb3_0l17, yb3_1l17, yown2_0l17)).2.1))] (by kernel_rfl) ?_
              refine Ok.nil ?_
              refine Ok.thenN ?_
              refine Ok.ret ?_
              refine Ok.thenR ?_
              refine Ok.blockR ?_
              refine Ok.thenR ?_
              refine Ok.thenR ?_
              refine Ok.blockR ?_
              refine Ok.thenR ?_
              exact Ok.resP (vs := [.slice none 0 0, .int .i64 (if ((((jnxtS (yb3_0l17, yb3_1l17, yown2_0l17)).2.1) == 0) && ((((((jnxtS (yb3_0l17, yb3_1l17, yown2_0l17)).2.2).2).2).length : Int) == 1000)) = true then 2 else (jnxtS (yb3_0l17, yb3_1l17, yown2_0l17)).2.1)]) [] [] (by decide) rfl (.inl rfl) rfl (.cons (.tmp rfl) (.cons (.tmp rfl) .nil)) (((hx5.trans hxl17).trans hx8).trans hxj30) ⟨([]), (if ((((jnxtS (yb3_0l17, yb3_1l17, yown2_0l17)).2.1) == 0) && ((((((jnxtS (yb3_0l17, yb3_1l17, yown2_0l17)).2.2).2).2).length : Int) == 1000)) = true then 2 else (jnxtS (yb3_0l17, yb3_1l17, yown2_0l17)).2.1), none, 0, rfl, Rep.nil, rfl, hF⟩
            · replace hF := hF.2 hc10
              refine Ok.skip ?_
              refine Ok.thenN ?_
              refine Ok.seq ?_
              refine Ok.mix [] [] [.blk b3 (.cells #[.string ⟨⟨((jnxtS (yb3_0l17, yb3_1l17, yown2_0l17)).2.2).1⟩⟩, .int .i64 ((((jnxtS (yb3_0l17, yb3_1l17, yown2_0l17)).2.2).2).1), .slice a8_0 ((((jnxtS (yb3_0l17, yb3_1l17, yown2_0l17)).2.2).2).2).length c8_0] 37), .own (.slice a8_0 ((((jnxtS (yb3_0l17, yb3_1l17, yown2_0l17)).2.2).2).2).length c8_0) 39 5 ((((jnxtS (yb3_0l17, yb3_1l17, yown2_0l17)).2.2).2).2).length xs8_0] [(0, true), (1, true), (2, true), (3, true), (4, true), (5, true), (6, false), (7, true), (8, false)] (by kernel_rfl) (by kernel_rfl) (.cons _ (.cons_cons _ (.cons_cons _ .slnil))) ?_
              refine OkM.batch 4 [(0, .string ⟨⟨xs⟩⟩), (4, .pointer (some ⟨b3, 0, none⟩)), (6, .pointer (some ⟨b9, 0, none⟩)), (47, .int .i64 yb3_1l17), (50, .pointer (some ⟨b3, 1, none⟩))] (by kernel_rfl) ?_
              refine OkM.head rfl rfl (show _ = [.blk b3 (.cells #[.string ⟨⟨((jnxtS (yb3_0l17, yb3_1l17, yown2_0l17)).2.2).1⟩⟩, .int .i64 ((((jnxtS (yb3_0l17, yb3_1l17, yown2_0l17)).2.2).2).1), .slice a8_0 ((((jnxtS (yb3_0l17, yb3_1l17, yown2_0l17)).2.2).2).2).length c8_0] 37), .own (.slice a8_0 ((((jnxtS (yb3_0l17, yb3_1l17, yown2_0l17)).2.2).2).2).length c8_0) 39 5 ((((jnxtS (yb3_0l17, yb3_1l17, yown2_0l17)).2.2).2).2).length xs8_0] from rfl) (OpQ.step (v := .int .i64 ((((jnxtS (yb3_0l17, yb3_1l17, yown2_0l17)).2.2).2).1)) (Yields.load 0 rfl rfl Tryd.underlying3 rfl (by kernel_rfl)) rfl rfl ?_)
              refine OkM.batch 1 [(0, .string ⟨⟨xs⟩⟩), (4, .pointer (some ⟨b3, 0, none⟩)), (6, .pointer (some ⟨b9, 0, none⟩)), (47, .int .i64 yb3_1l17), (51, .int .i64 ((((jnxtS (yb3_0l17, yb3_1l17, yown2_0l17)).2.2).2).1)), (52, .pointer (some ⟨b9, 1, none⟩))] (by kernel_rfl) ?_
              refine OkM.tail rfl rfl (OpOk.store (k := 1) (v := .int .i64 yb3_1l17) (H' := [.blk b9 (.cells #[.int .i64 (((jnxtS (yb3_0l17, yb3_1l17, yown2_0l17)).1).1), .int .i64 yb3_1l17, .int .i64 (((((jnxtS (yb3_0l17, yb3_1l17, yown2_0l17)).1).2).2).1), .string ⟨⟨(((((jnxtS (yb3_0l17, yb3_1l17, yown2_0l17)).1).2).2).2).1⟩⟩, .int .i64 ((((((jnxtS (yb3_0l17, yb3_1l17, yown2_0l17)).1).2).2).2).2)] 39), .blk b3 (.cells #[.string ⟨⟨((jnxtS (yb3_0l17, yb3_1l17, yown2_0l17)).2.2).1⟩⟩, .int .i64 ((((jnxtS (yb3_0l17, yb3_1l17, yown2_0l17)).2.2).2).1), .slice a8_0 ((((jnxtS (yb3_0l17, yb3_1l17, yown2_0l17)).2.2).2).2).length c8_0] 37), .own (.slice a8_0 ((((jnxtS (yb3_0l17, yb3_1l17, yown2_0l17)).2.2).2).2).length c8_0) 39 5 ((((jnxtS (yb3_0l17, yb3_1l17, yown2_0l17)).2.2).2).2).length xs8_0]) 0 rfl rfl rfl (by kernel_rfl) (by kernel_rfl) (by kernel_rfl) (by kernel_rfl) (by kernel_rfl) ?_)
              refine OkM.leaf (i := 6) (show _ = [.blk b3 (.cells #[.string ⟨⟨((jnxtS (yb3_0l17, yb3_1l17, yown2_0l17)).2.2).1⟩⟩, .int .i64 ((((jnxtS (yb3_0l17, yb3_1l17, yown2_0l17)).2.2).2).1), .slice a8_0 ((((jnxtS (yb3_0l17, yb3_1l17, yown2_0l17)).2.2).2).2).length c8_0] 37), .own (.slice a8_0 ((((jnxtS (yb3_0l17, yb3_1l17, yown2_0l17)).2.2).2).2).length c8_0) 39 5 ((((jnxtS (yb3_0l17, yb3_1l17, yown2_0l17)).2.2).2).2).length xs8_0] from rfl) (Gle.refl _) (.cons _ (.cons_cons _ (.cons_cons _ .slnil))) ?_
              refine OkM.batch 1 [(0, .string ⟨⟨xs⟩⟩), (4, .pointer (some ⟨b3, 0, none⟩)), (6, .pointer (some ⟨b9, 0, none⟩)), (51, .int .i64 ((((jnxtS (yb3_0l17, yb3_1l17, yown2_0l17)).2.2).2).1)), (53, .pointer (some ⟨b9, 2, none⟩))] (by kernel_rfl) ?_
              refine OkM.tail rfl rfl (OpOk.store (k := 1) (v := .int .i64 ((((jnxtS (yb3_0l17, yb3_1l17, yown2_0l17)).2.2).2).1)) (H' := [.blk b9 (.cells #[.int .i64 (((jnxtS (yb3_0l17, yb3_1l17, yown2_0l17)).1).1), .int .i64 yb3_1l17, .int .i64 ((((jnxtS (yb3_0l17, yb3_1l17, yown2_0l17)).2.2).2).1), .string ⟨⟨(((((jnxtS (yb3_0l17, yb3_1l17, yown2_0l17)).1).2).2).2).1⟩⟩, .int .i64 ((((((jnxtS (yb3_0l17, yb3_1l17, yown2_0l17)).1).2).2).2).2)] 39), .blk b3 (.cells #[.string ⟨⟨((jnxtS (yb3_0l17, yb3_1l17, yown2_0l17)).2.2).1⟩⟩, .int .i64 ((((jnxtS (yb3_0l17, yb3_1l17, yown2_0l17)).2.2).2).1), .slice a8_0 ((((jnxtS (yb3_0l17, yb3_1l17, yown2_0l17)).2.2).2).2).length c8_0] 37), .own (.slice a8_0 ((((jnxtS (yb3_0l17, yb3_1l17, yown2_0l17)).2.2).2).2).length c8_0) 39 5 ((((jnxtS (yb3_0l17, yb3_1l17, yown2_0l17)).2.2).2).2).length xs8_0]) 0 rfl rfl rfl (by kernel_rfl) (by kernel_rfl) (by kernel_rfl) (by kernel_rfl) (by kernel_rfl) ?_)
              refine OkM.leaf (i := 8) (show _ = [.blk b3 (.cells #[.string ⟨⟨((jnxtS (yb3_0l17, yb3_1l17, yown2_0l17)).2.2).1⟩⟩, .int .i64 ((((jnxtS (yb3_0l17, yb3_1l17, yown2_0l17)).2.2).2).1), .slice a8_0 ((((jnxtS (yb3_0l17, yb3_1l17, yown2_0l17)).2.2).2).2).length c8_0] 37), .own (.slice a8_0 ((((jnxtS (yb3_0l17, yb3_1l17, yown2_0l17)).2.2).2).2).length c8_0) 39 5 ((((jnxtS (yb3_0l17, yb3_1l17, yown2_0l17)).2.2).2).2).length xs8_0] from rfl) (Gle.refl _) (.cons _ (.cons_cons _ (.cons_cons _ .slnil))) ?_
              refine OkM.nil ?_
              refine Ok.thenN ?_
              refine Ok.mix [2, 3, 4, 5] [6] [.blk b9 (.cells #[.int .i64 (((jnxtS (yb3_0l17, yb3_1l17, yown2_0l17)).1).1), .int .i64 yb3_1l17, .int .i64 ((((jnxtS (yb3_0l17, yb3_1l17, yown2_0l17)).2.2).2).1), .string ⟨⟨(((((jnxtS (yb3_0l17, yb3_1l17, yown2_0l17)).1).2).2).2).1⟩⟩, .int .i64 ((((((jnxtS (yb3_0l17, yb3_1l17, yown2_0l17)).1).2).2).2).2)] 39)] [(0, true), (1, true), (2, true), (3, true), (4, true), (5, true), (6, false), (7, false), (8, true), (9, true), (10, false)] (by kernel_rfl) (by kernel_rfl) (.cons_cons _ (.cons _ (.cons _ .slnil))) ?_
              refine OkM.batch 4 [(0, .string ⟨⟨xs⟩⟩), (4, .pointer (some ⟨b3, 0, none⟩)), (6, .pointer (some ⟨b9, 0, none⟩)), (54, .pointer (some ⟨b3, 0, none⟩)), (57, .pointer (some ⟨b3, 2, none⟩))] (by kernel_rfl) ?_
              refine OkM.head rfl rfl (show _ = [.blk b9 (.cells #[.int .i64 (((jnxtS (yb3_0l17, yb3_1l17, yown2_0l17)).1).1), .int .i64 yb3_1l17, .int .i64 ((((jnxtS (yb3_0l17, yb3_1l17, yown2_0l17)).2.2).2).1), .string ⟨⟨(((((jnxtS (yb3_0l17, yb3_1l17, yown2_0l17)).1).2).2).2).1⟩⟩, .int .i64 ((((((jnxtS (yb3_0l17, yb3_1l17, yown2_0l17)).1).2).2).2).2)] 39), .blk b3 (.cells #[.string ⟨⟨((jnxtS (yb3_0l17, yb3_1l17, yown2_0l17)).2.2).1⟩⟩, .int .i64 ((((jnxtS (yb3_0l17, yb3_1l17, yown2_0l17)).2.2).2).1), .slice a8_0 ((((jnxtS (yb3_0l17, yb3_1l17, yown2_0l17)).2.2).2).2).length c8_0] 37), .own (.slice a8_0 ((((jnxtS (yb3_0l17, yb3_1l17, yown2_0l17)).2.2).2).2).length c8_0) 39 5 ((((jnxtS (yb3_0l17, yb3_1l17, yown2_0l17)).2.2).2).2).length xs8_0] from rfl) (OpQ.step (v := .slice a8_0 ((((jnxtS (yb3_0l17, yb3_1l17, yown2_0l17)).2.2).2).2).length c8_0) (Yields.load 1 rfl rfl Tryd.underlying22 rfl (by kernel_rfl)) rfl rfl ?_)
              refine OkM.head rfl rfl (show _ = [.blk b9 (.cells #[.int .i64 (((jnxtS (yb3_0l17, yb3_1l17, yown2_0l17)).1).1), .int .i64 yb3_1l17, .int .i64 ((((jnxtS (yb3_0l17, yb3_1l17, yown2_0l17)).2.2).2).1), .string ⟨⟨(((((jnxtS (yb3_0l17, yb3_1l17, yown2_0l17)).1).2).2).2).1⟩⟩, .int .i64 ((((((jnxtS (yb3_0l17, yb3_1l17, yown2_0l17)).1).2).2).2).2)] 39), .blk b3 (.cells #[.string ⟨⟨((jnxtS (yb3_0l17, yb3_1l17, yown2_0l17)).2.2).1⟩⟩, .int .i64 ((((jnxtS (yb3_0l17, yb3_1l17, yown2_0l17)).2.2).2).1), .slice a8_0 ((((jnxtS (yb3_0l17, yb3_1l17, yown2_0l17)).2.2).2).2).length c8_0] 37), .own (.slice a8_0 ((((jnxtS (yb3_0l17, yb3_1l17, yown2_0l17)).2.2).2).2).length c8_0) 39 5 ((((jnxtS (yb3_0l17, yb3_1l17, yown2_0l17)).2.2).2).2).length xs8_0] from rfl) (OpQ.step (v := .agg #[.int .i64 (((jnxtS (yb3_0l17, yb3_1l17, yown2_0l17)).1).1), .int .i64 yb3_1l17, .int .i64 ((((jnxtS (yb3_0l17, yb3_1l17, yown2_0l17)).2.2).2).1), .string ⟨⟨(((((jnxtS (yb3_0l17, yb3_1l17, yown2_0l17)).1).2).2).2).1⟩⟩, .int .i64 ((((((jnxtS (yb3_0l17, yb3_1l17, yown2_0l17)).1).2).2).2).2)]) (Yields.loadAgg 0 5 #[.int .i64 (((jnxtS (yb3_0l17, yb3_1l17, yown2_0l17)).1).1), .int .i64 yb3_1l17, .int .i64 ((((jnxtS (yb3_0l17, yb3_1l17, yown2_0l17)).2.2).2).1), .string ⟨⟨(((((jnxtS (yb3_0l17, yb3_1l17, yown2_0l17)).1).2).2).2).1⟩⟩, .int .i64 ((((((jnxtS (yb3_0l17, yb3_1l17, yown2_0l17)).1).2).2).2).2)] rfl rfl Tryd.underlying39 rfl (by kernel_rfl) (by kernel_rfl) (by kernel_rfl)) rfl rfl ?_)
              have hL11 : RepL gj30 (.pair (.int .i64) (.pair (.int .i64) (.pair (.int .i64) (.pair (.str) (.int .i64))))) ([.int .i64 (((jnxtS (yb3_0l17, yb3_1l17, yown2_0l17)).1).1), .int .i64 yb3_1l17, .int .i64 ((((jnxtS (yb3_0l17, yb3_1l17, yown2_0l17)).2.2).2).1), .string ⟨⟨(((((jnxtS (yb3_0l17, yb3_1l17, yown2_0l17)).1).2).2).2).1⟩⟩, .int .i64 ((((((jnxtS (yb3_0l17, yb3_1l17, yown2_0l17)).1).2).2).2).2)] : List Value) ([(((jnxtS (yb3_0l17, yb3_1l17, yown2_0l17)).1).1, yb3_1l17, (((jnxtS (yb3_0l17, yb3_1l17, yown2_0l17)).2.2).2).1, (((((jnxtS (yb3_0l17, yb3_1l17, yown2_0l17)).1).2).2).2).1, (((((jnxtS (yb3_0l17, yb3_1l17, yown2_0l17)).1).2).2).2).2)] : List (Int × Int × Int × List UInt8 × Int)) := (RepL.consN (c := [.int .i64 (((jnxtS (yb3_0l17, yb3_1l17, yown2_0l17)).1).1), .int .i64 yb3_1l17, .int .i64 ((((jnxtS (yb3_0l17, yb3_1l17, yown2_0l17)).2.2).2).1), .string ⟨⟨(((((jnxtS (yb3_0l17, yb3_1l17, yown2_0l17)).1).2).2).2).1⟩⟩, .int .i64 ((((((jnxtS (yb3_0l17, yb3_1l17, yown2_0l17)).1).2).2).2).2)]) ⟨[.int .i64 (((jnxtS (yb3_0l17, yb3_1l17, yown2_0l17)).1).1)], [.int .i64 yb3_1l17, .int .i64 ((((jnxtS (yb3_0l17, yb3_1l17, yown2_0l17)).2.2).2).1), .string ⟨⟨(((((jnxtS (yb3_0l17, yb3_1l17, yown2_0l17)).1).2).2).2).1⟩⟩, .int .i64 ((((((jnxtS (yb3_0l17, yb3_1l17, yown2_0l17)).1).2).2).2).2)], rfl, rfl, ⟨[.int .i64 yb3_1l17], [.int .i64 ((((jnxtS (yb3_0l17, yb3_1l17, yown2_0l17)).2.2).2).1), .string ⟨⟨(((((jnxtS (yb3_0l17, yb3_1l17, yown2_0l17)).1).2).2).2).1⟩⟩, .int .i64 ((((((jnxtS (yb3_0l17, yb3_1l17, yown2_0l17)).1).2).2).2).2)], rfl, rfl, ⟨[.int .i64 ((((jnxtS (yb3_0l17, yb3_1l17, yown2_0l17)).2.2).2).1)], [.string ⟨⟨(((((jnxtS (yb3_0l17, yb3_1l17, yown2_0l17)).1).2).2).2).1⟩⟩, .int .i64 ((((((jnxtS (yb3_0l17, yb3_1l17, yown2_0l17)).1).2).2).2).2)], rfl, rfl, ⟨[.string ⟨⟨(((((jnxtS (yb3_0l17, yb3_1l17, yown2_0l17)).1).2).2).2).1⟩⟩], [.int .i64 ((((((jnxtS (yb3_0l17, yb3_1l17, yown2_0l17)).1).2).2).2).2)], rfl, rfl, rfl⟩⟩⟩⟩ rfl)
              refine OkM.tail rfl rfl (OpOk.lit (E := 39) (.pair (.int .i64) (.pair (.int .i64) (.pair (.int .i64) (.pair (.str) (.int .i64))))) ([(((jnxtS (yb3_0l17, yb3_1l17, yown2_0l17)).1).1, yb3_1l17, (((jnxtS (yb3_0l17, yb3_1l17, yown2_0l17)).2.2).2).1, (((((jnxtS (yb3_0l17, yb3_1l17, yown2_0l17)).1).2).2).2).1, (((((jnxtS (yb3_0l17, yb3_1l17, yown2_0l17)).1).2).2).2).2)] : List (Int × Int × Int × List UInt8 × Int)) ([.int .i64 (((jnxtS (yb3_0l17, yb3_1l17, yown2_0l17)).1).1), .int .i64 yb3_1l17, .int .i64 ((((jnxtS (yb3_0l17, yb3_1l17, yown2_0l17)).2.2).2).1), .string ⟨⟨(((((jnxtS (yb3_0l17, yb3_1l17, yown2_0l17)).1).2).2).2).1⟩⟩, .int .i64 ((((((jnxtS (yb3_0l17, yb3_1l17, yown2_0l17)).1).2).2).2).2)] : List Value) (by kernel_rfl) (by kernel_rfl) rfl (by kernel_rfl) hL11 rfl fun b11 => ?_)
              refine OkM.leaf (i := 6) (show _ = [.blk b9 (.cells #[.int .i64 (((jnxtS (yb3_0l17, yb3_1l17, yown2_0l17)).1).1), .int .i64 yb3_1l17, .int .i64 ((((jnxtS (yb3_0l17, yb3_1l17, yown2_0l17)).2.2).2).1), .string ⟨⟨(((((jnxtS (yb3_0l17, yb3_1l17, yown2_0l17)).1).2).2).2).1⟩⟩, .int .i64 ((((((jnxtS (yb3_0l17, yb3_1l17, yown2_0l17)).1).2).2).2).2)] 39), .blk b3 (.cells #[.string ⟨⟨((jnxtS (yb3_0l17, yb3_1l17, yown2_0l17)).2.2).1⟩⟩, .int .i64 ((((jnxtS (yb3_0l17, yb3_1l17, yown2_0l17)).2.2).2).1), .slice a8_0 ((((jnxtS (yb3_0l17, yb3_1l17, yown2_0l17)).2.2).2).2).length c8_0] 37), .own (.slice a8_0 ((((jnxtS (yb3_0l17, yb3_1l17, yown2_0l17)).2.2).2).2).length c8_0) 39 5 ((((jnxtS (yb3_0l17, yb3_1l17, yown2_0l17)).2.2).2).2).length xs8_0] from rfl) (Gle.refl _) (.cons _ (.cons_cons _ (.cons_cons _ (.cons_cons _ .slnil)))) ?_
              obtain ⟨hb12, hF⟩ := hF
              refine OkM.tail rfl rfl (OpOk.append' (e := .pair (.int .i64) (.pair (.int .i64) (.pair (.int .i64) (.pair (.str) (.int .i64))))) 48 2932031007402 3 0 rfl rfl rfl rfl hL8_0 hL11 Tryd.underlying22 (by kernel_rfl) (by kernel_rfl) (by kernel_rfl) hb12 rfl fun a12 c12 xs12 hL12 => ?_)
              refine OkM.leaf (i := 7) (show _ = [.blk b9 (.cells #[.int .i64 (((jnxtS (yb3_0l17, yb3_1l17, yown2_0l17)).1).1), .int .i64 yb3_1l17, .int .i64 ((((jnxtS (yb3_0l17, yb3_1l17, yown2_0l17)).2.2).2).1), .string ⟨⟨(((((jnxtS (yb3_0l17, yb3_1l17, yown2_0l17)).1).2).2).2).1⟩⟩, .int .i64 ((((((jnxtS (yb3_0l17, yb3_1l17, yown2_0l17)).1).2).2).2).2)] 39)] from rfl) (Gle.refl _) (.cons _ (.cons_cons _ (.cons _ (.cons _ .slnil)))) ?_
              refine OkM.batch 2 [(0, .string ⟨⟨xs⟩⟩), (4, .pointer (some ⟨b3, 0, none⟩)), (61, .slice a12 (((((jnxtS (yb3_0l17, yb3_1l17, yown2_0l17)).2.2).2).2) ++ ([(((jnxtS (yb3_0l17, yb3_1l17, yown2_0l17)).1).1, yb3_1l17, (((jnxtS (yb3_0l17, yb3_1l17, yown2_0l17)).2.2).2).1, (((((jnxtS (yb3_0l17, yb3_1l17, yown2_0l17)).1).2).2).2).1, (((((jnxtS (yb3_0l17, yb3_1l17, yown2_0l17)).1).2).2).2).2)] : List (Int × Int × Int × List UInt8 × Int))).length c12), (63, .pointer (some ⟨b3, 2, none⟩))] (by kernel_rfl) ?_
              refine OkM.tail rfl rfl (OpOk.store (k := 1) (v := .slice a12 (((((jnxtS (yb3_0l17, yb3_1l17, yown2_0l17)).2.2).2).2) ++ ([(((jnxtS (yb3_0l17, yb3_1l17, yown2_0l17)).1).1, yb3_1l17, (((jnxtS (yb3_0l17, yb3_1l17, yown2_0l17)).2.2).2).1, (((((jnxtS (yb3_0l17, yb3_1l17, yown2_0l17)).1).2).2).2).1, (((((jnxtS (yb3_0l17, yb3_1l17, yown2_0l17)).1).2).2).2).2)] : List (Int × Int × Int × List UInt8 × Int))).length c12) (H' := [.own (.slice (some ⟨b11, 0, none⟩) ([(((jnxtS (yb3_0l17, yb3_1l17, yown2_0l17)).1).1, yb3_1l17, (((jnxtS (yb3_0l17, yb3_1l17, yown2_0l17)).2.2).2).1, (((((jnxtS (yb3_0l17, yb3_1l17, yown2_0l17)).1).2).2).2).1, (((((jnxtS (yb3_0l17, yb3_1l17, yown2_0l17)).1).2).2).2).2)] : List (Int × Int × Int × List UInt8 × Int)).length 1) 39 5 ([(((jnxtS (yb3_0l17, yb3_1l17, yown2_0l17)).1).1, yb3_1l17, (((jnxtS (yb3_0l17, yb3_1l17, yown2_0l17)).2.2).2).1, (((((jnxtS (yb3_0l17, yb3_1l17, yown2_0l17)).1).2).2).2).1, (((((jnxtS (yb3_0l17, yb3_1l17, yown2_0l17)).1).2).2).2).2)] : List (Int × Int × Int × List UInt8 × Int)).length ([.int .i64 (((jnxtS (yb3_0l17, yb3_1l17, yown2_0l17)).1).1), .int .i64 yb3_1l17, .int .i64 ((((jnxtS (yb3_0l17, yb3_1l17, yown2_0l17)).2.2).2).1), .string ⟨⟨(((((jnxtS (yb3_0l17, yb3_1l17, yown2_0l17)).1).2).2).2).1⟩⟩, .int .i64 ((((((jnxtS (yb3_0l17, yb3_1l17, yown2_0l17)).1).2).2).2).2)] : List Value), .blk b9 (.cells #[.int .i64 (((jnxtS (yb3_0l17, yb3_1l17, yown2_0l17)).1).1), .int .i64 yb3_1l17, .int .i64 ((((jnxtS (yb3_0l17, yb3_1l17, yown2_0l17)).2.2).2).1), .string ⟨⟨(((((jnxtS (yb3_0l17, yb3_1l17, yown2_0l17)).1).2).2).2).1⟩⟩, .int .i64 ((((((jnxtS (yb3_0l17, yb3_1l17, yown2_0l17)).1).2).2).2).2)] 39), .blk b3 (.cells #[.string ⟨⟨((jnxtS (yb3_0l17, yb3_1l17, yown2_0l17)).2.2).1⟩⟩, .int .i64 ((((jnxtS (yb3_0l17, yb3_1l17, yown2_0l17)).2.2).2).1), .slice a12 (((((jnxtS (yb3_0l17, yb3_1l17, yown2_0l17)).2.2).2).2) ++ ([(((jnxtS (yb3_0l17, yb3_1l17, yown2_0l17)).1).1, yb3_1l17, (((jnxtS (yb3_0l17, yb3_1l17, yown2_0l17)).2.2).2).1, (((((jnxtS (yb3_0l17, yb3_1l17, yown2_0l17)).1).2).2).2).1, (((((jnxtS (yb3_0l17, yb3_1l17, yown2_0l17)).1).2).2).2).2)] : List (Int × Int × Int × List UInt8 × Int))).length c12] 37), .own (.slice a12 (((((jnxtS (yb3_0l17, yb3_1l17, yown2_0l17)).2.2).2).2) ++ ([(((jnxtS (yb3_0l17, yb3_1l17, yown2_0l17)).1).1, yb3_1l17, (((jnxtS (yb3_0l17, yb3_1l17, yown2_0l17)).2.2).2).1, (((((jnxtS (yb3_0l17, yb3_1l17, yown2_0l17)).1).2).2).2).1, (((((jnxtS (yb3_0l17, yb3_1l17, yown2_0l17)).1).2).2).2).2)] : List (Int × Int × Int × List UInt8 × Int))).length c12) 39 5 (((((jnxtS (yb3_0l17, yb3_1l17, yown2_0l17)).2.2).2).2) ++ ([(((jnxtS (yb3_0l17, yb3_1l17, yown2_0l17)).1).1, yb3_1l17, (((jnxtS (yb3_0l17, yb3_1l17, yown2_0l17)).2.2).2).1, (((((jnxtS (yb3_0l17, yb3_1l17, yown2_0l17)).1).2).2).2).1, (((((jnxtS (yb3_0l17, yb3_1l17, yown2_0l17)).1).2).2).2).2)] : List (Int × Int × Int × List UInt8 × Int))).length xs12]) 2 rfl rfl rfl (by kernel_rfl) (by kernel_rfl) (by kernel_rfl) (by kernel_rfl) (by kernel_rfl) ?_)
              refine OkM.leaf (i := 10) (show _ = [.blk b9 (.cells #[.int .i64 (((jnxtS (yb3_0l17, yb3_1l17, yown2_0l17)).1).1), .int .i64 yb3_1l17, .int .i64 ((((jnxtS (yb3_0l17, yb3_1l17, yown2_0l17)).2.2).2).1), .string ⟨⟨(((((jnxtS (yb3_0l17, yb3_1l17, yown2_0l17)).1).2).2).2).1⟩⟩, .int .i64 ((((((jnxtS (yb3_0l17, yb3_1l17, yown2_0l17)).1).2).2).2).2)] 39)] from rfl) (Gle.refl _) (.cons _ (.cons_cons _ (.cons _ (.cons _ .slnil)))) ?_
              refine OkM.nil ?_
              refine Ok.blockN ?_
              refine Ok.thenN ?_
              refine Ok.region ?_
              refine Ok.batch 1 [(0, .string ⟨⟨xs⟩⟩), (4, .pointer (some ⟨b3, 0, none⟩)), (23, .pointer (some ⟨b3, 0, none⟩))] (by kernel_rfl) ?_
              obtain ⟨hp13, hF⟩ := hF
              refine Ok.entries [2, 3, 0, 1] [.blk b3 (.cells #[.string ⟨⟨((jnxtS (yb3_0l17, yb3_1l17, yown2_0l17)).2.2).1⟩⟩, .int .i64 ((((jnxtS (yb3_0l17, yb3_1l17, yown2_0l17)).2.2).2).1), .slice a12 (((((jnxtS (yb3_0l17, yb3_1l17, yown2_0l17)).2.2).2).2) ++ ([(((jnxtS (yb3_0l17, yb3_1l17, yown2_0l17)).1).1, yb3_1l17, (((jnxtS (yb3_0l17, yb3_1l17, yown2_0l17)).2.2).2).1, (((((jnxtS (yb3_0l17, yb3_1l17, yown2_0l17)).1).2).2).2).1, (((((jnxtS (yb3_0l17, yb3_1l17, yown2_0l17)).1).2).2).2).2)] : List (Int × Int × Int × List UInt8 × Int))).length c12] 37), .own (.slice a12 (((((jnxtS (yb3_0l17, yb3_1l17, yown2_0l17)).2.2).2).2) ++ ([(((jnxtS (yb3_0l17, yb3_1l17, yown2_0l17)).1).1, yb3_1l17, (((jnxtS (yb3_0l17, yb3_1l17, yown2_0l17)).2.2).2).1, (((((jnxtS (yb3_0l17, yb3_1l17, yown2_0l17)).1).2).2).2).1, (((((jnxtS (yb3_0l17, yb3_1l17, yown2_0l17)).1).2).2).2).2)] : List (Int × Int × Int × List UInt8 × Int))).length c12) 39 5 (((((jnxtS (yb3_0l17, yb3_1l17, yown2_0l17)).2.2).2).2) ++ ([(((jnxtS (yb3_0l17, yb3_1l17, yown2_0l17)).1).1, yb3_1l17, (((jnxtS (yb3_0l17, yb3_1l17, yown2_0l17)).2.2).2).1, (((((jnxtS (yb3_0l17, yb3_1l17, yown2_0l17)).1).2).2).2).1, (((((jnxtS (yb3_0l17, yb3_1l17, yown2_0l17)).1).2).2).2).2)] : List (Int × Int × Int × List UInt8 × Int))).length xs12, .own (.slice (some ⟨b11, 0, none⟩) ([(((jnxtS (yb3_0l17, yb3_1l17, yown2_0l17)).1).1, yb3_1l17, (((jnxtS (yb3_0l17, yb3_1l17, yown2_0l17)).2.2).2).1, (((((jnxtS (yb3_0l17, yb3_1l17, yown2_0l17)).1).2).2).2).1, (((((jnxtS (yb3_0l17, yb3_1l17, yown2_0l17)).1).2).2).2).2)] : List (Int × Int × Int × List UInt8 × Int)).length 1) 39 5 ([(((jnxtS (yb3_0l17, yb3_1l17, yown2_0l17)).1).1, yb3_1l17, (((jnxtS (yb3_0l17, yb3_1l17, yown2_0l17)).2.2).2).1, (((((jnxtS (yb3_0l17, yb3_1l17, yown2_0l17)).1).2).2).2).1, (((((jnxtS (yb3_0l17, yb3_1l17, yown2_0l17)).1).2).2).2).2)] : List (Int × Int × Int × List UInt8 × Int)).length ([.int .i64 (((jnxtS (yb3_0l17, yb3_1l17, yown2_0l17)).1).1), .int .i64 yb3_1l17, .int .i64 ((((jnxtS (yb3_0l17, yb3_1l17, yown2_0l17)).2.2).2).1), .string ⟨⟨(((((jnxtS (yb3_0l17, yb3_1l17, yown2_0l17)).1).2).2).2).1⟩⟩, .int .i64 ((((((jnxtS (yb3_0l17, yb3_1l17, yown2_0l17)).1).2).2).2).2)] : List Value), .blk b9 (.cells #[.int .i64 (((jnxtS (yb3_0l17, yb3_1l17, yown2_0l17)).1).1), .int .i64 yb3_1l17, .int .i64 ((((jnxtS (yb3_0l17, yb3_1l17, yown2_0l17)).2.2).2).1), .string ⟨⟨(((((jnxtS (yb3_0l17, yb3_1l17, yown2_0l17)).1).2).2).2).1⟩⟩, .int .i64 ((((((jnxtS (yb3_0l17, yb3_1l17, yown2_0l17)).1).2).2).2).2)] 39)] (by decide) rfl ?_
              refine Ok.op rfl (OpOk.callH [.blk b3 (.cells #[.string ⟨⟨((jnxtS (yb3_0l17, yb3_1l17, yown2_0l17)).2.2).1⟩⟩, .int .i64 ((((jnxtS (yb3_0l17, yb3_1l17, yown2_0l17)).2.2).2).1), .slice a12 (((((jnxtS (yb3_0l17, yb3_1l17, yown2_0l17)).2.2).2).2) ++ ([(((jnxtS (yb3_0l17, yb3_1l17, yown2_0l17)).1).1, yb3_1l17, (((jnxtS (yb3_0l17, yb3_1l17, yown2_0l17)).2.2).2).1, (((((jnxtS (yb3_0l17, yb3_1l17, yown2_0l17)).1).2).2).2).1, (((((jnxtS (yb3_0l17, yb3_1l17, yown2_0l17)).1).2).2).2).2)] : List (Int × Int × Int × List UInt8 × Int))).length c12] 37), .own (.slice a12 (((((jnxtS (yb3_0l17, yb3_1l17, yown2_0l17)).2.2).2).2) ++ ([(((jnxtS (yb3_0l17, yb3_1l17, yown2_0l17)).1).1, yb3_1l17, (((jnxtS (yb3_0l17, yb3_1l17, yown2_0l17)).2.2).2).1, (((((jnxtS (yb3_0l17, yb3_1l17, yown2_0l17)).1).2).2).2).1, (((((jnxtS (yb3_0l17, yb3_1l17, yown2_0l17)).1).2).2).2).2)] : List (Int × Int × Int × List UInt8 × Int))).length c12) 39 5 (((((jnxtS (yb3_0l17, yb3_1l17, yown2_0l17)).2.2).2).2) ++ ([(((jnxtS (yb3_0l17, yb3_1l17, yown2_0l17)).1).1, yb3_1l17, (((jnxtS (yb3_0l17, yb3_1l17, yown2_0l17)).2.2).2).1, (((((jnxtS (yb3_0l17, yb3_1l17, yown2_0l17)).1).2).2).2).1, (((((jnxtS (yb3_0l17, yb3_1l17, yown2_0l17)).1).2).2).2).2)] : List (Int × Int × Int × List UInt8 × Int))).length xs12] [.own (.slice (some ⟨b11, 0, none⟩) ([(((jnxtS (yb3_0l17, yb3_1l17, yown2_0l17)).1).1, yb3_1l17, (((jnxtS (yb3_0l17, yb3_1l17, yown2_0l17)).2.2).2).1, (((((jnxtS (yb3_0l17, yb3_1l17, yown2_0l17)).1).2).2).2).1, (((((jnxtS (yb3_0l17, yb3_1l17, yown2_0l17)).1).2).2).2).2)] : List (Int × Int × Int × List UInt8 × Int)).length 1) 39 5 ([(((jnxtS (yb3_0l17, yb3_1l17, yown2_0l17)).1).1, yb3_1l17, (((jnxtS (yb3_0l17, yb3_1l17, yown2_0l17)).2.2).2).1, (((((jnxtS (yb3_0l17, yb3_1l17, yown2_0l17)).1).2).2).2).1, (((((jnxtS (yb3_0l17, yb3_1l17, yown2_0l17)).1).2).2).2).2)] : List (Int × Int × Int × List UInt8 × Int)).length ([.int .i64 (((jnxtS (yb3_0l17, yb3_1l17, yown2_0l17)).1).1), .int .i64 yb3_1l17, .int .i64 ((((jnxtS (yb3_0l17, yb3_1l17, yown2_0l17)).2.2).2).1), .string ⟨⟨(((((jnxtS (yb3_0l17, yb3_1l17, yown2_0l17)).1).2).2).2).1⟩⟩, .int .i64 ((((((jnxtS (yb3_0l17, yb3_1l17, yown2_0l17)).1).2).2).2).2)] : List Value), .blk b9 (.cells #[.int .i64 (((jnxtS (yb3_0l17, yb3_1l17, yown2_0l17)).1).1), .int .i64 yb3_1l17, .int .i64 ((((jnxtS (yb3_0l17, yb3_1l17, yown2_0l17)).2.2).2).1), .string ⟨⟨(((((jnxtS (yb3_0l17, yb3_1l17, yown2_0l17)).1).2).2).2).1⟩⟩, .int .i64 ((((((jnxtS (yb3_0l17, yb3_1l17, yown2_0l17)).1).2).2).2).2)] 39)] (enters (by kernel_rfl) (fun _ => by kernel_rfl)) rfl (jskip_c (((jnxtS (yb3_0l17, yb3_1l17, yown2_0l17)).2.2).1, (((jnxtS (yb3_0l17, yb3_1l17, yown2_0l17)).2.2).2).1, (((((jnxtS (yb3_0l17, yb3_1l17, yown2_0l17)).2.2).2).2) ++ ([(((jnxtS (yb3_0l17, yb3_1l17, yown2_0l17)).1).1, yb3_1l17, (((jnxtS (yb3_0l17, yb3_1l17, yown2_0l17)).2.2).2).1, (((((jnxtS (yb3_0l17, yb3_1l17, yown2_0l17)).1).2).2).2).1, (((((jnxtS (yb3_0l17, yb3_1l17, yown2_0l17)).1).2).2).2).2)] : List (Int × Int × Int × List UInt8 × Int)))) hL12 hp13) rfl fun g14 _ _ hx14 hV14 => ?_)
              obtain ⟨a14_0, c14_0, xs14_0, rfl, hL14_0, rfl⟩ := hV14
              replace hL11 := hL11.mono hx14.1
              replace hG0 := hG0.mono hx14.1
              refine Ok.nil ?_
              refine Ok.thenN ?_
              exact fun a W hA hW => ⟨k17, Nat.lt_succ_self _, g14, (((hxl17.trans hx8).trans hxj30).trans hx14), (jskipS (((jnxtS (yb3_0l17, yb3_1l17, yown2_0l17)).2.2).1, (((jnxtS (yb3_0l17, yb3_1l17, yown2_0l17)).2.2).2).1, (((((jnxtS (yb3_0l17, yb3_1l17, yown2_0l17)).2.2).2).2) ++ ([(((jnxtS (yb3_0l17, yb3_1l17, yown2_0l17)).1).1, yb3_1l17, (((jnxtS (yb3_0l17, yb3_1l17, yown2_0l17)).2.2).2).1, (((((jnxtS (yb3_0l17, yb3_1l17, yown2_0l17)).1).2).2).2).1, (((((jnxtS (yb3_0l17, yb3_1l17, yown2_0l17)).1).2).2).2).2)] : List (Int × Int × Int × List UInt8 × Int))))).1, ((jskipS (((jnxtS (yb3_0l17, yb3_1l17, yown2_0l17)).2.2).1, (((jnxtS (yb3_0l17, yb3_1l17, yown2_0l17)).2.2).2).1, (((((jnxtS (yb3_0l17, yb3_1l17, yown2_0l17)).2.2).2).2) ++ ([(((jnxtS (yb3_0l17, yb3_1l17, yown2_0l17)).1).1, yb3_1l17, (((jnxtS (yb3_0l17, yb3_1l17, yown2_0l17)).2.2).2).1, (((((jnxtS (yb3_0l17, yb3_1l17, yown2_0l17)).1).2).2).2).1, (((((jnxtS (yb3_0l17, yb3_1l17, yown2_0l17)).1).2).2).2).2)] : List (Int × Int × Int × List UInt8 × Int))))).2).1, a14_0, c14_0, ((jskipS (((jnxtS (yb3_0l17, yb3_1l17, yown2_0l17)).2.2).1, (((jnxtS (yb3_0l17, yb3_1l17, yown2_0l17)).2.2).2).1, (((((jnxtS (yb3_0l17, yb3_1l17, yown2_0l17)).2.2).2).2) ++ ([(((jnxtS (yb3_0l17, yb3_1l17, yown2_0l17)).1).1, yb3_1l17, (((jnxtS (yb3_0l17, yb3_1l17, yown2_0l17)).2.2).2).1, (((((jnxtS (yb3_0l17, yb3_1l17, yown2_0l17)).1).2).2).2).1, (((((jnxtS (yb3_0l17, yb3_1l17, yown2_0l17)).1).2).2).2).2)] : List (Int × Int × Int × List UInt8 × Int))))).2).2, xs14_0, hL14_0, hA.sub (by kernel_rfl), hW.sub (.cons_cons _ (.cons_cons _ (.cons _ (.cons _ .slnil)))), hF⟩
        · replace hF := hF.2 hc6
          refine Ok.exit ?_
          refine Ok.thenE ?_
          refine Ok.thenE ?_
          refine Ok.blockHit ?_
          refine Ok.thenN ?_
          refine Ok.seq ?_
          refine Ok.region ?_
          refine Ok.batch 3 [(66, .pointer (some ⟨b3, 2, none⟩))] (by kernel_rfl) ?_
          refine Ok.op rfl (OpOk.step (v := .slice ayown2_0l17 yown2_0l17.length cyown2_0l17) (Yields.load 0 rfl rfl Tryd.underlying22 rfl (by kernel_rfl)) rfl rfl ?_)
          refine Ok.batch 2 [(2, .slice ayown2_0l17 yown2_0l17.length cyown2_0l17), (3, .int .i64 0)] (by kernel_rfl) ?_
          refine Ok.nil ?_
          refine Ok.thenN ?_
          refine Ok.ret ?_
          refine Ok.freeze (H' := [.blk b3 (.cells #[.string ⟨⟨yb3_0l17⟩⟩, .int .i64 yb3_1l17, .slice ayown2_0l17 yown2_0l17.length cyown2_0l17] 37)]) 1 rfl hLyown2_0l17 rfl fun g17 hx17 hRf17 => ?_
          replace hG0 := hG0.mono hx17.1
          exact Ok.resP (vs := [.slice ayown2_0l17 yown2_0l17.length cyown2_0l17, .int .i64 0]) [] [] (by decide) rfl (.inl rfl) rfl (.cons (.tmp rfl) (.cons (.tmp rfl) .nil)) ((hx5.trans hxl17).trans hx17) ⟨yown2_0l17, 0, ayown2_0l17, cyown2_0l17, rfl, hRf17, rfl, hF⟩
theorem run_adv {x : RD} (hp : jtxtP x) (is : Int → Bool) (h : is (jpeekS x 0).1 = true) : x.2.1 < runE x is := by
  obtain ⟨h1, h2, h3⟩ := hp
  have e : (jpeekS x 0).1 = ((x.1.getD x.2.1.toNat 0).toNat : Int) := by
    unfold jpeekS; rw [Int.add_zero, if_t (decide_eq_true h3)]
  rw [e] at h
  unfold runE
  rw [drop_get (l := x.1) 0 (by omega), runN, if_t h]
  omega
theorem txN_adv (s : List UInt8) (o : List TK) (hs : s.length ≤ 1000000) : ∀ (k : Nat) (i : Int) (acc : List Int), 0 ≤ i → i ≤ (s.length : Int) → i ≤ (txN s o k i acc).2.2.2.1
  | 0, i, acc, h1, h2 => Int.le_refl _
  | k + 1, i, acc, h1, h2 => by
    rw [txN]
    split
    · rename_i hn
      have hlt := of_decide_eq_true hn
      have hr := esc_rd (s, i + 1, o) ⟨hs, by show 0 ≤ i + 1; omega, by show i + 1 ≤ (s.length : Int); omega⟩
      have hr2 : i + 1 + (jescS (s, i + 1, o)).2.1 ≤ (s.length : Int) := hr.2
      have h3 : i ≤ i + 1 := by omega
      split
      · exact h3
      · split
        · exact h3
        · split
          · split
            · exact h3
            · have := txN_adv s o hs k _ (acc ++ [(jescS (s, i + 1, o)).1]) (by have := hr.1; omega) hr2
              have := hr.1; omega
          · have := txN_adv s o hs k (i + 1) (acc ++ [((s.getD i.toNat 0).toNat : Int)]) (by omega) (by omega)
            omega
    · exact Int.le_refl _
theorem nxt_rd {x : RD} (hp : jtxtP x) : (jnxtS x).2.2.1 = x.1 ∧ (jnxtS x).2.2.2.2 = x.2.2 ∧ rdP (jnxtS x).2.2 ∧ ((jnxtS x).2.1 = 0 → x.2.1 < (jnxtS x).2.2.2.1) := by
  have hr : rdP x := ⟨hp.1, hp.2.1, by have := hp.2.2; omega⟩
  have hp3 := hp.2.2
  have hp2 := hp.2.1
  unfold jnxtS
  split
  · rename_i h
    refine ⟨rfl, rfl, run_rd hr _, fun _ => run_adv hp (fun y0 => jnbM y0) ?_⟩
    show (jletM _ || jdigM _) = true
    rw [h]; rfl
  · split
    · rename_i h
      have ha := run_adv hp (fun y0 => jdigM y0) h
      unfold jnumS
      split
      · exact ⟨rfl, rfl, run_rd hr _, fun _ => ha⟩
      · split <;> exact ⟨rfl, rfl, run_rd hr _, fun _ => ha⟩
    · split
      · have h := txN_rd x.1 x.2.2 hp.1 (x.1.length + 1) (x.2.1 + 1) [] (by omega) (by omega)
        have h' := txN_adv x.1 x.2.2 hp.1 (x.1.length + 1) (x.2.1 + 1) [] (by omega) (by omega)
        exact ⟨h.2.1, h.2.2, h.1, fun _ => by show x.2.1 < (txN x.1 x.2.2 (x.1.length + 1) (x.2.1 + 1) []).2.2.2.1; omega⟩
      · unfold jsigS
        split
        · rename_i h
          have hb : ¬ (x.2.1 + 2 > (x.1.length : Int)) := fun hc => by unfold sgT at h; rw [decide_eq_true hc] at h; exact Bool.false_ne_true h
          exact ⟨rfl, rfl, ⟨hp.1, by show 0 ≤ x.2.1 + 2; omega, by show x.2.1 + 2 ≤ (x.1.length : Int); omega⟩, fun _ => by show x.2.1 < x.2.1 + 2; omega⟩
        · split
          · exact ⟨rfl, rfl, ⟨hp.1, by show 0 ≤ x.2.1 + 1; omega, by show x.2.1 + 1 ≤ (x.1.length : Int); omega⟩, fun _ => by show x.2.1 < x.2.1 + 1; omega⟩
          · exact ⟨rfl, rfl, hr, fun h => absurd (show (4 : Int) = 0 from h) (by decide)⟩
theorem skip_rd {x : RD} (hp : rdP x) : rdP (jskipS x) ∧ x.2.1 ≤ (jskipS x).2.1 := by
  obtain ⟨h1, h2, h3⟩ := hp
  have h := skN_le (x.1.drop x.2.1.toNat) false
  rw [List.length_drop] at h
  refine ⟨⟨h1, ?_, ?_⟩, ?_⟩
  · show 0 ≤ x.2.1 + (skN (x.1.drop (Int.toNat x.2.1)) false : Nat); omega
  · show x.2.1 + (skN (x.1.drop (Int.toNat x.2.1)) false : Nat) ≤ (x.1.length : Int); omega
  · show x.2.1 ≤ x.2.1 + (skN (x.1.drop (Int.toNat x.2.1)) false : Nat); omega
def tkE (x : RD) : Int := if ((jnxtS x).2.1 == 0 && (x.2.2.length : Int) == 1000) = true then 2 else (jnxtS x).2.1
def tkA (x : RD) : RD := jskipS (x.1, (jnxtS x).2.2.2.1, x.2.2 ++ [((jnxtS x).1.1, x.2.1, (jnxtS x).2.2.2.1, (jnxtS x).1.2.2.2.1, (jnxtS x).1.2.2.2.2)])
/-- the rest of the tokens -/
def tkN : Nat → RD → List TK × Int
  | 0, x => (x.2.2, 0)
  | k + 1, x => if decide (x.2.1 < (x.1.length : Int)) = true then (if (tkE x != 0) = true then ([], tkE x) else tkN k (tkA x)) else (x.2.2, 0)
def jtokS (s : List UInt8) : List TK × Int := if decide ((s.length : Int) > 2000) = true then ([], 2) else tkN (s.length + 1) (jskipS (s, 0, []))
theorem jtok_F (s : List UInt8) : jtokF s (fun r e => (r, e) = jtokS s) := by
  refine ⟨fun h => by unfold jtokS; rw [if_t h], fun h => ?_⟩
  have hl := of_decide_eq_false h
  have e0 : jtokS s = tkN (s.length + 1) (jskipS (s, 0, [])) := by unfold jtokS; rw [if_f h]
  have loop : ∀ (k : Nat) (x : RD), (s.length : Int) ≤ x.2.1 + k → x.1 = s → rdP x → (x.2.2.length : Int) ≤ x.2.1 → jtokS s = tkN (k + 1) x → jtokl17 s (fun r e => (r, e) = jtokS s) (k + 1) x.1 x.2.1 x.2.2 := by
    intro k
    induction k with
    | zero =>
      intro x hk hx hr ho he
      have hn : decide (x.2.1 < (s.length : Int)) = false := decide_eq_false (by omega)
      rw [tkN, hx, if_f hn] at he
      exact ⟨fun h => (Bool.false_ne_true (hn.symm.trans h)).elim, fun _ => he.symm⟩
    | succ k ih =>
      intro x hk hx hr ho he
      rw [tkN, hx] at he
      refine ⟨fun hn => ?_, fun hn => by rw [if_f hn] at he; exact he.symm⟩
      rw [if_t hn] at he
      have hlt := of_decide_eq_true hn
      have hp : jtxtP x := ⟨hr.1, hr.2.1, by rw [hx]; exact hlt⟩
      obtain ⟨n1, n2, n3, n4⟩ := nxt_rd hp
      have key : jtokj30 (fun r e => (r, e) = jtokS s) x.1 x.2.1 x.2.2 (jtokl17 s (fun r e => (r, e) = jtokS s) (k + 1)) := by
        unfold jtokj30
        rw [show ((x.1, x.2.1, x.2.2) : RD) = x from rfl, n1, n2]
        refine ⟨fun hb => ?_, fun hb => ?_⟩
        · rw [if_t (show (tkE x != 0) = true from hb)] at he
          exact he.symm
        · rw [if_f (show (tkE x != 0) = false from hb)] at he
          have hE : tkE x = 0 := by
            have hb' : (tkE x != 0) = false := hb
            simpa using hb'
          have hq : (jnxtS x).2.1 = 0 := by
            unfold tkE at hE
            split at hE
            · exact absurd hE (by decide)
            · exact hE
          have n5 := n4 hq
          have n6 : rdP (x.1, (jnxtS x).2.2.2.1, x.2.2 ++ [((jnxtS x).1.1, x.2.1, (jnxtS x).2.2.2.1, (jnxtS x).1.2.2.2.1, (jnxtS x).1.2.2.2.2)]) := ⟨hr.1, n3.2.1, by rw [← n1]; exact n3.2.2⟩
          have hsk := skip_rd n6
          have hsk2 : (jnxtS x).2.2.2.1 ≤ (tkA x).2.1 := hsk.2
          have hr1 := hr.1
          have hr3 := hr.2.2
          have hx3 : (x.2.2.length : Int) + 1 ≤ (tkA x).2.1 := by omega
          refine ⟨by rw [List.length_append]; simp only [List.length_cons, List.length_nil]; omega, n6, ?_⟩
          exact ih (tkA x) (by omega) hx hsk.1 (by show ((x.2.2 ++ [_]).length : Int) ≤ _; rw [List.length_append]; simp only [List.length_cons, List.length_nil]; omega) he
      have key2 : jtokj31 (fun r e => (r, e) = jtokS s) x.1 x.2.1 x.2.2 (jtokl17 s (fun r e => (r, e) = jtokS s) (k + 1)) := ⟨fun _ => key, fun _ => key⟩
      exact ⟨hp, fun _ => key2, fun _ => key2⟩
  have h0 : rdP (s, 0, []) := ⟨by show s.length ≤ 1000000; omega, Int.le_refl _, by show (0 : Int) ≤ (s.length : Int); omega⟩
  have hs := skip_rd h0
  exact ⟨h0, _, loop s.length (jskipS (s, 0, [])) (by have : (0 : Int) ≤ (jskipS (s, 0, [])).2.1 := hs.1.2.1; omega) rfl hs.1 hs.1.2.1 e0⟩
set_option linter.unusedVariables false in
theorem jtok_c {g : Ghost} (xs : List UInt8) (hG0 : GlobL g 0 (.int .u8) DSpace)  : CallsH Tryd.prog 5 #[.string ⟨⟨xs⟩⟩] g [] (fun g' H' v => ∃ (ar0_0 : Option Addr) (cr0_0 : Nat), v = .tuple #[.slice ar0_0 ((jtokS xs).1).length cr0_0, .int .i64 ((jtokS xs).2)] ∧ Rep g' (.slice (.pair (.int .i64) (.pair (.int .i64) (.pair (.int .i64) (.pair (.str) (.int .i64)))))) [.slice ar0_0 ((jtokS xs).1).length cr0_0] ((jtokS xs).1) ∧ H' = []) :=
  (jtok_ok xs hG0 _ (jtok_F xs)).mono (by rintro g' H' v _ ⟨r0, r1, ar0_0, cr0_0, rfl, hRr0_0, rfl, hK⟩; obtain ⟨rfl, rfl⟩ : r0 = (jtokS xs).1 ∧ r1 = (jtokS xs).2 := ⟨congrArg (fun z => z.1) hK, congrArg (fun z => z.2) hK⟩; exact ⟨ar0_0, cr0_0, rfl, hRr0_0, rfl⟩)
def jquoj18 (xs : List UInt8) (x10l11 : Int) (yown1_0l11 : List (Int)) (C11 : Int → (List (Int)) → Prop) : Prop :=
  C11 (IntKind.wrap .i64 (x10l11 + 1)) (if ((((xs.getD (Int.toNat x10l11) 0).toNat : Int) == 34) || (((xs.getD (Int.toNat x10l11) 0).toNat : Int) == 92)) = true then (Bld.wsS yown1_0l11 (([92] : List UInt8) ++ (bytesOf ([((xs.getD (Int.toNat x10l11) 0).toNat : Int)] : List (Int))))).2.2 else (if (((xs.getD (Int.toNat x10l11) 0).toNat : Int) == 10) = true then (Bld.wsS yown1_0l11 ([92, 110] : List UInt8)).2.2 else (if (((xs.getD (Int.toNat x10l11) 0).toNat : Int) == 9) = true then (Bld.wsS yown1_0l11 ([92, 116] : List UInt8)).2.2 else (if ((decide (((xs.getD (Int.toNat x10l11) 0).toNat : Int) < 32)) || (decide (((xs.getD (Int.toNat x10l11) 0).toNat : Int) > 126))) = true then (Bld.wsS yown1_0l11 ((([92, 120] : List UInt8) ++ ((([48, 49, 50, 51, 52, 53, 54, 55, 56, 57, 97, 98, 99, 100, 101, 102] : List UInt8).take (Int.toNat (IntKind.wrap .u8 ((Int.fdiv ((xs.getD (Int.toNat x10l11) 0).toNat : Int) (2 ^ 4)) + 1)))).drop (Int.toNat (Int.fdiv ((xs.getD (Int.toNat x10l11) 0).toNat : Int) (2 ^ 4))))) ++ ((([48, 49, 50, 51, 52, 53, 54, 55, 56, 57, 97, 98, 99, 100, 101, 102] : List UInt8).take (Int.toNat (IntKind.wrap .u8 ((bitAnd .u8 ((xs.getD (Int.toNat x10l11) 0).toNat : Int) 15) + 1)))).drop (Int.toNat (bitAnd .u8 ((xs.getD (Int.toNat x10l11) 0).toNat : Int) 15))))).2.2 else (Bld.wbS yown1_0l11 ((xs.getD (Int.toNat x10l11) 0).toNat : Int)).2))))
def jquol11b (xs : List UInt8) (K : (List UInt8) → Prop) (x10l11 : Int) (yown1_0l11 : List (Int)) (C11 : Int → (List (Int)) → Prop) : Prop :=
  ((decide (x10l11 < (xs.length : Int))) = true → (0 : Int) ≤ x10l11 ∧ Int.toNat x10l11 < xs.length ∧ ((((((xs.getD (Int.toNat x10l11) 0).toNat : Int) == 34) || (((xs.getD (Int.toNat x10l11) 0).toNat : Int) == 92))) = true → ([92] : List UInt8).length + (bytesOf ([((xs.getD (Int.toNat x10l11) 0).toNat : Int)] : List (Int))).length ≤ maxLen ∧ Bld.wsP yown1_0l11 (([92] : List UInt8) ++ (bytesOf ([((xs.getD (Int.toNat x10l11) 0).toNat : Int)] : List (Int)))) ∧ jquoj18 xs x10l11 yown1_0l11 C11) ∧ ((((((xs.getD (Int.toNat x10l11) 0).toNat : Int) == 34) || (((xs.getD (Int.toNat x10l11) 0).toNat : Int) == 92))) = false → (((((xs.getD (Int.toNat x10l11) 0).toNat : Int) == 10)) = true → Bld.wsP yown1_0l11 ([92, 110] : List UInt8) ∧ jquoj18 xs x10l11 yown1_0l11 C11) ∧ (((((xs.getD (Int.toNat x10l11) 0).toNat : Int) == 10)) = false → (((((xs.getD (Int.toNat x10l11) 0).toNat : Int) == 9)) = true → Bld.wsP yown1_0l11 ([92, 116] : List UInt8) ∧ jquoj18 xs x10l11 yown1_0l11 C11) ∧ (((((xs.getD (Int.toNat x10l11) 0).toNat : Int) == 9)) = false → ((((decide (((xs.getD (Int.toNat x10l11) 0).toNat : Int) < 32)) || (decide (((xs.getD (Int.toNat x10l11) 0).toNat : Int) > 126)))) = true → (0 : Int) ≤ (Int.fdiv ((xs.getD (Int.toNat x10l11) 0).toNat : Int) (2 ^ 4)) ∧ ((Int.fdiv ((xs.getD (Int.toNat x10l11) 0).toNat : Int) (2 ^ 4)) : Int) ≤ (IntKind.wrap .u8 ((Int.fdiv ((xs.getD (Int.toNat x10l11) 0).toNat : Int) (2 ^ 4)) + 1)) ∧ (IntKind.wrap .u8 ((Int.fdiv ((xs.getD (Int.toNat x10l11) 0).toNat : Int) (2 ^ 4)) + 1)) ≤ (([48, 49, 50, 51, 52, 53, 54, 55, 56, 57, 97, 98, 99, 100, 101, 102] : List UInt8).length : Int) ∧ ([92, 120] : List UInt8).length + ((([48, 49, 50, 51, 52, 53, 54, 55, 56, 57, 97, 98, 99, 100, 101, 102] : List UInt8).take (Int.toNat (IntKind.wrap .u8 ((Int.fdiv ((xs.getD (Int.toNat x10l11) 0).toNat : Int) (2 ^ 4)) + 1)))).drop (Int.toNat (Int.fdiv ((xs.getD (Int.toNat x10l11) 0).toNat : Int) (2 ^ 4)))).length ≤ maxLen ∧ (0 : Int) ≤ (bitAnd .u8 ((xs.getD (Int.toNat x10l11) 0).toNat : Int) 15) ∧ ((bitAnd .u8 ((xs.getD (Int.toNat x10l11) 0).toNat : Int) 15) : Int) ≤ (IntKind.wrap .u8 ((bitAnd .u8 ((xs.getD (Int.toNat x10l11) 0).toNat : Int) 15) + 1)) ∧ (IntKind.wrap .u8 ((bitAnd .u8 ((xs.getD (Int.toNat x10l11) 0).toNat : Int) 15) + 1)) ≤ (([48, 49, 50, 51, 52, 53, 54, 55, 56, 57, 97, 98, 99, 100, 101, 102] : List UInt8).length : Int) ∧ (([92, 120] : List UInt8) ++ ((([48, 49, 50, 51, 52, 53, 54, 55, 56, 57, 97, 98, 99, 100, 101, 102] : List UInt8).take (Int.toNat (IntKind.wrap .u8 ((Int.fdiv ((xs.getD (Int.toNat x10l11) 0).toNat : Int) (2 ^ 4)) + 1)))).drop (Int.toNat (Int.fdiv ((xs.getD (Int.toNat x10l11) 0).toNat : Int) (2 ^ 4))))).length + ((([48, 49, 50, 51, 52, 53, 54, 55, 56, 57, 97, 98, 99, 100, 101, 102] : List UInt8).take (Int.toNat (IntKind.wrap .u8 ((bitAnd .u8 ((xs.getD (Int.toNat x10l11) 0).toNat : Int) 15) + 1)))).drop (Int.toNat (bitAnd .u8 ((xs.getD (Int.toNat x10l11) 0).toNat : Int) 15))).length ≤ maxLen ∧ Bld.wsP yown1_0l11 ((([92, 120] : List UInt8) ++ ((([48, 49, 50, 51, 52, 53, 54, 55, 56, 57, 97, 98, 99, 100, 101, 102] : List UInt8).take (Int.toNat (IntKind.wrap .u8 ((Int.fdiv ((xs.getD (Int.toNat x10l11) 0).toNat : Int) (2 ^ 4)) + 1)))).drop (Int.toNat (Int.fdiv ((xs.getD (Int.toNat x10l11) 0).toNat : Int) (2 ^ 4))))) ++ ((([48, 49, 50, 51, 52, 53, 54, 55, 56, 57, 97, 98, 99, 100, 101, 102] : List UInt8).take (Int.toNat (IntKind.wrap .u8 ((bitAnd .u8 ((xs.getD (Int.toNat x10l11) 0).toNat : Int) 15) + 1)))).drop (Int.toNat (bitAnd .u8 ((xs.getD (Int.toNat x10l11) 0).toNat : Int) 15)))) ∧ jquoj18 xs x10l11 yown1_0l11 C11) ∧ ((((decide (((xs.getD (Int.toNat x10l11) 0).toNat : Int) < 32)) || (decide (((xs.getD (Int.toNat x10l11) 0).toNat : Int) > 126)))) = false → Bld.wbP yown1_0l11 ((xs.getD (Int.toNat x10l11) 0).toNat : Int) ∧ jquoj18 xs x10l11 yown1_0l11 C11))))) ∧ ((decide (x10l11 < (xs.length : Int))) = false → Bld.wbP yown1_0l11 34 ∧ Bld.stP ((Bld.wbS yown1_0l11 34).2) ∧ K (bytesOf ((Bld.wbS yown1_0l11 34).2)))
def jquol11 (xs : List UInt8) (K : (List UInt8) → Prop) : Nat → Int → (List (Int)) → Prop
  | 0, _, _ => False
  | k + 1, x10l11, yown1_0l11 => jquol11b xs K x10l11 yown1_0l11 (jquol11 xs K k)
def jquoF (xs : List UInt8) (K : (List UInt8) → Prop) : Prop :=
  Bld.wbP ([] : List (Int)) 34 ∧ ∃ k, jquol11 xs K k 0 ((Bld.wbS ([] : List (Int)) 34).2)
set_option maxHeartbeats 4000000 in
set_option maxRecDepth 100000 in
set_option linter.unusedVariables false in
theorem jquo_ok {g : Ghost} (xs : List UInt8) (K : (List UInt8) → Prop)
    (hF : jquoF xs K) : CallsH Tryd.prog 8 #[.string ⟨⟨xs⟩⟩] g [] (fun g' H' v => ∃ (r0 : List UInt8), v = .string ⟨⟨r0⟩⟩ ∧ H' = [] ∧ K r0) := by
  refine CallsH.enter 65 [(0, .string ⟨⟨xs⟩⟩)] Tryd.func8 rfl (by kernel_rfl) (by kernel_rfl) (by kernel_rfl) fun w0 => ?_
  refine Ok.seq ?_
  refine Ok.region ?_
  refine Ok.batch 1 [(0, .string ⟨⟨xs⟩⟩)] (by kernel_rfl) ?_
  refine Ok.nil ?_
  refine Ok.thenN ?_
  refine Ok.seq ?_
  refine Ok.region ?_
  have hL1 : RepL g (.int .u8) [] [] := rfl
  refine Ok.ownNil 5 1 ?_
  refine Ok.op rfl (OpOk.alloc (z := .agg #[.pointer none, .slice none 0 0]) (cs := #[.pointer none, .slice none 0 0]) (by kernel_rfl) (by kernel_rfl) rfl fun b2 => ?_)
  refine Ok.bhd ?_
  refine Ok.nil ?_
  refine Ok.thenN ?_
  refine Ok.seq ?_
  refine Ok.region ?_
  obtain ⟨hp3, hF⟩ := hF
  refine Ok.op rfl (OpOk.callH [.bhd b2 50 (.slice none ([] : List (Int)).length 0), .own (.slice none ([] : List (Int)).length 0) 5 1 ([] : List (Int)).length ([])] [] (enters (by kernel_rfl) (fun _ => by kernel_rfl)) rfl (Bld.wb_c ([] : List (Int)) 34 hL1 hp3) rfl fun g4 _ _ hx4 hV4 => ?_)
  obtain ⟨a4_0, c4_0, xs4_0, rfl, hL4_0, rfl⟩ := hV4
  refine Ok.nil ?_
  refine Ok.thenN ?_
  refine Ok.seq ?_
  refine Ok.seq ?_
  refine Ok.region ?_
  refine Ok.batch 3 [(0, .string ⟨⟨xs⟩⟩), (3, .pointer (some ⟨b2, 0, none⟩)), (9, .int .i64 (xs.length : Int)), (10, .int .i64 0)] (by kernel_rfl) ?_
  refine Ok.nil ?_
  refine Ok.thenN ?_
  refine Ok.block ?_
  obtain ⟨k, hF⟩ := hF
  refine Ok.loop (fun k a W => ∃ gl11 : Ghost, Gext w0 g4 gl11 ∧ ∃ (x10l11 : Int) (ayown1_0l11 : Option Addr) (cyown1_0l11 : Nat) (yown1_0l11 : List (Int)) (xsyown1_0l11 : List Value), RepL gl11 (.int .u8) xsyown1_0l11 yown1_0l11 ∧ StA 65 [(0, .string ⟨⟨xs⟩⟩), (3, .pointer (some ⟨b2, 0, none⟩)), (9, .int .i64 (xs.length : Int)), (10, .int .i64 x10l11)] a ∧ StW w0 [.bhd b2 50 (.slice ayown1_0l11 yown1_0l11.length cyown1_0l11), .own (.slice ayown1_0l11 yown1_0l11.length cyown1_0l11) 5 1 yown1_0l11.length xsyown1_0l11] gl11 W ∧ jquol11 xs K k x10l11 yown1_0l11) k ?_ ?_
  ·
    exact fun a W hA hW => ⟨g4, (Gext.refl w0 g4), 0, a4_0, c4_0, (Bld.wbS ([] : List (Int)) 34).2, xs4_0, hL4_0, hA.sub (by kernel_rfl), hW, hF⟩
  ·
    clear hF
    rintro k11 a W ⟨gl11, hxl11, x10l11, ayown1_0l11, cyown1_0l11, yown1_0l11, xsyown1_0l11, hLyown1_0l11, hA, hW, hF⟩
    cases k11 with
    | zero => exact (hF : False).elim
    | succ k11 =>
      refine (?_ : Ok _ _ _ _ _ _) a W hA hW
      clear hA hW
      refine Ok.seq ?_
      refine Ok.region ?_
      refine Ok.batch 1 [(0, .string ⟨⟨xs⟩⟩), (3, .pointer (some ⟨b2, 0, none⟩)), (9, .int .i64 (xs.length : Int)), (10, .int .i64 x10l11), (11, .bool (decide (x10l11 < (xs.length : Int))))] (by kernel_rfl) ?_
      refine Ok.nil ?_
      refine Ok.thenN ?_
      refine Ok.seq ?_
      refine Ok.cond (b := decide (x10l11 < (xs.length : Int))) rfl (fun hc5 => ?_) (fun hc5 => ?_)
      · replace hF := hF.1 hc5
        refine Ok.skip ?_
        refine Ok.thenN ?_
        refine Ok.cut (fun a W => ∃ gj18 : Ghost, Gext w0 gl11 gj18 ∧ ∃ (ayown1_0j18 : Option Addr) (cyown1_0j18 : Nat) (xsyown1_0j18 : List Value), RepL gj18 (.int .u8) xsyown1_0j18 (if ((((xs.getD (Int.toNat x10l11) 0).toNat : Int) == 34) || (((xs.getD (Int.toNat x10l11) 0).toNat : Int) == 92)) = true then (Bld.wsS yown1_0l11 (([92] : List UInt8) ++ (bytesOf ([((xs.getD (Int.toNat x10l11) 0).toNat : Int)] : List (Int))))).2.2 else (if (((xs.getD (Int.toNat x10l11) 0).toNat : Int) == 10) = true then (Bld.wsS yown1_0l11 ([92, 110] : List UInt8)).2.2 else (if (((xs.getD (Int.toNat x10l11) 0).toNat : Int) == 9) = true then (Bld.wsS yown1_0l11 ([92, 116] : List UInt8)).2.2 else (if ((decide (((xs.getD (Int.toNat x10l11) 0).toNat : Int) < 32)) || (decide (((xs.getD (Int.toNat x10l11) 0).toNat : Int) > 126))) = true then (Bld.wsS yown1_0l11 ((([92, 120] : List UInt8) ++ ((([48, 49, 50, 51, 52, 53, 54, 55, 56, 57, 97, 98, 99, 100, 101, 102] : List UInt8).take (Int.toNat (IntKind.wrap .u8 ((Int.fdiv ((xs.getD (Int.toNat x10l11) 0).toNat : Int) (2 ^ 4)) + 1)))).drop (Int.toNat (Int.fdiv ((xs.getD (Int.toNat x10l11) 0).toNat : Int) (2 ^ 4))))) ++ ((([48, 49, 50, 51, 52, 53, 54, 55, 56, 57, 97, 98, 99, 100, 101, 102] : List UInt8).take (Int.toNat (IntKind.wrap .u8 ((bitAnd .u8 ((xs.getD (Int.toNat x10l11) 0).toNat : Int) 15) + 1)))).drop (Int.toNat (bitAnd .u8 ((xs.getD (Int.toNat x10l11) 0).toNat : Int) 15))))).2.2 else (Bld.wbS yown1_0l11 ((xs.getD (Int.toNat x10l11) 0).toNat : Int)).2)))) ∧ StA 65 [(0, .string ⟨⟨xs⟩⟩), (3, .pointer (some ⟨b2, 0, none⟩)), (9, .int .i64 (xs.length : Int)), (10, .int .i64 x10l11)] a ∧ StW w0 [.bhd b2 50 (.slice ayown1_0j18 (if ((((xs.getD (Int.toNat x10l11) 0).toNat : Int) == 34) || (((xs.getD (Int.toNat x10l11) 0).toNat : Int) == 92)) = true then (Bld.wsS yown1_0l11 (([92] : List UInt8) ++ (bytesOf ([((xs.getD (Int.toNat x10l11) 0).toNat : Int)] : List (Int))))).2.2 else (if (((xs.getD (Int.toNat x10l11) 0).toNat : Int) == 10) = true then (Bld.wsS yown1_0l11 ([92, 110] : List UInt8)).2.2 else (if (((xs.getD (Int.toNat x10l11) 0).toNat : Int) == 9) = true then (Bld.wsS yown1_0l11 ([92, 116] : List UInt8)).2.2 else (if ((decide (((xs.getD (Int.toNat x10l11) 0).toNat : Int) < 32)) || (decide (((xs.getD (Int.toNat x10l11) 0).toNat : Int) > 126))) = true then (Bld.wsS yown1_0l11 ((([92, 120] : List UInt8) ++ ((([48, 49, 50, 51, 52, 53, 54, 55, 56, 57, 97, 98, 99, 100, 101, 102] : List UInt8).take (Int.toNat (IntKind.wrap .u8 ((Int.fdiv ((xs.getD (Int.toNat x10l11) 0).toNat : Int) (2 ^ 4)) + 1)))).drop (Int.toNat (Int.fdiv ((xs.getD (Int.toNat x10l11) 0).toNat : Int) (2 ^ 4))))) ++ ((([48, 49, 50, 51, 52, 53, 54, 55, 56, 57, 97, 98, 99, 100, 101, 102] : List UInt8).take (Int.toNat (IntKind.wrap .u8 ((bitAnd .u8 ((xs.getD (Int.toNat x10l11) 0).toNat : Int) 15) + 1)))).drop (Int.toNat (bitAnd .u8 ((xs.getD (Int.toNat x10l11) 0).toNat : Int) 15))))).2.2 else (Bld.wbS yown1_0l11 ((xs.getD (Int.toNat x10l11) 0).toNat : Int)).2)))).length cyown1_0j18), .own (.slice ayown1_0j18 (if ((((xs.getD (Int.toNat x10l11) 0).toNat : Int) == 34) || (((xs.getD (Int.toNat x10l11) 0).toNat : Int) == 92)) = true then (Bld.wsS yown1_0l11 (([92] : List UInt8) ++ (bytesOf ([((xs.getD (Int.toNat x10l11) 0).toNat : Int)] : List (Int))))).2.2 else (if (((xs.getD (Int.toNat x10l11) 0).toNat : Int) == 10) = true then (Bld.wsS yown1_0l11 ([92, 110] : List UInt8)).2.2 else (if (((xs.getD (Int.toNat x10l11) 0).toNat : Int) == 9) = true then (Bld.wsS yown1_0l11 ([92, 116] : List UInt8)).2.2 else (if ((decide (((xs.getD (Int.toNat x10l11) 0).toNat : Int) < 32)) || (decide (((xs.getD (Int.toNat x10l11) 0).toNat : Int) > 126))) = true then (Bld.wsS yown1_0l11 ((([92, 120] : List UInt8) ++ ((([48, 49, 50, 51, 52, 53, 54, 55, 56, 57, 97, 98, 99, 100, 101, 102] : List UInt8).take (Int.toNat (IntKind.wrap .u8 ((Int.fdiv ((xs.getD (Int.toNat x10l11) 0).toNat : Int) (2 ^ 4)) + 1)))).drop (Int.toNat (Int.fdiv ((xs.getD (Int.toNat x10l11) 0).toNat : Int) (2 ^ 4))))) ++ ((([48, 49, 50, 51, 52, 53, 54, 55, 56, 57, 97, 98, 99, 100, 101, 102] : List UInt8).take (Int.toNat (IntKind.wrap .u8 ((bitAnd .u8 ((xs.getD (Int.toNat x10l11) 0).toNat : Int) 15) + 1)))).drop (Int.toNat (bitAnd .u8 ((xs.getD (Int.toNat x10l11) 0).toNat : Int) 15))))).2.2 else (Bld.wbS yown1_0l11 ((xs.getD (Int.toNat x10l11) 0).toNat : Int)).2)))).length cyown1_0j18) 5 1 (if ((((xs.getD (Int.toNat x10l11) 0).toNat : Int) == 34) || (((xs.getD (Int.toNat x10l11) 0).toNat : Int) == 92)) = true then (Bld.wsS yown1_0l11 (([92] : List UInt8) ++ (bytesOf ([((xs.getD (Int.toNat x10l11) 0).toNat : Int)] : List (Int))))).2.2 else (if (((xs.getD (Int.toNat x10l11) 0).toNat : Int) == 10) = true then (Bld.wsS yown1_0l11 ([92, 110] : List UInt8)).2.2 else (if (((xs.getD (Int.toNat x10l11) 0).toNat : Int) == 9) = true then (Bld.wsS yown1_0l11 ([92, 116] : List UInt8)).2.2 else (if ((decide (((xs.getD (Int.toNat x10l11) 0).toNat : Int) < 32)) || (decide (((xs.getD (Int.toNat x10l11) 0).toNat : Int) > 126))) = true then (Bld.wsS yown1_0l11 ((([92, 120] : List UInt8) ++ ((([48, 49, 50, 51, 52, 53, 54, 55, 56, 57, 97, 98, 99, 100, 101, 102] : List UInt8).take (Int.toNat (IntKind.wrap .u8 ((Int.fdiv ((xs.getD (Int.toNat x10l11) 0).toNat : Int) (2 ^ 4)) + 1)))).drop (Int.toNat (Int.fdiv ((xs.getD (Int.toNat x10l11) 0).toNat : Int) (2 ^ 4))))) ++ ((([48, 49, 50, 51, 52, 53, 54, 55, 56, 57, 97, 98, 99, 100, 101, 102] : List UInt8).take (Int.toNat (IntKind.wrap .u8 ((bitAnd .u8 ((xs.getD (Int.toNat x10l11) 0).toNat : Int) 15) + 1)))).drop (Int.toNat (bitAnd .u8 ((xs.getD (Int.toNat x10l11) 0).toNat : Int) 15))))).2.2 else (Bld.wbS yown1_0l11 ((xs.getD (Int.toNat x10l11) 0).toNat : Int)).2)))).length xsyown1_0j18] gj18 W ∧ jquoj18 xs x10l11 yown1_0l11 (jquol11 xs K k11)) ?_ ?_
        ·
          refine Ok.block ?_
          refine Ok.seq ?_
          refine Ok.region ?_
          refine Ok.batch 2 [(0, .string ⟨⟨xs⟩⟩), (3, .pointer (some ⟨b2, 0, none⟩)), (4, .int .i64 x10l11), (9, .int .i64 (xs.length : Int)), (10, .int .i64 x10l11)] (by kernel_rfl) ?_
          refine Ok.nil ?_
          refine Ok.thenN ?_
          refine Ok.seq ?_
          refine Ok.region ?_
          refine Ok.batch 2 [(0, .string ⟨⟨xs⟩⟩), (3, .pointer (some ⟨b2, 0, none⟩)), (9, .int .i64 (xs.length : Int)), (10, .int .i64 x10l11), (13, .string ⟨⟨xs⟩⟩), (14, .int .i64 x10l11)] (by kernel_rfl) ?_
          obtain ⟨h06, h16, hF⟩ := hF
          have he6 := get_of (l := xs) (0 : UInt8) h16
          generalize hg6 : (xs.getD (Int.toNat x10l11) 0) = e6 at he6 hF ⊢
          refine Ok.op rfl (OpOk.step (v := .int .u8 (e6.toNat : Int)) (Yields.indexStr (k := .i64) (i := x10l11) (s := xs) (b := e6) (by kernel_rfl) (by kernel_rfl) Tryd.underlying9 h06 he6) rfl rfl ?_)
          refine Ok.batch 1 [(0, .string ⟨⟨xs⟩⟩), (3, .pointer (some ⟨b2, 0, none⟩)), (5, .int .u8 (e6.toNat : Int)), (9, .int .i64 (xs.length : Int)), (10, .int .i64 x10l11)] (by kernel_rfl) ?_
          refine Ok.nil ?_
          refine Ok.thenN ?_
          refine Ok.block ?_
          refine Ok.seq ?_
          refine Ok.region ?_
          refine Ok.batch 3 [(0, .string ⟨⟨xs⟩⟩), (3, .pointer (some ⟨b2, 0, none⟩)), (5, .int .u8 (e6.toNat : Int)), (9, .int .i64 (xs.length : Int)), (10, .int .i64 x10l11), (21, .bool ((e6.toNat : Int) == 34))] (by kernel_rfl) ?_
          refine Ok.midway 3 [(0, .string ⟨⟨xs⟩⟩), (3, .pointer (some ⟨b2, 0, none⟩)), (5, .int .u8 (e6.toNat : Int)), (9, .int .i64 (xs.length : Int)), (10, .int .i64 x10l11), (24, .bool (((e6.toNat : Int) == 34) || ((e6.toNat : Int) == 92)))] (fun hR7 => ?_) ?_
          · refine Ok.boolAt 21 (((e6.toNat : Int) == 34)) rfl (fun hc8 => ?_) (fun hc8 => ?_)
            · skip
              refine Ok.batch 3 [(0, .string ⟨⟨xs⟩⟩), (3, .pointer (some ⟨b2, 0, none⟩)), (5, .int .u8 (e6.toNat : Int)), (9, .int .i64 (xs.length : Int)), (10, .int .i64 x10l11), (24, .bool true)] (by kernel_rfl) ?_
              refine Ok.reval 24 rfl (show (.bool true : Value) = .bool (((e6.toNat : Int) == 34) || ((e6.toNat : Int) == 92)) from congrArg Value.bool (mor_t hc8)) ?_
              refine Ok.batch 0 [(0, .string ⟨⟨xs⟩⟩), (3, .pointer (some ⟨b2, 0, none⟩)), (5, .int .u8 (e6.toNat : Int)), (9, .int .i64 (xs.length : Int)), (10, .int .i64 x10l11), (24, .bool (((e6.toNat : Int) == 34) || ((e6.toNat : Int) == 92)))] (by kernel_rfl) ?_
              exact hR7
            · skip
              refine Ok.batch 3 [(0, .string ⟨⟨xs⟩⟩), (3, .pointer (some ⟨b2, 0, none⟩)), (5, .int .u8 (e6.toNat : Int)), (9, .int .i64 (xs.length : Int)), (10, .int .i64 x10l11), (24, .bool ((e6.toNat : Int) == 92))] (by kernel_rfl) ?_
              refine Ok.reval 24 rfl (show (.bool ((e6.toNat : Int) == 92) : Value) = .bool (((e6.toNat : Int) == 34) || ((e6.toNat : Int) == 92)) from congrArg Value.bool (mor_f hc8)) ?_
              refine Ok.batch 0 [(0, .string ⟨⟨xs⟩⟩), (3, .pointer (some ⟨b2, 0, none⟩)), (5, .int .u8 (e6.toNat : Int)), (9, .int .i64 (xs.length : Int)), (10, .int .i64 x10l11), (24, .bool (((e6.toNat : Int) == 34) || ((e6.toNat : Int) == 92)))] (by kernel_rfl) ?_
              exact hR7
          refine Ok.batch 1 [(0, .string ⟨⟨xs⟩⟩), (3, .pointer (some ⟨b2, 0, none⟩)), (5, .int .u8 (e6.toNat : Int)), (9, .int .i64 (xs.length : Int)), (10, .int .i64 x10l11), (18, .bool (((e6.toNat : Int) == 34) || ((e6.toNat : Int) == 92)))] (by kernel_rfl) ?_
          refine Ok.nil ?_
          refine Ok.thenN ?_
          refine Ok.cond (b := (((e6.toNat : Int) == 34) || ((e6.toNat : Int) == 92))) rfl (fun hc9 => ?_) (fun hc9 => ?_)
          · replace hF := hF.1 hc9
            refine Ok.region ?_
            refine Ok.batch 1 [(0, .string ⟨⟨xs⟩⟩), (3, .pointer (some ⟨b2, 0, none⟩)), (9, .int .i64 (xs.length : Int)), (10, .int .i64 x10l11), (25, .int .u8 (e6.toNat : Int))] (by kernel_rfl) ?_
            have hL10 : RepL gl11 (.int .u8) ([.int .u8 (e6.toNat : Int)] : List Value) ([(e6.toNat : Int)] : List (Int)) := (RepL.consN (c := [.int .u8 (e6.toNat : Int)]) rfl rfl)
            refine Ok.op rfl (OpOk.lit (E := 5) (.int .u8) ([(e6.toNat : Int)] : List (Int)) ([.int .u8 (e6.toNat : Int)] : List Value) (by kernel_rfl) (by kernel_rfl) rfl (by kernel_rfl) hL10 rfl fun b10 => ?_)
            refine Ok.op rfl (OpOk.step (v := .string ⟨⟨(bytesOf ([(e6.toNat : Int)] : List (Int)))⟩⟩) (Yields.strOfOwn 0 (by kernel_rfl) rfl rfl hL10 Tryd.underlying48 Tryd.underlying9 Tryd.underlying5) rfl rfl ?_)
            obtain ⟨hv, hF⟩ := hF
            refine Ok.op rfl (OpOk.step (v := .string ⟨⟨([92] : List UInt8) ++ (bytesOf ([(e6.toNat : Int)] : List (Int)))⟩⟩) (Yields.strAdd rfl rfl hv) rfl rfl ?_)
            obtain ⟨hp11, hF⟩ := hF
            refine Ok.entries [1, 2, 0] [.bhd b2 50 (.slice ayown1_0l11 yown1_0l11.length cyown1_0l11), .own (.slice ayown1_0l11 yown1_0l11.length cyown1_0l11) 5 1 yown1_0l11.length xsyown1_0l11, .own (.slice (some ⟨b10, 0, none⟩) ([(e6.toNat : Int)] : List (Int)).length 1) 5 1 ([(e6.toNat : Int)] : List (Int)).length ([.int .u8 (e6.toNat : Int)] : List Value)] (by decide) rfl ?_
            refine Ok.op rfl (OpOk.callH [.bhd b2 50 (.slice ayown1_0l11 yown1_0l11.length cyown1_0l11), .own (.slice ayown1_0l11 yown1_0l11.length cyown1_0l11) 5 1 yown1_0l11.length xsyown1_0l11] [.own (.slice (some ⟨b10, 0, none⟩) ([(e6.toNat : Int)] : List (Int)).length 1) 5 1 ([(e6.toNat : Int)] : List (Int)).length ([.int .u8 (e6.toNat : Int)] : List Value)] (enters (by kernel_rfl) (fun _ => by kernel_rfl)) rfl (Bld.ws_c yown1_0l11 (([92] : List UInt8) ++ (bytesOf ([(e6.toNat : Int)] : List (Int)))) hLyown1_0l11 hp11) rfl fun g12 _ _ hx12 hV12 => ?_)
            obtain ⟨a12_0, c12_0, xs12_0, rfl, hL12_0, rfl⟩ := hV12
            replace hL10 := hL10.mono hx12.1
            refine Ok.nil ?_
            refine Ok.blockN ?_
            refine Ok.blockN ?_
            refine Ok.thenN ?_
            subst hg6
            refine Ok.heapEq (H' := [.bhd b2 50 (.slice a12_0 (if ((((xs.getD (Int.toNat x10l11) 0).toNat : Int) == 34) || (((xs.getD (Int.toNat x10l11) 0).toNat : Int) == 92)) = true then (Bld.wsS yown1_0l11 (([92] : List UInt8) ++ (bytesOf ([((xs.getD (Int.toNat x10l11) 0).toNat : Int)] : List (Int))))).2.2 else (if (((xs.getD (Int.toNat x10l11) 0).toNat : Int) == 10) = true then (Bld.wsS yown1_0l11 ([92, 110] : List UInt8)).2.2 else (if (((xs.getD (Int.toNat x10l11) 0).toNat : Int) == 9) = true then (Bld.wsS yown1_0l11 ([92, 116] : List UInt8)).2.2 else (if ((decide (((xs.getD (Int.toNat x10l11) 0).toNat : Int) < 32)) || (decide (((xs.getD (Int.toNat x10l11) 0).toNat : Int) > 126))) = true then (Bld.wsS yown1_0l11 ((([92, 120] : List UInt8) ++ ((([48, 49, 50, 51, 52, 53, 54, 55, 56, 57, 97, 98, 99, 100, 101, 102] : List UInt8).take (Int.toNat (IntKind.wrap .u8 ((Int.fdiv ((xs.getD (Int.toNat x10l11) 0).toNat : Int) (2 ^ 4)) + 1)))).drop (Int.toNat (Int.fdiv ((xs.getD (Int.toNat x10l11) 0).toNat : Int) (2 ^ 4))))) ++ ((([48, 49, 50, 51, 52, 53, 54, 55, 56, 57, 97, 98, 99, 100, 101, 102] : List UInt8).take (Int.toNat (IntKind.wrap .u8 ((bitAnd .u8 ((xs.getD (Int.toNat x10l11) 0).toNat : Int) 15) + 1)))).drop (Int.toNat (bitAnd .u8 ((xs.getD (Int.toNat x10l11) 0).toNat : Int) 15))))).2.2 else (Bld.wbS yown1_0l11 ((xs.getD (Int.toNat x10l11) 0).toNat : Int)).2)))).length c12_0), .own (.slice a12_0 (if ((((xs.getD (Int.toNat x10l11) 0).toNat : Int) == 34) || (((xs.getD (Int.toNat x10l11) 0).toNat : Int) == 92)) = true then (Bld.wsS yown1_0l11 (([92] : List UInt8) ++ (bytesOf ([((xs.getD (Int.toNat x10l11) 0).toNat : Int)] : List (Int))))).2.2 else (if (((xs.getD (Int.toNat x10l11) 0).toNat : Int) == 10) = true then (Bld.wsS yown1_0l11 ([92, 110] : List UInt8)).2.2 else (if (((xs.getD (Int.toNat x10l11) 0).toNat : Int) == 9) = true then (Bld.wsS yown1_0l11 ([92, 116] : List UInt8)).2.2 else (if ((decide (((xs.getD (Int.toNat x10l11) 0).toNat : Int) < 32)) || (decide (((xs.getD (Int.toNat x10l11) 0).toNat : Int) > 126))) = true then (Bld.wsS yown1_0l11 ((([92, 120] : List UInt8) ++ ((([48, 49, 50, 51, 52, 53, 54, 55, 56, 57, 97, 98, 99, 100, 101, 102] : List UInt8).take (Int.toNat (IntKind.wrap .u8 ((Int.fdiv ((xs.getD (Int.toNat x10l11) 0).toNat : Int) (2 ^ 4)) + 1)))).drop (Int.toNat (Int.fdiv ((xs.getD (Int.toNat x10l11) 0).toNat : Int) (2 ^ 4))))) ++ ((([48, 49, 50, 51, 52, 53, 54, 55, 56, 57, 97, 98, 99, 100, 101, 102] : List UInt8).take (Int.toNat (IntKind.wrap .u8 ((bitAnd .u8 ((xs.getD (Int.toNat x10l11) 0).toNat : Int) 15) + 1)))).drop (Int.toNat (bitAnd .u8 ((xs.getD (Int.toNat x10l11) 0).toNat : Int) 15))))).2.2 else (Bld.wbS yown1_0l11 ((xs.getD (Int.toNat x10l11) 0).toNat : Int)).2)))).length c12_0) 5 1 (if ((((xs.getD (Int.toNat x10l11) 0).toNat : Int) == 34) || (((xs.getD (Int.toNat x10l11) 0).toNat : Int) == 92)) = true then (Bld.wsS yown1_0l11 (([92] : List UInt8) ++ (bytesOf ([((xs.getD (Int.toNat x10l11) 0).toNat : Int)] : List (Int))))).2.2 else (if (((xs.getD (Int.toNat x10l11) 0).toNat : Int) == 10) = true then (Bld.wsS yown1_0l11 ([92, 110] : List UInt8)).2.2 else (if (((xs.getD (Int.toNat x10l11) 0).toNat : Int) == 9) = true then (Bld.wsS yown1_0l11 ([92, 116] : List UInt8)).2.2 else (if ((decide (((xs.getD (Int.toNat x10l11) 0).toNat : Int) < 32)) || (decide (((xs.getD (Int.toNat x10l11) 0).toNat : Int) > 126))) = true then (Bld.wsS yown1_0l11 ((([92, 120] : List UInt8) ++ ((([48, 49, 50, 51, 52, 53, 54, 55, 56, 57, 97, 98, 99, 100, 101, 102] : List UInt8).take (Int.toNat (IntKind.wrap .u8 ((Int.fdiv ((xs.getD (Int.toNat x10l11) 0).toNat : Int) (2 ^ 4)) + 1)))).drop (Int.toNat (Int.fdiv ((xs.getD (Int.toNat x10l11) 0).toNat : Int) (2 ^ 4))))) ++ ((([48, 49, 50, 51, 52, 53, 54, 55, 56, 57, 97, 98, 99, 100, 101, 102] : List UInt8).take (Int.toNat (IntKind.wrap .u8 ((bitAnd .u8 ((xs.getD (Int.toNat x10l11) 0).toNat : Int) 15) + 1)))).drop (Int.toNat (bitAnd .u8 ((xs.getD (Int.toNat x10l11) 0).toNat : Int) 15))))).2.2 else (Bld.wbS yown1_0l11 ((xs.getD (Int.toNat x10l11) 0).toNat : Int)).2)))).length xs12_0, .own (.slice (some ⟨b10, 0, none⟩) ([((xs.getD (Int.toNat x10l11) 0).toNat : Int)] : List (Int)).length 1) 5 1 ([((xs.getD (Int.toNat x10l11) 0).toNat : Int)] : List (Int)).length ([.int .u8 ((xs.getD (Int.toNat x10l11) 0).toNat : Int)] : List Value)]) (econs (congrArg (fun l : Value => Ent.bhd b2 50 l) (congrArg (fun l : List (Int) => Value.slice a12_0 l.length c12_0) ((if_t hc9).symm))) (econs (congrArg (fun l : List (Int) => Ent.own (.slice a12_0 l.length c12_0) 5 1 l.length xs12_0) ((if_t hc9).symm)) (econs (rfl) rfl))) ?_
            exact fun a W hA hW => ⟨g12, hx12, a12_0, c12_0, xs12_0, (Eq.mp (congrArg (fun l : List (Int) => RepL g12 (.int .u8) xs12_0 l) ((if_t hc9).symm)) hL12_0), hA.sub (by kernel_rfl), hW.sub (.cons_cons _ (.cons_cons _ (.cons _ .slnil))), hF⟩
          · replace hF := hF.2 hc9
            refine Ok.seq ?_
            refine Ok.region ?_
            refine Ok.batch 3 [(0, .string ⟨⟨xs⟩⟩), (3, .pointer (some ⟨b2, 0, none⟩)), (5, .int .u8 (e6.toNat : Int)), (9, .int .i64 (xs.length : Int)), (10, .int .i64 x10l11), (30, .bool ((e6.toNat : Int) == 10))] (by kernel_rfl) ?_
            refine Ok.nil ?_
            refine Ok.thenN ?_
            refine Ok.cond (b := ((e6.toNat : Int) == 10)) rfl (fun hc13 => ?_) (fun hc13 => ?_)
            · replace hF := hF.1 hc13
              refine Ok.region ?_
              obtain ⟨hp14, hF⟩ := hF
              refine Ok.op rfl (OpOk.callH [.bhd b2 50 (.slice ayown1_0l11 yown1_0l11.length cyown1_0l11), .own (.slice ayown1_0l11 yown1_0l11.length cyown1_0l11) 5 1 yown1_0l11.length xsyown1_0l11] [] (enters (by kernel_rfl) (fun _ => by kernel_rfl)) rfl (Bld.ws_c yown1_0l11 ([92, 110] : List UInt8) hLyown1_0l11 hp14) rfl fun g15 _ _ hx15 hV15 => ?_)
              obtain ⟨a15_0, c15_0, xs15_0, rfl, hL15_0, rfl⟩ := hV15
              refine Ok.nil ?_
              refine Ok.blockN ?_
              refine Ok.blockN ?_
              refine Ok.thenN ?_
              subst hg6
              refine Ok.heapEq (H' := [.bhd b2 50 (.slice a15_0 (if ((((xs.getD (Int.toNat x10l11) 0).toNat : Int) == 34) || (((xs.getD (Int.toNat x10l11) 0).toNat : Int) == 92)) = true then (Bld.wsS yown1_0l11 (([92] : List UInt8) ++ (bytesOf ([((xs.getD (Int.toNat x10l11) 0).toNat : Int)] : List (Int))))).2.2 else (if (((xs.getD (Int.toNat x10l11) 0).toNat : Int) == 10) = true then (Bld.wsS yown1_0l11 ([92, 110] : List UInt8)).2.2 else (if (((xs.getD (Int.toNat x10l11) 0).toNat : Int) == 9) = true then (Bld.wsS yown1_0l11 ([92, 116] : List UInt8)).2.2 else (if ((decide (((xs.getD (Int.toNat x10l11) 0).toNat : Int) < 32)) || (decide (((xs.getD (Int.toNat x10l11) 0).toNat : Int) > 126))) = true then (Bld.wsS yown1_0l11 ((([92, 120] : List UInt8) ++ ((([48, 49, 50, 51, 52, 53, 54, 55, 56, 57, 97, 98, 99, 100, 101, 102] : List UInt8).take (Int.toNat (IntKind.wrap .u8 ((Int.fdiv ((xs.getD (Int.toNat x10l11) 0).toNat : Int) (2 ^ 4)) + 1)))).drop (Int.toNat (Int.fdiv ((xs.getD (Int.toNat x10l11) 0).toNat : Int) (2 ^ 4))))) ++ ((([48, 49, 50, 51, 52, 53, 54, 55, 56, 57, 97, 98, 99, 100, 101, 102] : List UInt8).take (Int.toNat (IntKind.wrap .u8 ((bitAnd .u8 ((xs.getD (Int.toNat x10l11) 0).toNat : Int) 15) + 1)))).drop (Int.toNat (bitAnd .u8 ((xs.getD (Int.toNat x10l11) 0).toNat : Int) 15))))).2.2 else (Bld.wbS yown1_0l11 ((xs.getD (Int.toNat x10l11) 0).toNat : Int)).2)))).length c15_0), .own (.slice a15_0 (if ((((xs.getD (Int.toNat x10l11) 0).toNat : Int) == 34) || (((xs.getD (Int.toNat x10l11) 0).toNat : Int) == 92)) = true then (Bld.wsS yown1_0l11 (([92] : List UInt8) ++ (bytesOf ([((xs.getD (Int.toNat x10l11) 0).toNat : Int)] : List (Int))))).2.2 else (if (((xs.getD (Int.toNat x10l11) 0).toNat : Int) == 10) = true then (Bld.wsS yown1_0l11 ([92, 110] : List UInt8)).2.2 else (if (((xs.getD (Int.toNat x10l11) 0).toNat : Int) == 9) = true then (Bld.wsS yown1_0l11 ([92, 116] : List UInt8)).2.2 else (if ((decide (((xs.getD (Int.toNat x10l11) 0).toNat : Int) < 32)) || (decide (((xs.getD (Int.toNat x10l11) 0).toNat : Int) > 126))) = true then (Bld.wsS yown1_0l11 ((([92, 120] : List UInt8) ++ ((([48, 49, 50, 51, 52, 53, 54, 55, 56, 57, 97, 98, 99, 100, 101, 102] : List UInt8).take (Int.toNat (IntKind.wrap .u8 ((Int.fdiv ((xs.getD (Int.toNat x10l11) 0).toNat : Int) (2 ^ 4)) + 1)))).drop (Int.toNat (Int.fdiv ((xs.getD (Int.toNat x10l11) 0).toNat : Int) (2 ^ 4))))) ++ ((([48, 49, 50, 51, 52, 53, 54, 55, 56, 57, 97, 98, 99, 100, 101, 102] : List UInt8).take (Int.toNat (IntKind.wrap .u8 ((bitAnd .u8 ((xs.getD (Int.toNat x10l11) 0).toNat : Int) 15) + 1)))).drop (Int.toNat (bitAnd .u8 ((xs.getD (Int.toNat x10l11) 0).toNat : Int) 15))))).2.2 else (Bld.wbS yown1_0l11 ((xs.getD (Int.toNat x10l11) 0).toNat : Int)).2)))).length c15_0) 5 1 (if ((((xs.getD (Int.toNat x10l11) 0).toNat : Int) == 34) || (((xs.getD (Int.toNat x10l11) 0).toNat : Int) == 92)) = true then (Bld.wsS yown1_0l11 (([92] : List UInt8) ++ (bytesOf ([((xs.getD (Int.toNat x10l11) 0).toNat : Int)] : List (Int))))).2.2 else (if (((xs.getD (Int.toNat x10l11) 0).toNat : Int) == 10) = true then (Bld.wsS yown1_0l11 ([92, 110] : List UInt8)).2.2 else (if (((xs.getD (Int.toNat x10l11) 0).toNat : Int) == 9) = true then (Bld.wsS yown1_0l11 ([92, 116] : List UInt8)).2.2 else (if ((decide (((xs.getD (Int.toNat x10l11) 0).toNat : Int) < 32)) || (decide (((xs.getD (Int.toNat x10l11) 0).toNat : Int) > 126))) = true then (Bld.wsS yown1_0l11 ((([92, 120] : List UInt8) ++ ((([48, 49, 50, 51, 52, 53, 54, 55, 56, 57, 97, 98, 99, 100, 101, 102] : List UInt8).take (Int.toNat (IntKind.wrap .u8 ((Int.fdiv ((xs.getD (Int.toNat x10l11) 0).toNat : Int) (2 ^ 4)) + 1)))).drop (Int.toNat (Int.fdiv ((xs.getD (Int.toNat x10l11) 0).toNat : Int) (2 ^ 4))))) ++ ((([48, 49, 50, 51, 52, 53, 54, 55, 56, 57, 97, 98, 99, 100, 101, 102] : List UInt8).take (Int.toNat (IntKind.wrap .u8 ((bitAnd .u8 ((xs.getD (Int.toNat x10l11) 0).toNat : Int) 15) + 1)))).drop (Int.toNat (bitAnd .u8 ((xs.getD (Int.toNat x10l11) 0).toNat : Int) 15))))).2.2 else (Bld.wbS yown1_0l11 ((xs.getD (Int.toNat x10l11) 0).toNat : Int)).2)))).length xs15_0]) (econs (congrArg (fun l : Value => Ent.bhd b2 50 l) (congrArg (fun l : List (Int) => Value.slice a15_0 l.length c15_0) ((Eq.trans ((if_t hc13).symm) ((if_f hc9).symm))))) (econs (congrArg (fun l : List (Int) => Ent.own (.slice a15_0 l.length c15_0) 5 1 l.length xs15_0) ((Eq.trans ((if_t hc13).symm) ((if_f hc9).symm)))) rfl)) ?_
              exact fun a W hA hW => ⟨g15, hx15, a15_0, c15_0, xs15_0, (Eq.mp (congrArg (fun l : List (Int) => RepL g15 (.int .u8) xs15_0 l) ((Eq.trans ((if_t hc13).symm) ((if_f hc9).symm)))) hL15_0), hA.sub (by kernel_rfl), hW, hF⟩
            · replace hF := hF.2 hc13
              refine Ok.seq ?_
              refine Ok.region ?_
              refine Ok.batch 3 [(0, .string ⟨⟨xs⟩⟩), (3, .pointer (some ⟨b2, 0, none⟩)), (5, .int .u8 (e6.toNat : Int)), (9, .int .i64 (xs.length : Int)), (10, .int .i64 x10l11), (34, .bool ((e6.toNat : Int) == 9))] (by kernel_rfl) ?_
              refine Ok.nil ?_
              refine Ok.thenN ?_
              refine Ok.cond (b := ((e6.toNat : Int) == 9)) rfl (fun hc16 => ?_) (fun hc16 => ?_)
              · replace hF := hF.1 hc16
                refine Ok.region ?_
                obtain ⟨hp17, hF⟩ := hF
                refine Ok.op rfl (OpOk.callH [.bhd b2 50 (.slice ayown1_0l11 yown1_0l11.length cyown1_0l11), .own (.slice ayown1_0l11 yown1_0l11.length cyown1_0l11) 5 1 yown1_0l11.length xsyown1_0l11] [] (enters (by kernel_rfl) (fun _ => by kernel_rfl)) rfl (Bld.ws_c yown1_0l11 ([92, 116] : List UInt8) hLyown1_0l11 hp17) rfl fun g18 _ _ hx18 hV18 => ?_)
                obtain ⟨a18_0, c18_0, xs18_0, rfl, hL18_0, rfl⟩ := hV18
                refine Ok.nil ?_
                refine Ok.blockN ?_
                refine Ok.blockN ?_
                refine Ok.thenN ?_
                subst hg6
                refine Ok.heapEq (H' := [.bhd b2 50 (.slice a18_0 (if ((((xs.getD (Int.toNat x10l11) 0).toNat : Int) == 34) || (((xs.getD (Int.toNat x10l11) 0).toNat : Int) == 92)) = true then (Bld.wsS yown1_0l11 (([92] : List UInt8) ++ (bytesOf ([((xs.getD (Int.toNat x10l11) 0).toNat : Int)] : List (Int))))).2.2 else (if (((xs.getD (Int.toNat x10l11) 0).toNat : Int) == 10) = true then (Bld.wsS yown1_0l11 ([92, 110] : List UInt8)).2.2 else (if (((xs.getD (Int.toNat x10l11) 0).toNat : Int) == 9) = true then (Bld.wsS yown1_0l11 ([92, 116] : List UInt8)).2.2 else (if ((decide (((xs.getD (Int.toNat x10l11) 0).toNat : Int) < 32)) || (decide (((xs.getD (Int.toNat x10l11) 0).toNat : Int) > 126))) = true then (Bld.wsS yown1_0l11 ((([92, 120] : List UInt8) ++ ((([48, 49, 50, 51, 52, 53, 54, 55, 56, 57, 97, 98, 99, 100, 101, 102] : List UInt8).take (Int.toNat (IntKind.wrap .u8 ((Int.fdiv ((xs.getD (Int.toNat x10l11) 0).toNat : Int) (2 ^ 4)) + 1)))).drop (Int.toNat (Int.fdiv ((xs.getD (Int.toNat x10l11) 0).toNat : Int) (2 ^ 4))))) ++ ((([48, 49, 50, 51, 52, 53, 54, 55, 56, 57, 97, 98, 99, 100, 101, 102] : List UInt8).take (Int.toNat (IntKind.wrap .u8 ((bitAnd .u8 ((xs.getD (Int.toNat x10l11) 0).toNat : Int) 15) + 1)))).drop (Int.toNat (bitAnd .u8 ((xs.getD (Int.toNat x10l11) 0).toNat : Int) 15))))).2.2 else (Bld.wbS yown1_0l11 ((xs.getD (Int.toNat x10l11) 0).toNat : Int)).2)))).length c18_0), .own (.slice a18_0 (if ((((xs.getD (Int.toNat x10l11) 0).toNat : Int) == 34) || (((xs.getD (Int.toNat x10l11) 0).toNat : Int) == 92)) = true then (Bld.wsS yown1_0l11 (([92] : List UInt8) ++ (bytesOf ([((xs.getD (Int.toNat x10l11) 0).toNat : Int)] : List (Int))))).2.2 else (if (((xs.getD (Int.toNat x10l11) 0).toNat : Int) == 10) = true then (Bld.wsS yown1_0l11 ([92, 110] : List UInt8)).2.2 else (if (((xs.getD (Int.toNat x10l11) 0).toNat : Int) == 9) = true then (Bld.wsS yown1_0l11 ([92, 116] : List UInt8)).2.2 else (if ((decide (((xs.getD (Int.toNat x10l11) 0).toNat : Int) < 32)) || (decide (((xs.getD (Int.toNat x10l11) 0).toNat : Int) > 126))) = true then (Bld.wsS yown1_0l11 ((([92, 120] : List UInt8) ++ ((([48, 49, 50, 51, 52, 53, 54, 55, 56, 57, 97, 98, 99, 100, 101, 102] : List UInt8).take (Int.toNat (IntKind.wrap .u8 ((Int.fdiv ((xs.getD (Int.toNat x10l11) 0).toNat : Int) (2 ^ 4)) + 1)))).drop (Int.toNat (Int.fdiv ((xs.getD (Int.toNat x10l11) 0).toNat : Int) (2 ^ 4))))) ++ ((([48, 49, 50, 51, 52, 53, 54, 55, 56, 57, 97, 98, 99, 100, 101, 102] : List UInt8).take (Int.toNat (IntKind.wrap .u8 ((bitAnd .u8 ((xs.getD (Int.toNat x10l11) 0).toNat : Int) 15) + 1)))).drop (Int.toNat (bitAnd .u8 ((xs.getD (Int.toNat x10l11) 0).toNat : Int) 15))))).2.2 else (Bld.wbS yown1_0l11 ((xs.getD (Int.toNat x10l11) 0).toNat : Int)).2)))).length c18_0) 5 1 (if ((((xs.getD (Int.toNat x10l11) 0).toNat : Int) == 34) || (((xs.getD (Int.toNat x10l11) 0).toNat : Int) == 92)) = true then (Bld.wsS yown1_0l11 (([92] : List UInt8) ++ (bytesOf ([((xs.getD (Int.toNat x10l11) 0).toNat : Int)] : List (Int))))).2.2 else (if (((xs.getD (Int.toNat x10l11) 0).toNat : Int) == 10) = true then (Bld.wsS yown1_0l11 ([92, 110] : List UInt8)).2.2 else (if (((xs.getD (Int.toNat x10l11) 0).toNat : Int) == 9) = true then (Bld.wsS yown1_0l11 ([92, 116] : List UInt8)).2.2 else (if ((decide (((xs.getD (Int.toNat x10l11) 0).toNat : Int) < 32)) || (decide (((xs.getD (Int.toNat x10l11) 0).toNat : Int) > 126))) = true then (Bld.wsS yown1_0l11 ((([92, 120] : List UInt8) ++ ((([48, 49, 50, 51, 52, 53, 54, 55, 56, 57, 97, 98, 99, 100, 101, 102] : List UInt8).take (Int.toNat (IntKind.wrap .u8 ((Int.fdiv ((xs.getD (Int.toNat x10l11) 0).toNat : Int) (2 ^ 4)) + 1)))).drop (Int.toNat (Int.fdiv ((xs.getD (Int.toNat x10l11) 0).toNat : Int) (2 ^ 4))))) ++ ((([48, 49, 50, 51, 52, 53, 54, 55, 56, 57, 97, 98, 99, 100, 101, 102] : List UInt8).take (Int.toNat (IntKind.wrap .u8 ((bitAnd .u8 ((xs.getD (Int.toNat x10l11) 0).toNat : Int) 15) + 1)))).drop (Int.toNat (bitAnd .u8 ((xs.getD (Int.toNat x10l11) 0).toNat : Int) 15))))).2.2 else (Bld.wbS yown1_0l11 ((xs.getD (Int.toNat x10l11) 0).toNat : Int)).2)))).length xs18_0]) (econs (congrArg (fun l : Value => Ent.bhd b2 50 l) (congrArg (fun l : List (Int) => Value.slice a18_0 l.length c18_0) ((Eq.trans ((Eq.trans ((if_t hc16).symm) ((if_f hc13).symm))) ((if_f hc9).symm))))) (econs (congrArg (fun l : List (Int) => Ent.own (.slice a18_0 l.length c18_0) 5 1 l.length xs18_0) ((Eq.trans ((Eq.trans ((if_t hc16).symm) ((if_f hc13).symm))) ((if_f hc9).symm)))) rfl)) ?_
                exact fun a W hA hW => ⟨g18, hx18, a18_0, c18_0, xs18_0, (Eq.mp (congrArg (fun l : List (Int) => RepL g18 (.int .u8) xs18_0 l) ((Eq.trans ((Eq.trans ((if_t hc16).symm) ((if_f hc13).symm))) ((if_f hc9).symm)))) hL18_0), hA.sub (by kernel_rfl), hW, hF⟩
              · replace hF := hF.2 hc16
                refine Ok.seq ?_
                refine Ok.region ?_
                refine Ok.batch 3 [(0, .string ⟨⟨xs⟩⟩), (3, .pointer (some ⟨b2, 0, none⟩)), (5, .int .u8 (e6.toNat : Int)), (9, .int .i64 (xs.length : Int)), (10, .int .i64 x10l11), (41, .bool (decide ((e6.toNat : Int) < 32)))] (by kernel_rfl) ?_
                refine Ok.midway 3 [(0, .string ⟨⟨xs⟩⟩), (3, .pointer (some ⟨b2, 0, none⟩)), (5, .int .u8 (e6.toNat : Int)), (9, .int .i64 (xs.length : Int)), (10, .int .i64 x10l11), (44, .bool ((decide ((e6.toNat : Int) < 32)) || (decide ((e6.toNat : Int) > 126))))] (fun hR19 => ?_) ?_
                · refine Ok.boolAt 41 (decide ((e6.toNat : Int) < 32)) rfl (fun hc20 => ?_) (fun hc20 => ?_)
                  · skip
                    refine Ok.batch 3 [(0, .string ⟨⟨xs⟩⟩), (3, .pointer (some ⟨b2, 0, none⟩)), (5, .int .u8 (e6.toNat : Int)), (9, .int .i64 (xs.length : Int)), (10, .int .i64 x10l11), (44, .bool true)] (by kernel_rfl) ?_
                    refine Ok.reval 44 rfl (show (.bool true : Value) = .bool ((decide ((e6.toNat : Int) < 32)) || (decide ((e6.toNat : Int) > 126))) from congrArg Value.bool (mor_t hc20)) ?_
                    refine Ok.batch 0 [(0, .string ⟨⟨xs⟩⟩), (3, .pointer (some ⟨b2, 0, none⟩)), (5, .int .u8 (e6.toNat : Int)), (9, .int .i64 (xs.length : Int)), (10, .int .i64 x10l11), (44, .bool ((decide ((e6.toNat : Int) < 32)) || (decide ((e6.toNat : Int) > 126))))] (by kernel_rfl) ?_
                    exact hR19
                  · skip
                    refine Ok.batch 3 [(0, .string ⟨⟨xs⟩⟩), (3, .pointer (some ⟨b2, 0, none⟩)), (5, .int .u8 (e6.toNat : Int)), (9, .int .i64 (xs.length : Int)), (10, .int .i64 x10l11), (44, .bool (decide ((e6.toNat : Int) > 126)))] (by kernel_rfl) ?_
                    refine Ok.reval 44 rfl (show (.bool (decide ((e6.toNat : Int) > 126)) : Value) = .bool ((decide ((e6.toNat : Int) < 32)) || (decide ((e6.toNat : Int) > 126))) from congrArg Value.bool (mor_f hc20)) ?_
                    refine Ok.batch 0 [(0, .string ⟨⟨xs⟩⟩), (3, .pointer (some ⟨b2, 0, none⟩)), (5, .int .u8 (e6.toNat : Int)), (9, .int .i64 (xs.length : Int)), (10, .int .i64 x10l11), (44, .bool ((decide ((e6.toNat : Int) < 32)) || (decide ((e6.toNat : Int) > 126))))] (by kernel_rfl) ?_
                    exact hR19
                refine Ok.batch 1 [(0, .string ⟨⟨xs⟩⟩), (3, .pointer (some ⟨b2, 0, none⟩)), (5, .int .u8 (e6.toNat : Int)), (9, .int .i64 (xs.length : Int)), (10, .int .i64 x10l11), (38, .bool ((decide ((e6.toNat : Int) < 32)) || (decide ((e6.toNat : Int) > 126))))] (by kernel_rfl) ?_
                refine Ok.nil ?_
                refine Ok.thenN ?_
                refine Ok.cond (b := ((decide ((e6.toNat : Int) < 32)) || (decide ((e6.toNat : Int) > 126)))) rfl (fun hc21 => ?_) (fun hc21 => ?_)
                · replace hF := hF.1 hc21
                  refine Ok.seq ?_
                  refine Ok.region ?_
                  refine Ok.batch 1 [(0, .string ⟨⟨xs⟩⟩), (3, .pointer (some ⟨b2, 0, none⟩)), (5, .int .u8 (e6.toNat : Int)), (6, .string ⟨⟨([48, 49, 50, 51, 52, 53, 54, 55, 56, 57, 97, 98, 99, 100, 101, 102] : List UInt8)⟩⟩), (9, .int .i64 (xs.length : Int)), (10, .int .i64 x10l11)] (by kernel_rfl) ?_
                  refine Ok.nil ?_
                  refine Ok.thenN ?_
                  refine Ok.mix [] [] [] [(0, true), (1, true), (2, true), (3, true), (4, true), (5, true), (6, true), (7, true), (8, true), (9, true), (10, true), (11, true), (12, true), (13, true), (14, true), (15, true), (16, false)] (by kernel_rfl) (by kernel_rfl) (.cons _ (.cons _ .slnil)) ?_
                  refine OkM.batch 6 [(0, .string ⟨⟨xs⟩⟩), (3, .pointer (some ⟨b2, 0, none⟩)), (5, .int .u8 (e6.toNat : Int)), (6, .string ⟨⟨([48, 49, 50, 51, 52, 53, 54, 55, 56, 57, 97, 98, 99, 100, 101, 102] : List UInt8)⟩⟩), (9, .int .i64 (xs.length : Int)), (10, .int .i64 x10l11), (45, .string ⟨⟨([48, 49, 50, 51, 52, 53, 54, 55, 56, 57, 97, 98, 99, 100, 101, 102] : List UInt8)⟩⟩), (47, .int .u8 (Int.fdiv (e6.toNat : Int) (2 ^ 4))), (50, .int .u8 (IntKind.wrap .u8 ((Int.fdiv (e6.toNat : Int) (2 ^ 4)) + 1)))] (by kernel_rfl) ?_
                  obtain ⟨h022, h122, h222, hF⟩ := hF
                  refine OkM.head rfl rfl (show _ = [] from rfl) (OpQ.step (v := .string ⟨⟨(([48, 49, 50, 51, 52, 53, 54, 55, 56, 57, 97, 98, 99, 100, 101, 102] : List UInt8).take (Int.toNat (IntKind.wrap .u8 ((Int.fdiv (e6.toNat : Int) (2 ^ 4)) + 1)))).drop (Int.toNat (Int.fdiv (e6.toNat : Int) (2 ^ 4)))⟩⟩) (Yields.sliceStr (s := ([48, 49, 50, 51, 52, 53, 54, 55, 56, 57, 97, 98, 99, 100, 101, 102] : List UInt8)) (l := (Int.fdiv (e6.toNat : Int) (2 ^ 4))) (h := (IntKind.wrap .u8 ((Int.fdiv (e6.toNat : Int) (2 ^ 4)) + 1))) (by kernel_rfl) Tryd.underlying9 (.inl ⟨_, _, rfl, rfl⟩) (.inl ⟨_, _, rfl, rfl⟩) h022 h122 h222 ((([48, 49, 50, 51, 52, 53, 54, 55, 56, 57, 97, 98, 99, 100, 101, 102] : List UInt8).take (Int.toNat (IntKind.wrap .u8 ((Int.fdiv (e6.toNat : Int) (2 ^ 4)) + 1)))).drop (Int.toNat (Int.fdiv (e6.toNat : Int) (2 ^ 4)))) rfl) rfl rfl ?_)
                  obtain ⟨hv, hF⟩ := hF
                  refine OkM.head rfl rfl (show _ = [] from rfl) (OpQ.step (v := .string ⟨⟨([92, 120] : List UInt8) ++ ((([48, 49, 50, 51, 52, 53, 54, 55, 56, 57, 97, 98, 99, 100, 101, 102] : List UInt8).take (Int.toNat (IntKind.wrap .u8 ((Int.fdiv (e6.toNat : Int) (2 ^ 4)) + 1)))).drop (Int.toNat (Int.fdiv (e6.toNat : Int) (2 ^ 4))))⟩⟩) (Yields.strAdd rfl rfl hv) rfl rfl ?_)
                  refine OkM.batch 6 [(0, .string ⟨⟨xs⟩⟩), (3, .pointer (some ⟨b2, 0, none⟩)), (9, .int .i64 (xs.length : Int)), (10, .int .i64 x10l11), (52, .string ⟨⟨([92, 120] : List UInt8) ++ ((([48, 49, 50, 51, 52, 53, 54, 55, 56, 57, 97, 98, 99, 100, 101, 102] : List UInt8).take (Int.toNat (IntKind.wrap .u8 ((Int.fdiv (e6.toNat : Int) (2 ^ 4)) + 1)))).drop (Int.toNat (Int.fdiv (e6.toNat : Int) (2 ^ 4))))⟩⟩), (53, .string ⟨⟨([48, 49, 50, 51, 52, 53, 54, 55, 56, 57, 97, 98, 99, 100, 101, 102] : List UInt8)⟩⟩), (55, .int .u8 (bitAnd .u8 (e6.toNat : Int) 15)), (58, .int .u8 (IntKind.wrap .u8 ((bitAnd .u8 (e6.toNat : Int) 15) + 1)))] (by kernel_rfl) ?_
                  obtain ⟨h023, h123, h223, hF⟩ := hF
                  refine OkM.head rfl rfl (show _ = [] from rfl) (OpQ.step (v := .string ⟨⟨(([48, 49, 50, 51, 52, 53, 54, 55, 56, 57, 97, 98, 99, 100, 101, 102] : List UInt8).take (Int.toNat (IntKind.wrap .u8 ((bitAnd .u8 (e6.toNat : Int) 15) + 1)))).drop (Int.toNat (bitAnd .u8 (e6.toNat : Int) 15))⟩⟩) (Yields.sliceStr (s := ([48, 49, 50, 51, 52, 53, 54, 55, 56, 57, 97, 98, 99, 100, 101, 102] : List UInt8)) (l := (bitAnd .u8 (e6.toNat : Int) 15)) (h := (IntKind.wrap .u8 ((bitAnd .u8 (e6.toNat : Int) 15) + 1))) (by kernel_rfl) Tryd.underlying9 (.inl ⟨_, _, rfl, rfl⟩) (.inl ⟨_, _, rfl, rfl⟩) h023 h123 h223 ((([48, 49, 50, 51, 52, 53, 54, 55, 56, 57, 97, 98, 99, 100, 101, 102] : List UInt8).take (Int.toNat (IntKind.wrap .u8 ((bitAnd .u8 (e6.toNat : Int) 15) + 1)))).drop (Int.toNat (bitAnd .u8 (e6.toNat : Int) 15))) rfl) rfl rfl ?_)
                  obtain ⟨hv, hF⟩ := hF
                  refine OkM.head rfl rfl (show _ = [] from rfl) (OpQ.step (v := .string ⟨⟨(([92, 120] : List UInt8) ++ ((([48, 49, 50, 51, 52, 53, 54, 55, 56, 57, 97, 98, 99, 100, 101, 102] : List UInt8).take (Int.toNat (IntKind.wrap .u8 ((Int.fdiv (e6.toNat : Int) (2 ^ 4)) + 1)))).drop (Int.toNat (Int.fdiv (e6.toNat : Int) (2 ^ 4))))) ++ ((([48, 49, 50, 51, 52, 53, 54, 55, 56, 57, 97, 98, 99, 100, 101, 102] : List UInt8).take (Int.toNat (IntKind.wrap .u8 ((bitAnd .u8 (e6.toNat : Int) 15) + 1)))).drop (Int.toNat (bitAnd .u8 (e6.toNat : Int) 15)))⟩⟩) (Yields.strAdd rfl rfl hv) rfl rfl ?_)
                  obtain ⟨hp24, hF⟩ := hF
                  refine OkM.tail rfl rfl (OpOk.callH [.bhd b2 50 (.slice ayown1_0l11 yown1_0l11.length cyown1_0l11), .own (.slice ayown1_0l11 yown1_0l11.length cyown1_0l11) 5 1 yown1_0l11.length xsyown1_0l11] [] (enters (by kernel_rfl) (fun _ => by kernel_rfl)) rfl (Bld.ws_c yown1_0l11 ((([92, 120] : List UInt8) ++ ((([48, 49, 50, 51, 52, 53, 54, 55, 56, 57, 97, 98, 99, 100, 101, 102] : List UInt8).take (Int.toNat (IntKind.wrap .u8 ((Int.fdiv (e6.toNat : Int) (2 ^ 4)) + 1)))).drop (Int.toNat (Int.fdiv (e6.toNat : Int) (2 ^ 4))))) ++ ((([48, 49, 50, 51, 52, 53, 54, 55, 56, 57, 97, 98, 99, 100, 101, 102] : List UInt8).take (Int.toNat (IntKind.wrap .u8 ((bitAnd .u8 (e6.toNat : Int) 15) + 1)))).drop (Int.toNat (bitAnd .u8 (e6.toNat : Int) 15)))) hLyown1_0l11 hp24) rfl fun g25 _ _ hx25 hV25 => ?_)
                  obtain ⟨a25_0, c25_0, xs25_0, rfl, hL25_0, rfl⟩ := hV25
                  refine OkM.leaf (i := 16) (show _ = [] from rfl) hx25.1 (.cons _ (.cons _ .slnil)) ?_
                  refine OkM.nil ?_
                  refine Ok.blockN ?_
                  refine Ok.blockN ?_
                  refine Ok.thenN ?_
                  subst hg6
                  refine Ok.heapEq (H' := [.bhd b2 50 (.slice a25_0 (if ((((xs.getD (Int.toNat x10l11) 0).toNat : Int) == 34) || (((xs.getD (Int.toNat x10l11) 0).toNat : Int) == 92)) = true then (Bld.wsS yown1_0l11 (([92] : List UInt8) ++ (bytesOf ([((xs.getD (Int.toNat x10l11) 0).toNat : Int)] : List (Int))))).2.2 else (if (((xs.getD (Int.toNat x10l11) 0).toNat : Int) == 10) = true then (Bld.wsS yown1_0l11 ([92, 110] : List UInt8)).2.2 else (if (((xs.getD (Int.toNat x10l11) 0).toNat : Int) == 9) = true then (Bld.wsS yown1_0l11 ([92, 116] : List UInt8)).2.2 else (if ((decide (((xs.getD (Int.toNat x10l11) 0).toNat : Int) < 32)) || (decide (((xs.getD (Int.toNat x10l11) 0).toNat : Int) > 126))) = true then (Bld.wsS yown1_0l11 ((([92, 120] : List UInt8) ++ ((([48, 49, 50, 51, 52, 53, 54, 55, 56, 57, 97, 98, 99, 100, 101, 102] : List UInt8).take (Int.toNat (IntKind.wrap .u8 ((Int.fdiv ((xs.getD (Int.toNat x10l11) 0).toNat : Int) (2 ^ 4)) + 1)))).drop (Int.toNat (Int.fdiv ((xs.getD (Int.toNat x10l11) 0).toNat : Int) (2 ^ 4))))) ++ ((([48, 49, 50, 51, 52, 53, 54, 55, 56, 57, 97, 98, 99, 100, 101, 102] : List UInt8).take (Int.toNat (IntKind.wrap .u8 ((bitAnd .u8 ((xs.getD (Int.toNat x10l11) 0).toNat : Int) 15) + 1)))).drop (Int.toNat (bitAnd .u8 ((xs.getD (Int.toNat x10l11) 0).toNat : Int) 15))))).2.2 else (Bld.wbS yown1_0l11 ((xs.getD (Int.toNat x10l11) 0).toNat : Int)).2)))).length c25_0), .own (.slice a25_0 (if ((((xs.getD (Int.toNat x10l11) 0).toNat : Int) == 34) || (((xs.getD (Int.toNat x10l11) 0).toNat : Int) == 92)) = true then (Bld.wsS yown1_0l11 (([92] : List UInt8) ++ (bytesOf ([((xs.getD (Int.toNat x10l11) 0).toNat : Int)] : List (Int))))).2.2 else (if (((xs.getD (Int.toNat x10l11) 0).toNat : Int) == 10) = true then (Bld.wsS yown1_0l11 ([92, 110] : List UInt8)).2.2 else (if (((xs.getD (Int.toNat x10l11) 0).toNat : Int) == 9) = true then (Bld.wsS yown1_0l11 ([92, 116] : List UInt8)).2.2 else (if ((decide (((xs.getD (Int.toNat x10l11) 0).toNat : Int) < 32)) || (decide (((xs.getD (Int.toNat x10l11) 0).toNat : Int) > 126))) = true then (Bld.wsS yown1_0l11 ((([92, 120] : List UInt8) ++ ((([48, 49, 50, 51, 52, 53, 54, 55, 56, 57, 97, 98, 99, 100, 101, 102] : List UInt8).take (Int.toNat (IntKind.wrap .u8 ((Int.fdiv ((xs.getD (Int.toNat x10l11) 0).toNat : Int) (2 ^ 4)) + 1)))).drop (Int.toNat (Int.fdiv ((xs.getD (Int.toNat x10l11) 0).toNat : Int) (2 ^ 4))))) ++ ((([48, 49, 50, 51, 52, 53, 54, 55, 56, 57, 97, 98, 99, 100, 101, 102] : List UInt8).take (Int.toNat (IntKind.wrap .u8 ((bitAnd .u8 ((xs.getD (Int.toNat x10l11) 0).toNat : Int) 15) + 1)))).drop (Int.toNat (bitAnd .u8 ((xs.getD (Int.toNat x10l11) 0).toNat : Int) 15))))).2.2 else (Bld.wbS yown1_0l11 ((xs.getD (Int.toNat x10l11) 0).toNat : Int)).2)))).length c25_0) 5 1 (if ((((xs.getD (Int.toNat x10l11) 0).toNat : Int) == 34) || (((xs.getD (Int.toNat x10l11) 0).toNat : Int) == 92)) = true then (Bld.wsS yown1_0l11 (([92] : List UInt8) ++ (bytesOf ([((xs.getD (Int.toNat x10l11) 0).toNat : Int)] : List (Int))))).2.2 else (if (((xs.getD (Int.toNat x10l11) 0).toNat : Int) == 10) = true then (Bld.wsS yown1_0l11 ([92, 110] : List UInt8)).2.2 else (if (((xs.getD (Int.toNat x10l11) 0).toNat : Int) == 9) = true then (Bld.wsS yown1_0l11 ([92, 116] : List UInt8)).2.2 else (if ((decide (((xs.getD (Int.toNat x10l11) 0).toNat : Int) < 32)) || (decide (((xs.getD (Int.toNat x10l11) 0).toNat : Int) > 126))) = true then (Bld.wsS yown1_0l11 ((([92, 120] : List UInt8) ++ ((([48, 49, 50, 51, 52, 53, 54, 55, 56, 57, 97, 98, 99, 100, 101, 102] : List UInt8).take (Int.toNat (IntKind.wrap .u8 ((Int.fdiv ((xs.getD (Int.toNat x10l11) 0).toNat : Int) (2 ^ 4)) + 1)))).drop (Int.toNat (Int.fdiv ((xs.getD (Int.toNat x10l11) 0).toNat : Int) (2 ^ 4))))) ++ ((([48, 49, 50, 51, 52, 53, 54, 55, 56, 57, 97, 98, 99, 100, 101, 102] : List UInt8).take (Int.toNat (IntKind.wrap .u8 ((bitAnd .u8 ((xs.getD (Int.toNat x10l11) 0).toNat : Int) 15) + 1)))).drop (Int.toNat (bitAnd .u8 ((xs.getD (Int.toNat x10l11) 0).toNat : Int) 15))))).2.2 else (Bld.wbS yown1_0l11 ((xs.getD (Int.toNat x10l11) 0).toNat : Int)).2)))).length xs25_0]) (econs (congrArg (fun l : Value => Ent.bhd b2 50 l) (congrArg (fun l : List (Int) => Value.slice a25_0 l.length c25_0) ((Eq.trans ((Eq.trans ((Eq.trans ((if_t hc21).symm) ((if_f hc16).symm))) ((if_f hc13).symm))) ((if_f hc9).symm))))) (econs (congrArg (fun l : List (Int) => Ent.own (.slice a25_0 l.length c25_0) 5 1 l.length xs25_0) ((Eq.trans ((Eq.trans ((Eq.trans ((if_t hc21).symm) ((if_f hc16).symm))) ((if_f hc13).symm))) ((if_f hc9).symm)))) rfl)) ?_
                  exact fun a W hA hW => ⟨g25, hx25, a25_0, c25_0, xs25_0, (Eq.mp (congrArg (fun l : List (Int) => RepL g25 (.int .u8) xs25_0 l) ((Eq.trans ((Eq.trans ((Eq.trans ((if_t hc21).symm) ((if_f hc16).symm))) ((if_f hc13).symm))) ((if_f hc9).symm)))) hL25_0), hA.sub (by kernel_rfl), hW, hF⟩
                · replace hF := hF.2 hc21
                  refine Ok.region ?_
                  refine Ok.batch 1 [(0, .string ⟨⟨xs⟩⟩), (3, .pointer (some ⟨b2, 0, none⟩)), (9, .int .i64 (xs.length : Int)), (10, .int .i64 x10l11), (16, .int .u8 (e6.toNat : Int))] (by kernel_rfl) ?_
                  obtain ⟨hp26, hF⟩ := hF
                  refine Ok.op rfl (OpOk.callH [.bhd b2 50 (.slice ayown1_0l11 yown1_0l11.length cyown1_0l11), .own (.slice ayown1_0l11 yown1_0l11.length cyown1_0l11) 5 1 yown1_0l11.length xsyown1_0l11] [] (enters (by kernel_rfl) (fun _ => by kernel_rfl)) rfl (Bld.wb_c yown1_0l11 (e6.toNat : Int) hLyown1_0l11 hp26) rfl fun g27 _ _ hx27 hV27 => ?_)
                  obtain ⟨a27_0, c27_0, xs27_0, rfl, hL27_0, rfl⟩ := hV27
                  refine Ok.nil ?_
                  refine Ok.blockN ?_
                  refine Ok.blockN ?_
                  refine Ok.thenN ?_
                  subst hg6
                  refine Ok.heapEq (H' := [.bhd b2 50 (.slice a27_0 (if ((((xs.getD (Int.toNat x10l11) 0).toNat : Int) == 34) || (((xs.getD (Int.toNat x10l11) 0).toNat : Int) == 92)) = true then (Bld.wsS yown1_0l11 (([92] : List UInt8) ++ (bytesOf ([((xs.getD (Int.toNat x10l11) 0).toNat : Int)] : List (Int))))).2.2 else (if (((xs.getD (Int.toNat x10l11) 0).toNat : Int) == 10) = true then (Bld.wsS yown1_0l11 ([92, 110] : List UInt8)).2.2 else (if (((xs.getD (Int.toNat x10l11) 0).toNat : Int) == 9) = true then (Bld.wsS yown1_0l11 ([92, 116] : List UInt8)).2.2 else (if ((decide (((xs.getD (Int.toNat x10l11) 0).toNat : Int) < 32)) || (decide (((xs.getD (Int.toNat x10l11) 0).toNat : Int) > 126))) = true then (Bld.wsS yown1_0l11 ((([92, 120] : List UInt8) ++ ((([48, 49, 50, 51, 52, 53, 54, 55, 56, 57, 97, 98, 99, 100, 101, 102] : List UInt8).take (Int.toNat (IntKind.wrap .u8 ((Int.fdiv ((xs.getD (Int.toNat x10l11) 0).toNat : Int) (2 ^ 4)) + 1)))).drop (Int.toNat (Int.fdiv ((xs.getD (Int.toNat x10l11) 0).toNat : Int) (2 ^ 4))))) ++ ((([48, 49, 50, 51, 52, 53, 54, 55, 56, 57, 97, 98, 99, 100, 101, 102] : List UInt8).take (Int.toNat (IntKind.wrap .u8 ((bitAnd .u8 ((xs.getD (Int.toNat x10l11) 0).toNat : Int) 15) + 1)))).drop (Int.toNat (bitAnd .u8 ((xs.getD (Int.toNat x10l11) 0).toNat : Int) 15))))).2.2 else (Bld.wbS yown1_0l11 ((xs.getD (Int.toNat x10l11) 0).toNat : Int)).2)))).length c27_0), .own (.slice a27_0 (if ((((xs.getD (Int.toNat x10l11) 0).toNat : Int) == 34) || (((xs.getD (Int.toNat x10l11) 0).toNat : Int) == 92)) = true then (Bld.wsS yown1_0l11 (([92] : List UInt8) ++ (bytesOf ([((xs.getD (Int.toNat x10l11) 0).toNat : Int)] : List (Int))))).2.2 else (if (((xs.getD (Int.toNat x10l11) 0).toNat : Int) == 10) = true then (Bld.wsS yown1_0l11 ([92, 110] : List UInt8)).2.2 else (if (((xs.getD (Int.toNat x10l11) 0).toNat : Int) == 9) = true then (Bld.wsS yown1_0l11 ([92, 116] : List UInt8)).2.2 else (if ((decide (((xs.getD (Int.toNat x10l11) 0).toNat : Int) < 32)) || (decide (((xs.getD (Int.toNat x10l11) 0).toNat : Int) > 126))) = true then (Bld.wsS yown1_0l11 ((([92, 120] : List UInt8) ++ ((([48, 49, 50, 51, 52, 53, 54, 55, 56, 57, 97, 98, 99, 100, 101, 102] : List UInt8).take (Int.toNat (IntKind.wrap .u8 ((Int.fdiv ((xs.getD (Int.toNat x10l11) 0).toNat : Int) (2 ^ 4)) + 1)))).drop (Int.toNat (Int.fdiv ((xs.getD (Int.toNat x10l11) 0).toNat : Int) (2 ^ 4))))) ++ ((([48, 49, 50, 51, 52, 53, 54, 55, 56, 57, 97, 98, 99, 100, 101, 102] : List UInt8).take (Int.toNat (IntKind.wrap .u8 ((bitAnd .u8 ((xs.getD (Int.toNat x10l11) 0).toNat : Int) 15) + 1)))).drop (Int.toNat (bitAnd .u8 ((xs.getD (Int.toNat x10l11) 0).toNat : Int) 15))))).2.2 else (Bld.wbS yown1_0l11 ((xs.getD (Int.toNat x10l11) 0).toNat : Int)).2)))).length c27_0) 5 1 (if ((((xs.getD (Int.toNat x10l11) 0).toNat : Int) == 34) || (((xs.getD (Int.toNat x10l11) 0).toNat : Int) == 92)) = true then (Bld.wsS yown1_0l11 (([92] : List UInt8) ++ (bytesOf ([((xs.getD (Int.toNat x10l11) 0).toNat : Int)] : List (Int))))).2.2 else (if (((xs.getD (Int.toNat x10l11) 0).toNat : Int) == 10) = true then (Bld.wsS yown1_0l11 ([92, 110] : List UInt8)).2.2 else (if (((xs.getD (Int.toNat x10l11) 0).toNat : Int) == 9) = true then (Bld.wsS yown1_0l11 ([92, 116] : List UInt8)).2.2 else (if ((decide (((xs.getD (Int.toNat x10l11) 0).toNat : Int) < 32)) || (decide (((xs.getD (Int.toNat x10l11) 0).toNat : Int) > 126))) = true then (Bld.wsS yown1_0l11 ((([92, 120] : List UInt8) ++ ((([48, 49, 50, 51, 52, 53, 54, 55, 56, 57, 97, 98, 99, 100, 101, 102] : List UInt8).take (Int.toNat (IntKind.wrap .u8 ((Int.fdiv ((xs.getD (Int.toNat x10l11) 0).toNat : Int) (2 ^ 4)) + 1)))).drop (Int.toNat (Int.fdiv ((xs.getD (Int.toNat x10l11) 0).toNat : Int) (2 ^ 4))))) ++ ((([48, 49, 50, 51, 52, 53, 54, 55, 56, 57, 97, 98, 99, 100, 101, 102] : List UInt8).take (Int.toNat (IntKind.wrap .u8 ((bitAnd .u8 ((xs.getD (Int.toNat x10l11) 0).toNat : Int) 15) + 1)))).drop (Int.toNat (bitAnd .u8 ((xs.getD (Int.toNat x10l11) 0).toNat : Int) 15))))).2.2 else (Bld.wbS yown1_0l11 ((xs.getD (Int.toNat x10l11) 0).toNat : Int)).2)))).length xs27_0]) (econs (congrArg (fun l : Value => Ent.bhd b2 50 l) (congrArg (fun l : List (Int) => Value.slice a27_0 l.length c27_0) ((Eq.trans ((Eq.trans ((Eq.trans ((if_f hc21).symm) ((if_f hc16).symm))) ((if_f hc13).symm))) ((if_f hc9).symm))))) (econs (congrArg (fun l : List (Int) => Ent.own (.slice a27_0 l.length c27_0) 5 1 l.length xs27_0) ((Eq.trans ((Eq.trans ((Eq.trans ((if_f hc21).symm) ((if_f hc16).symm))) ((if_f hc13).symm))) ((if_f hc9).symm)))) rfl)) ?_
                  exact fun a W hA hW => ⟨g27, hx27, a27_0, c27_0, xs27_0, (Eq.mp (congrArg (fun l : List (Int) => RepL g27 (.int .u8) xs27_0 l) ((Eq.trans ((Eq.trans ((Eq.trans ((if_f hc21).symm) ((if_f hc16).symm))) ((if_f hc13).symm))) ((if_f hc9).symm)))) hL27_0), hA.sub (by kernel_rfl), hW, hF⟩
        ·
          clear hF
          rintro a W ⟨gj18, hxj18, ayown1_0j18, cyown1_0j18, xsyown1_0j18, hLyown1_0j18, hA, hW, hF⟩
          refine (?_ : Ok _ _ _ _ _ _) a W hA hW
          clear hA hW
          refine Ok.region ?_
          refine Ok.batch 2 [(0, .string ⟨⟨xs⟩⟩), (3, .pointer (some ⟨b2, 0, none⟩)), (9, .int .i64 (xs.length : Int)), (10, .int .i64 (IntKind.wrap .i64 (x10l11 + 1)))] (by kernel_rfl) ?_
          refine Ok.nil ?_
          refine Ok.thenN ?_
          exact fun a W hA hW => ⟨k11, Nat.lt_succ_self _, gj18, (hxl11.trans hxj18), IntKind.wrap .i64 (x10l11 + 1), ayown1_0j18, cyown1_0j18, (if ((((xs.getD (Int.toNat x10l11) 0).toNat : Int) == 34) || (((xs.getD (Int.toNat x10l11) 0).toNat : Int) == 92)) = true then (Bld.wsS yown1_0l11 (([92] : List UInt8) ++ (bytesOf ([((xs.getD (Int.toNat x10l11) 0).toNat : Int)] : List (Int))))).2.2 else (if (((xs.getD (Int.toNat x10l11) 0).toNat : Int) == 10) = true then (Bld.wsS yown1_0l11 ([92, 110] : List UInt8)).2.2 else (if (((xs.getD (Int.toNat x10l11) 0).toNat : Int) == 9) = true then (Bld.wsS yown1_0l11 ([92, 116] : List UInt8)).2.2 else (if ((decide (((xs.getD (Int.toNat x10l11) 0).toNat : Int) < 32)) || (decide (((xs.getD (Int.toNat x10l11) 0).toNat : Int) > 126))) = true then (Bld.wsS yown1_0l11 ((([92, 120] : List UInt8) ++ ((([48, 49, 50, 51, 52, 53, 54, 55, 56, 57, 97, 98, 99, 100, 101, 102] : List UInt8).take (Int.toNat (IntKind.wrap .u8 ((Int.fdiv ((xs.getD (Int.toNat x10l11) 0).toNat : Int) (2 ^ 4)) + 1)))).drop (Int.toNat (Int.fdiv ((xs.getD (Int.toNat x10l11) 0).toNat : Int) (2 ^ 4))))) ++ ((([48, 49, 50, 51, 52, 53, 54, 55, 56, 57, 97, 98, 99, 100, 101, 102] : List UInt8).take (Int.toNat (IntKind.wrap .u8 ((bitAnd .u8 ((xs.getD (Int.toNat x10l11) 0).toNat : Int) 15) + 1)))).drop (Int.toNat (bitAnd .u8 ((xs.getD (Int.toNat x10l11) 0).toNat : Int) 15))))).2.2 else (Bld.wbS yown1_0l11 ((xs.getD (Int.toNat x10l11) 0).toNat : Int)).2)))), xsyown1_0j18, hLyown1_0j18, hA.sub (by kernel_rfl), hW, hF⟩
      · replace hF := hF.2 hc5
        refine Ok.exit ?_
        refine Ok.thenE ?_
        refine Ok.thenE ?_
        refine Ok.blockHit ?_
        refine Ok.thenN ?_
        refine Ok.seq ?_
        refine Ok.region ?_
        obtain ⟨hp28, hF⟩ := hF
        refine Ok.op rfl (OpOk.callH [.bhd b2 50 (.slice ayown1_0l11 yown1_0l11.length cyown1_0l11), .own (.slice ayown1_0l11 yown1_0l11.length cyown1_0l11) 5 1 yown1_0l11.length xsyown1_0l11] [] (enters (by kernel_rfl) (fun _ => by kernel_rfl)) rfl (Bld.wb_c yown1_0l11 34 hLyown1_0l11 hp28) rfl fun g29 _ _ hx29 hV29 => ?_)
        obtain ⟨a29_0, c29_0, xs29_0, rfl, hL29_0, rfl⟩ := hV29
        refine Ok.nil ?_
        refine Ok.thenN ?_
        refine Ok.seq ?_
        refine Ok.region ?_
        obtain ⟨hp30, hF⟩ := hF
        refine Ok.op rfl (OpOk.callH [.bhd b2 50 (.slice a29_0 ((Bld.wbS yown1_0l11 34).2).length c29_0), .own (.slice a29_0 ((Bld.wbS yown1_0l11 34).2).length c29_0) 5 1 ((Bld.wbS yown1_0l11 34).2).length xs29_0] [] (enters (by kernel_rfl) (fun _ => by kernel_rfl)) rfl (Bld.st_c ((Bld.wbS yown1_0l11 34).2) hL29_0 hp30) rfl fun g31 _ _ hx31 hV31 => ?_)
        obtain ⟨rfl, rfl⟩ := hV31
        refine Ok.batch 1 [(2, .string ⟨⟨(bytesOf ((Bld.wbS yown1_0l11 34).2))⟩⟩)] (by kernel_rfl) ?_
        refine Ok.nil ?_
        refine Ok.thenN ?_
        refine Ok.ret ?_
        exact Ok.resH (vs := [.string ⟨⟨(bytesOf ((Bld.wbS yown1_0l11 34).2))⟩⟩]) (.inl rfl) rfl (.cons (.tmp rfl) .nil) (((hx4.trans hxl11).trans hx29).trans hx31) ⟨(bytesOf ((Bld.wbS yown1_0l11 34).2)), rfl, rfl, hF⟩
def HX : List UInt8 := [48, 49, 50, 51, 52, 53, 54, 55, 56, 57, 97, 98, 99, 100, 101, 102]
def hx1 (c : Int) : List UInt8 := (HX.take (Int.toNat (IntKind.wrap .u8 ((Int.fdiv c (2 ^ 4)) + 1)))).drop (Int.toNat (Int.fdiv c (2 ^ 4)))
def hx2 (c : Int) : List UInt8 := (HX.take (Int.toNat (IntKind.wrap .u8 ((bitAnd .u8 c 15) + 1)))).drop (Int.toNat (bitAnd .u8 c 15))
def hxP (c : Int) : Bool := decide (0 ≤ Int.fdiv c (2 ^ 4)) && decide (Int.fdiv c (2 ^ 4) ≤ IntKind.wrap .u8 (Int.fdiv c (2 ^ 4) + 1)) && decide (IntKind.wrap .u8 (Int.fdiv c (2 ^ 4) + 1) ≤ 16) && decide ((hx1 c).length = 1) &&
  decide (0 ≤ bitAnd .u8 c 15) && decide (bitAnd .u8 c 15 ≤ IntKind.wrap .u8 (bitAnd .u8 c 15 + 1)) && decide (IntKind.wrap .u8 (bitAnd .u8 c 15 + 1) ≤ 16) && decide ((hx2 c).length = 1)
theorem hx_all : (List.range 256).all (fun n => hxP (n : Int)) = true := by decide +kernel
theorem hx_ok (c : UInt8) : hxP (c.toNat : Int) = true := List.all_eq_true.1 hx_all c.toNat (List.mem_range.2 c.toNat_lt)
/-- how a byte is written in quotes -/
def quB (c : UInt8) : List UInt8 :=
  if (((c.toNat : Int) == 34) || ((c.toNat : Int) == 92)) = true then [92, c] else if ((c.toNat : Int) == 10) = true then [92, 110] else if ((c.toNat : Int) == 9) = true then [92, 116]
  else if (decide ((c.toNat : Int) < 32) || decide ((c.toNat : Int) > 126)) = true then ([92, 120] ++ hx1 (c.toNat : Int)) ++ hx2 (c.toNat : Int) else [c]
def jquoS (s : List UInt8) : List UInt8 := [34] ++ s.flatMap quB ++ [34]
def jquoP (s : List UInt8) : Prop := s.length ≤ 10000000000000
theorem quB_len (c : UInt8) : (quB c).length ≤ 4 := by
  have h := hx_ok c
  unfold hxP at h
  simp only [Bool.and_eq_true, decide_eq_true_eq] at h
  unfold quB
  repeat' split
  all_goals simp only [List.length_cons, List.length_nil, List.length_append, h.1.1.1.1.2, h.2]
  all_goals omega
theorem intsOf_app (a b : List UInt8) : intsOf (a ++ b) = intsOf a ++ intsOf b := List.map_append
theorem stP_ints (s : List UInt8) : stP (intsOf s) := by unfold stP; rw [bytesOf_intsOf]
theorem jquo_F (s : List UInt8) (hp : jquoP s) : jquoF s (fun r => r = jquoS s) := by
  unfold jquoP at hp
  have hil : ∀ l : List UInt8, (intsOf l).length = l.length := fun l => by simp [intsOf]
  have loop : ∀ (k i : Nat) (acc : List UInt8), i + k = s.length → acc.length ≤ 4 * i + 1 → jquoS s = acc ++ (s.drop i).flatMap quB ++ [34] → jquol11 s (fun r => r = jquoS s) (k + 1) (i : Int) (intsOf acc) := by
    intro k
    induction k with
    | zero =>
      intro i acc h ha he
      have hn : decide ((i : Int) < (s.length : Int)) = false := decide_eq_false (by omega)
      rw [List.drop_of_length_le (by omega), List.flatMap_nil, List.append_nil] at he
      refine ⟨fun h => (Bool.false_ne_true (hn.symm.trans h)).elim, fun _ => ⟨?_, ?_, ?_⟩⟩
      · unfold wbP; rw [hil]; omega
      · show stP (intsOf acc ++ intsOf [34])
        rw [← intsOf_app]; exact stP_ints _
      · show bytesOf (intsOf acc ++ intsOf [34]) = _
        rw [← intsOf_app, bytesOf_intsOf, he]
    | succ k ih =>
      intro i acc h ha he
      have hn : decide ((i : Int) < (s.length : Int)) = true := decide_eq_true (by omega)
      have hb : ∀ t : List UInt8, t.length ≤ 4 → wsP (intsOf acc) t := fun t ht => by unfold wsP; rw [hil]; omega
      have hx := hx_ok (s.getD i 0)
      unfold hxP at hx
      simp only [Bool.and_eq_true, decide_eq_true_eq] at hx
      have hq := quB_len (s.getD i 0)
      rw [drop_get (l := s) 0 (by omega), List.flatMap_cons, ← List.append_assoc] at he
      have go : ∀ t, t = intsOf (acc ++ quB (s.getD i 0)) → jquol11 s (fun r => r = jquoS s) (k + 1) (IntKind.wrap .i64 ((i : Int) + 1)) t := fun t ht => by
        rw [ht, w64 (by omega)]
        exact ih (i + 1) _ (by omega) (by rw [List.length_append]; omega) he
      have hbo : bytesOf [((s.getD i 0).toNat : Int)] = [s.getD i 0] := bytesOf_intsOf [s.getD i 0]
      refine ⟨fun _ => ⟨by omega, by rw [Int.toNat_natCast]; omega, ?_⟩, fun h => (Bool.false_ne_true (h.symm.trans hn)).elim⟩
      unfold jquoj18
      rw [Int.toNat_natCast]
      have hmax : maxLen = 9223372036854775807 := maxLen_eq
      have ein : ∀ t u : List UInt8, u = t → intsOf acc ++ intsOf t = intsOf (acc ++ u) := fun t u h => by rw [h, intsOf_app]
      refine ⟨fun a => ⟨?_, hb _ ?_, go _ ?_⟩, fun a => ⟨fun b => ⟨hb _ (by decide), go _ ?_⟩, fun b => ⟨fun c => ⟨hb _ (by decide), go _ ?_⟩, fun c => ⟨fun d => ⟨hx.1.1.1.1.1.1.1, hx.1.1.1.1.1.1.2, hx.1.1.1.1.1.2, ?_, hx.1.1.1.2, hx.1.1.2, hx.1.2, ?_, hb _ ?_, go _ ?_⟩, fun d => ⟨?_, go _ ?_⟩⟩⟩⟩⟩
      · rw [hbo, hmax]; show 1 + 1 ≤ 9223372036854775807; decide
      · rw [hbo]; show 2 ≤ 4; decide
      · rw [if_t a, hbo]
        exact ein _ _ (by unfold quB; rw [if_t a]; rfl)
      · rw [if_f a, if_t b]
        exact ein _ _ (by unfold quB; rw [if_f a, if_t b])
      · rw [if_f a, if_f b, if_t c]
        exact ein _ _ (by unfold quB; rw [if_f a, if_f b, if_t c])
      · show 2 + (hx1 ((s.getD i 0).toNat : Int)).length ≤ maxLen
        rw [hx.1.1.1.1.2, hmax]; decide
      · show (([92, 120] : List UInt8) ++ hx1 ((s.getD i 0).toNat : Int)).length + (hx2 ((s.getD i 0).toNat : Int)).length ≤ maxLen
        rw [List.length_append, hx.1.1.1.1.2, hx.2, hmax]; decide
      · show ((([92, 120] : List UInt8) ++ hx1 ((s.getD i 0).toNat : Int)) ++ hx2 ((s.getD i 0).toNat : Int)).length ≤ 4
        rw [List.length_append, List.length_append, hx.1.1.1.1.2, hx.2]; decide
      · rw [if_f a, if_f b, if_f c, if_t d]
        exact ein _ _ (by unfold quB; rw [if_f a, if_f b, if_f c, if_t d]; rfl)
      · unfold wbP; rw [hil]; omega
      · rw [if_f a, if_f b, if_f c, if_f d]
        exact ein [s.getD i 0] _ (by unfold quB; rw [if_f a, if_f b, if_f c, if_f d])
  have := loop s.length 0 [34] (by omega) (by simp) rfl
  exact ⟨by unfold wbP; show 0 + 1 ≤ _; omega, _, this⟩
set_option linter.unusedVariables false in
theorem jquo_c {g : Ghost} (xs : List UInt8)  (hp : jquoP xs) : CallsG Tryd.prog 8 #[.string ⟨⟨xs⟩⟩] g (.string ⟨⟨(jquoS xs)⟩⟩) :=
  (jquo_ok xs _ (jquo_F xs hp)).gives (by rintro g' H' v _ ⟨r0, rfl, rfl, hK⟩; subst hK; rfl)
end Go.Proofs.YtaojddkfacnddaaDoor.Jl
