/- media: the text of queries, by the code and by the reference. -/
import Derived.Test.YtjehllphdpkjeaaGreatDoorMtg
namespace Go.Proofs.YtjehllphdpkjeaaGreatDoor.Me
open Go Go.Eng Go.RowKit Go.Shelf Go.Proofs Bld Trm Css Ti
set_option linter.unusedVariables false
abbrev Qu := Bool × List (Int × Int)
abbrev sepA : List UInt8 := [32, 97, 110, 100, 32]
abbrev sepC : List UInt8 := [44, 32]
abbrev notW : List UInt8 := [110, 111, 116, 32]
def featsS (q : Qu) : List UInt8 := joinS (q.2.map featS) sepA
def queS (q : Qu) : List UInt8 := if q.1 = true then notW ++ featsS q else featsS q
def textS (l : List Qu) : List UInt8 := joinS (l.map queS) sepC
def queP (q : Qu) : Prop := q.2.length ≤ 1048576 ∧ ∀ f ∈ q.2, ftP f
def textP (l : List Qu) : Prop := l.length ≤ 1048576 ∧ ∀ q ∈ l, queP q
theorem mem_getD {α : Type} [Inhabited α] {l : List α} {i : Nat} (h : i < l.length) : l.getD i default ∈ l := by
  rw [List.getD_eq_getElem?_getD, List.getElem?_eq_getElem h, Option.getD_some]
  exact List.getElem_mem h
theorem feats_len {q : Qu} (h : queP q) (n : Nat) : (Lib.join ((q.2.take n).map featS) sepA).length ≤ 68157440 := by
  have := Md.join_len sepA 60 ((q.2.take n).map featS) (fun x hx => by
    obtain ⟨f, hf, rfl⟩ := List.mem_map.1 hx
    exact featS_len (h.2 f (List.mem_of_mem_take hf)))
  rw [List.length_map, List.length_take] at this
  have h1 := h.1
  have e : (60 + sepA.length) = 65 := rfl
  rw [e] at this
  omega
theorem featsS_len {q : Qu} (h : queP q) : (featsS q).length ≤ 68157440 := by
  have := feats_len h q.2.length
  rwa [List.take_length] at this
theorem queS_len {q : Qu} (h : queP q) : (queS q).length ≤ 68157444 := by
  have := featsS_len h
  unfold queS
  split
  · rw [List.length_append]; have : notW.length = 4 := rfl; omega
  · omega
theorem text_len {l : List Qu} (h : textP l) (n : Nat) : (Lib.join ((l.take n).map queS) sepC).length ≤ 71468262096896 := by
  have := Md.join_len sepC 68157444 ((l.take n).map queS) (fun x hx => by
    obtain ⟨f, hf, rfl⟩ := List.mem_map.1 hx
    exact queS_len (h.2 f (List.mem_of_mem_take hf)))
  rw [List.length_map, List.length_take] at this
  have h1 := h.1
  have e : (68157444 + sepC.length) = 68157446 := rfl
  rw [e] at this
  omega
theorem textS_len {l : List Qu} (h : textP l) : (textS l).length ≤ 71468262096896 := by
  have := text_len h l.length
  rwa [List.take_length] at this
/-! by the code -/
/-! by the reference -/
def rqtV1 (x3l33 : List UInt8) (x5l33 : Int) : List UInt8 :=
  (if (decide (x5l33 > 0)) = true then x3l33 ++ ([32, 97, 110, 100, 32] : List UInt8) else x3l33)
def rqtV2 (x3l9 : List UInt8) (x4l9 : Int) : List UInt8 :=
  (if (decide (x4l9 > 0)) = true then x3l9 ++ ([44, 32] : List UInt8) else x3l9)
def rqtV4 (xl : List (Bool × List (Int × Int))) (x3l9 : List UInt8) (x4l9 : Int) : List UInt8 :=
  (if ((xl.getD (Int.toNat x4l9) default).1) = true then (rqtV2 x3l9 x4l9) ++ ([110, 111, 116, 32] : List UInt8) else (rqtV2 x3l9 x4l9))
def rqtj42 (xl : List (Bool × List (Int × Int))) (e3 : Bool × List (Int × Int)) (x3l33 : List UInt8) (x5l33 : Int) (x4l9 : Int) (C33 : (List UInt8) → Int → Prop) : Prop :=
  (0 : Int) ≤ x5l33 ∧ Int.toNat x5l33 < e3.2.length ∧ ftP (e3.2.getD (Int.toNat x5l33) default) ∧ (rqtV1 x3l33 x5l33).length + (featS (e3.2.getD (Int.toNat x5l33) default)).length ≤ maxLen ∧ C33 ((rqtV1 x3l33 x5l33) ++ (featS ((xl.getD (Int.toNat x4l9) default).2.getD (Int.toNat x5l33) default))) (IntKind.wrap .i64 (x5l33 + 1))
def rqtl33b (xl : List (Bool × List (Int × Int))) (x4l9 : Int) (C9 : (List UInt8) → Int → Prop) (x3l33 : List UInt8) (x5l33 : Int) (C33 : (List UInt8) → Int → Prop) : Prop :=
  (0 : Int) ≤ x4l9 ∧ Int.toNat x4l9 < xl.length ∧ ((decide (x5l33 < ((xl.getD (Int.toNat x4l9) default).2.length : Int))) = true → ((decide (x5l33 > 0)) = true → x3l33.length + ([32, 97, 110, 100, 32] : List UInt8).length ≤ maxLen ∧ rqtj42 xl (xl.getD (Int.toNat x4l9) default) x3l33 x5l33 x4l9 C33) ∧ ((decide (x5l33 > 0)) = false → rqtj42 xl (xl.getD (Int.toNat x4l9) default) x3l33 x5l33 x4l9 C33)) ∧ ((decide (x5l33 < ((xl.getD (Int.toNat x4l9) default).2.length : Int))) = false → C9 x3l33 (IntKind.wrap .i64 (x4l9 + 1)))
def rqtl33 (xl : List (Bool × List (Int × Int))) (x4l9 : Int) (C9 : (List UInt8) → Int → Prop) : Nat → (List UInt8) → Int → Prop
  | 0, _, _ => False
  | k + 1, x3l33, x5l33 => rqtl33b xl x4l9 C9 x3l33 x5l33 (rqtl33 xl x4l9 C9 k)
def rqtj24 (xl : List (Bool × List (Int × Int))) (x3l9 : List UInt8) (x4l9 : Int) (C9 : (List UInt8) → Int → Prop) : Prop :=
  ∃ k, rqtl33 xl x4l9 C9 k (rqtV4 xl x3l9 x4l9) 0
def rqtj18 (xl : List (Bool × List (Int × Int))) (x3l9 : List UInt8) (x4l9 : Int) (C9 : (List UInt8) → Int → Prop) : Prop :=
  (0 : Int) ≤ x4l9 ∧ Int.toNat x4l9 < xl.length ∧ (((xl.getD (Int.toNat x4l9) default).1) = true → (rqtV2 x3l9 x4l9).length + ([110, 111, 116, 32] : List UInt8).length ≤ maxLen ∧ rqtj24 xl x3l9 x4l9 C9) ∧ (((xl.getD (Int.toNat x4l9) default).1) = false → rqtj24 xl x3l9 x4l9 C9)
def rqtl9b (xl : List (Bool × List (Int × Int))) (K : (List UInt8) → Prop) (x3l9 : List UInt8) (x4l9 : Int) (C9 : (List UInt8) → Int → Prop) : Prop :=
  ((decide (x4l9 < (xl.length : Int))) = true → ((decide (x4l9 > 0)) = true → x3l9.length + ([44, 32] : List UInt8).length ≤ maxLen ∧ rqtj18 xl x3l9 x4l9 C9) ∧ ((decide (x4l9 > 0)) = false → rqtj18 xl x3l9 x4l9 C9)) ∧ ((decide (x4l9 < (xl.length : Int))) = false → K x3l9)
def rqtl9 (xl : List (Bool × List (Int × Int))) (K : (List UInt8) → Prop) : Nat → (List UInt8) → Int → Prop
  | 0, _, _ => False
  | k + 1, x3l9, x4l9 => rqtl9b xl K x3l9 x4l9 (rqtl9 xl K k)
def rqtF (xl : List (Bool × List (Int × Int))) (K : (List UInt8) → Prop) : Prop :=
  ∃ k, rqtl9 xl K k ([] : List UInt8) 0
set_option maxHeartbeats 4000000 in
set_option maxRecDepth 100000 in
set_option linter.unusedVariables false in
theorem rqt_ok {g : Ghost} {axl_0 : Option Addr} {cxl_0 : Nat} (xl : List (Bool × List (Int × Int))) (hRxl_0 : Rep g (.slice (.pair (.bool) (.slice (.pair (.int .i64) (.int .i64))))) [.slice axl_0 xl.length cxl_0] xl) (K : (List UInt8) → Prop)
    (hF : rqtF xl K) : CallsH Tryz.prog 7 #[.slice axl_0 xl.length cxl_0] g [] (fun g' H' v => ∃ (r0 : List UInt8), v = .string ⟨⟨r0⟩⟩ ∧ H' = [] ∧ K r0) := by
  refine CallsH.enter 49 [(0, .slice axl_0 xl.length cxl_0)] Tryz.func7 rfl (by kernel_rfl) (by kernel_rfl) (by kernel_rfl) fun w0 => ?_
  refine Ok.seq ?_
  refine Ok.region ?_
  refine Ok.batch 1 [(0, .slice axl_0 xl.length cxl_0)] (by kernel_rfl) ?_
  refine Ok.nil ?_
  refine Ok.thenN ?_
  refine Ok.seq ?_
  refine Ok.region ?_
  refine Ok.batch 1 [(0, .slice axl_0 xl.length cxl_0), (3, .string ⟨⟨([] : List UInt8)⟩⟩)] (by kernel_rfl) ?_
  refine Ok.nil ?_
  refine Ok.thenN ?_
  refine Ok.seq ?_
  refine Ok.seq ?_
  refine Ok.region ?_
  refine Ok.batch 1 [(0, .slice axl_0 xl.length cxl_0), (3, .string ⟨⟨([] : List UInt8)⟩⟩), (4, .int .i64 0)] (by kernel_rfl) ?_
  refine Ok.nil ?_
  refine Ok.thenN ?_
  refine Ok.block ?_
  obtain ⟨k, hF⟩ := hF
  refine Ok.loop (fun k a W => ∃ (x3l9 : List UInt8) (x4l9 : Int), StA 49 [(0, .slice axl_0 xl.length cxl_0), (3, .string ⟨⟨x3l9⟩⟩), (4, .int .i64 x4l9)] a ∧ StW w0 [] g W ∧ rqtl9 xl K k x3l9 x4l9) k ?_ ?_
  ·
    exact fun a W hA hW => ⟨([] : List UInt8), 0, hA.sub (by kernel_rfl), hW, hF⟩
  ·
    clear hF
    rintro k9 a W ⟨x3l9, x4l9, hA, hW, hF⟩
    cases k9 with
    | zero => exact (hF : False).elim
    | succ k9 =>
      refine (?_ : Ok _ _ _ _ _ _) a W hA hW
      clear hA hW
      refine Ok.seq ?_
      refine Ok.seq ?_
      refine Ok.region ?_
      refine Ok.batch 4 [(0, .slice axl_0 xl.length cxl_0), (3, .string ⟨⟨x3l9⟩⟩), (4, .int .i64 x4l9), (9, .bool (decide (x4l9 < (xl.length : Int))))] (by kernel_rfl) ?_
      refine Ok.nil ?_
      refine Ok.thenN ?_
      refine Ok.cond (b := decide (x4l9 < (xl.length : Int))) rfl (fun hc1 => ?_) (fun hc1 => ?_)
      · replace hF := hF.1 hc1
        refine Ok.skip ?_
        refine Ok.thenN ?_
        refine Ok.seq ?_
        refine Ok.block ?_
        refine Ok.cut (fun a W => StA 49 [(0, .slice axl_0 xl.length cxl_0), (3, .string ⟨⟨(rqtV2 x3l9 x4l9)⟩⟩), (4, .int .i64 x4l9)] a ∧ StW w0 [] g W ∧ rqtj18 xl x3l9 x4l9 (rqtl9 xl K k9)) ?_ ?_
        ·
          refine Ok.seq ?_
          refine Ok.region ?_
          refine Ok.batch 2 [(0, .slice axl_0 xl.length cxl_0), (3, .string ⟨⟨x3l9⟩⟩), (4, .int .i64 x4l9), (13, .bool (decide (x4l9 > 0)))] (by kernel_rfl) ?_
          refine Ok.nil ?_
          refine Ok.thenN ?_
          refine Ok.cond (b := decide (x4l9 > 0)) rfl (fun hc13 => ?_) (fun hc13 => ?_)
          · replace hF := hF.1 hc13
            refine Ok.region ?_
            refine Ok.batch 1 [(0, .slice axl_0 xl.length cxl_0), (4, .int .i64 x4l9), (14, .string ⟨⟨x3l9⟩⟩)] (by kernel_rfl) ?_
            obtain ⟨hv, hF⟩ := hF
            refine Ok.op rfl (OpOk.step (v := .string ⟨⟨x3l9 ++ ([44, 32] : List UInt8)⟩⟩) (Yields.strAdd rfl rfl hv) rfl rfl ?_)
            refine Ok.batch 1 [(0, .slice axl_0 xl.length cxl_0), (3, .string ⟨⟨x3l9 ++ ([44, 32] : List UInt8)⟩⟩), (4, .int .i64 x4l9)] (by kernel_rfl) ?_
            refine Ok.nil ?_
            refine Ok.thenN ?_
            refine Ok.reval 3 rfl (show (.string ⟨⟨x3l9 ++ ([44, 32] : List UInt8)⟩⟩ : Value) = .string ⟨⟨(rqtV2 x3l9 x4l9)⟩⟩ from congrArg ((fun s : List UInt8 => Value.string ⟨⟨s⟩⟩)) ((if_t hc13).symm)) ?_
            exact fun a W hA hW => ⟨hA.sub (by kernel_rfl), hW, hF⟩
          · replace hF := hF.2 hc13
            refine Ok.skip ?_
            refine Ok.thenN ?_
            refine Ok.reval 3 rfl (show (.string ⟨⟨x3l9⟩⟩ : Value) = .string ⟨⟨(rqtV2 x3l9 x4l9)⟩⟩ from congrArg ((fun s : List UInt8 => Value.string ⟨⟨s⟩⟩)) ((if_f hc13).symm)) ?_
            exact fun a W hA hW => ⟨hA.sub (by kernel_rfl), hW, hF⟩
        ·
          clear hF
          rintro a W ⟨hA, hW, hF⟩
          refine (?_ : Ok _ _ _ _ _ _) a W hA hW
          clear hA hW
          refine Ok.cut (fun a W => StA 49 [(0, .slice axl_0 xl.length cxl_0), (3, .string ⟨⟨(rqtV4 xl x3l9 x4l9)⟩⟩), (4, .int .i64 x4l9)] a ∧ StW w0 [] g W ∧ rqtj24 xl x3l9 x4l9 (rqtl9 xl K k9)) ?_ ?_
          ·
            refine Ok.seq ?_
            refine Ok.region ?_
            refine Ok.batch 2 [(0, .slice axl_0 xl.length cxl_0), (3, .string ⟨⟨(rqtV2 x3l9 x4l9)⟩⟩), (4, .int .i64 x4l9), (16, .slice axl_0 xl.length cxl_0), (17, .int .i64 x4l9)] (by kernel_rfl) ?_
            obtain ⟨h011, h111, hF⟩ := hF
            have he11 := get_of (l := xl) (default : Bool × List (Int × Int)) h111
            generalize hg11 : (xl.getD (Int.toNat x4l9) default) = e11 at he11 hF ⊢
            refine Ok.op rfl (OpOk.indexRo (e := .pair (.bool) (.slice (.pair (.int .i64) (.int .i64)))) (i := x4l9) (el := e11) rfl rfl Tryz.underlying22 (by kernel_rfl) hRxl_0 h011 he11 rfl fun q10 o10 cs10 _ hat10 hr10 => ?_)
            obtain ⟨_, _, rfl, rfl, ⟨a10_1, c10_1, rfl, hm10_1, hr10_1⟩⟩ := hr10
            have hR10_1 : Rep g (.slice (.pair (.int .i64) (.int .i64))) [.slice a10_1 e11.2.length c10_1] e11.2 := ⟨a10_1, c10_1, rfl, hm10_1, hr10_1⟩
            replace hat10 : At g q10 o10 [.bool e11.1, .slice a10_1 e11.2.length c10_1] := hat10
            refine Ok.batch 1 [(0, .slice axl_0 xl.length cxl_0), (3, .string ⟨⟨(rqtV2 x3l9 x4l9)⟩⟩), (4, .int .i64 x4l9), (19, .pointer (some ⟨q10, o10, none⟩))] (by kernel_rfl) ?_
            refine Ok.op rfl (OpOk.step (v := .bool e11.1) (Yields.loadRo 0 hat10 (by kernel_rfl) Tryz.underlying4 rfl (by kernel_rfl)) rfl rfl ?_)
            refine Ok.nil ?_
            refine Ok.thenN ?_
            refine Ok.cond (b := e11.1) rfl (fun hc12 => ?_) (fun hc12 => ?_)
            · replace hF := hF.1 hc12
              refine Ok.region ?_
              refine Ok.batch 1 [(0, .slice axl_0 xl.length cxl_0), (4, .int .i64 x4l9), (21, .string ⟨⟨(rqtV2 x3l9 x4l9)⟩⟩)] (by kernel_rfl) ?_
              obtain ⟨hv, hF⟩ := hF
              refine Ok.op rfl (OpOk.step (v := .string ⟨⟨(rqtV2 x3l9 x4l9) ++ ([110, 111, 116, 32] : List UInt8)⟩⟩) (Yields.strAdd rfl rfl hv) rfl rfl ?_)
              refine Ok.batch 1 [(0, .slice axl_0 xl.length cxl_0), (3, .string ⟨⟨(rqtV2 x3l9 x4l9) ++ ([110, 111, 116, 32] : List UInt8)⟩⟩), (4, .int .i64 x4l9)] (by kernel_rfl) ?_
              refine Ok.nil ?_
              refine Ok.thenN ?_
              subst hg11
              refine Ok.reval 3 rfl (show (.string ⟨⟨(rqtV2 x3l9 x4l9) ++ ([110, 111, 116, 32] : List UInt8)⟩⟩ : Value) = .string ⟨⟨(rqtV4 xl x3l9 x4l9)⟩⟩ from congrArg ((fun s : List UInt8 => Value.string ⟨⟨s⟩⟩)) ((if_t hc12).symm)) ?_
              exact fun a W hA hW => ⟨hA.sub (by kernel_rfl), hW, hF⟩
            · replace hF := hF.2 hc12
              refine Ok.skip ?_
              refine Ok.thenN ?_
              subst hg11
              refine Ok.reval 3 rfl (show (.string ⟨⟨(rqtV2 x3l9 x4l9)⟩⟩ : Value) = .string ⟨⟨(rqtV4 xl x3l9 x4l9)⟩⟩ from congrArg ((fun s : List UInt8 => Value.string ⟨⟨s⟩⟩)) ((if_f hc12).symm)) ?_
              exact fun a W hA hW => ⟨hA.sub (by kernel_rfl), hW, hF⟩
          ·
            clear hF
            rintro a W ⟨hA, hW, hF⟩
            refine (?_ : Ok _ _ _ _ _ _) a W hA hW
            clear hA hW
            refine Ok.seq ?_
            refine Ok.region ?_
            refine Ok.batch 1 [(0, .slice axl_0 xl.length cxl_0), (3, .string ⟨⟨(rqtV4 xl x3l9 x4l9)⟩⟩), (4, .int .i64 x4l9), (5, .int .i64 0)] (by kernel_rfl) ?_
            refine Ok.nil ?_
            refine Ok.thenN ?_
            refine Ok.block ?_
            obtain ⟨k, hF⟩ := hF
            refine Ok.loop (fun k a W => ∃ (x3l33 : List UInt8) (x5l33 : Int), StA 49 [(0, .slice axl_0 xl.length cxl_0), (3, .string ⟨⟨x3l33⟩⟩), (4, .int .i64 x4l9), (5, .int .i64 x5l33)] a ∧ StW w0 [] g W ∧ rqtl33 xl x4l9 (rqtl9 xl K k9) k x3l33 x5l33) k ?_ ?_
            ·
              exact fun a W hA hW => ⟨(rqtV4 xl x3l9 x4l9), 0, hA.sub (by kernel_rfl), hW, hF⟩
            ·
              clear hF
              rintro k33 a W ⟨x3l33, x5l33, hA, hW, hF⟩
              cases k33 with
              | zero => exact (hF : False).elim
              | succ k33 =>
                refine (?_ : Ok _ _ _ _ _ _) a W hA hW
                clear hA hW
                refine Ok.seq ?_
                refine Ok.seq ?_
                refine Ok.region ?_
                refine Ok.batch 3 [(0, .slice axl_0 xl.length cxl_0), (3, .string ⟨⟨x3l33⟩⟩), (4, .int .i64 x4l9), (5, .int .i64 x5l33), (23, .int .i64 x5l33), (24, .slice axl_0 xl.length cxl_0), (25, .int .i64 x4l9)] (by kernel_rfl) ?_
                obtain ⟨h03, h13, hF⟩ := hF
                have he3 := get_of (l := xl) (default : Bool × List (Int × Int)) h13
                generalize hg3 : (xl.getD (Int.toNat x4l9) default) = e3 at he3 hF ⊢
                refine Ok.op rfl (OpOk.indexRo (e := .pair (.bool) (.slice (.pair (.int .i64) (.int .i64)))) (i := x4l9) (el := e3) rfl rfl Tryz.underlying22 (by kernel_rfl) hRxl_0 h03 he3 rfl fun q2 o2 cs2 _ hat2 hr2 => ?_)
                obtain ⟨_, _, rfl, rfl, ⟨a2_1, c2_1, rfl, hm2_1, hr2_1⟩⟩ := hr2
                have hR2_1 : Rep g (.slice (.pair (.int .i64) (.int .i64))) [.slice a2_1 e3.2.length c2_1] e3.2 := ⟨a2_1, c2_1, rfl, hm2_1, hr2_1⟩
                replace hat2 : At g q2 o2 [.bool e3.1, .slice a2_1 e3.2.length c2_1] := hat2
                refine Ok.batch 1 [(0, .slice axl_0 xl.length cxl_0), (3, .string ⟨⟨x3l33⟩⟩), (4, .int .i64 x4l9), (5, .int .i64 x5l33), (23, .int .i64 x5l33), (27, .pointer (some ⟨q2, o2 + 1, none⟩))] (by kernel_rfl) ?_
                refine Ok.op rfl (OpOk.step (v := .slice a2_1 e3.2.length c2_1) (Yields.loadRo 1 hat2 (by kernel_rfl) Tryz.underlying26 rfl (by kernel_rfl)) rfl rfl ?_)
                refine Ok.batch 2 [(0, .slice axl_0 xl.length cxl_0), (3, .string ⟨⟨x3l33⟩⟩), (4, .int .i64 x4l9), (5, .int .i64 x5l33), (30, .bool (decide (x5l33 < (e3.2.length : Int))))] (by kernel_rfl) ?_
                refine Ok.nil ?_
                refine Ok.thenN ?_
                refine Ok.cond (b := decide (x5l33 < (e3.2.length : Int))) rfl (fun hc4 => ?_) (fun hc4 => ?_)
                · replace hF := hF.1 hc4
                  refine Ok.skip ?_
                  refine Ok.thenN ?_
                  refine Ok.seq ?_
                  refine Ok.block ?_
                  refine Ok.cut (fun a W => StA 49 [(0, .slice axl_0 xl.length cxl_0), (3, .string ⟨⟨(rqtV1 x3l33 x5l33)⟩⟩), (4, .int .i64 x4l9), (5, .int .i64 x5l33)] a ∧ StW w0 [] g W ∧ rqtj42 xl e3 x3l33 x5l33 x4l9 (rqtl33 xl x4l9 (rqtl9 xl K k9) k33)) ?_ ?_
                  ·
                    refine Ok.seq ?_
                    refine Ok.region ?_
                    refine Ok.batch 2 [(0, .slice axl_0 xl.length cxl_0), (3, .string ⟨⟨x3l33⟩⟩), (4, .int .i64 x4l9), (5, .int .i64 x5l33), (34, .bool (decide (x5l33 > 0)))] (by kernel_rfl) ?_
                    refine Ok.nil ?_
                    refine Ok.thenN ?_
                    refine Ok.cond (b := decide (x5l33 > 0)) rfl (fun hc9 => ?_) (fun hc9 => ?_)
                    · replace hF := hF.1 hc9
                      refine Ok.region ?_
                      refine Ok.batch 1 [(0, .slice axl_0 xl.length cxl_0), (4, .int .i64 x4l9), (5, .int .i64 x5l33), (35, .string ⟨⟨x3l33⟩⟩)] (by kernel_rfl) ?_
                      obtain ⟨hv, hF⟩ := hF
                      refine Ok.op rfl (OpOk.step (v := .string ⟨⟨x3l33 ++ ([32, 97, 110, 100, 32] : List UInt8)⟩⟩) (Yields.strAdd rfl rfl hv) rfl rfl ?_)
                      refine Ok.batch 1 [(0, .slice axl_0 xl.length cxl_0), (3, .string ⟨⟨x3l33 ++ ([32, 97, 110, 100, 32] : List UInt8)⟩⟩), (4, .int .i64 x4l9), (5, .int .i64 x5l33)] (by kernel_rfl) ?_
                      refine Ok.nil ?_
                      refine Ok.thenN ?_
                      refine Ok.reval 3 rfl (show (.string ⟨⟨x3l33 ++ ([32, 97, 110, 100, 32] : List UInt8)⟩⟩ : Value) = .string ⟨⟨(rqtV1 x3l33 x5l33)⟩⟩ from congrArg ((fun s : List UInt8 => Value.string ⟨⟨s⟩⟩)) ((if_t hc9).symm)) ?_
                      exact fun a W hA hW => ⟨hA.sub (by kernel_rfl), hW, hF⟩
                    · replace hF := hF.2 hc9
                      refine Ok.skip ?_
                      refine Ok.thenN ?_
                      refine Ok.reval 3 rfl (show (.string ⟨⟨x3l33⟩⟩ : Value) = .string ⟨⟨(rqtV1 x3l33 x5l33)⟩⟩ from congrArg ((fun s : List UInt8 => Value.string ⟨⟨s⟩⟩)) ((if_f hc9).symm)) ?_
                      exact fun a W hA hW => ⟨hA.sub (by kernel_rfl), hW, hF⟩
                  ·
                    clear hF
                    rintro a W ⟨hA, hW, hF⟩
                    refine (?_ : Ok _ _ _ _ _ _) a W hA hW
                    clear hA hW
                    refine Ok.region ?_
                    refine Ok.batch 3 [(0, .slice axl_0 xl.length cxl_0), (4, .int .i64 x4l9), (5, .int .i64 x5l33), (37, .string ⟨⟨(rqtV1 x3l33 x5l33)⟩⟩), (38, .slice axl_0 xl.length cxl_0), (39, .int .i64 x4l9)] (by kernel_rfl) ?_
                    refine Ok.op rfl (OpOk.indexRo (e := .pair (.bool) (.slice (.pair (.int .i64) (.int .i64)))) (i := x4l9) (el := e3) rfl rfl Tryz.underlying22 (by kernel_rfl) hRxl_0 h03 he3 rfl fun q5 o5 cs5 _ hat5 hr5 => ?_)
                    obtain ⟨_, _, rfl, rfl, ⟨a5_1, c5_1, rfl, hm5_1, hr5_1⟩⟩ := hr5
                    have hR5_1 : Rep g (.slice (.pair (.int .i64) (.int .i64))) [.slice a5_1 e3.2.length c5_1] e3.2 := ⟨a5_1, c5_1, rfl, hm5_1, hr5_1⟩
                    replace hat5 : At g q5 o5 [.bool e3.1, .slice a5_1 e3.2.length c5_1] := hat5
                    refine Ok.batch 1 [(0, .slice axl_0 xl.length cxl_0), (4, .int .i64 x4l9), (5, .int .i64 x5l33), (37, .string ⟨⟨(rqtV1 x3l33 x5l33)⟩⟩), (41, .pointer (some ⟨q5, o5 + 1, none⟩))] (by kernel_rfl) ?_
                    refine Ok.op rfl (OpOk.step (v := .slice a5_1 e3.2.length c5_1) (Yields.loadRo 1 hat5 (by kernel_rfl) Tryz.underlying26 rfl (by kernel_rfl)) rfl rfl ?_)
                    refine Ok.batch 1 [(0, .slice axl_0 xl.length cxl_0), (4, .int .i64 x4l9), (5, .int .i64 x5l33), (37, .string ⟨⟨(rqtV1 x3l33 x5l33)⟩⟩), (42, .slice a5_1 e3.2.length c5_1), (43, .int .i64 x5l33)] (by kernel_rfl) ?_
                    obtain ⟨h07, h17, hF⟩ := hF
                    have he7 := get_of (l := e3.2) (default : Int × Int) h17
                    generalize hg7 : (e3.2.getD (Int.toNat x5l33) default) = e7 at he7 hF ⊢
                    refine Ok.op rfl (OpOk.indexRo (e := .pair (.int .i64) (.int .i64)) (i := x5l33) (el := e7) rfl rfl Tryz.underlying26 (by kernel_rfl) hR5_1 h07 he7 rfl fun q6 o6 cs6 _ hat6 hr6 => ?_)
                    obtain ⟨_, _, rfl, rfl, rfl⟩ := hr6
                    replace hat6 : At g q6 o6 [.int .i64 e7.1, .int .i64 e7.2] := hat6
                    refine Ok.op rfl (OpOk.step (v := .agg #[.int .i64 e7.1, .int .i64 e7.2]) (Yields.loadAggRo 0 2 #[.int .i64 e7.1, .int .i64 e7.2] hat6 (by kernel_rfl) Tryz.underlying31 rfl (by kernel_rfl) (by kernel_rfl) (by kernel_rfl)) rfl rfl ?_)
                    obtain ⟨hp8, hF⟩ := hF
                    refine Ok.op rfl (OpOk.callG (v := .string ⟨⟨(featS e7)⟩⟩) (enters (by kernel_rfl) (fun _ => by kernel_rfl)) (fun W hW => rft_c e7 hp8) rfl ?_)
                    obtain ⟨hv, hF⟩ := hF
                    refine Ok.op rfl (OpOk.step (v := .string ⟨⟨(rqtV1 x3l33 x5l33) ++ (featS e7)⟩⟩) (Yields.strAdd rfl rfl hv) rfl rfl ?_)
                    refine Ok.batch 1 [(0, .slice axl_0 xl.length cxl_0), (3, .string ⟨⟨(rqtV1 x3l33 x5l33) ++ (featS e7)⟩⟩), (4, .int .i64 x4l9), (5, .int .i64 x5l33)] (by kernel_rfl) ?_
                    refine Ok.nil ?_
                    refine Ok.blockN ?_
                    refine Ok.thenN ?_
                    refine Ok.region ?_
                    refine Ok.batch 3 [(0, .slice axl_0 xl.length cxl_0), (3, .string ⟨⟨(rqtV1 x3l33 x5l33) ++ (featS e7)⟩⟩), (4, .int .i64 x4l9), (5, .int .i64 (IntKind.wrap .i64 (x5l33 + 1)))] (by kernel_rfl) ?_
                    refine Ok.nil ?_
                    refine Ok.thenN ?_
                    subst hg7
                    subst hg3
                    exact fun a W hA hW => ⟨k33, Nat.lt_succ_self _, (rqtV1 x3l33 x5l33) ++ (featS ((xl.getD (Int.toNat x4l9) default).2.getD (Int.toNat x5l33) default)), IntKind.wrap .i64 (x5l33 + 1), hA.sub (by kernel_rfl), hW, hF⟩
                · replace hF := hF.2 hc4
                  refine Ok.exit ?_
                  refine Ok.thenE ?_
                  refine Ok.thenE ?_
                  refine Ok.blockHit ?_
                  refine Ok.blockN ?_
                  refine Ok.thenN ?_
                  refine Ok.region ?_
                  refine Ok.batch 3 [(0, .slice axl_0 xl.length cxl_0), (3, .string ⟨⟨x3l33⟩⟩), (4, .int .i64 (IntKind.wrap .i64 (x4l9 + 1)))] (by kernel_rfl) ?_
                  refine Ok.nil ?_
                  refine Ok.thenN ?_
                  subst hg3
                  exact fun a W hA hW => ⟨k9, Nat.lt_succ_self _, x3l33, IntKind.wrap .i64 (x4l9 + 1), hA.sub (by kernel_rfl), hW, hF⟩
      · replace hF := hF.2 hc1
        refine Ok.exit ?_
        refine Ok.thenE ?_
        refine Ok.thenE ?_
        refine Ok.blockHit ?_
        refine Ok.thenN ?_
        refine Ok.seq ?_
        refine Ok.region ?_
        refine Ok.batch 2 [(2, .string ⟨⟨x3l9⟩⟩)] (by kernel_rfl) ?_
        refine Ok.nil ?_
        refine Ok.thenN ?_
        refine Ok.ret ?_
        exact Ok.resH (vs := [.string ⟨⟨x3l9⟩⟩]) (.inl rfl) rfl (.cons (.tmp rfl) .nil) (Gext.refl w0 g) ⟨x3l9, rfl, rfl, hF⟩
theorem take_empty {α β : Type} (g : α → β) {l : List α} {n : Nat} (h : n < l.length) : ((l.take n).map g).isEmpty = decide (n = 0) := by
  cases n with
  | zero => rfl
  | succ n =>
    cases l with
    | nil => cases h
    | cons x l => rfl
theorem rqt_F (l : List Qu) (hp : textP l) : rqtF l (fun r => r = textS l) := by
  have hl := hp.1
  have loop : ∀ (k i : Nat), i + k = l.length → rqtl9 l (fun r => r = textS l) (k + 1) (Lib.join ((l.take i).map queS) sepC) (i : Int) := by
    intro k
    induction k with
    | zero =>
      intro i h
      refine ⟨fun h => by have := of_decide_eq_true h; omega, fun _ => ?_⟩
      rw [List.take_of_length_le (by omega)]; rfl
    | succ k ih =>
      intro i h
      have hi : i < l.length := by omega
      have hq := hp.2 _ (mem_getD hi)
      have hx := text_len hp i
      have hq1 := hq.1
      have h2 : (rqtV2 (Lib.join ((l.take i).map queS) sepC) (i : Int)).length ≤ 71468262096906 := by
        unfold rqtV2
        split
        · rw [List.length_append]; simp only [List.length_cons, List.length_nil]; omega
        · omega
      have key : ∀ q, l.getD i default = q → rqtV4 l (Lib.join ((l.take i).map queS) sepC) (i : Int) ++ featsS q = Lib.join ((l.take (i + 1)).map queS) sepC := by
        intro q hqq
        rw [take_get default hi, List.map_append, List.map_cons, List.map_nil, Md.join_snoc, take_empty queS hi, hqq]
        unfold rqtV4 rqtV2 queS
        rw [Int.toNat_natCast, hqq]
        by_cases h0 : i = 0
        · subst h0
          rw [if_t (show decide (0 = 0) = true from rfl), if_f (show decide (((0 : Nat) : Int) > 0) = false from rfl), List.take_zero]
          split <;> rfl
        · rw [if_f (decide_eq_false h0), if_t (show decide ((i : Int) > 0) = true from decide_eq_true (by omega))]
          split
          · rw [List.append_assoc]
          · rfl
      have j24 : rqtj24 l (Lib.join ((l.take i).map queS) sepC) (i : Int) (rqtl9 l (fun r => r = textS l) (k + 1)) := by
        have h4 : (rqtV4 l (Lib.join ((l.take i).map queS) sepC) (i : Int)).length ≤ 71468262096916 := by
          unfold rqtV4
          split
          · rw [List.length_append]; simp only [List.length_cons, List.length_nil]; omega
          · omega
        generalize hB : rqtV4 l (Lib.join ((l.take i).map queS) sepC) (i : Int) = B at *
        generalize hqq : l.getD i default = q at *
        have key := key q rfl
        have inner : ∀ (m j : Nat), j + m = q.2.length → rqtl33 l (i : Int) (rqtl9 l (fun r => r = textS l) (k + 1)) (m + 1) (B ++ Lib.join ((q.2.take j).map featS) sepA) (j : Int) := by
          intro m
          induction m with
          | zero =>
            intro j h
            refine ⟨by omega, by rw [Int.toNat_natCast]; omega, fun h => ?_, fun _ => ?_⟩
            · have := of_decide_eq_true h
              rw [Int.toNat_natCast, hqq] at this
              omega
            · rw [List.take_of_length_le (by omega), w64 (by omega)]
              have e : B ++ Lib.join (q.2.map featS) sepA = Lib.join ((l.take (i + 1)).map queS) sepC := key
              rw [e]
              exact ih (i + 1) (by omega)
          | succ m ih2 =>
            intro j h
            have hj : j < q.2.length := by omega
            have hf := hq.2 _ (mem_getD hj)
            have hfl := featS_len hf
            have hjl := feats_len hq j
            have h1 : (rqtV1 (B ++ Lib.join ((q.2.take j).map featS) sepA) (j : Int)).length ≤ 71468330254376 := by
              unfold rqtV1
              split
              · rw [List.length_append, List.length_append]; simp only [List.length_cons, List.length_nil]; omega
              · rw [List.length_append]; omega
            have j42 : rqtj42 l q (B ++ Lib.join ((q.2.take j).map featS) sepA) (j : Int) (i : Int) (rqtl33 l (i : Int) (rqtl9 l (fun r => r = textS l) (k + 1)) (m + 1)) := by
              refine ⟨by omega, by rw [Int.toNat_natCast]; omega, ?_⟩
              rw [Int.toNat_natCast, Int.toNat_natCast, hqq, w64 (by omega)]
              refine ⟨hf, by rw [maxLen_eq]; omega, ?_⟩
              have e : rqtV1 (B ++ Lib.join ((q.2.take j).map featS) sepA) (j : Int) ++ featS (q.2.getD j default) = B ++ Lib.join ((q.2.take (j + 1)).map featS) sepA := by
                rw [take_get default hj, List.map_append, List.map_cons, List.map_nil, Md.join_snoc, take_empty featS hj]
                unfold rqtV1
                by_cases h0 : j = 0
                · subst h0
                  rw [if_t (show decide (0 = 0) = true from rfl), if_f (show decide (((0 : Nat) : Int) > 0) = false from rfl), List.take_zero, List.map_nil, Lib.join_nil, List.append_nil]
                · rw [if_f (decide_eq_false h0), if_t (show decide ((j : Int) > 0) = true from decide_eq_true (by omega))]
                  simp only [List.append_assoc]
              rw [e]
              exact ih2 (j + 1) (by omega)
            refine ⟨by omega, by rw [Int.toNat_natCast]; omega, fun _ => ?_, fun h => ?_⟩
            · rw [Int.toNat_natCast, hqq]
              refine ⟨fun _ => ⟨?_, j42⟩, fun _ => j42⟩
              rw [maxLen_eq, List.length_append]; simp only [List.length_cons, List.length_nil]; omega
            · have := of_decide_eq_false h
              rw [Int.toNat_natCast, hqq] at this
              omega
        refine ⟨q.2.length + 1, ?_⟩
        have := inner q.2.length 0 (by omega)
        rw [List.take_zero, List.map_nil, Lib.join_nil, List.append_nil] at this
        rw [hB]
        exact this
      have j18 : rqtj18 l (Lib.join ((l.take i).map queS) sepC) (i : Int) (rqtl9 l (fun r => r = textS l) (k + 1)) := by
        refine ⟨by omega, by rw [Int.toNat_natCast]; omega, fun _ => ⟨?_, j24⟩, fun _ => j24⟩
        rw [maxLen_eq]; simp only [List.length_cons, List.length_nil]; omega
      refine ⟨fun _ => ⟨fun _ => ⟨?_, j18⟩, fun _ => j18⟩, fun h => by have := of_decide_eq_false h; omega⟩
      rw [maxLen_eq]; simp only [List.length_cons, List.length_nil]; omega
  exact ⟨l.length + 1, loop l.length 0 (by omega)⟩
set_option linter.unusedVariables false in
theorem rqt_c {g : Ghost} {axl_0 : Option Addr} {cxl_0 : Nat} (xl : List (Bool × List (Int × Int))) (hRxl_0 : Rep g (.slice (.pair (.bool) (.slice (.pair (.int .i64) (.int .i64))))) [.slice axl_0 xl.length cxl_0] xl)  (hp : textP xl) : CallsG Tryz.prog 7 #[.slice axl_0 xl.length cxl_0] g (.string ⟨⟨(textS xl)⟩⟩) :=
  (rqt_ok xl hRxl_0 _ (rqt_F xl hp)).gives (by rintro g' H' v _ ⟨r0, rfl, rfl, hK⟩; subst hK; rfl)
/-! the law -/
end Go.Proofs.YtjehllphdpkjeaaGreatDoor.Me
