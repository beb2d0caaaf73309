/- Colors: the reference's reading. -/
import Derived.Test.YteocjdpjpkjlaaaDoorCoc
namespace Go.Proofs.YteocjdpjpkjlaaaDoor.Co
open Go Go.Eng Go.RowKit Go.Shelf Go.Proofs Bld Sp Ti
set_option linter.unusedVariables false
def rrgbj20 (xs : List UInt8) (x4l13 : Int) (x5l13 : Int) (x6l13 : Int) (x7l13 : Int) (C13 : Int → Int → Int → Int → Prop) : Prop :=
  C13 (if ((decide (x7l13 < (xs.length : Int))) && (((xs.getD (Int.toNat x7l13) 0).toNat : Int) != 44)) = true then x4l13 else IntKind.wrap .i64 ((IntKind.wrap .i64 (256 * x4l13)) + (rparS (if (((decide (x5l13 > 0)) && (decide ((((xs.take (Int.toNat x7l13)).drop (Int.toNat x6l13)).length : Int) > 0))) && (((((xs.take (Int.toNat x7l13)).drop (Int.toNat x6l13)).getD (Int.toNat 0) 0).toNat : Int) == 32)) = true then ((xs.take (Int.toNat x7l13)).drop (Int.toNat x6l13)).drop (Int.toNat 1) else (xs.take (Int.toNat x7l13)).drop (Int.toNat x6l13))))) (if ((decide (x7l13 < (xs.length : Int))) && (((xs.getD (Int.toNat x7l13) 0).toNat : Int) != 44)) = true then x5l13 else IntKind.wrap .i64 (x5l13 + 1)) (if ((decide (x7l13 < (xs.length : Int))) && (((xs.getD (Int.toNat x7l13) 0).toNat : Int) != 44)) = true then x6l13 else IntKind.wrap .i64 (x7l13 + 1)) (IntKind.wrap .i64 (x7l13 + 1))
def rrgbj30 (xs : List UInt8) (K : Int → Bool → Prop) (x4l13 : Int) (x5l13 : Int) (x6l13 : Int) (x7l13 : Int) (C13 : Int → Int → Int → Int → Prop) : Prop :=
  ((((decide ((rparS (if (((decide (x5l13 > 0)) && (decide ((((xs.take (Int.toNat x7l13)).drop (Int.toNat x6l13)).length : Int) > 0))) && (((((xs.take (Int.toNat x7l13)).drop (Int.toNat x6l13)).getD (Int.toNat 0) 0).toNat : Int) == 32)) = true then ((xs.take (Int.toNat x7l13)).drop (Int.toNat x6l13)).drop (Int.toNat 1) else (xs.take (Int.toNat x7l13)).drop (Int.toNat x6l13))) < 0)) || (x5l13 == 4))) = true → K 0 false) ∧ ((((decide ((rparS (if (((decide (x5l13 > 0)) && (decide ((((xs.take (Int.toNat x7l13)).drop (Int.toNat x6l13)).length : Int) > 0))) && (((((xs.take (Int.toNat x7l13)).drop (Int.toNat x6l13)).getD (Int.toNat 0) 0).toNat : Int) == 32)) = true then ((xs.take (Int.toNat x7l13)).drop (Int.toNat x6l13)).drop (Int.toNat 1) else (xs.take (Int.toNat x7l13)).drop (Int.toNat x6l13))) < 0)) || (x5l13 == 4))) = false → rrgbj20 xs x4l13 x5l13 x6l13 x7l13 C13)
def rrgbj31 (xs : List UInt8) (K : Int → Bool → Prop) (x4l13 : Int) (x5l13 : Int) (x6l13 : Int) (x7l13 : Int) (C13 : Int → Int → Int → Int → Prop) : Prop :=
  (((((decide (x5l13 > 0)) && (decide ((((xs.take (Int.toNat x7l13)).drop (Int.toNat x6l13)).length : Int) > 0))) && (((((xs.take (Int.toNat x7l13)).drop (Int.toNat x6l13)).getD (Int.toNat 0) 0).toNat : Int) == 32))) = true → (0 : Int) ≤ 1 ∧ (1 : Int) ≤ (((xs.take (Int.toNat x7l13)).drop (Int.toNat x6l13)).length : Int) ∧ (((xs.take (Int.toNat x7l13)).drop (Int.toNat x6l13)).length : Int) ≤ (((xs.take (Int.toNat x7l13)).drop (Int.toNat x6l13)).length : Int) ∧ rrgbj30 xs K x4l13 x5l13 x6l13 x7l13 C13) ∧ (((((decide (x5l13 > 0)) && (decide ((((xs.take (Int.toNat x7l13)).drop (Int.toNat x6l13)).length : Int) > 0))) && (((((xs.take (Int.toNat x7l13)).drop (Int.toNat x6l13)).getD (Int.toNat 0) 0).toNat : Int) == 32))) = false → rrgbj30 xs K x4l13 x5l13 x6l13 x7l13 C13)
def rrgbj23 (xs : List UInt8) (K : Int → Bool → Prop) (x4l13 : Int) (x5l13 : Int) (x6l13 : Int) (x7l13 : Int) (C13 : Int → Int → Int → Int → Prop) : Prop :=
  ((((decide (x7l13 < (xs.length : Int))) && (((xs.getD (Int.toNat x7l13) 0).toNat : Int) != 44))) = true → rrgbj20 xs x4l13 x5l13 x6l13 x7l13 C13) ∧ ((((decide (x7l13 < (xs.length : Int))) && (((xs.getD (Int.toNat x7l13) 0).toNat : Int) != 44))) = false → (0 : Int) ≤ x6l13 ∧ (x6l13 : Int) ≤ x7l13 ∧ x7l13 ≤ (xs.length : Int) ∧ ((((decide (x5l13 > 0)) && (decide ((((xs.take (Int.toNat x7l13)).drop (Int.toNat x6l13)).length : Int) > 0)))) = true → (0 : Int) ≤ 0 ∧ Int.toNat 0 < ((xs.take (Int.toNat x7l13)).drop (Int.toNat x6l13)).length ∧ rrgbj31 xs K x4l13 x5l13 x6l13 x7l13 C13) ∧ ((((decide (x5l13 > 0)) && (decide ((((xs.take (Int.toNat x7l13)).drop (Int.toNat x6l13)).length : Int) > 0)))) = false → rrgbj31 xs K x4l13 x5l13 x6l13 x7l13 C13))
def rrgbj52 (K : Int → Bool → Prop) (x4l13 : Int) (x5l13 : Int) : Prop :=
  K (if (x5l13 == 3) = true then IntKind.wrap .i64 ((IntKind.wrap .i64 (256 * x4l13)) + 255) else x4l13) (decide (x5l13 ≥ 3))
def rrgbl13b (xs : List UInt8) (K : Int → Bool → Prop) (x4l13 : Int) (x5l13 : Int) (x6l13 : Int) (x7l13 : Int) (C13 : Int → Int → Int → Int → Prop) : Prop :=
  ((decide (x7l13 ≤ (xs.length : Int))) = true → ((decide (x7l13 < (xs.length : Int))) = true → (0 : Int) ≤ x7l13 ∧ Int.toNat x7l13 < xs.length ∧ rrgbj23 xs K x4l13 x5l13 x6l13 x7l13 C13) ∧ ((decide (x7l13 < (xs.length : Int))) = false → rrgbj23 xs K x4l13 x5l13 x6l13 x7l13 C13)) ∧ ((decide (x7l13 ≤ (xs.length : Int))) = false → (((x5l13 == 3)) = true → rrgbj52 K x4l13 x5l13) ∧ (((x5l13 == 3)) = false → rrgbj52 K x4l13 x5l13))
def rrgbl13 (xs : List UInt8) (K : Int → Bool → Prop) : Nat → Int → Int → Int → Int → Prop
  | 0, _, _, _, _ => False
  | k + 1, x4l13, x5l13, x6l13, x7l13 => rrgbl13b xs K x4l13 x5l13 x6l13 x7l13 (rrgbl13 xs K k)
def rrgbF (xs : List UInt8) (K : Int → Bool → Prop) : Prop :=
  ∃ k, rrgbl13 xs K k 0 0 0 0
set_option maxHeartbeats 4000000 in
set_option maxRecDepth 100000 in
set_option linter.unusedVariables false in
theorem rrgb_ok {g : Ghost} (xs : List UInt8) (K : Int → Bool → Prop)
    (hF : rrgbF xs K) : CallsH Tryd.prog 51 #[.string ⟨⟨xs⟩⟩] g [] (fun g' H' v => ∃ (r0 : Int), ∃ (r1 : Bool), v = .tuple #[.int .i64 r0, .bool r1] ∧ H' = [] ∧ K r0 r1) := by
  refine CallsH.enter 68 [(0, .string ⟨⟨xs⟩⟩)] Tryd.func51 rfl (by kernel_rfl) (by kernel_rfl) (by kernel_rfl) fun w0 => ?_
  refine Ok.seq ?_
  refine Ok.region ?_
  refine Ok.batch 2 [(0, .string ⟨⟨xs⟩⟩)] (by kernel_rfl) ?_
  refine Ok.nil ?_
  refine Ok.thenN ?_
  refine Ok.seq ?_
  refine Ok.region ?_
  refine Ok.batch 1 [(0, .string ⟨⟨xs⟩⟩), (4, .int .i64 0)] (by kernel_rfl) ?_
  refine Ok.nil ?_
  refine Ok.thenN ?_
  refine Ok.seq ?_
  refine Ok.region ?_
  refine Ok.batch 1 [(0, .string ⟨⟨xs⟩⟩), (4, .int .i64 0), (5, .int .i64 0)] (by kernel_rfl) ?_
  refine Ok.nil ?_
  refine Ok.thenN ?_
  refine Ok.seq ?_
  refine Ok.region ?_
  refine Ok.batch 1 [(0, .string ⟨⟨xs⟩⟩), (4, .int .i64 0), (5, .int .i64 0), (6, .int .i64 0)] (by kernel_rfl) ?_
  refine Ok.nil ?_
  refine Ok.thenN ?_
  refine Ok.seq ?_
  refine Ok.seq ?_
  refine Ok.region ?_
  refine Ok.batch 1 [(0, .string ⟨⟨xs⟩⟩), (4, .int .i64 0), (5, .int .i64 0), (6, .int .i64 0), (7, .int .i64 0)] (by kernel_rfl) ?_
  refine Ok.nil ?_
  refine Ok.thenN ?_
  refine Ok.block ?_
  obtain ⟨k, hF⟩ := hF
  refine Ok.loop (fun k a W => ∃ (x4l13 : Int) (x5l13 : Int) (x6l13 : Int) (x7l13 : Int), StA 68 [(0, .string ⟨⟨xs⟩⟩), (4, .int .i64 x4l13), (5, .int .i64 x5l13), (6, .int .i64 x6l13), (7, .int .i64 x7l13)] a ∧ StW w0 [] g W ∧ rrgbl13 xs K k x4l13 x5l13 x6l13 x7l13) k ?_ ?_
  ·
    exact fun a W hA hW => ⟨0, 0, 0, 0, hA.sub (by kernel_rfl), hW, hF⟩
  ·
    clear hF
    rintro k13 a W ⟨x4l13, x5l13, x6l13, x7l13, hA, hW, hF⟩
    cases k13 with
    | zero => exact (hF : False).elim
    | succ k13 =>
      refine (?_ : Ok _ _ _ _ _ _) a W hA hW
      clear hA hW
      refine Ok.seq ?_
      refine Ok.seq ?_
      refine Ok.region ?_
      refine Ok.batch 4 [(0, .string ⟨⟨xs⟩⟩), (4, .int .i64 x4l13), (5, .int .i64 x5l13), (6, .int .i64 x6l13), (7, .int .i64 x7l13), (13, .bool (decide (x7l13 ≤ (xs.length : Int))))] (by kernel_rfl) ?_
      refine Ok.nil ?_
      refine Ok.thenN ?_
      refine Ok.cond (b := decide (x7l13 ≤ (xs.length : Int))) rfl (fun hc1 => ?_) (fun hc1 => ?_)
      · replace hF := hF.1 hc1
        refine Ok.skip ?_
        refine Ok.thenN ?_
        refine Ok.cut (fun a W => StA 68 [(0, .string ⟨⟨xs⟩⟩), (4, .int .i64 (if ((decide (x7l13 < (xs.length : Int))) && (((xs.getD (Int.toNat x7l13) 0).toNat : Int) != 44)) = true then x4l13 else IntKind.wrap .i64 ((IntKind.wrap .i64 (256 * x4l13)) + (rparS (if (((decide (x5l13 > 0)) && (decide ((((xs.take (Int.toNat x7l13)).drop (Int.toNat x6l13)).length : Int) > 0))) && (((((xs.take (Int.toNat x7l13)).drop (Int.toNat x6l13)).getD (Int.toNat 0) 0).toNat : Int) == 32)) = true then ((xs.take (Int.toNat x7l13)).drop (Int.toNat x6l13)).drop (Int.toNat 1) else (xs.take (Int.toNat x7l13)).drop (Int.toNat x6l13)))))), (5, .int .i64 (if ((decide (x7l13 < (xs.length : Int))) && (((xs.getD (Int.toNat x7l13) 0).toNat : Int) != 44)) = true then x5l13 else IntKind.wrap .i64 (x5l13 + 1))), (6, .int .i64 (if ((decide (x7l13 < (xs.length : Int))) && (((xs.getD (Int.toNat x7l13) 0).toNat : Int) != 44)) = true then x6l13 else IntKind.wrap .i64 (x7l13 + 1))), (7, .int .i64 x7l13)] a ∧ StW w0 [] g W ∧ rrgbj20 xs x4l13 x5l13 x6l13 x7l13 (rrgbl13 xs K k13)) ?_ ?_
        ·
          refine Ok.block ?_
          refine Ok.seq ?_
          refine Ok.cut (fun a W => StA 68 [(0, .string ⟨⟨xs⟩⟩), (4, .int .i64 x4l13), (5, .int .i64 x5l13), (6, .int .i64 x6l13), (7, .int .i64 x7l13), (25, .bool ((decide (x7l13 < (xs.length : Int))) && (((xs.getD (Int.toNat x7l13) 0).toNat : Int) != 44)))] a ∧ StW w0 [] g W ∧ rrgbj23 xs K x4l13 x5l13 x6l13 x7l13 (rrgbl13 xs K k13)) ?_ ?_
          ·
            refine Ok.region ?_
            refine Ok.batch 5 [(0, .string ⟨⟨xs⟩⟩), (4, .int .i64 x4l13), (5, .int .i64 x5l13), (6, .int .i64 x6l13), (7, .int .i64 x7l13), (20, .bool (decide (x7l13 < (xs.length : Int))))] (by kernel_rfl) ?_
            refine Ok.boolAt 20 (decide (x7l13 < (xs.length : Int))) rfl (fun hc13 => ?_) (fun hc13 => ?_)
            · replace hF := hF.1 hc13
              refine Ok.batch 2 [(0, .string ⟨⟨xs⟩⟩), (4, .int .i64 x4l13), (5, .int .i64 x5l13), (6, .int .i64 x6l13), (7, .int .i64 x7l13), (20, .bool true), (21, .string ⟨⟨xs⟩⟩), (22, .int .i64 x7l13)] (by kernel_rfl) ?_
              obtain ⟨h014, h114, hF⟩ := hF
              have he14 := get_of (l := xs) (0 : UInt8) h114
              generalize hg14 : (xs.getD (Int.toNat x7l13) 0) = e14 at he14 hF ⊢
              refine Ok.opYes (j := 4) (d := 20) (want := true) (b := true) rfl (by kernel_rfl) (by kernel_rfl) rfl (OpOk.step (v := .int .u8 (e14.toNat : Int)) (Yields.indexStr (k := .i64) (i := x7l13) (s := xs) (b := e14) (by kernel_rfl) (by kernel_rfl) Tryd.underlying9 h014 he14) rfl rfl ?_)
              refine Ok.batch 2 [(0, .string ⟨⟨xs⟩⟩), (4, .int .i64 x4l13), (5, .int .i64 x5l13), (6, .int .i64 x6l13), (7, .int .i64 x7l13), (25, .bool ((e14.toNat : Int) != 44))] (by kernel_rfl) ?_
              refine Ok.nil ?_
              refine Ok.thenN ?_
              subst hg14
              refine Ok.reval 25 rfl (show (.bool (((xs.getD (Int.toNat x7l13) 0).toNat : Int) != 44) : Value) = .bool ((decide (x7l13 < (xs.length : Int))) && (((xs.getD (Int.toNat x7l13) 0).toNat : Int) != 44)) from congrArg (Value.bool) (mand_t hc13)) ?_
              exact fun a W hA hW => ⟨hA.sub (by kernel_rfl), hW, hF⟩
            · replace hF := hF.2 hc13
              refine Ok.batch 5 [(0, .string ⟨⟨xs⟩⟩), (4, .int .i64 x4l13), (5, .int .i64 x5l13), (6, .int .i64 x6l13), (7, .int .i64 x7l13), (25, .bool false)] (by kernel_rfl) ?_
              refine Ok.nil ?_
              refine Ok.thenN ?_
              refine Ok.reval 25 rfl (show (.bool false : Value) = .bool ((decide (x7l13 < (xs.length : Int))) && (((xs.getD (Int.toNat x7l13) 0).toNat : Int) != 44)) from congrArg (Value.bool) (mand_f hc13)) ?_
              exact fun a W hA hW => ⟨hA.sub (by kernel_rfl), hW, hF⟩
          ·
            clear hF
            rintro a W ⟨hA, hW, hF⟩
            refine (?_ : Ok _ _ _ _ _ _) a W hA hW
            clear hA hW
            refine Ok.cond (b := ((decide (x7l13 < (xs.length : Int))) && (((xs.getD (Int.toNat x7l13) 0).toNat : Int) != 44))) rfl (fun hc2 => ?_) (fun hc2 => ?_)
            · replace hF := hF.1 hc2
              refine Ok.exit ?_
              refine Ok.thenE ?_
              refine Ok.blockHit ?_
              refine Ok.thenN ?_
              refine Ok.reval 4 rfl (show (.int .i64 x4l13 : Value) = .int .i64 (if ((decide (x7l13 < (xs.length : Int))) && (((xs.getD (Int.toNat x7l13) 0).toNat : Int) != 44)) = true then x4l13 else IntKind.wrap .i64 ((IntKind.wrap .i64 (256 * x4l13)) + (rparS (if (((decide (x5l13 > 0)) && (decide ((((xs.take (Int.toNat x7l13)).drop (Int.toNat x6l13)).length : Int) > 0))) && (((((xs.take (Int.toNat x7l13)).drop (Int.toNat x6l13)).getD (Int.toNat 0) 0).toNat : Int) == 32)) = true then ((xs.take (Int.toNat x7l13)).drop (Int.toNat x6l13)).drop (Int.toNat 1) else (xs.take (Int.toNat x7l13)).drop (Int.toNat x6l13))))) from congrArg (Value.int .i64) ((if_t hc2).symm)) ?_
              refine Ok.reval 5 rfl (show (.int .i64 x5l13 : Value) = .int .i64 (if ((decide (x7l13 < (xs.length : Int))) && (((xs.getD (Int.toNat x7l13) 0).toNat : Int) != 44)) = true then x5l13 else IntKind.wrap .i64 (x5l13 + 1)) from congrArg (Value.int .i64) ((if_t hc2).symm)) ?_
              refine Ok.reval 6 rfl (show (.int .i64 x6l13 : Value) = .int .i64 (if ((decide (x7l13 < (xs.length : Int))) && (((xs.getD (Int.toNat x7l13) 0).toNat : Int) != 44)) = true then x6l13 else IntKind.wrap .i64 (x7l13 + 1)) from congrArg (Value.int .i64) ((if_t hc2).symm)) ?_
              exact fun a W hA hW => ⟨hA.sub (by kernel_rfl), hW, hF⟩
            · replace hF := hF.2 hc2
              refine Ok.skip ?_
              refine Ok.thenN ?_
              refine Ok.seq ?_
              refine Ok.region ?_
              refine Ok.batch 3 [(0, .string ⟨⟨xs⟩⟩), (4, .int .i64 x4l13), (5, .int .i64 x5l13), (7, .int .i64 x7l13), (26, .string ⟨⟨xs⟩⟩), (27, .int .i64 x6l13), (28, .int .i64 x7l13)] (by kernel_rfl) ?_
              obtain ⟨h03, h13, h23, hF⟩ := hF
              refine Ok.op rfl (OpOk.step (v := .string ⟨⟨(xs.take (Int.toNat x7l13)).drop (Int.toNat x6l13)⟩⟩) (Yields.sliceStr (s := xs) (l := x6l13) (h := x7l13) (by kernel_rfl) Tryd.underlying9 (.inl ⟨_, _, rfl, rfl⟩) (.inl ⟨_, _, rfl, rfl⟩) h03 h13 h23 ((xs.take (Int.toNat x7l13)).drop (Int.toNat x6l13)) rfl) rfl rfl ?_)
              refine Ok.batch 1 [(0, .string ⟨⟨xs⟩⟩), (4, .int .i64 x4l13), (5, .int .i64 x5l13), (7, .int .i64 x7l13), (8, .string ⟨⟨(xs.take (Int.toNat x7l13)).drop (Int.toNat x6l13)⟩⟩)] (by kernel_rfl) ?_
              refine Ok.nil ?_
              refine Ok.thenN ?_
              refine Ok.cut (fun a W => StA 68 [(0, .string ⟨⟨xs⟩⟩), (4, .int .i64 x4l13), (5, .int .i64 x5l13), (7, .int .i64 x7l13), (8, .string ⟨⟨(if (((decide (x5l13 > 0)) && (decide ((((xs.take (Int.toNat x7l13)).drop (Int.toNat x6l13)).length : Int) > 0))) && (((((xs.take (Int.toNat x7l13)).drop (Int.toNat x6l13)).getD (Int.toNat 0) 0).toNat : Int) == 32)) = true then ((xs.take (Int.toNat x7l13)).drop (Int.toNat x6l13)).drop (Int.toNat 1) else (xs.take (Int.toNat x7l13)).drop (Int.toNat x6l13))⟩⟩)] a ∧ StW w0 [] g W ∧ rrgbj30 xs K x4l13 x5l13 x6l13 x7l13 (rrgbl13 xs K k13)) ?_ ?_
              ·
                refine Ok.cut (fun a W => StA 68 [(0, .string ⟨⟨xs⟩⟩), (4, .int .i64 x4l13), (5, .int .i64 x5l13), (7, .int .i64 x7l13), (8, .string ⟨⟨(xs.take (Int.toNat x7l13)).drop (Int.toNat x6l13)⟩⟩), (41, .bool (((decide (x5l13 > 0)) && (decide ((((xs.take (Int.toNat x7l13)).drop (Int.toNat x6l13)).length : Int) > 0))) && (((((xs.take (Int.toNat x7l13)).drop (Int.toNat x6l13)).getD (Int.toNat 0) 0).toNat : Int) == 32)))] a ∧ StW w0 [] g W ∧ rrgbj31 xs K x4l13 x5l13 x6l13 x7l13 (rrgbl13 xs K k13)) ?_ ?_
                ·
                  refine Ok.region ?_
                  refine Ok.batch 3 [(0, .string ⟨⟨xs⟩⟩), (4, .int .i64 x4l13), (5, .int .i64 x5l13), (7, .int .i64 x7l13), (8, .string ⟨⟨(xs.take (Int.toNat x7l13)).drop (Int.toNat x6l13)⟩⟩), (32, .bool (decide (x5l13 > 0)))] (by kernel_rfl) ?_
                  refine Ok.midway 4 [(0, .string ⟨⟨xs⟩⟩), (4, .int .i64 x4l13), (5, .int .i64 x5l13), (7, .int .i64 x7l13), (8, .string ⟨⟨(xs.take (Int.toNat x7l13)).drop (Int.toNat x6l13)⟩⟩), (36, .bool ((decide (x5l13 > 0)) && (decide ((((xs.take (Int.toNat x7l13)).drop (Int.toNat x6l13)).length : Int) > 0))))] (fun hR9 => ?_) ?_
                  · refine Ok.boolAt 32 (decide (x5l13 > 0)) rfl (fun hc10 => ?_) (fun hc10 => ?_)
                    · skip
                      refine Ok.batch 4 [(0, .string ⟨⟨xs⟩⟩), (4, .int .i64 x4l13), (5, .int .i64 x5l13), (7, .int .i64 x7l13), (8, .string ⟨⟨(xs.take (Int.toNat x7l13)).drop (Int.toNat x6l13)⟩⟩), (36, .bool (decide ((((xs.take (Int.toNat x7l13)).drop (Int.toNat x6l13)).length : Int) > 0)))] (by kernel_rfl) ?_
                      refine Ok.reval 36 rfl (show (.bool (decide ((((xs.take (Int.toNat x7l13)).drop (Int.toNat x6l13)).length : Int) > 0)) : Value) = .bool ((decide (x5l13 > 0)) && (decide ((((xs.take (Int.toNat x7l13)).drop (Int.toNat x6l13)).length : Int) > 0))) from congrArg Value.bool (mand_t hc10)) ?_
                      refine Ok.batch 0 [(0, .string ⟨⟨xs⟩⟩), (4, .int .i64 x4l13), (5, .int .i64 x5l13), (7, .int .i64 x7l13), (8, .string ⟨⟨(xs.take (Int.toNat x7l13)).drop (Int.toNat x6l13)⟩⟩), (36, .bool ((decide (x5l13 > 0)) && (decide ((((xs.take (Int.toNat x7l13)).drop (Int.toNat x6l13)).length : Int) > 0))))] (by kernel_rfl) ?_
                      exact hR9
                    · skip
                      refine Ok.batch 4 [(0, .string ⟨⟨xs⟩⟩), (4, .int .i64 x4l13), (5, .int .i64 x5l13), (7, .int .i64 x7l13), (8, .string ⟨⟨(xs.take (Int.toNat x7l13)).drop (Int.toNat x6l13)⟩⟩), (36, .bool false)] (by kernel_rfl) ?_
                      refine Ok.reval 36 rfl (show (.bool false : Value) = .bool ((decide (x5l13 > 0)) && (decide ((((xs.take (Int.toNat x7l13)).drop (Int.toNat x6l13)).length : Int) > 0))) from congrArg Value.bool (mand_f hc10)) ?_
                      refine Ok.batch 0 [(0, .string ⟨⟨xs⟩⟩), (4, .int .i64 x4l13), (5, .int .i64 x5l13), (7, .int .i64 x7l13), (8, .string ⟨⟨(xs.take (Int.toNat x7l13)).drop (Int.toNat x6l13)⟩⟩), (36, .bool ((decide (x5l13 > 0)) && (decide ((((xs.take (Int.toNat x7l13)).drop (Int.toNat x6l13)).length : Int) > 0))))] (by kernel_rfl) ?_
                      exact hR9
                  refine Ok.batch 1 [(0, .string ⟨⟨xs⟩⟩), (4, .int .i64 x4l13), (5, .int .i64 x5l13), (7, .int .i64 x7l13), (8, .string ⟨⟨(xs.take (Int.toNat x7l13)).drop (Int.toNat x6l13)⟩⟩), (37, .bool ((decide (x5l13 > 0)) && (decide ((((xs.take (Int.toNat x7l13)).drop (Int.toNat x6l13)).length : Int) > 0))))] (by kernel_rfl) ?_
                  refine Ok.boolAt 37 (((decide (x5l13 > 0)) && (decide ((((xs.take (Int.toNat x7l13)).drop (Int.toNat x6l13)).length : Int) > 0)))) rfl (fun hc11 => ?_) (fun hc11 => ?_)
                  · replace hF := hF.1 hc11
                    refine Ok.batch 1 [(0, .string ⟨⟨xs⟩⟩), (4, .int .i64 x4l13), (5, .int .i64 x5l13), (7, .int .i64 x7l13), (8, .string ⟨⟨(xs.take (Int.toNat x7l13)).drop (Int.toNat x6l13)⟩⟩), (37, .bool true), (38, .string ⟨⟨(xs.take (Int.toNat x7l13)).drop (Int.toNat x6l13)⟩⟩)] (by kernel_rfl) ?_
                    obtain ⟨h012, h112, hF⟩ := hF
                    have he12 := get_of (l := (xs.take (Int.toNat x7l13)).drop (Int.toNat x6l13)) (0 : UInt8) h112
                    generalize hg12 : (((xs.take (Int.toNat x7l13)).drop (Int.toNat x6l13)).getD (Int.toNat 0) 0) = e12 at he12 hF ⊢
                    refine Ok.opYes (j := 7) (d := 37) (want := true) (b := true) rfl (by kernel_rfl) (by kernel_rfl) rfl (OpOk.step (v := .int .u8 (e12.toNat : Int)) (Yields.indexStr (k := .i64) (i := 0) (s := ((xs.take (Int.toNat x7l13)).drop (Int.toNat x6l13))) (b := e12) (by kernel_rfl) (by kernel_rfl) Tryd.underlying9 h012 he12) rfl rfl ?_)
                    refine Ok.batch 2 [(0, .string ⟨⟨xs⟩⟩), (4, .int .i64 x4l13), (5, .int .i64 x5l13), (7, .int .i64 x7l13), (8, .string ⟨⟨(xs.take (Int.toNat x7l13)).drop (Int.toNat x6l13)⟩⟩), (41, .bool ((e12.toNat : Int) == 32))] (by kernel_rfl) ?_
                    refine Ok.nil ?_
                    refine Ok.thenN ?_
                    subst hg12
                    refine Ok.reval 41 rfl (show (.bool (((((xs.take (Int.toNat x7l13)).drop (Int.toNat x6l13)).getD (Int.toNat 0) 0).toNat : Int) == 32) : Value) = .bool (((decide (x5l13 > 0)) && (decide ((((xs.take (Int.toNat x7l13)).drop (Int.toNat x6l13)).length : Int) > 0))) && (((((xs.take (Int.toNat x7l13)).drop (Int.toNat x6l13)).getD (Int.toNat 0) 0).toNat : Int) == 32)) from congrArg (Value.bool) (mand_t hc11)) ?_
                    exact fun a W hA hW => ⟨hA.sub (by kernel_rfl), hW, hF⟩
                  · replace hF := hF.2 hc11
                    refine Ok.batch 4 [(0, .string ⟨⟨xs⟩⟩), (4, .int .i64 x4l13), (5, .int .i64 x5l13), (7, .int .i64 x7l13), (8, .string ⟨⟨(xs.take (Int.toNat x7l13)).drop (Int.toNat x6l13)⟩⟩), (41, .bool false)] (by kernel_rfl) ?_
                    refine Ok.nil ?_
                    refine Ok.thenN ?_
                    refine Ok.reval 41 rfl (show (.bool false : Value) = .bool (((decide (x5l13 > 0)) && (decide ((((xs.take (Int.toNat x7l13)).drop (Int.toNat x6l13)).length : Int) > 0))) && (((((xs.take (Int.toNat x7l13)).drop (Int.toNat x6l13)).getD (Int.toNat 0) 0).toNat : Int) == 32)) from congrArg (Value.bool) (mand_f hc11)) ?_
                    exact fun a W hA hW => ⟨hA.sub (by kernel_rfl), hW, hF⟩
                ·
                  clear hF
                  rintro a W ⟨hA, hW, hF⟩
                  refine (?_ : Ok _ _ _ _ _ _) a W hA hW
                  clear hA hW
                  refine Ok.cond (b := (((decide (x5l13 > 0)) && (decide ((((xs.take (Int.toNat x7l13)).drop (Int.toNat x6l13)).length : Int) > 0))) && (((((xs.take (Int.toNat x7l13)).drop (Int.toNat x6l13)).getD (Int.toNat 0) 0).toNat : Int) == 32))) rfl (fun hc7 => ?_) (fun hc7 => ?_)
                  · replace hF := hF.1 hc7
                    refine Ok.region ?_
                    refine Ok.batch 1 [(0, .string ⟨⟨xs⟩⟩), (4, .int .i64 x4l13), (5, .int .i64 x5l13), (7, .int .i64 x7l13), (42, .string ⟨⟨(xs.take (Int.toNat x7l13)).drop (Int.toNat x6l13)⟩⟩)] (by kernel_rfl) ?_
                    obtain ⟨h08, h18, h28, hF⟩ := hF
                    refine Ok.op rfl (OpOk.step (v := .string ⟨⟨((xs.take (Int.toNat x7l13)).drop (Int.toNat x6l13)).drop (Int.toNat 1)⟩⟩) (Yields.sliceStr (s := ((xs.take (Int.toNat x7l13)).drop (Int.toNat x6l13))) (l := 1) (h := (((xs.take (Int.toNat x7l13)).drop (Int.toNat x6l13)).length : Int)) (by kernel_rfl) Tryd.underlying9 (.inl ⟨_, _, rfl, rfl⟩) (.inr ⟨rfl, rfl⟩) h08 h18 h28 (((xs.take (Int.toNat x7l13)).drop (Int.toNat x6l13)).drop (Int.toNat 1)) (by rw [show ((((xs.take (Int.toNat x7l13)).drop (Int.toNat x6l13)).length : Int)).toNat = ((xs.take (Int.toNat x7l13)).drop (Int.toNat x6l13)).length from Int.toNat_natCast _, List.take_length])) rfl rfl ?_)
                    refine Ok.batch 1 [(0, .string ⟨⟨xs⟩⟩), (4, .int .i64 x4l13), (5, .int .i64 x5l13), (7, .int .i64 x7l13), (8, .string ⟨⟨((xs.take (Int.toNat x7l13)).drop (Int.toNat x6l13)).drop (Int.toNat 1)⟩⟩)] (by kernel_rfl) ?_
                    refine Ok.nil ?_
                    refine Ok.thenN ?_
                    refine Ok.reval 8 rfl (show (.string ⟨⟨((xs.take (Int.toNat x7l13)).drop (Int.toNat x6l13)).drop (Int.toNat 1)⟩⟩ : Value) = .string ⟨⟨(if (((decide (x5l13 > 0)) && (decide ((((xs.take (Int.toNat x7l13)).drop (Int.toNat x6l13)).length : Int) > 0))) && (((((xs.take (Int.toNat x7l13)).drop (Int.toNat x6l13)).getD (Int.toNat 0) 0).toNat : Int) == 32)) = true then ((xs.take (Int.toNat x7l13)).drop (Int.toNat x6l13)).drop (Int.toNat 1) else (xs.take (Int.toNat x7l13)).drop (Int.toNat x6l13))⟩⟩ from congrArg ((fun s : List UInt8 => Value.string ⟨⟨s⟩⟩)) ((if_t hc7).symm)) ?_
                    exact fun a W hA hW => ⟨hA.sub (by kernel_rfl), hW, hF⟩
                  · replace hF := hF.2 hc7
                    refine Ok.skip ?_
                    refine Ok.thenN ?_
                    refine Ok.reval 8 rfl (show (.string ⟨⟨(xs.take (Int.toNat x7l13)).drop (Int.toNat x6l13)⟩⟩ : Value) = .string ⟨⟨(if (((decide (x5l13 > 0)) && (decide ((((xs.take (Int.toNat x7l13)).drop (Int.toNat x6l13)).length : Int) > 0))) && (((((xs.take (Int.toNat x7l13)).drop (Int.toNat x6l13)).getD (Int.toNat 0) 0).toNat : Int) == 32)) = true then ((xs.take (Int.toNat x7l13)).drop (Int.toNat x6l13)).drop (Int.toNat 1) else (xs.take (Int.toNat x7l13)).drop (Int.toNat x6l13))⟩⟩ from congrArg ((fun s : List UInt8 => Value.string ⟨⟨s⟩⟩)) ((if_f hc7).symm)) ?_
                    exact fun a W hA hW => ⟨hA.sub (by kernel_rfl), hW, hF⟩
              ·
                clear hF
                rintro a W ⟨hA, hW, hF⟩
                refine (?_ : Ok _ _ _ _ _ _) a W hA hW
                clear hA hW
                refine Ok.seq ?_
                refine Ok.region ?_
                refine Ok.batch 1 [(0, .string ⟨⟨xs⟩⟩), (4, .int .i64 x4l13), (5, .int .i64 x5l13), (7, .int .i64 x7l13), (44, .string ⟨⟨(if (((decide (x5l13 > 0)) && (decide ((((xs.take (Int.toNat x7l13)).drop (Int.toNat x6l13)).length : Int) > 0))) && (((((xs.take (Int.toNat x7l13)).drop (Int.toNat x6l13)).getD (Int.toNat 0) 0).toNat : Int) == 32)) = true then ((xs.take (Int.toNat x7l13)).drop (Int.toNat x6l13)).drop (Int.toNat 1) else (xs.take (Int.toNat x7l13)).drop (Int.toNat x6l13))⟩⟩)] (by kernel_rfl) ?_
                refine Ok.op rfl (OpOk.callG (v := .int .i64 (rparS (if (((decide (x5l13 > 0)) && (decide ((((xs.take (Int.toNat x7l13)).drop (Int.toNat x6l13)).length : Int) > 0))) && (((((xs.take (Int.toNat x7l13)).drop (Int.toNat x6l13)).getD (Int.toNat 0) 0).toNat : Int) == 32)) = true then ((xs.take (Int.toNat x7l13)).drop (Int.toNat x6l13)).drop (Int.toNat 1) else (xs.take (Int.toNat x7l13)).drop (Int.toNat x6l13)))) (enters (by kernel_rfl) (fun _ => by kernel_rfl)) (fun W hW => rpar_c (if (((decide (x5l13 > 0)) && (decide ((((xs.take (Int.toNat x7l13)).drop (Int.toNat x6l13)).length : Int) > 0))) && (((((xs.take (Int.toNat x7l13)).drop (Int.toNat x6l13)).getD (Int.toNat 0) 0).toNat : Int) == 32)) = true then ((xs.take (Int.toNat x7l13)).drop (Int.toNat x6l13)).drop (Int.toNat 1) else (xs.take (Int.toNat x7l13)).drop (Int.toNat x6l13))) rfl ?_)
                refine Ok.batch 1 [(0, .string ⟨⟨xs⟩⟩), (4, .int .i64 x4l13), (5, .int .i64 x5l13), (7, .int .i64 x7l13), (9, .int .i64 (rparS (if (((decide (x5l13 > 0)) && (decide ((((xs.take (Int.toNat x7l13)).drop (Int.toNat x6l13)).length : Int) > 0))) && (((((xs.take (Int.toNat x7l13)).drop (Int.toNat x6l13)).getD (Int.toNat 0) 0).toNat : Int) == 32)) = true then ((xs.take (Int.toNat x7l13)).drop (Int.toNat x6l13)).drop (Int.toNat 1) else (xs.take (Int.toNat x7l13)).drop (Int.toNat x6l13))))] (by kernel_rfl) ?_
                refine Ok.nil ?_
                refine Ok.thenN ?_
                refine Ok.seq ?_
                refine Ok.seq ?_
                refine Ok.region ?_
                refine Ok.batch 3 [(0, .string ⟨⟨xs⟩⟩), (4, .int .i64 x4l13), (5, .int .i64 x5l13), (7, .int .i64 x7l13), (9, .int .i64 (rparS (if (((decide (x5l13 > 0)) && (decide ((((xs.take (Int.toNat x7l13)).drop (Int.toNat x6l13)).length : Int) > 0))) && (((((xs.take (Int.toNat x7l13)).drop (Int.toNat x6l13)).getD (Int.toNat 0) 0).toNat : Int) == 32)) = true then ((xs.take (Int.toNat x7l13)).drop (Int.toNat x6l13)).drop (Int.toNat 1) else (xs.take (Int.toNat x7l13)).drop (Int.toNat x6l13)))), (48, .bool (decide ((rparS (if (((decide (x5l13 > 0)) && (decide ((((xs.take (Int.toNat x7l13)).drop (Int.toNat x6l13)).length : Int) > 0))) && (((((xs.take (Int.toNat x7l13)).drop (Int.toNat x6l13)).getD (Int.toNat 0) 0).toNat : Int) == 32)) = true then ((xs.take (Int.toNat x7l13)).drop (Int.toNat x6l13)).drop (Int.toNat 1) else (xs.take (Int.toNat x7l13)).drop (Int.toNat x6l13))) < 0)))] (by kernel_rfl) ?_
                refine Ok.midway 3 [(0, .string ⟨⟨xs⟩⟩), (4, .int .i64 x4l13), (5, .int .i64 x5l13), (7, .int .i64 x7l13), (9, .int .i64 (rparS (if (((decide (x5l13 > 0)) && (decide ((((xs.take (Int.toNat x7l13)).drop (Int.toNat x6l13)).length : Int) > 0))) && (((((xs.take (Int.toNat x7l13)).drop (Int.toNat x6l13)).getD (Int.toNat 0) 0).toNat : Int) == 32)) = true then ((xs.take (Int.toNat x7l13)).drop (Int.toNat x6l13)).drop (Int.toNat 1) else (xs.take (Int.toNat x7l13)).drop (Int.toNat x6l13)))), (51, .bool ((decide ((rparS (if (((decide (x5l13 > 0)) && (decide ((((xs.take (Int.toNat x7l13)).drop (Int.toNat x6l13)).length : Int) > 0))) && (((((xs.take (Int.toNat x7l13)).drop (Int.toNat x6l13)).getD (Int.toNat 0) 0).toNat : Int) == 32)) = true then ((xs.take (Int.toNat x7l13)).drop (Int.toNat x6l13)).drop (Int.toNat 1) else (xs.take (Int.toNat x7l13)).drop (Int.toNat x6l13))) < 0)) || (x5l13 == 4)))] (fun hR4 => ?_) ?_
                · refine Ok.boolAt 48 (decide ((rparS (if (((decide (x5l13 > 0)) && (decide ((((xs.take (Int.toNat x7l13)).drop (Int.toNat x6l13)).length : Int) > 0))) && (((((xs.take (Int.toNat x7l13)).drop (Int.toNat x6l13)).getD (Int.toNat 0) 0).toNat : Int) == 32)) = true then ((xs.take (Int.toNat x7l13)).drop (Int.toNat x6l13)).drop (Int.toNat 1) else (xs.take (Int.toNat x7l13)).drop (Int.toNat x6l13))) < 0)) rfl (fun hc5 => ?_) (fun hc5 => ?_)
                  · skip
                    refine Ok.batch 3 [(0, .string ⟨⟨xs⟩⟩), (4, .int .i64 x4l13), (5, .int .i64 x5l13), (7, .int .i64 x7l13), (9, .int .i64 (rparS (if (((decide (x5l13 > 0)) && (decide ((((xs.take (Int.toNat x7l13)).drop (Int.toNat x6l13)).length : Int) > 0))) && (((((xs.take (Int.toNat x7l13)).drop (Int.toNat x6l13)).getD (Int.toNat 0) 0).toNat : Int) == 32)) = true then ((xs.take (Int.toNat x7l13)).drop (Int.toNat x6l13)).drop (Int.toNat 1) else (xs.take (Int.toNat x7l13)).drop (Int.toNat x6l13)))), (51, .bool true)] (by kernel_rfl) ?_
                    refine Ok.reval 51 rfl (show (.bool true : Value) = .bool ((decide ((rparS (if (((decide (x5l13 > 0)) && (decide ((((xs.take (Int.toNat x7l13)).drop (Int.toNat x6l13)).length : Int) > 0))) && (((((xs.take (Int.toNat x7l13)).drop (Int.toNat x6l13)).getD (Int.toNat 0) 0).toNat : Int) == 32)) = true then ((xs.take (Int.toNat x7l13)).drop (Int.toNat x6l13)).drop (Int.toNat 1) else (xs.take (Int.toNat x7l13)).drop (Int.toNat x6l13))) < 0)) || (x5l13 == 4)) from congrArg Value.bool (mor_t hc5)) ?_
                    refine Ok.batch 0 [(0, .string ⟨⟨xs⟩⟩), (4, .int .i64 x4l13), (5, .int .i64 x5l13), (7, .int .i64 x7l13), (9, .int .i64 (rparS (if (((decide (x5l13 > 0)) && (decide ((((xs.take (Int.toNat x7l13)).drop (Int.toNat x6l13)).length : Int) > 0))) && (((((xs.take (Int.toNat x7l13)).drop (Int.toNat x6l13)).getD (Int.toNat 0) 0).toNat : Int) == 32)) = true then ((xs.take (Int.toNat x7l13)).drop (Int.toNat x6l13)).drop (Int.toNat 1) else (xs.take (Int.toNat x7l13)).drop (Int.toNat x6l13)))), (51, .bool ((decide ((rparS (if (((decide (x5l13 > 0)) && (decide ((((xs.take (Int.toNat x7l13)).drop (Int.toNat x6l13)).length : Int) > 0))) && (((((xs.take (Int.toNat x7l13)).drop (Int.toNat x6l13)).getD (Int.toNat 0) 0).toNat : Int) == 32)) = true then ((xs.take (Int.toNat x7l13)).drop (Int.toNat x6l13)).drop (Int.toNat 1) else (xs.take (Int.toNat x7l13)).drop (Int.toNat x6l13))) < 0)) || (x5l13 == 4)))] (by kernel_rfl) ?_
                    exact hR4
                  · skip
                    refine Ok.batch 3 [(0, .string ⟨⟨xs⟩⟩), (4, .int .i64 x4l13), (5, .int .i64 x5l13), (7, .int .i64 x7l13), (9, .int .i64 (rparS (if (((decide (x5l13 > 0)) && (decide ((((xs.take (Int.toNat x7l13)).drop (Int.toNat x6l13)).length : Int) > 0))) && (((((xs.take (Int.toNat x7l13)).drop (Int.toNat x6l13)).getD (Int.toNat 0) 0).toNat : Int) == 32)) = true then ((xs.take (Int.toNat x7l13)).drop (Int.toNat x6l13)).drop (Int.toNat 1) else (xs.take (Int.toNat x7l13)).drop (Int.toNat x6l13)))), (51, .bool (x5l13 == 4))] (by kernel_rfl) ?_
                    refine Ok.reval 51 rfl (show (.bool (x5l13 == 4) : Value) = .bool ((decide ((rparS (if (((decide (x5l13 > 0)) && (decide ((((xs.take (Int.toNat x7l13)).drop (Int.toNat x6l13)).length : Int) > 0))) && (((((xs.take (Int.toNat x7l13)).drop (Int.toNat x6l13)).getD (Int.toNat 0) 0).toNat : Int) == 32)) = true then ((xs.take (Int.toNat x7l13)).drop (Int.toNat x6l13)).drop (Int.toNat 1) else (xs.take (Int.toNat x7l13)).drop (Int.toNat x6l13))) < 0)) || (x5l13 == 4)) from congrArg Value.bool (mor_f hc5)) ?_
                    refine Ok.batch 0 [(0, .string ⟨⟨xs⟩⟩), (4, .int .i64 x4l13), (5, .int .i64 x5l13), (7, .int .i64 x7l13), (9, .int .i64 (rparS (if (((decide (x5l13 > 0)) && (decide ((((xs.take (Int.toNat x7l13)).drop (Int.toNat x6l13)).length : Int) > 0))) && (((((xs.take (Int.toNat x7l13)).drop (Int.toNat x6l13)).getD (Int.toNat 0) 0).toNat : Int) == 32)) = true then ((xs.take (Int.toNat x7l13)).drop (Int.toNat x6l13)).drop (Int.toNat 1) else (xs.take (Int.toNat x7l13)).drop (Int.toNat x6l13)))), (51, .bool ((decide ((rparS (if (((decide (x5l13 > 0)) && (decide ((((xs.take (Int.toNat x7l13)).drop (Int.toNat x6l13)).length : Int) > 0))) && (((((xs.take (Int.toNat x7l13)).drop (Int.toNat x6l13)).getD (Int.toNat 0) 0).toNat : Int) == 32)) = true then ((xs.take (Int.toNat x7l13)).drop (Int.toNat x6l13)).drop (Int.toNat 1) else (xs.take (Int.toNat x7l13)).drop (Int.toNat x6l13))) < 0)) || (x5l13 == 4)))] (by kernel_rfl) ?_
                    exact hR4
                refine Ok.nil ?_
                refine Ok.thenN ?_
                refine Ok.cond (b := ((decide ((rparS (if (((decide (x5l13 > 0)) && (decide ((((xs.take (Int.toNat x7l13)).drop (Int.toNat x6l13)).length : Int) > 0))) && (((((xs.take (Int.toNat x7l13)).drop (Int.toNat x6l13)).getD (Int.toNat 0) 0).toNat : Int) == 32)) = true then ((xs.take (Int.toNat x7l13)).drop (Int.toNat x6l13)).drop (Int.toNat 1) else (xs.take (Int.toNat x7l13)).drop (Int.toNat x6l13))) < 0)) || (x5l13 == 4))) rfl (fun hc6 => ?_) (fun hc6 => ?_)
                · replace hF := hF.1 hc6
                  refine Ok.seq ?_
                  refine Ok.region ?_
                  refine Ok.batch 2 [(2, .int .i64 0), (3, .bool false)] (by kernel_rfl) ?_
                  refine Ok.nil ?_
                  refine Ok.thenN ?_
                  refine Ok.ret ?_
                  refine Ok.thenR ?_
                  refine Ok.blockR ?_
                  refine Ok.thenR ?_
                  refine Ok.thenR ?_
                  refine Ok.blockR ?_
                  refine Ok.thenR ?_
                  exact Ok.resH (vs := [.int .i64 0, .bool false]) (.inl rfl) rfl (.cons (.tmp rfl) (.cons (.tmp rfl) .nil)) (Gext.refl w0 g) ⟨0, false, rfl, rfl, hF⟩
                · replace hF := hF.2 hc6
                  refine Ok.skip ?_
                  refine Ok.thenN ?_
                  refine Ok.seq ?_
                  refine Ok.region ?_
                  refine Ok.batch 5 [(0, .string ⟨⟨xs⟩⟩), (4, .int .i64 (IntKind.wrap .i64 ((IntKind.wrap .i64 (256 * x4l13)) + (rparS (if (((decide (x5l13 > 0)) && (decide ((((xs.take (Int.toNat x7l13)).drop (Int.toNat x6l13)).length : Int) > 0))) && (((((xs.take (Int.toNat x7l13)).drop (Int.toNat x6l13)).getD (Int.toNat 0) 0).toNat : Int) == 32)) = true then ((xs.take (Int.toNat x7l13)).drop (Int.toNat x6l13)).drop (Int.toNat 1) else (xs.take (Int.toNat x7l13)).drop (Int.toNat x6l13)))))), (5, .int .i64 x5l13), (7, .int .i64 x7l13)] (by kernel_rfl) ?_
                  refine Ok.nil ?_
                  refine Ok.thenN ?_
                  refine Ok.seq ?_
                  refine Ok.region ?_
                  refine Ok.batch 3 [(0, .string ⟨⟨xs⟩⟩), (4, .int .i64 (IntKind.wrap .i64 ((IntKind.wrap .i64 (256 * x4l13)) + (rparS (if (((decide (x5l13 > 0)) && (decide ((((xs.take (Int.toNat x7l13)).drop (Int.toNat x6l13)).length : Int) > 0))) && (((((xs.take (Int.toNat x7l13)).drop (Int.toNat x6l13)).getD (Int.toNat 0) 0).toNat : Int) == 32)) = true then ((xs.take (Int.toNat x7l13)).drop (Int.toNat x6l13)).drop (Int.toNat 1) else (xs.take (Int.toNat x7l13)).drop (Int.toNat x6l13)))))), (5, .int .i64 (IntKind.wrap .i64 (x5l13 + 1))), (7, .int .i64 x7l13)] (by kernel_rfl) ?_
                  refine Ok.nil ?_
                  refine Ok.thenN ?_
                  refine Ok.region ?_
                  refine Ok.batch 3 [(0, .string ⟨⟨xs⟩⟩), (4, .int .i64 (IntKind.wrap .i64 ((IntKind.wrap .i64 (256 * x4l13)) + (rparS (if (((decide (x5l13 > 0)) && (decide ((((xs.take (Int.toNat x7l13)).drop (Int.toNat x6l13)).length : Int) > 0))) && (((((xs.take (Int.toNat x7l13)).drop (Int.toNat x6l13)).getD (Int.toNat 0) 0).toNat : Int) == 32)) = true then ((xs.take (Int.toNat x7l13)).drop (Int.toNat x6l13)).drop (Int.toNat 1) else (xs.take (Int.toNat x7l13)).drop (Int.toNat x6l13)))))), (5, .int .i64 (IntKind.wrap .i64 (x5l13 + 1))), (6, .int .i64 (IntKind.wrap .i64 (x7l13 + 1))), (7, .int .i64 x7l13)] (by kernel_rfl) ?_
                  refine Ok.nil ?_
                  refine Ok.blockN ?_
                  refine Ok.thenN ?_
                  refine Ok.reval 4 rfl (show (.int .i64 (IntKind.wrap .i64 ((IntKind.wrap .i64 (256 * x4l13)) + (rparS (if (((decide (x5l13 > 0)) && (decide ((((xs.take (Int.toNat x7l13)).drop (Int.toNat x6l13)).length : Int) > 0))) && (((((xs.take (Int.toNat x7l13)).drop (Int.toNat x6l13)).getD (Int.toNat 0) 0).toNat : Int) == 32)) = true then ((xs.take (Int.toNat x7l13)).drop (Int.toNat x6l13)).drop (Int.toNat 1) else (xs.take (Int.toNat x7l13)).drop (Int.toNat x6l13))))) : Value) = .int .i64 (if ((decide (x7l13 < (xs.length : Int))) && (((xs.getD (Int.toNat x7l13) 0).toNat : Int) != 44)) = true then x4l13 else IntKind.wrap .i64 ((IntKind.wrap .i64 (256 * x4l13)) + (rparS (if (((decide (x5l13 > 0)) && (decide ((((xs.take (Int.toNat x7l13)).drop (Int.toNat x6l13)).length : Int) > 0))) && (((((xs.take (Int.toNat x7l13)).drop (Int.toNat x6l13)).getD (Int.toNat 0) 0).toNat : Int) == 32)) = true then ((xs.take (Int.toNat x7l13)).drop (Int.toNat x6l13)).drop (Int.toNat 1) else (xs.take (Int.toNat x7l13)).drop (Int.toNat x6l13))))) from congrArg (Value.int .i64) ((if_f hc2).symm)) ?_
                  refine Ok.reval 5 rfl (show (.int .i64 (IntKind.wrap .i64 (x5l13 + 1)) : Value) = .int .i64 (if ((decide (x7l13 < (xs.length : Int))) && (((xs.getD (Int.toNat x7l13) 0).toNat : Int) != 44)) = true then x5l13 else IntKind.wrap .i64 (x5l13 + 1)) from congrArg (Value.int .i64) ((if_f hc2).symm)) ?_
                  refine Ok.reval 6 rfl (show (.int .i64 (IntKind.wrap .i64 (x7l13 + 1)) : Value) = .int .i64 (if ((decide (x7l13 < (xs.length : Int))) && (((xs.getD (Int.toNat x7l13) 0).toNat : Int) != 44)) = true then x6l13 else IntKind.wrap .i64 (x7l13 + 1)) from congrArg (Value.int .i64) ((if_f hc2).symm)) ?_
                  exact fun a W hA hW => ⟨hA.sub (by kernel_rfl), hW, hF⟩
        ·
          clear hF
          rintro a W ⟨hA, hW, hF⟩
          refine (?_ : Ok _ _ _ _ _ _) a W hA hW
          clear hA hW
          refine Ok.region ?_
          refine Ok.batch 3 [(0, .string ⟨⟨xs⟩⟩), (4, .int .i64 (if ((decide (x7l13 < (xs.length : Int))) && (((xs.getD (Int.toNat x7l13) 0).toNat : Int) != 44)) = true then x4l13 else IntKind.wrap .i64 ((IntKind.wrap .i64 (256 * x4l13)) + (rparS (if (((decide (x5l13 > 0)) && (decide ((((xs.take (Int.toNat x7l13)).drop (Int.toNat x6l13)).length : Int) > 0))) && (((((xs.take (Int.toNat x7l13)).drop (Int.toNat x6l13)).getD (Int.toNat 0) 0).toNat : Int) == 32)) = true then ((xs.take (Int.toNat x7l13)).drop (Int.toNat x6l13)).drop (Int.toNat 1) else (xs.take (Int.toNat x7l13)).drop (Int.toNat x6l13)))))), (5, .int .i64 (if ((decide (x7l13 < (xs.length : Int))) && (((xs.getD (Int.toNat x7l13) 0).toNat : Int) != 44)) = true then x5l13 else IntKind.wrap .i64 (x5l13 + 1))), (6, .int .i64 (if ((decide (x7l13 < (xs.length : Int))) && (((xs.getD (Int.toNat x7l13) 0).toNat : Int) != 44)) = true then x6l13 else IntKind.wrap .i64 (x7l13 + 1))), (7, .int .i64 (IntKind.wrap .i64 (x7l13 + 1)))] (by kernel_rfl) ?_
          refine Ok.nil ?_
          refine Ok.thenN ?_
          exact fun a W hA hW => ⟨k13, Nat.lt_succ_self _, (if ((decide (x7l13 < (xs.length : Int))) && (((xs.getD (Int.toNat x7l13) 0).toNat : Int) != 44)) = true then x4l13 else IntKind.wrap .i64 ((IntKind.wrap .i64 (256 * x4l13)) + (rparS (if (((decide (x5l13 > 0)) && (decide ((((xs.take (Int.toNat x7l13)).drop (Int.toNat x6l13)).length : Int) > 0))) && (((((xs.take (Int.toNat x7l13)).drop (Int.toNat x6l13)).getD (Int.toNat 0) 0).toNat : Int) == 32)) = true then ((xs.take (Int.toNat x7l13)).drop (Int.toNat x6l13)).drop (Int.toNat 1) else (xs.take (Int.toNat x7l13)).drop (Int.toNat x6l13))))), (if ((decide (x7l13 < (xs.length : Int))) && (((xs.getD (Int.toNat x7l13) 0).toNat : Int) != 44)) = true then x5l13 else IntKind.wrap .i64 (x5l13 + 1)), (if ((decide (x7l13 < (xs.length : Int))) && (((xs.getD (Int.toNat x7l13) 0).toNat : Int) != 44)) = true then x6l13 else IntKind.wrap .i64 (x7l13 + 1)), IntKind.wrap .i64 (x7l13 + 1), hA.sub (by kernel_rfl), hW, hF⟩
      · replace hF := hF.2 hc1
        refine Ok.exit ?_
        refine Ok.thenE ?_
        refine Ok.thenE ?_
        refine Ok.blockHit ?_
        refine Ok.thenN ?_
        refine Ok.cut (fun a W => StA 68 [(4, .int .i64 (if (x5l13 == 3) = true then IntKind.wrap .i64 ((IntKind.wrap .i64 (256 * x4l13)) + 255) else x4l13)), (5, .int .i64 x5l13)] a ∧ StW w0 [] g W ∧ rrgbj52 K x4l13 x5l13) ?_ ?_
        ·
          refine Ok.seq ?_
          refine Ok.region ?_
          refine Ok.batch 2 [(4, .int .i64 x4l13), (5, .int .i64 x5l13), (61, .bool (x5l13 == 3))] (by kernel_rfl) ?_
          refine Ok.nil ?_
          refine Ok.thenN ?_
          refine Ok.cond (b := (x5l13 == 3)) rfl (fun hc15 => ?_) (fun hc15 => ?_)
          · replace hF := hF.1 hc15
            refine Ok.region ?_
            refine Ok.batch 4 [(4, .int .i64 (IntKind.wrap .i64 ((IntKind.wrap .i64 (256 * x4l13)) + 255))), (5, .int .i64 x5l13)] (by kernel_rfl) ?_
            refine Ok.nil ?_
            refine Ok.thenN ?_
            refine Ok.reval 4 rfl (show (.int .i64 (IntKind.wrap .i64 ((IntKind.wrap .i64 (256 * x4l13)) + 255)) : Value) = .int .i64 (if (x5l13 == 3) = true then IntKind.wrap .i64 ((IntKind.wrap .i64 (256 * x4l13)) + 255) else x4l13) from congrArg (Value.int .i64) ((if_t hc15).symm)) ?_
            exact fun a W hA hW => ⟨hA.sub (by kernel_rfl), hW, hF⟩
          · replace hF := hF.2 hc15
            refine Ok.skip ?_
            refine Ok.thenN ?_
            refine Ok.reval 4 rfl (show (.int .i64 x4l13 : Value) = .int .i64 (if (x5l13 == 3) = true then IntKind.wrap .i64 ((IntKind.wrap .i64 (256 * x4l13)) + 255) else x4l13) from congrArg (Value.int .i64) ((if_f hc15).symm)) ?_
            exact fun a W hA hW => ⟨hA.sub (by kernel_rfl), hW, hF⟩
        ·
          clear hF
          rintro a W ⟨hA, hW, hF⟩
          refine (?_ : Ok _ _ _ _ _ _) a W hA hW
          clear hA hW
          refine Ok.seq ?_
          refine Ok.region ?_
          refine Ok.batch 5 [(2, .int .i64 (if (x5l13 == 3) = true then IntKind.wrap .i64 ((IntKind.wrap .i64 (256 * x4l13)) + 255) else x4l13)), (3, .bool (decide (x5l13 ≥ 3)))] (by kernel_rfl) ?_
          refine Ok.nil ?_
          refine Ok.thenN ?_
          refine Ok.ret ?_
          exact Ok.resH (vs := [.int .i64 (if (x5l13 == 3) = true then IntKind.wrap .i64 ((IntKind.wrap .i64 (256 * x4l13)) + 255) else x4l13), .bool (decide (x5l13 ≥ 3))]) (.inl rfl) rfl (.cons (.tmp rfl) (.cons (.tmp rfl) .nil)) (Gext.refl w0 g) ⟨(if (x5l13 == 3) = true then IntKind.wrap .i64 ((IntKind.wrap .i64 (256 * x4l13)) + 255) else x4l13), (decide (x5l13 ≥ 3)), rfl, rfl, hF⟩
def trb (w : List UInt8) (m : Int) : List UInt8 := if ((decide (m > 0) && decide ((w.length : Int) > 0)) && (((w.getD (Int.toNat 0) 0).toNat : Int) == 32)) = true then w.drop (Int.toNat 1) else w
def rgbN : List (List UInt8) → Int → Int → Option (Int × Int)
  | [], n, m => some (n, m)
  | w :: r, n, m => if (decide (rparS (trb w m) < 0) || (m == 4)) = true then none else rgbN r (256 * n + rparS (trb w m)) (m + 1)
def rrgbS (s : List UInt8) : Int × Bool := match rgbN (sp44 s) 0 0 with
  | none => (0, false)
  | some (n, m) => (if (m == 3) = true then 256 * n + 255 else n, decide (m ≥ 3))
def rrgbP (s : List UInt8) : Prop := s.length ≤ 1000
theorem sp44_one : ∀ (u : List UInt8), (∀ c ∈ u, (c == 44) = false) → sp44 u = [u]
  | [], _ => rfl
  | c :: u, h => by
    rw [sp44, if_f (h c (List.mem_cons_self ..)), sp44_one u (fun c hc => h c (List.mem_cons_of_mem _ hc))]
theorem sp44_cut : ∀ (u r : List UInt8), (∀ c ∈ u, (c == 44) = false) → sp44 (u ++ 44 :: r) = u :: sp44 r
  | [], r, _ => by rw [List.nil_append, sp44, if_t (by decide)]
  | c :: u, r, h => by
    rw [List.cons_append, sp44, if_f (h c (List.mem_cons_self ..)), sp44_cut u r (fun c hc => h c (List.mem_cons_of_mem _ hc))]
theorem rparN_le : ∀ (w : List UInt8) (n : Int), rparN w n ≤ 255
  | [], n => by rw [rparN]; split <;> rename_i h <;> simp at h <;> omega
  | c :: w, n => by
    rw [rparN]; split
    · omega
    · exact rparN_le w _
theorem rpar_le (w : List UInt8) : rparS w ≤ 255 := by
  unfold rparS; split
  · omega
  · exact rparN_le w 0
def nIn (n m : Int) : Prop := 0 ≤ m ∧ m ≤ 4 ∧ 0 ≤ n ∧ n ≤ 4294967295 ∧ (m ≤ 3 → n ≤ 16777215) ∧ (m ≤ 2 → n ≤ 65535) ∧ (m ≤ 1 → n ≤ 255) ∧ (m ≤ 0 → n ≤ 0)
theorem rrgb_F (s : List UInt8) (hp : rrgbP s) : rrgbF s (fun r r1 => (r, r1) = rrgbS s) := by
  unfold rrgbP at hp
  have done : ∀ (i : Nat) (n m f : Int), i = s.length + 1 → nIn n m → rgbN (sp44 s) 0 0 = some (n, m) → rrgbl13 s (fun r r1 => (r, r1) = rrgbS s) 1 n m f (i : Int) := by
    intro i n m f hi hin he
    have hn : decide ((i : Int) ≤ (s.length : Int)) = false := decide_eq_false (by omega)
    unfold nIn at hin
    have j52 : rrgbj52 (fun r r1 => (r, r1) = rrgbS s) n m := by
      unfold rrgbj52 rrgbS
      rw [he]
      by_cases h3 : (m == 3) = true
      · have h3' : m = 3 := by simpa using h3
        rw [if_pos h3, w64 (x := 256 * n) (by omega), w64 (x := 256 * n + 255) (by omega)]
        show _ = ((if (m == 3) = true then 256 * n + 255 else n), _)
        rw [if_pos h3]
      · rw [if_neg h3]
        show _ = ((if (m == 3) = true then 256 * n + 255 else n), _)
        rw [if_neg h3]
    exact ⟨fun h => (Bool.false_ne_true (hn.symm.trans h)).elim, fun _ => ⟨fun _ => j52, fun _ => j52⟩⟩
  have piece : ∀ (i f : Nat) (n m : Int) (R : List (List UInt8)) (C : Int → Int → Int → Int → Prop), f ≤ i → i ≤ s.length → ((decide ((i : Int) < (s.length : Int))) && (((s.getD i 0).toNat : Int) != 44)) = false → nIn n m →
      rgbN (sp44 s) 0 0 = rgbN (((s.take i).drop f) :: R) n m → (∀ n' m', nIn n' m' → rgbN (sp44 s) 0 0 = rgbN R n' m' → C n' m' ((i : Int) + 1) ((i : Int) + 1)) → rrgbj23 s (fun r r1 => (r, r1) = rrgbS s) n m (f : Int) (i : Int) C := by
    intro i f n m R C hfi hil hc hin he hC
    unfold nIn at hin
    have j30 : rrgbj30 s (fun r r1 => (r, r1) = rrgbS s) n m (f : Int) (i : Int) C := by
      unfold rrgbj30 rrgbj20
      rw [Int.toNat_natCast, Int.toNat_natCast]
      change ((decide (rparS (trb ((s.take i).drop f) m) < 0) || (m == 4)) = true → (0, false) = rrgbS s) ∧ _
      rw [rgbN] at he
      refine ⟨fun h => ?_, fun h => ?_⟩
      · rw [if_t h] at he
        unfold rrgbS; rw [he]
      · change (decide (rparS (trb ((s.take i).drop f) m) < 0) || (m == 4)) = false at h
        rw [if_f h] at he
        rw [hc, if_f rfl, if_f rfl, if_f rfl, w64 (x := (i : Int) + 1) (by omega)]
        rw [Bool.or_eq_false_iff, decide_eq_false_iff_not, beq_eq_false_iff_ne] at h
        have hle := rpar_le (trb ((s.take i).drop f) m)
        change C (IntKind.wrap .i64 (IntKind.wrap .i64 (256 * n) + rparS (trb ((s.take i).drop f) m))) (IntKind.wrap .i64 (m + 1)) ((i : Int) + 1) ((i : Int) + 1)
        rw [w64 (x := 256 * n) (by omega), w64 (x := 256 * n + _) (by omega), w64 (x := m + 1) (by omega)]
        exact hC _ _ (by unfold nIn; omega) he
    have j31 : rrgbj31 s (fun r r1 => (r, r1) = rrgbS s) n m (f : Int) (i : Int) C := by
      refine ⟨fun h => ⟨by omega, ?_, by omega, j30⟩, fun _ => j30⟩
      rw [Bool.and_eq_true, Bool.and_eq_true, decide_eq_true_eq, decide_eq_true_eq] at h
      exact h.1.2
    refine ⟨fun h => ?_, fun h => ⟨by omega, by omega, by omega, fun h => ⟨by omega, ?_, j31⟩, fun _ => j31⟩⟩
    · rw [Int.toNat_natCast] at h
      exact (Bool.false_ne_true (hc.symm.trans h)).elim
    · rw [Bool.and_eq_true, decide_eq_true_eq, decide_eq_true_eq] at h
      omega
  have cutE : ∀ (i f : Nat), f ≤ i → i ≤ s.length → s.drop f = (s.take i).drop f ++ s.drop i := by
    intro i f h1 h2
    have : s.drop f = (s.take i ++ s.drop i).drop f := by rw [List.take_append_drop]
    rw [this, List.drop_append_of_le_length (by rw [List.length_take]; omega)]
  have loop : ∀ (k i f : Nat) (n m : Int), i + k = s.length → f ≤ i → nIn n m → (∀ c ∈ (s.take i).drop f, (c == 44) = false) → rgbN (sp44 s) 0 0 = rgbN (sp44 (s.drop f)) n m → rrgbl13 s (fun r r1 => (r, r1) = rrgbS s) (k + 2) n m (f : Int) (i : Int) := by
    intro k
    induction k with
    | zero =>
      intro i f n m h hf hin hno he
      have hn : decide ((i : Int) ≤ (s.length : Int)) = true := decide_eq_true (by omega)
      have hn2 : decide ((i : Int) < (s.length : Int)) = false := decide_eq_false (by omega)
      rw [cutE i f hf (by omega), List.drop_of_length_le (i := i) (by omega), List.append_nil, sp44_one _ hno] at he
      refine ⟨fun _ => ⟨fun h => (Bool.false_ne_true (hn2.symm.trans h)).elim, fun _ => ?_⟩, fun h => (Bool.false_ne_true (h.symm.trans hn)).elim⟩
      exact piece i f n m [] _ hf (by omega) (by rw [hn2]; rfl) hin he fun n' m' hin' he' => done (i + 1) n' m' _ (by omega) hin' he'
    | succ k ih =>
      intro i f n m h hf hin hno he
      have hn : decide ((i : Int) ≤ (s.length : Int)) = true := decide_eq_true (by omega)
      have hn2 : decide ((i : Int) < (s.length : Int)) = true := decide_eq_true (by omega)
      refine ⟨fun _ => ⟨fun _ => ⟨by omega, by rw [Int.toNat_natCast]; omega, ?_⟩, fun h => (Bool.false_ne_true (h.symm.trans hn2)).elim⟩, fun h => (Bool.false_ne_true (h.symm.trans hn)).elim⟩
      by_cases hc : (s.getD i 0 == 44) = true
      · have hc' : s.getD i 0 = 44 := by simpa using hc
        have he' := he
        rw [cutE i f hf (by omega), drop_get (l := s) 0 (by omega), hc', sp44_cut _ _ hno] at he'
        refine piece i f n m _ _ hf (by omega) (by rw [hn2, hc']; rfl) hin he' fun n' m' hin' he' => ?_
        refine ih (i + 1) (i + 1) n' m' (by omega) (by omega) hin' ?_ he'
        intro c hc
        rw [List.drop_of_length_le (by rw [List.length_take]; omega)] at hc
        cases hc
      · have hc' : (((s.getD i 0).toNat : Int) != 44) = true := by
          rw [bne_iff_ne]
          intro h44
          refine hc ?_
          rw [beq_iff_eq]
          exact UInt8.toNat.inj (by show _ = 44; omega)
        have hsk : ((decide ((i : Int) < (s.length : Int))) && (((s.getD i 0).toNat : Int) != 44)) = true := by rw [hn2, hc']; rfl
        have hsk' : ((decide ((i : Int) < (s.length : Int))) && (((s.getD (Int.toNat (i : Int)) 0).toNat : Int) != 44)) = true := hsk
        refine ⟨fun _ => ?_, fun h => (Bool.false_ne_true (h.symm.trans hsk')).elim⟩
        unfold rrgbj20
        rw [hsk', if_t rfl, if_t rfl, if_t rfl, w64 (x := (i : Int) + 1) (by omega)]
        refine ih (i + 1) f n m (by omega) (by omega) hin ?_ he
        intro c hcm
        rw [take_get (l := s) 0 (by omega), List.drop_append_of_le_length (by rw [List.length_take]; omega)] at hcm
        rcases List.mem_append.1 hcm with hcm | hcm
        · exact hno c hcm
        · rw [List.mem_singleton] at hcm; rw [hcm]; simpa using hc
  exact ⟨_, loop s.length 0 0 0 0 (by omega) (by omega) (by unfold nIn; omega) (fun c hc => by simp at hc) rfl⟩
set_option linter.unusedVariables false in
theorem rrgb_c {g : Ghost} (xs : List UInt8)  (hp : rrgbP xs) : CallsG Tryd.prog 51 #[.string ⟨⟨xs⟩⟩] g (.tuple #[.int .i64 ((rrgbS xs).1), .bool ((rrgbS xs).2)]) :=
  (rrgb_ok xs _ (rrgb_F xs hp)).gives (by rintro g' H' v _ ⟨r0, r1, rfl, rfl, hK⟩; obtain ⟨rfl, rfl⟩ : r0 = (rrgbS xs).1 ∧ r1 = (rrgbS xs).2 := ⟨congrArg (fun z => z.1) hK, congrArg (fun z => z.2) hK⟩; rfl)
def rcnT0 : List (List UInt8) := ([([98, 108, 97, 99, 107] : List UInt8), ([115, 105, 108, 118, 101, 114] : List UInt8), ([103, 114, 97, 121] : List UInt8), ([119, 104, 105, 116, 101] : List UInt8), ([109, 97, 114, 111, 111, 110] : List UInt8), ([114, 101, 100] : List UInt8), ([112, 117, 114, 112, 108, 101] : List UInt8), ([102, 117, 99, 104, 115, 105, 97] : List UInt8), ([103, 114, 101, 101, 110] : List UInt8), ([108, 105, 109, 101] : List UInt8), ([111, 108, 105, 118, 101] : List UInt8), ([121, 101, 108, 108, 111, 119] : List UInt8), ([110, 97, 118, 121] : List UInt8), ([98, 108, 117, 101] : List UInt8), ([116, 101, 97, 108] : List UInt8), ([97, 113, 117, 97] : List UInt8), ([111, 114, 97, 110, 103, 101] : List UInt8)] : List (List UInt8))
def rcnF (K : (List (List UInt8)) → (List (Int)) → Prop) : Prop :=
  K rcnT0 ([0, 12632256, 8421504, 16777215, 8388608, 16711680, 8388736, 16711935, 32768, 65280, 8421376, 16776960, 128, 255, 32896, 65535, 16753920] : List (Int))
set_option maxHeartbeats 4000000 in
set_option maxRecDepth 100000 in
set_option linter.unusedVariables false in
theorem rcn_ok {g : Ghost}  (K : (List (List UInt8)) → (List (Int)) → Prop)
    (hF : rcnF K) : CallsH Tryd.prog 49 #[] g [] (fun g' H' v => ∃ (r0 : List (List UInt8)), ∃ (r1 : List (Int)), ∃ (ar0_0 : Option Addr) (cr0_0 : Nat), ∃ (ar1_0 : Option Addr) (cr1_0 : Nat), v = .tuple #[.slice ar0_0 r0.length cr0_0, .slice ar1_0 r1.length cr1_0] ∧ Rep g' (.slice (.str)) [.slice ar0_0 r0.length cr0_0] r0 ∧ Rep g' (.slice (.int .i64)) [.slice ar1_0 r1.length cr1_0] r1 ∧ H' = [] ∧ K r0 r1) := by
  refine CallsH.enter 4 [] Tryd.func49 rfl (by kernel_rfl) (by kernel_rfl) (by kernel_rfl) fun w0 => ?_
  refine Ok.seq ?_
  refine Ok.region ?_
  refine Ok.batch 2 [] (by kernel_rfl) ?_
  refine Ok.nil ?_
  refine Ok.thenN ?_
  refine Ok.seq ?_
  refine Ok.region ?_
  have hL1 : RepL g (.str) ([.string ⟨⟨([98, 108, 97, 99, 107] : List UInt8)⟩⟩, .string ⟨⟨([115, 105, 108, 118, 101, 114] : List UInt8)⟩⟩, .string ⟨⟨([103, 114, 97, 121] : List UInt8)⟩⟩, .string ⟨⟨([119, 104, 105, 116, 101] : List UInt8)⟩⟩, .string ⟨⟨([109, 97, 114, 111, 111, 110] : List UInt8)⟩⟩, .string ⟨⟨([114, 101, 100] : List UInt8)⟩⟩, .string ⟨⟨([112, 117, 114, 112, 108, 101] : List UInt8)⟩⟩, .string ⟨⟨([102, 117, 99, 104, 115, 105, 97] : List UInt8)⟩⟩, .string ⟨⟨([103, 114, 101, 101, 110] : List UInt8)⟩⟩, .string ⟨⟨([108, 105, 109, 101] : List UInt8)⟩⟩, .string ⟨⟨([111, 108, 105, 118, 101] : List UInt8)⟩⟩, .string ⟨⟨([121, 101, 108, 108, 111, 119] : List UInt8)⟩⟩, .string ⟨⟨([110, 97, 118, 121] : List UInt8)⟩⟩, .string ⟨⟨([98, 108, 117, 101] : List UInt8)⟩⟩, .string ⟨⟨([116, 101, 97, 108] : List UInt8)⟩⟩, .string ⟨⟨([97, 113, 117, 97] : List UInt8)⟩⟩, .string ⟨⟨([111, 114, 97, 110, 103, 101] : List UInt8)⟩⟩] : List Value) rcnT0 := (RepL.flat (by kernel_rfl) (by kernel_rfl))
  refine Ok.op rfl (OpOk.lit (E := 9) (.str) rcnT0 ([.string ⟨⟨([98, 108, 97, 99, 107] : List UInt8)⟩⟩, .string ⟨⟨([115, 105, 108, 118, 101, 114] : List UInt8)⟩⟩, .string ⟨⟨([103, 114, 97, 121] : List UInt8)⟩⟩, .string ⟨⟨([119, 104, 105, 116, 101] : List UInt8)⟩⟩, .string ⟨⟨([109, 97, 114, 111, 111, 110] : List UInt8)⟩⟩, .string ⟨⟨([114, 101, 100] : List UInt8)⟩⟩, .string ⟨⟨([112, 117, 114, 112, 108, 101] : List UInt8)⟩⟩, .string ⟨⟨([102, 117, 99, 104, 115, 105, 97] : List UInt8)⟩⟩, .string ⟨⟨([103, 114, 101, 101, 110] : List UInt8)⟩⟩, .string ⟨⟨([108, 105, 109, 101] : List UInt8)⟩⟩, .string ⟨⟨([111, 108, 105, 118, 101] : List UInt8)⟩⟩, .string ⟨⟨([121, 101, 108, 108, 111, 119] : List UInt8)⟩⟩, .string ⟨⟨([110, 97, 118, 121] : List UInt8)⟩⟩, .string ⟨⟨([98, 108, 117, 101] : List UInt8)⟩⟩, .string ⟨⟨([116, 101, 97, 108] : List UInt8)⟩⟩, .string ⟨⟨([97, 113, 117, 97] : List UInt8)⟩⟩, .string ⟨⟨([111, 114, 97, 110, 103, 101] : List UInt8)⟩⟩] : List Value) (by kernel_rfl) (by kernel_rfl) rfl (by kernel_rfl) hL1 rfl fun b1 => ?_)
  have hL2 : RepL g (.int .i64) ([.int .i64 0, .int .i64 12632256, .int .i64 8421504, .int .i64 16777215, .int .i64 8388608, .int .i64 16711680, .int .i64 8388736, .int .i64 16711935, .int .i64 32768, .int .i64 65280, .int .i64 8421376, .int .i64 16776960, .int .i64 128, .int .i64 255, .int .i64 32896, .int .i64 65535, .int .i64 16753920] : List Value) ([0, 12632256, 8421504, 16777215, 8388608, 16711680, 8388736, 16711935, 32768, 65280, 8421376, 16776960, 128, 255, 32896, 65535, 16753920] : List (Int)) := (RepL.flat (by kernel_rfl) (by kernel_rfl))
  refine Ok.op rfl (OpOk.lit (E := 3) (.int .i64) ([0, 12632256, 8421504, 16777215, 8388608, 16711680, 8388736, 16711935, 32768, 65280, 8421376, 16776960, 128, 255, 32896, 65535, 16753920] : List (Int)) ([.int .i64 0, .int .i64 12632256, .int .i64 8421504, .int .i64 16777215, .int .i64 8388608, .int .i64 16711680, .int .i64 8388736, .int .i64 16711935, .int .i64 32768, .int .i64 65280, .int .i64 8421376, .int .i64 16776960, .int .i64 128, .int .i64 255, .int .i64 32896, .int .i64 65535, .int .i64 16753920] : List Value) (by kernel_rfl) (by kernel_rfl) rfl (by kernel_rfl) hL2 rfl fun b2 => ?_)
  refine Ok.batch 2 [(0, .slice (some ⟨b1, 0, none⟩) rcnT0.length 17), (1, .slice (some ⟨b2, 0, none⟩) ([0, 12632256, 8421504, 16777215, 8388608, 16711680, 8388736, 16711935, 32768, 65280, 8421376, 16776960, 128, 255, 32896, 65535, 16753920] : List (Int)).length 17)] (by kernel_rfl) ?_
  refine Ok.nil ?_
  refine Ok.thenN ?_
  refine Ok.ret ?_
  refine Ok.freeze (H' := [.own (.slice (some ⟨b2, 0, none⟩) ([0, 12632256, 8421504, 16777215, 8388608, 16711680, 8388736, 16711935, 32768, 65280, 8421376, 16776960, 128, 255, 32896, 65535, 16753920] : List (Int)).length 17) 3 1 ([0, 12632256, 8421504, 16777215, 8388608, 16711680, 8388736, 16711935, 32768, 65280, 8421376, 16776960, 128, 255, 32896, 65535, 16753920] : List (Int)).length ([.int .i64 0, .int .i64 12632256, .int .i64 8421504, .int .i64 16777215, .int .i64 8388608, .int .i64 16711680, .int .i64 8388736, .int .i64 16711935, .int .i64 32768, .int .i64 65280, .int .i64 8421376, .int .i64 16776960, .int .i64 128, .int .i64 255, .int .i64 32896, .int .i64 65535, .int .i64 16753920] : List Value)]) 1 rfl hL1 rfl fun g3 hx3 hRf3 => ?_
  replace hL2 := hL2.mono hx3.1
  refine Ok.freeze (H' := []) 0 rfl hL2 rfl fun g4 hx4 hRf4 => ?_
  replace hRf3 := hRf3.mono hx4.1
  exact Ok.resH (vs := [.slice (some ⟨b1, 0, none⟩) rcnT0.length 17, .slice (some ⟨b2, 0, none⟩) ([0, 12632256, 8421504, 16777215, 8388608, 16711680, 8388736, 16711935, 32768, 65280, 8421376, 16776960, 128, 255, 32896, 65535, 16753920] : List (Int)).length 17]) (.inl rfl) rfl (.cons (.tmp rfl) (.cons (.tmp rfl) .nil)) (hx3.trans hx4) ⟨rcnT0, ([0, 12632256, 8421504, 16777215, 8388608, 16711680, 8388736, 16711935, 32768, 65280, 8421376, 16776960, 128, 255, 32896, 65535, 16753920] : List (Int)), (some ⟨b1, 0, none⟩), 17, (some ⟨b2, 0, none⟩), 17, rfl, hRf3, hRf4, rfl, hF⟩
def rcnM : List (List UInt8) × List (Int) := (rcnT0, ([0, 12632256, 8421504, 16777215, 8388608, 16711680, 8388736, 16711935, 32768, 65280, 8421376, 16776960, 128, 255, 32896, 65535, 16753920] : List (Int)))
set_option linter.unusedSimpArgs false in
set_option linter.unusedVariables false in
theorem rcnF_A (P : List (List UInt8) × List (Int) → Prop) (h : P (rcnM)) : rcnF (fun k0 k1 => P (k0, k1)) := by
  unfold rcnM at h
  unfold rcnF
  exact h
theorem rcn_F : rcnF (fun k0 k1 => (k0, k1) = rcnM) :=
  rcnF_A (fun z => z = rcnM) rfl
set_option linter.unusedVariables false in
theorem rcn_c {g : Ghost}   : CallsH Tryd.prog 49 #[] g [] (fun g' H' v => ∃ (ar0_0 : Option Addr) (cr0_0 : Nat), ∃ (ar1_0 : Option Addr) (cr1_0 : Nat), v = .tuple #[.slice ar0_0 rcnM.1.length cr0_0, .slice ar1_0 rcnM.2.length cr1_0] ∧ Rep g' (.slice (.str)) [.slice ar0_0 rcnM.1.length cr0_0] rcnM.1 ∧ Rep g' (.slice (.int .i64)) [.slice ar1_0 rcnM.2.length cr1_0] rcnM.2 ∧ H' = []) :=
  (rcn_ok  _ (rcn_F )).mono (by rintro g' H' v _ ⟨r0, r1, ar0_0, cr0_0, ar1_0, cr1_0, rfl, hRr0_0, hRr1_0, rfl, hK⟩; obtain ⟨rfl, rfl⟩ : r0 = rcnM.1 ∧ r1 = rcnM.2 := ⟨congrArg (fun z => z.1) hK, congrArg (fun z => z.2) hK⟩; exact ⟨ar0_0, cr0_0, ar1_0, cr1_0, rfl, hRr0_0, hRr1_0, rfl⟩)
def rcoj45 (xs : List UInt8) (K : Int → Bool → Prop) : Prop :=
  (((((decide (((clowS xs).length : Int) > 5)) && (decide (((clowS xs).length : Int) < 60))) && ((((clowS xs).take (Int.toNat 4)) == ([114, 103, 98, 40] : List UInt8)) && ((((clowS xs).getD (Int.toNat (IntKind.wrap .i64 (((clowS xs).length : Int) - 1))) 0).toNat : Int) == 41)))) = true → (0 : Int) ≤ 4 ∧ (4 : Int) ≤ (IntKind.wrap .i64 (((clowS xs).length : Int) - 1)) ∧ (IntKind.wrap .i64 (((clowS xs).length : Int) - 1)) ≤ ((clowS xs).length : Int) ∧ rrgbP (((clowS xs).take (Int.toNat (IntKind.wrap .i64 (((clowS xs).length : Int) - 1)))).drop (Int.toNat 4)) ∧ K ((rrgbS (((clowS xs).take (Int.toNat (IntKind.wrap .i64 (((clowS xs).length : Int) - 1)))).drop (Int.toNat 4))).1) ((rrgbS (((clowS xs).take (Int.toNat (IntKind.wrap .i64 (((clowS xs).length : Int) - 1)))).drop (Int.toNat 4))).2)) ∧ (((((decide (((clowS xs).length : Int) > 5)) && (decide (((clowS xs).length : Int) < 60))) && ((((clowS xs).take (Int.toNat 4)) == ([114, 103, 98, 40] : List UInt8)) && ((((clowS xs).getD (Int.toNat (IntKind.wrap .i64 (((clowS xs).length : Int) - 1))) 0).toNat : Int) == 41)))) = false → K 0 false)
def rcoj37 (xs : List UInt8) (K : Int → Bool → Prop) : Prop :=
  ((((decide (((clowS xs).length : Int) > 0)) && ((((clowS xs).getD (Int.toNat 0) 0).toNat : Int) == 35))) = true → (0 : Int) ≤ 1 ∧ (1 : Int) ≤ ((clowS xs).length : Int) ∧ ((clowS xs).length : Int) ≤ ((clowS xs).length : Int) ∧ K ((rhcS ((clowS xs).drop (Int.toNat 1))).1) ((rhcS ((clowS xs).drop (Int.toNat 1))).2)) ∧ ((((decide (((clowS xs).length : Int) > 0)) && ((((clowS xs).getD (Int.toNat 0) 0).toNat : Int) == 35))) = false → ((((decide (((clowS xs).length : Int) > 5)) && (decide (((clowS xs).length : Int) < 60)))) = true → (0 : Int) ≤ 0 ∧ (0 : Int) ≤ 4 ∧ 4 ≤ ((clowS xs).length : Int) ∧ (((((clowS xs).take (Int.toNat 4)) == ([114, 103, 98, 40] : List UInt8))) = true → (0 : Int) ≤ (IntKind.wrap .i64 (((clowS xs).length : Int) - 1)) ∧ Int.toNat (IntKind.wrap .i64 (((clowS xs).length : Int) - 1)) < (clowS xs).length ∧ rcoj45 xs K) ∧ (((((clowS xs).take (Int.toNat 4)) == ([114, 103, 98, 40] : List UInt8))) = false → rcoj45 xs K)) ∧ ((((decide (((clowS xs).length : Int) > 5)) && (decide (((clowS xs).length : Int) < 60)))) = false → rcoj45 xs K))
def rcol19b (xs : List UInt8) (K : Int → Bool → Prop) (x6l19 : Int) (C19 : Int → Prop) : Prop :=
  ((decide (x6l19 < (rcnM.1.length : Int))) = true → (0 : Int) ≤ x6l19 ∧ Int.toNat x6l19 < rcnM.1.length ∧ ((((rcnM.1.getD (Int.toNat x6l19) default) == (clowS xs))) = true → (0 : Int) ≤ x6l19 ∧ Int.toNat x6l19 < rcnM.2.length ∧ K (IntKind.wrap .i64 ((IntKind.wrap .i64 (256 * (rcnM.2.getD (Int.toNat x6l19) default))) + 255)) true) ∧ ((((rcnM.1.getD (Int.toNat x6l19) default) == (clowS xs))) = false → C19 (IntKind.wrap .i64 (x6l19 + 1)))) ∧ ((decide (x6l19 < (rcnM.1.length : Int))) = false → ((decide (((clowS xs).length : Int) > 0)) = true → (0 : Int) ≤ 0 ∧ Int.toNat 0 < (clowS xs).length ∧ rcoj37 xs K) ∧ ((decide (((clowS xs).length : Int) > 0)) = false → rcoj37 xs K))
def rcol19 (xs : List UInt8) (K : Int → Bool → Prop) : Nat → Int → Prop
  | 0, _ => False
  | k + 1, x6l19 => rcol19b xs K x6l19 (rcol19 xs K k)
def rcoF (xs : List UInt8) (K : Int → Bool → Prop) : Prop :=
  clowP xs ∧ ((((clowS xs) == ([116, 114, 97, 110, 115, 112, 97, 114, 101, 110, 116] : List UInt8))) = true → K 0 true) ∧ ((((clowS xs) == ([116, 114, 97, 110, 115, 112, 97, 114, 101, 110, 116] : List UInt8))) = false → ∃ k, rcol19 xs K k 0)
set_option maxHeartbeats 4000000 in
set_option maxRecDepth 100000 in
set_option linter.unusedVariables false in
theorem rco_ok {g : Ghost} (xs : List UInt8) (K : Int → Bool → Prop)
    (hF : rcoF xs K) : CallsH Tryd.prog 19 #[.string ⟨⟨xs⟩⟩] g [] (fun g' H' v => ∃ (r0 : Int), ∃ (r1 : Bool), v = .tuple #[.int .i64 r0, .bool r1] ∧ H' = [] ∧ K r0 r1) := by
  refine CallsH.enter 75 [(0, .string ⟨⟨xs⟩⟩)] Tryd.func19 rfl (by kernel_rfl) (by kernel_rfl) (by kernel_rfl) fun w0 => ?_
  refine Ok.seq ?_
  refine Ok.region ?_
  refine Ok.batch 2 [(0, .string ⟨⟨xs⟩⟩)] (by kernel_rfl) ?_
  refine Ok.nil ?_
  refine Ok.thenN ?_
  refine Ok.seq ?_
  refine Ok.region ?_
  refine Ok.batch 1 [(7, .string ⟨⟨xs⟩⟩)] (by kernel_rfl) ?_
  obtain ⟨hp1, hF⟩ := hF
  refine Ok.op rfl (OpOk.callG (v := .string ⟨⟨(clowS xs)⟩⟩) (enters (by kernel_rfl) (fun _ => by kernel_rfl)) (fun W hW => rlow_c xs hp1) rfl ?_)
  refine Ok.batch 1 [(0, .string ⟨⟨(clowS xs)⟩⟩)] (by kernel_rfl) ?_
  refine Ok.nil ?_
  refine Ok.thenN ?_
  refine Ok.seq ?_
  refine Ok.seq ?_
  refine Ok.region ?_
  refine Ok.batch 1 [(0, .string ⟨⟨(clowS xs)⟩⟩), (9, .string ⟨⟨(clowS xs)⟩⟩)] (by kernel_rfl) ?_
  refine Ok.op rfl (OpOk.step (v := .bool ((clowS xs) == ([116, 114, 97, 110, 115, 112, 97, 114, 101, 110, 116] : List UInt8))) (Yields.strCmp (f := .eql) (a := (clowS xs)) (b := ([116, 114, 97, 110, 115, 112, 97, 114, 101, 110, 116] : List UInt8)) (by kernel_rfl) (by kernel_rfl) rfl) rfl rfl ?_)
  refine Ok.nil ?_
  refine Ok.thenN ?_
  refine Ok.cond (b := ((clowS xs) == ([116, 114, 97, 110, 115, 112, 97, 114, 101, 110, 116] : List UInt8))) rfl (fun hc2 => ?_) (fun hc2 => ?_)
  · replace hF := hF.1 hc2
    refine Ok.seq ?_
    refine Ok.region ?_
    refine Ok.batch 2 [(2, .int .i64 0), (3, .bool true)] (by kernel_rfl) ?_
    refine Ok.nil ?_
    refine Ok.thenN ?_
    refine Ok.ret ?_
    refine Ok.thenR ?_
    exact Ok.resH (vs := [.int .i64 0, .bool true]) (.inl rfl) rfl (.cons (.tmp rfl) (.cons (.tmp rfl) .nil)) (Gext.refl w0 g) ⟨0, true, rfl, rfl, hF⟩
  · replace hF := hF.2 hc2
    refine Ok.skip ?_
    refine Ok.thenN ?_
    refine Ok.seq ?_
    refine Ok.region ?_
    refine Ok.op rfl (OpOk.callH [] [] (enters (by kernel_rfl) (fun _ => by kernel_rfl)) rfl (rcn_c ) rfl fun g3 _ _ hx3 hV3 => ?_)
    obtain ⟨a3_0, c3_0, a3_2, c3_2, rfl, hR3_0, hR3_2, rfl⟩ := hV3
    refine Ok.batch 5 [(0, .string ⟨⟨(clowS xs)⟩⟩), (4, .slice a3_0 rcnM.1.length c3_0), (5, .slice a3_2 rcnM.2.length c3_2)] (by kernel_rfl) ?_
    refine Ok.nil ?_
    refine Ok.thenN ?_
    refine Ok.seq ?_
    refine Ok.seq ?_
    refine Ok.region ?_
    refine Ok.batch 1 [(0, .string ⟨⟨(clowS xs)⟩⟩), (4, .slice a3_0 rcnM.1.length c3_0), (5, .slice a3_2 rcnM.2.length c3_2), (6, .int .i64 0)] (by kernel_rfl) ?_
    refine Ok.nil ?_
    refine Ok.thenN ?_
    refine Ok.block ?_
    obtain ⟨k, hF⟩ := hF
    refine Ok.loop (fun k a W => ∃ gl19 : Ghost, Gext w0 g3 gl19 ∧ ∃ (x6l19 : Int), StA 75 [(0, .string ⟨⟨(clowS xs)⟩⟩), (4, .slice a3_0 rcnM.1.length c3_0), (5, .slice a3_2 rcnM.2.length c3_2), (6, .int .i64 x6l19)] a ∧ StW w0 [] gl19 W ∧ rcol19 xs K k x6l19) k ?_ ?_
    ·
      exact fun a W hA hW => ⟨g3, (Gext.refl w0 g3), 0, hA.sub (by kernel_rfl), hW, hF⟩
    ·
      clear hF
      rintro k19 a W ⟨gl19, hxl19, x6l19, hA, hW, hF⟩
      cases k19 with
      | zero => exact (hF : False).elim
      | succ k19 =>
        refine (?_ : Ok _ _ _ _ _ _) a W hA hW
        clear hA hW
        replace hR3_0 := hR3_0.mono hxl19.1
        replace hR3_2 := hR3_2.mono hxl19.1
        refine Ok.seq ?_
        refine Ok.seq ?_
        refine Ok.region ?_
        refine Ok.batch 4 [(0, .string ⟨⟨(clowS xs)⟩⟩), (4, .slice a3_0 rcnM.1.length c3_0), (5, .slice a3_2 rcnM.2.length c3_2), (6, .int .i64 x6l19), (18, .bool (decide (x6l19 < (rcnM.1.length : Int))))] (by kernel_rfl) ?_
        refine Ok.nil ?_
        refine Ok.thenN ?_
        refine Ok.cond (b := decide (x6l19 < (rcnM.1.length : Int))) rfl (fun hc4 => ?_) (fun hc4 => ?_)
        · replace hF := hF.1 hc4
          refine Ok.skip ?_
          refine Ok.thenN ?_
          refine Ok.seq ?_
          refine Ok.block ?_
          refine Ok.seq ?_
          refine Ok.region ?_
          refine Ok.batch 2 [(0, .string ⟨⟨(clowS xs)⟩⟩), (4, .slice a3_0 rcnM.1.length c3_0), (5, .slice a3_2 rcnM.2.length c3_2), (6, .int .i64 x6l19), (21, .slice a3_0 rcnM.1.length c3_0), (22, .int .i64 x6l19)] (by kernel_rfl) ?_
          obtain ⟨h06, h16, hF⟩ := hF
          have he6 := get_of (l := rcnM.1) (default : List UInt8) h16
          generalize hg6 : (rcnM.1.getD (Int.toNat x6l19) default) = e6 at he6 hF ⊢
          refine Ok.op rfl (OpOk.indexRo (e := .str) (i := x6l19) (el := e6) rfl rfl Tryd.underlying55 (by kernel_rfl) hR3_0 h06 he6 rfl fun q5 o5 cs5 _ hat5 hr5 => ?_)
          obtain rfl := hr5
          replace hat5 : At gl19 q5 o5 [.string ⟨⟨e6⟩⟩] := hat5
          refine Ok.op rfl (OpOk.step (v := .string ⟨⟨e6⟩⟩) (Yields.loadRo 0 hat5 (by kernel_rfl) Tryd.underlying9 rfl (by kernel_rfl)) rfl rfl ?_)
          refine Ok.batch 1 [(0, .string ⟨⟨(clowS xs)⟩⟩), (4, .slice a3_0 rcnM.1.length c3_0), (5, .slice a3_2 rcnM.2.length c3_2), (6, .int .i64 x6l19), (24, .string ⟨⟨e6⟩⟩), (25, .string ⟨⟨(clowS xs)⟩⟩)] (by kernel_rfl) ?_
          refine Ok.op rfl (OpOk.step (v := .bool (e6 == (clowS xs))) (Yields.strCmp (f := .eql) (a := e6) (b := (clowS xs)) (by kernel_rfl) (by kernel_rfl) rfl) rfl rfl ?_)
          refine Ok.nil ?_
          refine Ok.thenN ?_
          refine Ok.cond (b := (e6 == (clowS xs))) rfl (fun hc7 => ?_) (fun hc7 => ?_)
          · replace hF := hF.1 hc7
            refine Ok.seq ?_
            refine Ok.region ?_
            refine Ok.batch 2 [(27, .slice a3_2 rcnM.2.length c3_2), (28, .int .i64 x6l19)] (by kernel_rfl) ?_
            obtain ⟨h09, h19, hF⟩ := hF
            have he9 := get_of (l := rcnM.2) (default : Int) h19
            generalize hg9 : (rcnM.2.getD (Int.toNat x6l19) default) = e9 at he9 hF ⊢
            refine Ok.op rfl (OpOk.indexRo (e := .int .i64) (i := x6l19) (el := e9) rfl rfl Tryd.underlying60 (by kernel_rfl) hR3_2 h09 he9 rfl fun q8 o8 cs8 _ hat8 hr8 => ?_)
            obtain rfl := hr8
            replace hat8 : At gl19 q8 o8 [.int .i64 e9] := hat8
            refine Ok.op rfl (OpOk.step (v := .int .i64 e9) (Yields.loadRo 0 hat8 (by kernel_rfl) Tryd.underlying3 rfl (by kernel_rfl)) rfl rfl ?_)
            refine Ok.batch 4 [(2, .int .i64 (IntKind.wrap .i64 ((IntKind.wrap .i64 (256 * e9)) + 255))), (3, .bool true)] (by kernel_rfl) ?_
            refine Ok.nil ?_
            refine Ok.thenN ?_
            refine Ok.ret ?_
            refine Ok.blockR ?_
            refine Ok.thenR ?_
            refine Ok.thenR ?_
            refine Ok.blockR ?_
            refine Ok.thenR ?_
            exact Ok.resH (vs := [.int .i64 (IntKind.wrap .i64 ((IntKind.wrap .i64 (256 * e9)) + 255)), .bool true]) (.inl rfl) rfl (.cons (.tmp rfl) (.cons (.tmp rfl) .nil)) (hx3.trans hxl19) ⟨(IntKind.wrap .i64 ((IntKind.wrap .i64 (256 * e9)) + 255)), true, rfl, rfl, hF⟩
          · replace hF := hF.2 hc7
            refine Ok.skip ?_
            refine Ok.blockN ?_
            refine Ok.thenN ?_
            refine Ok.region ?_
            refine Ok.batch 3 [(0, .string ⟨⟨(clowS xs)⟩⟩), (4, .slice a3_0 rcnM.1.length c3_0), (5, .slice a3_2 rcnM.2.length c3_2), (6, .int .i64 (IntKind.wrap .i64 (x6l19 + 1)))] (by kernel_rfl) ?_
            refine Ok.nil ?_
            refine Ok.thenN ?_
            subst hg6
            exact fun a W hA hW => ⟨k19, Nat.lt_succ_self _, gl19, hxl19, IntKind.wrap .i64 (x6l19 + 1), hA.sub (by kernel_rfl), hW, hF⟩
        · replace hF := hF.2 hc4
          refine Ok.exit ?_
          refine Ok.thenE ?_
          refine Ok.thenE ?_
          refine Ok.blockHit ?_
          refine Ok.thenN ?_
          refine Ok.seq ?_
          refine Ok.cut (fun a W => ∃ gj37 : Ghost, Gext w0 gl19 gj37 ∧ StA 75 [(0, .string ⟨⟨(clowS xs)⟩⟩), (40, .bool ((decide (((clowS xs).length : Int) > 0)) && ((((clowS xs).getD (Int.toNat 0) 0).toNat : Int) == 35)))] a ∧ StW w0 [] gj37 W ∧ rcoj37 xs K) ?_ ?_
          ·
            refine Ok.region ?_
            refine Ok.batch 4 [(0, .string ⟨⟨(clowS xs)⟩⟩), (36, .bool (decide (((clowS xs).length : Int) > 0)))] (by kernel_rfl) ?_
            refine Ok.boolAt 36 (decide (((clowS xs).length : Int) > 0)) rfl (fun hc21 => ?_) (fun hc21 => ?_)
            · replace hF := hF.1 hc21
              refine Ok.batch 1 [(0, .string ⟨⟨(clowS xs)⟩⟩), (36, .bool true), (37, .string ⟨⟨(clowS xs)⟩⟩)] (by kernel_rfl) ?_
              obtain ⟨h022, h122, hF⟩ := hF
              have he22 := get_of (l := (clowS xs)) (0 : UInt8) h122
              generalize hg22 : ((clowS xs).getD (Int.toNat 0) 0) = e22 at he22 hF ⊢
              refine Ok.opYes (j := 3) (d := 36) (want := true) (b := true) rfl (by kernel_rfl) (by kernel_rfl) rfl (OpOk.step (v := .int .u8 (e22.toNat : Int)) (Yields.indexStr (k := .i64) (i := 0) (s := (clowS xs)) (b := e22) (by kernel_rfl) (by kernel_rfl) Tryd.underlying9 h022 he22) rfl rfl ?_)
              refine Ok.batch 2 [(0, .string ⟨⟨(clowS xs)⟩⟩), (40, .bool ((e22.toNat : Int) == 35))] (by kernel_rfl) ?_
              refine Ok.nil ?_
              refine Ok.thenN ?_
              subst hg22
              refine Ok.reval 40 rfl (show (.bool ((((clowS xs).getD (Int.toNat 0) 0).toNat : Int) == 35) : Value) = .bool ((decide (((clowS xs).length : Int) > 0)) && ((((clowS xs).getD (Int.toNat 0) 0).toNat : Int) == 35)) from congrArg (Value.bool) (mand_t hc21)) ?_
              exact fun a W hA hW => ⟨gl19, (Gext.refl w0 gl19), hA.sub (by kernel_rfl), hW, hF⟩
            · replace hF := hF.2 hc21
              refine Ok.batch 4 [(0, .string ⟨⟨(clowS xs)⟩⟩), (40, .bool false)] (by kernel_rfl) ?_
              refine Ok.nil ?_
              refine Ok.thenN ?_
              refine Ok.reval 40 rfl (show (.bool false : Value) = .bool ((decide (((clowS xs).length : Int) > 0)) && ((((clowS xs).getD (Int.toNat 0) 0).toNat : Int) == 35)) from congrArg (Value.bool) (mand_f hc21)) ?_
              exact fun a W hA hW => ⟨gl19, (Gext.refl w0 gl19), hA.sub (by kernel_rfl), hW, hF⟩
          ·
            clear hF
            rintro a W ⟨gj37, hxj37, hA, hW, hF⟩
            refine (?_ : Ok _ _ _ _ _ _) a W hA hW
            clear hA hW
            refine Ok.cond (b := ((decide (((clowS xs).length : Int) > 0)) && ((((clowS xs).getD (Int.toNat 0) 0).toNat : Int) == 35))) rfl (fun hc10 => ?_) (fun hc10 => ?_)
            · replace hF := hF.1 hc10
              refine Ok.seq ?_
              refine Ok.region ?_
              refine Ok.batch 1 [(41, .string ⟨⟨(clowS xs)⟩⟩)] (by kernel_rfl) ?_
              obtain ⟨h011, h111, h211, hF⟩ := hF
              refine Ok.op rfl (OpOk.step (v := .string ⟨⟨(clowS xs).drop (Int.toNat 1)⟩⟩) (Yields.sliceStr (s := (clowS xs)) (l := 1) (h := ((clowS xs).length : Int)) (by kernel_rfl) Tryd.underlying9 (.inl ⟨_, _, rfl, rfl⟩) (.inr ⟨rfl, rfl⟩) h011 h111 h211 ((clowS xs).drop (Int.toNat 1)) (by rw [show (((clowS xs).length : Int)).toNat = (clowS xs).length from Int.toNat_natCast _, List.take_length])) rfl rfl ?_)
              refine Ok.op rfl (OpOk.callG (v := .tuple #[.int .i64 ((rhcS ((clowS xs).drop (Int.toNat 1))).1), .bool ((rhcS ((clowS xs).drop (Int.toNat 1))).2)]) (enters (by kernel_rfl) (fun _ => by kernel_rfl)) (fun W hW => rhc_c ((clowS xs).drop (Int.toNat 1))) rfl ?_)
              refine Ok.batch 4 [(2, .int .i64 ((rhcS ((clowS xs).drop (Int.toNat 1))).1)), (3, .bool ((rhcS ((clowS xs).drop (Int.toNat 1))).2))] (by kernel_rfl) ?_
              refine Ok.nil ?_
              refine Ok.thenN ?_
              refine Ok.ret ?_
              refine Ok.thenR ?_
              exact Ok.resH (vs := [.int .i64 ((rhcS ((clowS xs).drop (Int.toNat 1))).1), .bool ((rhcS ((clowS xs).drop (Int.toNat 1))).2)]) (.inl rfl) rfl (.cons (.tmp rfl) (.cons (.tmp rfl) .nil)) ((hx3.trans hxl19).trans hxj37) ⟨((rhcS ((clowS xs).drop (Int.toNat 1))).1), ((rhcS ((clowS xs).drop (Int.toNat 1))).2), rfl, rfl, hF⟩
            · replace hF := hF.2 hc10
              refine Ok.skip ?_
              refine Ok.thenN ?_
              refine Ok.seq ?_
              refine Ok.cut (fun a W => ∃ gj45 : Ghost, Gext w0 gj37 gj45 ∧ StA 75 [(0, .string ⟨⟨(clowS xs)⟩⟩), (66, .bool (((decide (((clowS xs).length : Int) > 5)) && (decide (((clowS xs).length : Int) < 60))) && ((((clowS xs).take (Int.toNat 4)) == ([114, 103, 98, 40] : List UInt8)) && ((((clowS xs).getD (Int.toNat (IntKind.wrap .i64 (((clowS xs).length : Int) - 1))) 0).toNat : Int) == 41))))] a ∧ StW w0 [] gj45 W ∧ rcoj45 xs K) ?_ ?_
              ·
                refine Ok.region ?_
                refine Ok.batch 4 [(0, .string ⟨⟨(clowS xs)⟩⟩), (49, .bool (decide (((clowS xs).length : Int) > 5)))] (by kernel_rfl) ?_
                refine Ok.midway 4 [(0, .string ⟨⟨(clowS xs)⟩⟩), (53, .bool ((decide (((clowS xs).length : Int) > 5)) && (decide (((clowS xs).length : Int) < 60))))] (fun hR15 => ?_) ?_
                · refine Ok.boolAt 49 (decide (((clowS xs).length : Int) > 5)) rfl (fun hc16 => ?_) (fun hc16 => ?_)
                  · skip
                    refine Ok.batch 4 [(0, .string ⟨⟨(clowS xs)⟩⟩), (53, .bool (decide (((clowS xs).length : Int) < 60)))] (by kernel_rfl) ?_
                    refine Ok.reval 53 rfl (show (.bool (decide (((clowS xs).length : Int) < 60)) : Value) = .bool ((decide (((clowS xs).length : Int) > 5)) && (decide (((clowS xs).length : Int) < 60))) from congrArg Value.bool (mand_t hc16)) ?_
                    refine Ok.batch 0 [(0, .string ⟨⟨(clowS xs)⟩⟩), (53, .bool ((decide (((clowS xs).length : Int) > 5)) && (decide (((clowS xs).length : Int) < 60))))] (by kernel_rfl) ?_
                    exact hR15
                  · skip
                    refine Ok.batch 4 [(0, .string ⟨⟨(clowS xs)⟩⟩), (53, .bool false)] (by kernel_rfl) ?_
                    refine Ok.reval 53 rfl (show (.bool false : Value) = .bool ((decide (((clowS xs).length : Int) > 5)) && (decide (((clowS xs).length : Int) < 60))) from congrArg Value.bool (mand_f hc16)) ?_
                    refine Ok.batch 0 [(0, .string ⟨⟨(clowS xs)⟩⟩), (53, .bool ((decide (((clowS xs).length : Int) > 5)) && (decide (((clowS xs).length : Int) < 60))))] (by kernel_rfl) ?_
                    exact hR15
                refine Ok.batch 1 [(0, .string ⟨⟨(clowS xs)⟩⟩), (54, .bool ((decide (((clowS xs).length : Int) > 5)) && (decide (((clowS xs).length : Int) < 60))))] (by kernel_rfl) ?_
                refine Ok.boolAt 54 (((decide (((clowS xs).length : Int) > 5)) && (decide (((clowS xs).length : Int) < 60)))) rfl (fun hc17 => ?_) (fun hc17 => ?_)
                · replace hF := hF.1 hc17
                  refine Ok.batch 1 [(0, .string ⟨⟨(clowS xs)⟩⟩), (54, .bool true), (55, .string ⟨⟨(clowS xs)⟩⟩)] (by kernel_rfl) ?_
                  obtain ⟨h018, h118, h218, hF⟩ := hF
                  refine Ok.opYes (j := 8) (d := 54) (want := true) (b := true) rfl (by kernel_rfl) (by kernel_rfl) rfl (OpOk.step (v := .string ⟨⟨(clowS xs).take (Int.toNat 4)⟩⟩) (Yields.sliceStr (s := (clowS xs)) (l := 0) (h := 4) (by kernel_rfl) Tryd.underlying9 (.inr ⟨rfl, rfl⟩) (.inl ⟨_, _, rfl, rfl⟩) h018 h118 h218 ((clowS xs).take (Int.toNat 4)) (by simp)) rfl rfl ?_)
                  refine Ok.opYes (j := 8) (d := 54) (want := true) (b := true) rfl (by kernel_rfl) (by kernel_rfl) rfl (OpOk.step (v := .bool (((clowS xs).take (Int.toNat 4)) == ([114, 103, 98, 40] : List UInt8))) (Yields.strCmp (f := .eql) (a := ((clowS xs).take (Int.toNat 4))) (b := ([114, 103, 98, 40] : List UInt8)) (by kernel_rfl) (by kernel_rfl) rfl) rfl rfl ?_)
                  refine Ok.batch 2 [(0, .string ⟨⟨(clowS xs)⟩⟩), (59, .bool (((clowS xs).take (Int.toNat 4)) == ([114, 103, 98, 40] : List UInt8)))] (by kernel_rfl) ?_
                  refine Ok.boolAt 59 ((((clowS xs).take (Int.toNat 4)) == ([114, 103, 98, 40] : List UInt8))) rfl (fun hc19 => ?_) (fun hc19 => ?_)
                  · replace hF := hF.1 hc19
                    refine Ok.batch 4 [(0, .string ⟨⟨(clowS xs)⟩⟩), (59, .bool true), (60, .string ⟨⟨(clowS xs)⟩⟩), (63, .int .i64 (IntKind.wrap .i64 (((clowS xs).length : Int) - 1)))] (by kernel_rfl) ?_
                    obtain ⟨h020, h120, hF⟩ := hF
                    have he20 := get_of (l := (clowS xs)) (0 : UInt8) h120
                    generalize hg20 : ((clowS xs).getD (Int.toNat (IntKind.wrap .i64 (((clowS xs).length : Int) - 1))) 0) = e20 at he20 hF ⊢
                    refine Ok.opYes (j := 13) (d := 59) (want := true) (b := true) rfl (by kernel_rfl) (by kernel_rfl) rfl (OpOk.step (v := .int .u8 (e20.toNat : Int)) (Yields.indexStr (k := .i64) (i := (IntKind.wrap .i64 (((clowS xs).length : Int) - 1))) (s := (clowS xs)) (b := e20) (by kernel_rfl) (by kernel_rfl) Tryd.underlying9 h020 he20) rfl rfl ?_)
                    refine Ok.batch 2 [(0, .string ⟨⟨(clowS xs)⟩⟩), (66, .bool ((e20.toNat : Int) == 41))] (by kernel_rfl) ?_
                    refine Ok.nil ?_
                    refine Ok.thenN ?_
                    subst hg20
                    refine Ok.reval 66 rfl (show (.bool ((((clowS xs).getD (Int.toNat (IntKind.wrap .i64 (((clowS xs).length : Int) - 1))) 0).toNat : Int) == 41) : Value) = .bool (((decide (((clowS xs).length : Int) > 5)) && (decide (((clowS xs).length : Int) < 60))) && ((((clowS xs).take (Int.toNat 4)) == ([114, 103, 98, 40] : List UInt8)) && ((((clowS xs).getD (Int.toNat (IntKind.wrap .i64 (((clowS xs).length : Int) - 1))) 0).toNat : Int) == 41))) from congrArg (Value.bool) ((Eq.trans (mand_t hc19) (mand_t hc17)))) ?_
                    exact fun a W hA hW => ⟨gj37, (Gext.refl w0 gj37), hA.sub (by kernel_rfl), hW, hF⟩
                  · replace hF := hF.2 hc19
                    refine Ok.batch 7 [(0, .string ⟨⟨(clowS xs)⟩⟩), (66, .bool false)] (by kernel_rfl) ?_
                    refine Ok.nil ?_
                    refine Ok.thenN ?_
                    refine Ok.reval 66 rfl (show (.bool false : Value) = .bool (((decide (((clowS xs).length : Int) > 5)) && (decide (((clowS xs).length : Int) < 60))) && ((((clowS xs).take (Int.toNat 4)) == ([114, 103, 98, 40] : List UInt8)) && ((((clowS xs).getD (Int.toNat (IntKind.wrap .i64 (((clowS xs).length : Int) - 1))) 0).toNat : Int) == 41))) from congrArg (Value.bool) ((Eq.trans (mand_f hc19) (mand_t hc17)))) ?_
                    exact fun a W hA hW => ⟨gj37, (Gext.refl w0 gj37), hA.sub (by kernel_rfl), hW, hF⟩
                · replace hF := hF.2 hc17
                  refine Ok.batch 12 [(0, .string ⟨⟨(clowS xs)⟩⟩), (66, .bool false)] (by kernel_rfl) ?_
                  refine Ok.nil ?_
                  refine Ok.thenN ?_
                  refine Ok.reval 66 rfl (show (.bool false : Value) = .bool (((decide (((clowS xs).length : Int) > 5)) && (decide (((clowS xs).length : Int) < 60))) && ((((clowS xs).take (Int.toNat 4)) == ([114, 103, 98, 40] : List UInt8)) && ((((clowS xs).getD (Int.toNat (IntKind.wrap .i64 (((clowS xs).length : Int) - 1))) 0).toNat : Int) == 41))) from congrArg (Value.bool) (mand_f hc17)) ?_
                  exact fun a W hA hW => ⟨gj37, (Gext.refl w0 gj37), hA.sub (by kernel_rfl), hW, hF⟩
              ·
                clear hF
                rintro a W ⟨gj45, hxj45, hA, hW, hF⟩
                refine (?_ : Ok _ _ _ _ _ _) a W hA hW
                clear hA hW
                refine Ok.cond (b := (((decide (((clowS xs).length : Int) > 5)) && (decide (((clowS xs).length : Int) < 60))) && ((((clowS xs).take (Int.toNat 4)) == ([114, 103, 98, 40] : List UInt8)) && ((((clowS xs).getD (Int.toNat (IntKind.wrap .i64 (((clowS xs).length : Int) - 1))) 0).toNat : Int) == 41)))) rfl (fun hc12 => ?_) (fun hc12 => ?_)
                · replace hF := hF.1 hc12
                  refine Ok.seq ?_
                  refine Ok.region ?_
                  refine Ok.batch 4 [(67, .string ⟨⟨(clowS xs)⟩⟩), (70, .int .i64 (IntKind.wrap .i64 (((clowS xs).length : Int) - 1)))] (by kernel_rfl) ?_
                  obtain ⟨h013, h113, h213, hF⟩ := hF
                  refine Ok.op rfl (OpOk.step (v := .string ⟨⟨((clowS xs).take (Int.toNat (IntKind.wrap .i64 (((clowS xs).length : Int) - 1)))).drop (Int.toNat 4)⟩⟩) (Yields.sliceStr (s := (clowS xs)) (l := 4) (h := (IntKind.wrap .i64 (((clowS xs).length : Int) - 1))) (by kernel_rfl) Tryd.underlying9 (.inl ⟨_, _, rfl, rfl⟩) (.inl ⟨_, _, rfl, rfl⟩) h013 h113 h213 (((clowS xs).take (Int.toNat (IntKind.wrap .i64 (((clowS xs).length : Int) - 1)))).drop (Int.toNat 4)) rfl) rfl rfl ?_)
                  obtain ⟨hp14, hF⟩ := hF
                  refine Ok.op rfl (OpOk.callG (v := .tuple #[.int .i64 ((rrgbS (((clowS xs).take (Int.toNat (IntKind.wrap .i64 (((clowS xs).length : Int) - 1)))).drop (Int.toNat 4))).1), .bool ((rrgbS (((clowS xs).take (Int.toNat (IntKind.wrap .i64 (((clowS xs).length : Int) - 1)))).drop (Int.toNat 4))).2)]) (enters (by kernel_rfl) (fun _ => by kernel_rfl)) (fun W hW => rrgb_c (((clowS xs).take (Int.toNat (IntKind.wrap .i64 (((clowS xs).length : Int) - 1)))).drop (Int.toNat 4)) hp14) rfl ?_)
                  refine Ok.batch 4 [(2, .int .i64 ((rrgbS (((clowS xs).take (Int.toNat (IntKind.wrap .i64 (((clowS xs).length : Int) - 1)))).drop (Int.toNat 4))).1)), (3, .bool ((rrgbS (((clowS xs).take (Int.toNat (IntKind.wrap .i64 (((clowS xs).length : Int) - 1)))).drop (Int.toNat 4))).2))] (by kernel_rfl) ?_
                  refine Ok.nil ?_
                  refine Ok.thenN ?_
                  refine Ok.ret ?_
                  refine Ok.thenR ?_
                  exact Ok.resH (vs := [.int .i64 ((rrgbS (((clowS xs).take (Int.toNat (IntKind.wrap .i64 (((clowS xs).length : Int) - 1)))).drop (Int.toNat 4))).1), .bool ((rrgbS (((clowS xs).take (Int.toNat (IntKind.wrap .i64 (((clowS xs).length : Int) - 1)))).drop (Int.toNat 4))).2)]) (.inl rfl) rfl (.cons (.tmp rfl) (.cons (.tmp rfl) .nil)) (((hx3.trans hxl19).trans hxj37).trans hxj45) ⟨((rrgbS (((clowS xs).take (Int.toNat (IntKind.wrap .i64 (((clowS xs).length : Int) - 1)))).drop (Int.toNat 4))).1), ((rrgbS (((clowS xs).take (Int.toNat (IntKind.wrap .i64 (((clowS xs).length : Int) - 1)))).drop (Int.toNat 4))).2), rfl, rfl, hF⟩
                · replace hF := hF.2 hc12
                  refine Ok.skip ?_
                  refine Ok.thenN ?_
                  refine Ok.seq ?_
                  refine Ok.region ?_
                  refine Ok.batch 2 [(2, .int .i64 0), (3, .bool false)] (by kernel_rfl) ?_
                  refine Ok.nil ?_
                  refine Ok.thenN ?_
                  refine Ok.ret ?_
                  exact Ok.resH (vs := [.int .i64 0, .bool false]) (.inl rfl) rfl (.cons (.tmp rfl) (.cons (.tmp rfl) .nil)) (((hx3.trans hxl19).trans hxj37).trans hxj45) ⟨0, false, rfl, rfl, hF⟩
def rnmN : List (List UInt8) → List Int → List UInt8 → Option Int
  | n :: ns, c :: cs, t => if (n == t) = true then some (256 * c + 255) else rnmN ns cs t
  | _, _, _ => none
theorem rnmN_nil (cs : List Int) (t : List UInt8) : rnmN [] cs t = none := by cases cs <;> rfl
def rcoQ (t : List UInt8) : Int × Bool := if (decide ((t.length : Int) > 0) && (((t.getD (Int.toNat 0) 0).toNat : Int) == 35)) = true then rhcS (t.drop (Int.toNat 1)) else
  if (((decide ((t.length : Int) > 5)) && (decide ((t.length : Int) < 60))) && (((t.take (Int.toNat 4)) == ([114, 103, 98, 40] : List UInt8)) && (((t.getD (Int.toNat (IntKind.wrap .i64 ((t.length : Int) - 1))) 0).toNat : Int) == 41))) = true then rrgbS ((t.take (Int.toNat (IntKind.wrap .i64 ((t.length : Int) - 1)))).drop (Int.toNat 4)) else (0, false)
def rcoT (t : List UInt8) : Int × Bool := if (t == [116, 114, 97, 110, 115, 112, 97, 114, 101, 110, 116]) = true then (0, true) else match rnmN rcnM.1 rcnM.2 t with
  | some c => (c, true)
  | none => rcoQ t
def rcoS (s : List UInt8) : Int × Bool := rcoT (clowS s)
theorem rcn_small : ∀ c ∈ rcnM.2, 0 ≤ c ∧ c ≤ 16777215 := by decide +kernel
theorem rco_F (s : List UInt8) (hp : clowP s) : rcoF s (fun r r1 => (r, r1) = rcoS s) := by
  have hp' := hp
  unfold clowP at hp'
  have hl : (clowS s).length = s.length := List.length_map ..
  refine ⟨hp, fun h => by unfold rcoS rcoT; rw [if_t h], fun h => ?_⟩
  have he0 : rcoS s = (match rnmN rcnM.1 rcnM.2 (clowS s) with
    | some c => (c, true)
    | none => rcoQ (clowS s)) := by unfold rcoS rcoT; rw [if_f h]
  have h17 : rcnM.1.length = 17 := by decide +kernel
  have h17b : rcnM.2.length = 17 := by decide +kernel
  have j45 : rcoQ (clowS s) = rcoS s → (decide (((clowS s).length : Int) > 0) && ((((clowS s).getD (Int.toNat 0) 0).toNat : Int) == 35)) = false → rcoj45 s (fun r r1 => (r, r1) = rcoS s) := by
    intro he hc
    unfold rcoQ at he
    rw [if_f hc] at he
    refine ⟨fun h => ?_, fun h => by rw [if_f h] at he; exact he⟩
    rw [if_t h] at he
    rw [Bool.and_eq_true, Bool.and_eq_true, decide_eq_true_eq, decide_eq_true_eq] at h
    have w1 : IntKind.wrap .i64 (((clowS s).length : Int) - 1) = ((clowS s).length : Int) - 1 := w64 (by omega)
    refine ⟨by omega, by rw [w1]; omega, by rw [w1]; omega, ?_, he⟩
    unfold rrgbP
    rw [List.length_drop, List.length_take]; omega
  have j37 : rcoQ (clowS s) = rcoS s → rcoj37 s (fun r r1 => (r, r1) = rcoS s) := by
    intro he
    refine ⟨fun h => ?_, fun h => ⟨fun h2 => ?_, fun _ => j45 he h⟩⟩
    · have hd := h
      rw [Bool.and_eq_true, decide_eq_true_eq] at hd
      unfold rcoQ at he
      rw [if_t h] at he
      exact ⟨by omega, by omega, by omega, he⟩
    · rw [Bool.and_eq_true, decide_eq_true_eq, decide_eq_true_eq] at h2
      have w1 : IntKind.wrap .i64 (((clowS s).length : Int) - 1) = ((clowS s).length : Int) - 1 := w64 (by omega)
      exact ⟨by omega, by omega, by omega, fun _ => ⟨by rw [w1]; omega, by rw [w1]; omega, j45 he h⟩, fun _ => j45 he h⟩
  have loop : ∀ (k i : Nat), i + k = 17 → rnmN rcnM.1 rcnM.2 (clowS s) = rnmN (rcnM.1.drop i) (rcnM.2.drop i) (clowS s) → rcol19 s (fun r r1 => (r, r1) = rcoS s) (k + 1) (i : Int) := by
    intro k
    induction k with
    | zero =>
      intro i h he
      have hn : decide ((i : Int) < (rcnM.1.length : Int)) = false := decide_eq_false (by omega)
      rw [List.drop_of_length_le (l := rcnM.1) (by omega), rnmN_nil] at he
      have hq : rcoQ (clowS s) = rcoS s := by rw [he0, he]
      exact ⟨fun h => (Bool.false_ne_true (hn.symm.trans h)).elim, fun _ => ⟨fun h => ⟨by omega, by have := of_decide_eq_true h; show 0 < _; omega, j37 hq⟩, fun _ => j37 hq⟩⟩
    | succ k ih =>
      intro i h he
      have hn : decide ((i : Int) < (rcnM.1.length : Int)) = true := decide_eq_true (by omega)
      rw [drop_get (l := rcnM.1) default (by omega), drop_get (l := rcnM.2) default (by omega), rnmN] at he
      have hc := rcn_small (rcnM.2.getD i default) (by rw [List.getD_eq_getElem?_getD, List.getElem?_eq_getElem (show i < rcnM.2.length by omega), Option.getD_some]; exact List.getElem_mem _)
      refine ⟨fun _ => ⟨by omega, by rw [Int.toNat_natCast]; omega, fun h => ⟨by omega, by rw [Int.toNat_natCast]; omega, ?_⟩, fun h => ?_⟩, fun h => (Bool.false_ne_true (h.symm.trans hn)).elim⟩
      · rw [Int.toNat_natCast] at h ⊢
        rw [if_t h] at he
        rw [he0, he, w64 (x := 256 * _) (by omega), w64 (by omega)]
      · rw [Int.toNat_natCast] at h
        rw [if_f h] at he
        rw [w64 (x := (i : Int) + 1) (by omega)]
        exact ih (i + 1) (by omega) he
  exact ⟨_, loop 17 0 (by omega) rfl⟩
set_option linter.unusedVariables false in
theorem rco_c {g : Ghost} (xs : List UInt8)  (hp : clowP xs) : CallsG Tryd.prog 19 #[.string ⟨⟨xs⟩⟩] g (.tuple #[.int .i64 ((rcoS xs).1), .bool ((rcoS xs).2)]) :=
  (rco_ok xs _ (rco_F xs hp)).gives (by rintro g' H' v _ ⟨r0, r1, rfl, rfl, hK⟩; obtain ⟨rfl, rfl⟩ : r0 = (rcoS xs).1 ∧ r1 = (rcoS xs).2 := ⟨congrArg (fun z => z.1) hK, congrArg (fun z => z.2) hK⟩; rfl)
def redF (K : Bool → Prop) : Prop :=
  crdP ([35, 70, 48, 48] : List UInt8) ∧ K ((((crdS ([35, 70, 48, 48] : List UInt8)).2) == 0) && (((crdS ([35, 70, 48, 48] : List UInt8)).1) == 4278190335))
set_option maxHeartbeats 4000000 in
set_option maxRecDepth 100000 in
set_option linter.unusedVariables false in
theorem red_ok {g : Ghost}  (hG1 : SomeInt g 1) (hG2 : GlobL g 2 (.int .u64) DPow) (hG3 : SomeIf g 3) (hG4 : SomeIf g 4) (K : Bool → Prop)
    (hF : redF K) : CallsH Tryd.prog 17 #[] g [] (fun g' H' v => ∃ (r0 : Bool), v = .bool r0 ∧ H' = [] ∧ K r0) := by
  refine CallsH.enter 13 [] Tryd.func17 rfl (by kernel_rfl) (by kernel_rfl) (by kernel_rfl) fun w0 => ?_
  refine Ok.seq ?_
  refine Ok.region ?_
  refine Ok.batch 1 [] (by kernel_rfl) ?_
  refine Ok.nil ?_
  refine Ok.thenN ?_
  refine Ok.seq ?_
  refine Ok.region ?_
  obtain ⟨hp1, hF⟩ := hF
  refine Ok.op rfl (OpOk.callG (v := .tuple #[.int .i64 ((crdS ([35, 70, 48, 48] : List UInt8)).1), .int .i64 ((crdS ([35, 70, 48, 48] : List UInt8)).2)]) (enters (by kernel_rfl) (fun _ => by kernel_rfl)) (fun W hW => crd_c ([35, 70, 48, 48] : List UInt8) (hG1.mono hW.sees) (hG2.mono hW.sees) (hG3.mono hW.sees) (hG4.mono hW.sees) hp1) rfl ?_)
  refine Ok.batch 5 [(1, .int .i64 ((crdS ([35, 70, 48, 48] : List UInt8)).1)), (2, .int .i64 ((crdS ([35, 70, 48, 48] : List UInt8)).2))] (by kernel_rfl) ?_
  refine Ok.nil ?_
  refine Ok.thenN ?_
  refine Ok.seq ?_
  refine Ok.region ?_
  refine Ok.batch 3 [(1, .int .i64 ((crdS ([35, 70, 48, 48] : List UInt8)).1)), (9, .bool (((crdS ([35, 70, 48, 48] : List UInt8)).2) == 0))] (by kernel_rfl) ?_
  refine Ok.midway 3 [(12, .bool ((((crdS ([35, 70, 48, 48] : List UInt8)).2) == 0) && (((crdS ([35, 70, 48, 48] : List UInt8)).1) == 4278190335)))] (fun hR2 => ?_) ?_
  · refine Ok.boolAt 9 ((((crdS ([35, 70, 48, 48] : List UInt8)).2) == 0)) rfl (fun hc3 => ?_) (fun hc3 => ?_)
    · skip
      refine Ok.batch 3 [(12, .bool (((crdS ([35, 70, 48, 48] : List UInt8)).1) == 4278190335))] (by kernel_rfl) ?_
      refine Ok.reval 12 rfl (show (.bool (((crdS ([35, 70, 48, 48] : List UInt8)).1) == 4278190335) : Value) = .bool ((((crdS ([35, 70, 48, 48] : List UInt8)).2) == 0) && (((crdS ([35, 70, 48, 48] : List UInt8)).1) == 4278190335)) from congrArg Value.bool (mand_t hc3)) ?_
      refine Ok.batch 0 [(12, .bool ((((crdS ([35, 70, 48, 48] : List UInt8)).2) == 0) && (((crdS ([35, 70, 48, 48] : List UInt8)).1) == 4278190335)))] (by kernel_rfl) ?_
      exact hR2
    · skip
      refine Ok.batch 3 [(12, .bool false)] (by kernel_rfl) ?_
      refine Ok.reval 12 rfl (show (.bool false : Value) = .bool ((((crdS ([35, 70, 48, 48] : List UInt8)).2) == 0) && (((crdS ([35, 70, 48, 48] : List UInt8)).1) == 4278190335)) from congrArg Value.bool (mand_f hc3)) ?_
      refine Ok.batch 0 [(12, .bool ((((crdS ([35, 70, 48, 48] : List UInt8)).2) == 0) && (((crdS ([35, 70, 48, 48] : List UInt8)).1) == 4278190335)))] (by kernel_rfl) ?_
      exact hR2
  refine Ok.batch 1 [(0, .bool ((((crdS ([35, 70, 48, 48] : List UInt8)).2) == 0) && (((crdS ([35, 70, 48, 48] : List UInt8)).1) == 4278190335)))] (by kernel_rfl) ?_
  refine Ok.nil ?_
  refine Ok.thenN ?_
  refine Ok.ret ?_
  exact Ok.resH (vs := [.bool ((((crdS ([35, 70, 48, 48] : List UInt8)).2) == 0) && (((crdS ([35, 70, 48, 48] : List UInt8)).1) == 4278190335))]) (.inl rfl) rfl (.cons (.tmp rfl) .nil) (Gext.refl w0 g) ⟨((((crdS ([35, 70, 48, 48] : List UInt8)).2) == 0) && (((crdS ([35, 70, 48, 48] : List UInt8)).1) == 4278190335)), rfl, rfl, hF⟩
def redM : Bool := ((((crdS ([35, 70, 48, 48] : List UInt8)).2) == 0) && (((crdS ([35, 70, 48, 48] : List UInt8)).1) == 4278190335))
set_option linter.unusedSimpArgs false in
set_option linter.unusedVariables false in
theorem redF_A (P : Bool → Prop) (h : P (redM)) : redF (fun k0 => P k0) := by
  unfold redM at h
  unfold redF
  refine ⟨?_, ?_⟩
  · first | (unfold crdP; decide) | omega | assumption | exact trivial | (have h0 := List.length_pos_iff.mpr (by assumption); omega) | (simp; omega) | (simp at *; omega)
  exact h
theorem red_F : redF (fun k0 => k0 = redM) :=
  redF_A (fun z => z = redM) rfl
set_option linter.unusedVariables false in
theorem red_c {g : Ghost}  (hG1 : SomeInt g 1) (hG2 : GlobL g 2 (.int .u64) DPow) (hG3 : SomeIf g 3) (hG4 : SomeIf g 4)  : CallsG Tryd.prog 17 #[] g (.bool redM) :=
  (red_ok  hG1 hG2 hG3 hG4 _ (red_F )).gives (by rintro g' H' v _ ⟨r0, rfl, rfl, hK⟩; subst hK; rfl)
def lcrF (xs : List UInt8) (K : Bool → Prop) : Prop :=
  crdP xs ∧ clowP xs ∧ ((!((rcoS xs).2)) = true → K ((redM && (((crdS xs).1) == 0)) && (((crdS xs).2) == 4))) ∧ ((!((rcoS xs).2)) = false → K ((redM && (((crdS xs).1) == ((rcoS xs).1))) && (((crdS xs).2) == 0)))
set_option maxHeartbeats 4000000 in
set_option maxRecDepth 100000 in
set_option linter.unusedVariables false in
theorem lcr_ok {g : Ghost} (xs : List UInt8) (hG1 : SomeInt g 1) (hG2 : GlobL g 2 (.int .u64) DPow) (hG3 : SomeIf g 3) (hG4 : SomeIf g 4) (K : Bool → Prop)
    (hF : lcrF xs K) : CallsH Tryd.prog 6 #[.string ⟨⟨xs⟩⟩] g [] (fun g' H' v => ∃ (r0 : Bool), v = .bool r0 ∧ H' = [] ∧ K r0) := by
  refine CallsH.enter 40 [(0, .string ⟨⟨xs⟩⟩)] Tryd.func6 rfl (by kernel_rfl) (by kernel_rfl) (by kernel_rfl) fun w0 => ?_
  refine Ok.seq ?_
  refine Ok.region ?_
  refine Ok.batch 1 [(0, .string ⟨⟨xs⟩⟩)] (by kernel_rfl) ?_
  refine Ok.nil ?_
  refine Ok.thenN ?_
  refine Ok.seq ?_
  refine Ok.region ?_
  refine Ok.op rfl (OpOk.callG (v := .bool redM) (enters (by kernel_rfl) (fun _ => by kernel_rfl)) (fun W hW => red_c  (hG1.mono hW.sees) (hG2.mono hW.sees) (hG3.mono hW.sees) (hG4.mono hW.sees)) rfl ?_)
  refine Ok.batch 1 [(0, .string ⟨⟨xs⟩⟩), (3, .bool redM)] (by kernel_rfl) ?_
  refine Ok.nil ?_
  refine Ok.thenN ?_
  refine Ok.seq ?_
  refine Ok.region ?_
  refine Ok.batch 1 [(0, .string ⟨⟨xs⟩⟩), (3, .bool redM), (10, .string ⟨⟨xs⟩⟩)] (by kernel_rfl) ?_
  obtain ⟨hp1, hF⟩ := hF
  refine Ok.op rfl (OpOk.callG (v := .tuple #[.int .i64 ((crdS xs).1), .int .i64 ((crdS xs).2)]) (enters (by kernel_rfl) (fun _ => by kernel_rfl)) (fun W hW => crd_c xs (hG1.mono hW.sees) (hG2.mono hW.sees) (hG3.mono hW.sees) (hG4.mono hW.sees) hp1) rfl ?_)
  refine Ok.batch 5 [(0, .string ⟨⟨xs⟩⟩), (3, .bool redM), (4, .int .i64 ((crdS xs).1)), (5, .int .i64 ((crdS xs).2))] (by kernel_rfl) ?_
  refine Ok.nil ?_
  refine Ok.thenN ?_
  refine Ok.seq ?_
  refine Ok.region ?_
  refine Ok.batch 1 [(3, .bool redM), (4, .int .i64 ((crdS xs).1)), (5, .int .i64 ((crdS xs).2)), (15, .string ⟨⟨xs⟩⟩)] (by kernel_rfl) ?_
  obtain ⟨hp2, hF⟩ := hF
  refine Ok.op rfl (OpOk.callG (v := .tuple #[.int .i64 ((rcoS xs).1), .bool ((rcoS xs).2)]) (enters (by kernel_rfl) (fun _ => by kernel_rfl)) (fun W hW => rco_c xs hp2) rfl ?_)
  refine Ok.batch 5 [(3, .bool redM), (4, .int .i64 ((crdS xs).1)), (5, .int .i64 ((crdS xs).2)), (6, .int .i64 ((rcoS xs).1)), (7, .bool ((rcoS xs).2))] (by kernel_rfl) ?_
  refine Ok.nil ?_
  refine Ok.thenN ?_
  refine Ok.seq ?_
  refine Ok.seq ?_
  refine Ok.region ?_
  refine Ok.batch 2 [(3, .bool redM), (4, .int .i64 ((crdS xs).1)), (5, .int .i64 ((crdS xs).2)), (6, .int .i64 ((rcoS xs).1)), (20, .bool (!((rcoS xs).2)))] (by kernel_rfl) ?_
  refine Ok.nil ?_
  refine Ok.thenN ?_
  refine Ok.cond (b := !((rcoS xs).2)) rfl (fun hc3 => ?_) (fun hc3 => ?_)
  · replace hF := hF.1 hc3
    refine Ok.seq ?_
    refine Ok.region ?_
    refine Ok.batch 2 [(4, .int .i64 ((crdS xs).1)), (5, .int .i64 ((crdS xs).2)), (22, .bool redM)] (by kernel_rfl) ?_
    refine Ok.midway 3 [(5, .int .i64 ((crdS xs).2)), (25, .bool (redM && (((crdS xs).1) == 0)))] (fun hR4 => ?_) ?_
    · refine Ok.boolAt 22 (redM) rfl (fun hc5 => ?_) (fun hc5 => ?_)
      · skip
        refine Ok.batch 3 [(5, .int .i64 ((crdS xs).2)), (25, .bool (((crdS xs).1) == 0))] (by kernel_rfl) ?_
        refine Ok.reval 25 rfl (show (.bool (((crdS xs).1) == 0) : Value) = .bool (redM && (((crdS xs).1) == 0)) from congrArg Value.bool (mand_t hc5)) ?_
        refine Ok.batch 0 [(5, .int .i64 ((crdS xs).2)), (25, .bool (redM && (((crdS xs).1) == 0)))] (by kernel_rfl) ?_
        exact hR4
      · skip
        refine Ok.batch 3 [(5, .int .i64 ((crdS xs).2)), (25, .bool false)] (by kernel_rfl) ?_
        refine Ok.reval 25 rfl (show (.bool false : Value) = .bool (redM && (((crdS xs).1) == 0)) from congrArg Value.bool (mand_f hc5)) ?_
        refine Ok.batch 0 [(5, .int .i64 ((crdS xs).2)), (25, .bool (redM && (((crdS xs).1) == 0)))] (by kernel_rfl) ?_
        exact hR4
    refine Ok.batch 1 [(5, .int .i64 ((crdS xs).2)), (26, .bool (redM && (((crdS xs).1) == 0)))] (by kernel_rfl) ?_
    refine Ok.midway 3 [(29, .bool ((redM && (((crdS xs).1) == 0)) && (((crdS xs).2) == 4)))] (fun hR6 => ?_) ?_
    · refine Ok.boolAt 26 ((redM && (((crdS xs).1) == 0))) rfl (fun hc7 => ?_) (fun hc7 => ?_)
      · skip
        refine Ok.batch 3 [(29, .bool (((crdS xs).2) == 4))] (by kernel_rfl) ?_
        refine Ok.reval 29 rfl (show (.bool (((crdS xs).2) == 4) : Value) = .bool ((redM && (((crdS xs).1) == 0)) && (((crdS xs).2) == 4)) from congrArg Value.bool (mand_t hc7)) ?_
        refine Ok.batch 0 [(29, .bool ((redM && (((crdS xs).1) == 0)) && (((crdS xs).2) == 4)))] (by kernel_rfl) ?_
        exact hR6
      · skip
        refine Ok.batch 3 [(29, .bool false)] (by kernel_rfl) ?_
        refine Ok.reval 29 rfl (show (.bool false : Value) = .bool ((redM && (((crdS xs).1) == 0)) && (((crdS xs).2) == 4)) from congrArg Value.bool (mand_f hc7)) ?_
        refine Ok.batch 0 [(29, .bool ((redM && (((crdS xs).1) == 0)) && (((crdS xs).2) == 4)))] (by kernel_rfl) ?_
        exact hR6
    refine Ok.batch 1 [(2, .bool ((redM && (((crdS xs).1) == 0)) && (((crdS xs).2) == 4)))] (by kernel_rfl) ?_
    refine Ok.nil ?_
    refine Ok.thenN ?_
    refine Ok.ret ?_
    refine Ok.thenR ?_
    exact Ok.resH (vs := [.bool ((redM && (((crdS xs).1) == 0)) && (((crdS xs).2) == 4))]) (.inl rfl) rfl (.cons (.tmp rfl) .nil) (Gext.refl w0 g) ⟨((redM && (((crdS xs).1) == 0)) && (((crdS xs).2) == 4)), rfl, rfl, hF⟩
  · replace hF := hF.2 hc3
    refine Ok.skip ?_
    refine Ok.thenN ?_
    refine Ok.seq ?_
    refine Ok.region ?_
    refine Ok.batch 2 [(4, .int .i64 ((crdS xs).1)), (5, .int .i64 ((crdS xs).2)), (6, .int .i64 ((rcoS xs).1)), (31, .bool redM)] (by kernel_rfl) ?_
    refine Ok.midway 4 [(5, .int .i64 ((crdS xs).2)), (35, .bool (redM && (((crdS xs).1) == ((rcoS xs).1))))] (fun hR8 => ?_) ?_
    · refine Ok.boolAt 31 (redM) rfl (fun hc9 => ?_) (fun hc9 => ?_)
      · skip
        refine Ok.batch 4 [(5, .int .i64 ((crdS xs).2)), (35, .bool (((crdS xs).1) == ((rcoS xs).1)))] (by kernel_rfl) ?_
        refine Ok.reval 35 rfl (show (.bool (((crdS xs).1) == ((rcoS xs).1)) : Value) = .bool (redM && (((crdS xs).1) == ((rcoS xs).1))) from congrArg Value.bool (mand_t hc9)) ?_
        refine Ok.batch 0 [(5, .int .i64 ((crdS xs).2)), (35, .bool (redM && (((crdS xs).1) == ((rcoS xs).1))))] (by kernel_rfl) ?_
        exact hR8
      · skip
        refine Ok.batch 4 [(5, .int .i64 ((crdS xs).2)), (35, .bool false)] (by kernel_rfl) ?_
        refine Ok.reval 35 rfl (show (.bool false : Value) = .bool (redM && (((crdS xs).1) == ((rcoS xs).1))) from congrArg Value.bool (mand_f hc9)) ?_
        refine Ok.batch 0 [(5, .int .i64 ((crdS xs).2)), (35, .bool (redM && (((crdS xs).1) == ((rcoS xs).1))))] (by kernel_rfl) ?_
        exact hR8
    refine Ok.batch 1 [(5, .int .i64 ((crdS xs).2)), (36, .bool (redM && (((crdS xs).1) == ((rcoS xs).1))))] (by kernel_rfl) ?_
    refine Ok.midway 3 [(39, .bool ((redM && (((crdS xs).1) == ((rcoS xs).1))) && (((crdS xs).2) == 0)))] (fun hR10 => ?_) ?_
    · refine Ok.boolAt 36 ((redM && (((crdS xs).1) == ((rcoS xs).1)))) rfl (fun hc11 => ?_) (fun hc11 => ?_)
      · skip
        refine Ok.batch 3 [(39, .bool (((crdS xs).2) == 0))] (by kernel_rfl) ?_
        refine Ok.reval 39 rfl (show (.bool (((crdS xs).2) == 0) : Value) = .bool ((redM && (((crdS xs).1) == ((rcoS xs).1))) && (((crdS xs).2) == 0)) from congrArg Value.bool (mand_t hc11)) ?_
        refine Ok.batch 0 [(39, .bool ((redM && (((crdS xs).1) == ((rcoS xs).1))) && (((crdS xs).2) == 0)))] (by kernel_rfl) ?_
        exact hR10
      · skip
        refine Ok.batch 3 [(39, .bool false)] (by kernel_rfl) ?_
        refine Ok.reval 39 rfl (show (.bool false : Value) = .bool ((redM && (((crdS xs).1) == ((rcoS xs).1))) && (((crdS xs).2) == 0)) from congrArg Value.bool (mand_f hc11)) ?_
        refine Ok.batch 0 [(39, .bool ((redM && (((crdS xs).1) == ((rcoS xs).1))) && (((crdS xs).2) == 0)))] (by kernel_rfl) ?_
        exact hR10
    refine Ok.batch 1 [(2, .bool ((redM && (((crdS xs).1) == ((rcoS xs).1))) && (((crdS xs).2) == 0)))] (by kernel_rfl) ?_
    refine Ok.nil ?_
    refine Ok.thenN ?_
    refine Ok.ret ?_
    exact Ok.resH (vs := [.bool ((redM && (((crdS xs).1) == ((rcoS xs).1))) && (((crdS xs).2) == 0))]) (.inl rfl) rfl (.cons (.tmp rfl) .nil) (Gext.refl w0 g) ⟨((redM && (((crdS xs).1) == ((rcoS xs).1))) && (((crdS xs).2) == 0)), rfl, rfl, hF⟩
end Go.Proofs.YteocjdpjpkjlaaaDoor.Co
