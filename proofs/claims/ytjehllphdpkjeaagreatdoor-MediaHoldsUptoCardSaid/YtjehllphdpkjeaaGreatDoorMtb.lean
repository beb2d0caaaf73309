/- media: words, kinds, ends of blocks. -/
import Derived.Test.YtjehllphdpkjeaaGreatDoorMta
import Derived.Test.YtjehllphdpkjeaaGreatDoorCut
import Derived.Test.YtjehllphdpkjeaaGreatDoorMtp
import Derived.Test.YtjehllphdpkjeaaGreatDoorGla
import Derived.Test.YtjehllphdpkjeaaGreatDoorCuo
import Derived.Test.YtjehllphdpkjeaaGreatDoorTri
import Derived.Test.YtjehllphdpkjeaaGreatDoorUp
import Derived.Lib.AppendIntMem
import Derived.Lib.AtoiErrMem
import Derived.Lib.ItoaLen
namespace Go.Proofs.YtjehllphdpkjeaaGreatDoor.Me
open Go Go.Eng Go.RowKit Go.Shelf Go.Proofs Bld Trm Css
set_option linter.unusedVariables false
def DWords : List (List UInt8) := [[], [97, 108, 108], [115, 99, 114, 101, 101, 110], [112, 114, 105, 110, 116], [109, 105, 110, 45, 119, 105, 100, 116, 104], [109, 97, 120, 45, 119, 105, 100, 116, 104], [109, 105, 110, 45, 104, 101, 105, 103, 104, 116], [109, 97, 120, 45, 104, 101, 105, 103, 104, 116], [112, 114, 101, 102, 101, 114, 115, 45, 99, 111, 108, 111, 114, 45, 115, 99, 104, 101, 109, 101, 58, 100, 97, 114, 107], [112, 114, 101, 102, 101, 114, 115, 45, 99, 111, 108, 111, 114, 45, 115, 99, 104, 101, 109, 101, 58, 108, 105, 103, 104, 116], [111, 114, 105, 101, 110, 116, 97, 116, 105, 111, 110, 58, 112, 111, 114, 116, 114, 97, 105, 116], [111, 114, 105, 101, 110, 116, 97, 116, 105, 111, 110, 58, 108, 97, 110, 100, 115, 99, 97, 112, 101]]
def atoiS (s : List UInt8) : Int × Bool := match Lib.atoiAll s with
  | .ok v => (v, true)
  | .range => (Lib.atoiSat s, false)
  | _ => (0, false)
def atoiP (s : List UInt8) : Prop := s.length ≤ 1000000
theorem atoi_c {g : Ghost} (s : List UInt8) (hG1 : SomeIf g 2) (hG2 : SomeIf g 3) (hp : atoiP s) :
    CallsH Tryz.prog 40 #[.string ⟨⟨s⟩⟩] g [] (fun g' H' v => ∃ (ir1 : Value), v = .tuple #[.int .i64 (atoiS s).1, ir1] ∧ IfV ir1 (atoiS s).2 ∧ H' = []) := fun W hW => by
  unfold atoiP at hp
  have hsz : (⟨⟨s⟩⟩ : ByteArray).size = s.length := rfl
  unfold atoiS
  cases h : Lib.atoiAll s with
  | ok v =>
    refine (Tryz.strconv_Atoi_ok ⟨⟨s⟩⟩ (by rw [hsz]; omega) v h W).mono fun e W' ⟨he, hw⟩ => ?_
    refine ⟨_, g, [], he, ⟨_, rfl, rfl, rfl⟩, Gext.refl _ g, ?_⟩
    rcases hw with rfl | ⟨t, rfl⟩
    · exact hW
    · exact hW.of_below (Lib.bytesWorld_below _ _ _)
  | range =>
    obtain ⟨cs, T, fz, t, p, h1, h2⟩ := hG2
    refine (Tryz.strconv_Atoi_range ⟨⟨s⟩⟩ (by rw [hsz]; omega) h (.iface t p) W (by rw [Lib.cell_of_heap (hW.ghost _ _ h1)]; exact h2) (.inr ⟨t, p, rfl⟩)).mono fun e W' ⟨N, he, _, _, hb⟩ => ?_
    exact ⟨_, g, [], he, ⟨_, rfl, ⟨_, _, rfl⟩, rfl⟩, Gext.refl _ g, hW.of_below hb⟩
  | _ =>
    obtain ⟨cs, T, fz, t, p, h1, h2⟩ := hG1
    refine (Tryz.strconv_Atoi_syntax ⟨⟨s⟩⟩ (by rw [hsz]; omega) h (.iface t p) W (by rw [Lib.cell_of_heap (hW.ghost _ _ h1)]; exact h2) (.inr ⟨t, p, rfl⟩)).mono fun e W' ⟨N, he, _, _, hb⟩ => ?_
    exact ⟨_, g, [], he, ⟨_, rfl, ⟨_, _, rfl⟩, rfl⟩, Gext.refl _ g, hW.of_below hb⟩
abbrev Tok := Int × List UInt8 × List UInt8 × Int
/-! the kind of a word -/
def mkdT0 : List (List UInt8) := ([([] : List UInt8), ([97, 108, 108] : List UInt8), ([115, 99, 114, 101, 101, 110] : List UInt8), ([112, 114, 105, 110, 116] : List UInt8), ([109, 105, 110, 45, 119, 105, 100, 116, 104] : List UInt8), ([109, 97, 120, 45, 119, 105, 100, 116, 104] : List UInt8), ([109, 105, 110, 45, 104, 101, 105, 103, 104, 116] : List UInt8), ([109, 97, 120, 45, 104, 101, 105, 103, 104, 116] : List UInt8), ([112, 114, 101, 102, 101, 114, 115, 45, 99, 111, 108, 111, 114, 45, 115, 99, 104, 101, 109, 101, 58, 100, 97, 114, 107] : List UInt8), ([112, 114, 101, 102, 101, 114, 115, 45, 99, 111, 108, 111, 114, 45, 115, 99, 104, 101, 109, 101, 58, 108, 105, 103, 104, 116] : List UInt8), ([111, 114, 105, 101, 110, 116, 97, 116, 105, 111, 110, 58, 112, 111, 114, 116, 114, 97, 105, 116] : List UInt8), ([111, 114, 105, 101, 110, 116, 97, 116, 105, 111, 110, 58, 108, 97, 110, 100, 115, 99, 97, 112, 101] : List UInt8)] : List (List UInt8))
def mkdj18 (xword : List UInt8) (K : Int → Prop) (x6l7 : Int) (e3 : List UInt8) (C7 : Int → Prop) : Prop :=
  ((((decide (x6l7 > 0)) && (e3 == xword))) = true → K x6l7) ∧ ((((decide (x6l7 > 0)) && (e3 == xword))) = false → C7 (IntKind.wrap .i64 (x6l7 + 1)))
def mkdl7b (xword : List UInt8) (K : Int → Prop) (x6l7 : Int) (C7 : Int → Prop) : Prop :=
  ((decide (x6l7 < 12)) = true → (0 : Int) ≤ x6l7 ∧ Int.toNat x6l7 < mkdT0.length ∧ ((decide (x6l7 > 0)) = true → mkdj18 xword K x6l7 (mkdT0.getD (Int.toNat x6l7) default) C7) ∧ ((decide (x6l7 > 0)) = false → mkdj18 xword K x6l7 (mkdT0.getD (Int.toNat x6l7) default) C7)) ∧ ((decide (x6l7 < 12)) = false → K 12)
def mkdl7 (xword : List UInt8) (K : Int → Prop) : Nat → Int → Prop
  | 0, _ => False
  | k + 1, x6l7 => mkdl7b xword K x6l7 (mkdl7 xword K k)
def mkdF (xword : List UInt8) (K : Int → Prop) : Prop :=
  ∃ k, mkdl7 xword K k 0
set_option maxHeartbeats 4000000 in
set_option maxRecDepth 100000 in
set_option linter.unusedVariables false in
theorem mkd_ok {g : Ghost} (xword : List UInt8) (hG0 : GlobL g 0 (.str) DWords) (K : Int → Prop)
    (hF : mkdF xword K) : CallsH Tryz.prog 24 #[.string ⟨⟨xword⟩⟩] g [] (fun g' H' v => ∃ (r0 : Int), v = .int .i64 r0 ∧ H' = [] ∧ K r0) := by
  refine CallsH.enter 19 [(0, .string ⟨⟨xword⟩⟩)] Tryz.func24 rfl (by kernel_rfl) (by kernel_rfl) (by kernel_rfl) fun w0 => ?_
  refine Ok.seq ?_
  refine Ok.region ?_
  refine Ok.batch 1 [(0, .string ⟨⟨xword⟩⟩)] (by kernel_rfl) ?_
  refine Ok.nil ?_
  refine Ok.thenN ?_
  refine Ok.seq ?_
  refine Ok.seq ?_
  refine Ok.region ?_
  have hat1 : At g 0 0 [.string ⟨⟨([] : List UInt8)⟩⟩, .string ⟨⟨([97, 108, 108] : List UInt8)⟩⟩, .string ⟨⟨([115, 99, 114, 101, 101, 110] : List UInt8)⟩⟩, .string ⟨⟨([112, 114, 105, 110, 116] : List UInt8)⟩⟩, .string ⟨⟨([109, 105, 110, 45, 119, 105, 100, 116, 104] : List UInt8)⟩⟩, .string ⟨⟨([109, 97, 120, 45, 119, 105, 100, 116, 104] : List UInt8)⟩⟩, .string ⟨⟨([109, 105, 110, 45, 104, 101, 105, 103, 104, 116] : List UInt8)⟩⟩, .string ⟨⟨([109, 97, 120, 45, 104, 101, 105, 103, 104, 116] : List UInt8)⟩⟩, .string ⟨⟨([112, 114, 101, 102, 101, 114, 115, 45, 99, 111, 108, 111, 114, 45, 115, 99, 104, 101, 109, 101, 58, 100, 97, 114, 107] : List UInt8)⟩⟩, .string ⟨⟨([112, 114, 101, 102, 101, 114, 115, 45, 99, 111, 108, 111, 114, 45, 115, 99, 104, 101, 109, 101, 58, 108, 105, 103, 104, 116] : List UInt8)⟩⟩, .string ⟨⟨([111, 114, 105, 101, 110, 116, 97, 116, 105, 111, 110, 58, 112, 111, 114, 116, 114, 97, 105, 116] : List UInt8)⟩⟩, .string ⟨⟨([111, 114, 105, 101, 110, 116, 97, 116, 105, 111, 110, 58, 108, 97, 110, 100, 115, 99, 97, 112, 101] : List UInt8)⟩⟩] := GlobL.at_ hG0 rfl rfl
  refine Ok.op rfl (OpOk.step (v := .agg #[.string ⟨⟨([] : List UInt8)⟩⟩, .string ⟨⟨([97, 108, 108] : List UInt8)⟩⟩, .string ⟨⟨([115, 99, 114, 101, 101, 110] : List UInt8)⟩⟩, .string ⟨⟨([112, 114, 105, 110, 116] : List UInt8)⟩⟩, .string ⟨⟨([109, 105, 110, 45, 119, 105, 100, 116, 104] : List UInt8)⟩⟩, .string ⟨⟨([109, 97, 120, 45, 119, 105, 100, 116, 104] : List UInt8)⟩⟩, .string ⟨⟨([109, 105, 110, 45, 104, 101, 105, 103, 104, 116] : List UInt8)⟩⟩, .string ⟨⟨([109, 97, 120, 45, 104, 101, 105, 103, 104, 116] : List UInt8)⟩⟩, .string ⟨⟨([112, 114, 101, 102, 101, 114, 115, 45, 99, 111, 108, 111, 114, 45, 115, 99, 104, 101, 109, 101, 58, 100, 97, 114, 107] : List UInt8)⟩⟩, .string ⟨⟨([112, 114, 101, 102, 101, 114, 115, 45, 99, 111, 108, 111, 114, 45, 115, 99, 104, 101, 109, 101, 58, 108, 105, 103, 104, 116] : List UInt8)⟩⟩, .string ⟨⟨([111, 114, 105, 101, 110, 116, 97, 116, 105, 111, 110, 58, 112, 111, 114, 116, 114, 97, 105, 116] : List UInt8)⟩⟩, .string ⟨⟨([111, 114, 105, 101, 110, 116, 97, 116, 105, 111, 110, 58, 108, 97, 110, 100, 115, 99, 97, 112, 101] : List UInt8)⟩⟩]) (Yields.loadAggRo 0 12 #[.string ⟨⟨([] : List UInt8)⟩⟩, .string ⟨⟨([97, 108, 108] : List UInt8)⟩⟩, .string ⟨⟨([115, 99, 114, 101, 101, 110] : List UInt8)⟩⟩, .string ⟨⟨([112, 114, 105, 110, 116] : List UInt8)⟩⟩, .string ⟨⟨([109, 105, 110, 45, 119, 105, 100, 116, 104] : List UInt8)⟩⟩, .string ⟨⟨([109, 97, 120, 45, 119, 105, 100, 116, 104] : List UInt8)⟩⟩, .string ⟨⟨([109, 105, 110, 45, 104, 101, 105, 103, 104, 116] : List UInt8)⟩⟩, .string ⟨⟨([109, 97, 120, 45, 104, 101, 105, 103, 104, 116] : List UInt8)⟩⟩, .string ⟨⟨([112, 114, 101, 102, 101, 114, 115, 45, 99, 111, 108, 111, 114, 45, 115, 99, 104, 101, 109, 101, 58, 100, 97, 114, 107] : List UInt8)⟩⟩, .string ⟨⟨([112, 114, 101, 102, 101, 114, 115, 45, 99, 111, 108, 111, 114, 45, 115, 99, 104, 101, 109, 101, 58, 108, 105, 103, 104, 116] : List UInt8)⟩⟩, .string ⟨⟨([111, 114, 105, 101, 110, 116, 97, 116, 105, 111, 110, 58, 112, 111, 114, 116, 114, 97, 105, 116] : List UInt8)⟩⟩, .string ⟨⟨([111, 114, 105, 101, 110, 116, 97, 116, 105, 111, 110, 58, 108, 97, 110, 100, 115, 99, 97, 112, 101] : List UInt8)⟩⟩] hat1 (by kernel_rfl) Tryz.underlying76 rfl (by kernel_rfl) (by kernel_rfl) (by kernel_rfl)) rfl rfl ?_)
  refine Ok.batch 1 [(0, .string ⟨⟨xword⟩⟩), (5, .agg #[.string ⟨⟨([] : List UInt8)⟩⟩, .string ⟨⟨([97, 108, 108] : List UInt8)⟩⟩, .string ⟨⟨([115, 99, 114, 101, 101, 110] : List UInt8)⟩⟩, .string ⟨⟨([112, 114, 105, 110, 116] : List UInt8)⟩⟩, .string ⟨⟨([109, 105, 110, 45, 119, 105, 100, 116, 104] : List UInt8)⟩⟩, .string ⟨⟨([109, 97, 120, 45, 119, 105, 100, 116, 104] : List UInt8)⟩⟩, .string ⟨⟨([109, 105, 110, 45, 104, 101, 105, 103, 104, 116] : List UInt8)⟩⟩, .string ⟨⟨([109, 97, 120, 45, 104, 101, 105, 103, 104, 116] : List UInt8)⟩⟩, .string ⟨⟨([112, 114, 101, 102, 101, 114, 115, 45, 99, 111, 108, 111, 114, 45, 115, 99, 104, 101, 109, 101, 58, 100, 97, 114, 107] : List UInt8)⟩⟩, .string ⟨⟨([112, 114, 101, 102, 101, 114, 115, 45, 99, 111, 108, 111, 114, 45, 115, 99, 104, 101, 109, 101, 58, 108, 105, 103, 104, 116] : List UInt8)⟩⟩, .string ⟨⟨([111, 114, 105, 101, 110, 116, 97, 116, 105, 111, 110, 58, 112, 111, 114, 116, 114, 97, 105, 116] : List UInt8)⟩⟩, .string ⟨⟨([111, 114, 105, 101, 110, 116, 97, 116, 105, 111, 110, 58, 108, 97, 110, 100, 115, 99, 97, 112, 101] : List UInt8)⟩⟩]), (6, .int .i64 0)] (by kernel_rfl) ?_
  refine Ok.nil ?_
  refine Ok.thenN ?_
  refine Ok.block ?_
  obtain ⟨k, hF⟩ := hF
  refine Ok.loop (fun k a W => ∃ (x6l7 : Int), StA 19 [(0, .string ⟨⟨xword⟩⟩), (5, .agg #[.string ⟨⟨([] : List UInt8)⟩⟩, .string ⟨⟨([97, 108, 108] : List UInt8)⟩⟩, .string ⟨⟨([115, 99, 114, 101, 101, 110] : List UInt8)⟩⟩, .string ⟨⟨([112, 114, 105, 110, 116] : List UInt8)⟩⟩, .string ⟨⟨([109, 105, 110, 45, 119, 105, 100, 116, 104] : List UInt8)⟩⟩, .string ⟨⟨([109, 97, 120, 45, 119, 105, 100, 116, 104] : List UInt8)⟩⟩, .string ⟨⟨([109, 105, 110, 45, 104, 101, 105, 103, 104, 116] : List UInt8)⟩⟩, .string ⟨⟨([109, 97, 120, 45, 104, 101, 105, 103, 104, 116] : List UInt8)⟩⟩, .string ⟨⟨([112, 114, 101, 102, 101, 114, 115, 45, 99, 111, 108, 111, 114, 45, 115, 99, 104, 101, 109, 101, 58, 100, 97, 114, 107] : List UInt8)⟩⟩, .string ⟨⟨([112, 114, 101, 102, 101, 114, 115, 45, 99, 111, 108, 111, 114, 45, 115, 99, 104, 101, 109, 101, 58, 108, 105, 103, 104, 116] : List UInt8)⟩⟩, .string ⟨⟨([111, 114, 105, 101, 110, 116, 97, 116, 105, 111, 110, 58, 112, 111, 114, 116, 114, 97, 105, 116] : List UInt8)⟩⟩, .string ⟨⟨([111, 114, 105, 101, 110, 116, 97, 116, 105, 111, 110, 58, 108, 97, 110, 100, 115, 99, 97, 112, 101] : List UInt8)⟩⟩]), (6, .int .i64 x6l7)] a ∧ StW w0 [] g W ∧ mkdl7 xword K k x6l7) k ?_ ?_
  ·
    exact fun a W hA hW => ⟨0, hA.sub (by kernel_rfl), hW, hF⟩
  ·
    clear hF
    rintro k7 a W ⟨x6l7, hA, hW, hF⟩
    cases k7 with
    | zero => exact (hF : False).elim
    | succ k7 =>
      refine (?_ : Ok _ _ _ _ _ _) a W hA hW
      clear hA hW
      refine Ok.seq ?_
      refine Ok.region ?_
      refine Ok.batch 1 [(0, .string ⟨⟨xword⟩⟩), (5, .agg #[.string ⟨⟨([] : List UInt8)⟩⟩, .string ⟨⟨([97, 108, 108] : List UInt8)⟩⟩, .string ⟨⟨([115, 99, 114, 101, 101, 110] : List UInt8)⟩⟩, .string ⟨⟨([112, 114, 105, 110, 116] : List UInt8)⟩⟩, .string ⟨⟨([109, 105, 110, 45, 119, 105, 100, 116, 104] : List UInt8)⟩⟩, .string ⟨⟨([109, 97, 120, 45, 119, 105, 100, 116, 104] : List UInt8)⟩⟩, .string ⟨⟨([109, 105, 110, 45, 104, 101, 105, 103, 104, 116] : List UInt8)⟩⟩, .string ⟨⟨([109, 97, 120, 45, 104, 101, 105, 103, 104, 116] : List UInt8)⟩⟩, .string ⟨⟨([112, 114, 101, 102, 101, 114, 115, 45, 99, 111, 108, 111, 114, 45, 115, 99, 104, 101, 109, 101, 58, 100, 97, 114, 107] : List UInt8)⟩⟩, .string ⟨⟨([112, 114, 101, 102, 101, 114, 115, 45, 99, 111, 108, 111, 114, 45, 115, 99, 104, 101, 109, 101, 58, 108, 105, 103, 104, 116] : List UInt8)⟩⟩, .string ⟨⟨([111, 114, 105, 101, 110, 116, 97, 116, 105, 111, 110, 58, 112, 111, 114, 116, 114, 97, 105, 116] : List UInt8)⟩⟩, .string ⟨⟨([111, 114, 105, 101, 110, 116, 97, 116, 105, 111, 110, 58, 108, 97, 110, 100, 115, 99, 97, 112, 101] : List UInt8)⟩⟩]), (6, .int .i64 x6l7), (7, .bool (decide (x6l7 < 12)))] (by kernel_rfl) ?_
      refine Ok.nil ?_
      refine Ok.thenN ?_
      refine Ok.seq ?_
      refine Ok.cond (b := decide (x6l7 < 12)) rfl (fun hc2 => ?_) (fun hc2 => ?_)
      · replace hF := hF.1 hc2
        refine Ok.skip ?_
        refine Ok.thenN ?_
        refine Ok.seq ?_
        refine Ok.block ?_
        refine Ok.seq ?_
        refine Ok.region ?_
        refine Ok.batch 1 [(0, .string ⟨⟨xword⟩⟩), (5, .agg #[.string ⟨⟨([] : List UInt8)⟩⟩, .string ⟨⟨([97, 108, 108] : List UInt8)⟩⟩, .string ⟨⟨([115, 99, 114, 101, 101, 110] : List UInt8)⟩⟩, .string ⟨⟨([112, 114, 105, 110, 116] : List UInt8)⟩⟩, .string ⟨⟨([109, 105, 110, 45, 119, 105, 100, 116, 104] : List UInt8)⟩⟩, .string ⟨⟨([109, 97, 120, 45, 119, 105, 100, 116, 104] : List UInt8)⟩⟩, .string ⟨⟨([109, 105, 110, 45, 104, 101, 105, 103, 104, 116] : List UInt8)⟩⟩, .string ⟨⟨([109, 97, 120, 45, 104, 101, 105, 103, 104, 116] : List UInt8)⟩⟩, .string ⟨⟨([112, 114, 101, 102, 101, 114, 115, 45, 99, 111, 108, 111, 114, 45, 115, 99, 104, 101, 109, 101, 58, 100, 97, 114, 107] : List UInt8)⟩⟩, .string ⟨⟨([112, 114, 101, 102, 101, 114, 115, 45, 99, 111, 108, 111, 114, 45, 115, 99, 104, 101, 109, 101, 58, 108, 105, 103, 104, 116] : List UInt8)⟩⟩, .string ⟨⟨([111, 114, 105, 101, 110, 116, 97, 116, 105, 111, 110, 58, 112, 111, 114, 116, 114, 97, 105, 116] : List UInt8)⟩⟩, .string ⟨⟨([111, 114, 105, 101, 110, 116, 97, 116, 105, 111, 110, 58, 108, 97, 110, 100, 115, 99, 97, 112, 101] : List UInt8)⟩⟩]), (6, .int .i64 x6l7), (8, .int .i64 x6l7)] (by kernel_rfl) ?_
        obtain ⟨h03, h13, hF⟩ := hF
        have he3 := get_of (l := mkdT0) (default : List UInt8) h13
        generalize hg3 : (mkdT0.getD (Int.toNat x6l7) default) = e3 at he3 hF ⊢
        have he4' : (#[.string ⟨⟨([] : List UInt8)⟩⟩, .string ⟨⟨([97, 108, 108] : List UInt8)⟩⟩, .string ⟨⟨([115, 99, 114, 101, 101, 110] : List UInt8)⟩⟩, .string ⟨⟨([112, 114, 105, 110, 116] : List UInt8)⟩⟩, .string ⟨⟨([109, 105, 110, 45, 119, 105, 100, 116, 104] : List UInt8)⟩⟩, .string ⟨⟨([109, 97, 120, 45, 119, 105, 100, 116, 104] : List UInt8)⟩⟩, .string ⟨⟨([109, 105, 110, 45, 104, 101, 105, 103, 104, 116] : List UInt8)⟩⟩, .string ⟨⟨([109, 97, 120, 45, 104, 101, 105, 103, 104, 116] : List UInt8)⟩⟩, .string ⟨⟨([112, 114, 101, 102, 101, 114, 115, 45, 99, 111, 108, 111, 114, 45, 115, 99, 104, 101, 109, 101, 58, 100, 97, 114, 107] : List UInt8)⟩⟩, .string ⟨⟨([112, 114, 101, 102, 101, 114, 115, 45, 99, 111, 108, 111, 114, 45, 115, 99, 104, 101, 109, 101, 58, 108, 105, 103, 104, 116] : List UInt8)⟩⟩, .string ⟨⟨([111, 114, 105, 101, 110, 116, 97, 116, 105, 111, 110, 58, 112, 111, 114, 116, 114, 97, 105, 116] : List UInt8)⟩⟩, .string ⟨⟨([111, 114, 105, 101, 110, 116, 97, 116, 105, 111, 110, 58, 108, 97, 110, 100, 115, 99, 97, 112, 101] : List UInt8)⟩⟩] : Array Value)[Int.toNat x6l7]? = some (.string ⟨⟨e3⟩⟩) := by have := congrArg (Option.map ((fun s : List UInt8 => Value.string ⟨⟨s⟩⟩))) he3; rw [← List.getElem?_map] at this; exact (List.getElem?_toArray ..).trans this
        have hl4 : x6l7 < (12 : Int) := by have := (List.getElem?_eq_some_iff.1 he3).1; have : mkdT0.length = 12 := rfl; omega
        refine Ok.op rfl (OpOk.step (v := .string ⟨⟨e3⟩⟩) (Yields.indexAgg (i := x6l7) rfl rfl Tryz.underlying76 Tryz.underlying9 rfl (by kernel_rfl) h03 hl4 he4') rfl rfl ?_)
        refine Ok.batch 2 [(0, .string ⟨⟨xword⟩⟩), (3, .int .i64 x6l7), (4, .string ⟨⟨e3⟩⟩), (5, .agg #[.string ⟨⟨([] : List UInt8)⟩⟩, .string ⟨⟨([97, 108, 108] : List UInt8)⟩⟩, .string ⟨⟨([115, 99, 114, 101, 101, 110] : List UInt8)⟩⟩, .string ⟨⟨([112, 114, 105, 110, 116] : List UInt8)⟩⟩, .string ⟨⟨([109, 105, 110, 45, 119, 105, 100, 116, 104] : List UInt8)⟩⟩, .string ⟨⟨([109, 97, 120, 45, 119, 105, 100, 116, 104] : List UInt8)⟩⟩, .string ⟨⟨([109, 105, 110, 45, 104, 101, 105, 103, 104, 116] : List UInt8)⟩⟩, .string ⟨⟨([109, 97, 120, 45, 104, 101, 105, 103, 104, 116] : List UInt8)⟩⟩, .string ⟨⟨([112, 114, 101, 102, 101, 114, 115, 45, 99, 111, 108, 111, 114, 45, 115, 99, 104, 101, 109, 101, 58, 100, 97, 114, 107] : List UInt8)⟩⟩, .string ⟨⟨([112, 114, 101, 102, 101, 114, 115, 45, 99, 111, 108, 111, 114, 45, 115, 99, 104, 101, 109, 101, 58, 108, 105, 103, 104, 116] : List UInt8)⟩⟩, .string ⟨⟨([111, 114, 105, 101, 110, 116, 97, 116, 105, 111, 110, 58, 112, 111, 114, 116, 114, 97, 105, 116] : List UInt8)⟩⟩, .string ⟨⟨([111, 114, 105, 101, 110, 116, 97, 116, 105, 111, 110, 58, 108, 97, 110, 100, 115, 99, 97, 112, 101] : List UInt8)⟩⟩]), (6, .int .i64 x6l7)] (by kernel_rfl) ?_
        refine Ok.nil ?_
        refine Ok.thenN ?_
        refine Ok.cut (fun a W => StA 19 [(0, .string ⟨⟨xword⟩⟩), (3, .int .i64 x6l7), (5, .agg #[.string ⟨⟨([] : List UInt8)⟩⟩, .string ⟨⟨([97, 108, 108] : List UInt8)⟩⟩, .string ⟨⟨([115, 99, 114, 101, 101, 110] : List UInt8)⟩⟩, .string ⟨⟨([112, 114, 105, 110, 116] : List UInt8)⟩⟩, .string ⟨⟨([109, 105, 110, 45, 119, 105, 100, 116, 104] : List UInt8)⟩⟩, .string ⟨⟨([109, 97, 120, 45, 119, 105, 100, 116, 104] : List UInt8)⟩⟩, .string ⟨⟨([109, 105, 110, 45, 104, 101, 105, 103, 104, 116] : List UInt8)⟩⟩, .string ⟨⟨([109, 97, 120, 45, 104, 101, 105, 103, 104, 116] : List UInt8)⟩⟩, .string ⟨⟨([112, 114, 101, 102, 101, 114, 115, 45, 99, 111, 108, 111, 114, 45, 115, 99, 104, 101, 109, 101, 58, 100, 97, 114, 107] : List UInt8)⟩⟩, .string ⟨⟨([112, 114, 101, 102, 101, 114, 115, 45, 99, 111, 108, 111, 114, 45, 115, 99, 104, 101, 109, 101, 58, 108, 105, 103, 104, 116] : List UInt8)⟩⟩, .string ⟨⟨([111, 114, 105, 101, 110, 116, 97, 116, 105, 111, 110, 58, 112, 111, 114, 116, 114, 97, 105, 116] : List UInt8)⟩⟩, .string ⟨⟨([111, 114, 105, 101, 110, 116, 97, 116, 105, 111, 110, 58, 108, 97, 110, 100, 115, 99, 97, 112, 101] : List UInt8)⟩⟩]), (6, .int .i64 x6l7), (16, .bool ((decide (x6l7 > 0)) && (e3 == xword)))] a ∧ StW w0 [] g W ∧ mkdj18 xword K x6l7 e3 (mkdl7 xword K k7)) ?_ ?_
        ·
          refine Ok.region ?_
          refine Ok.batch 3 [(0, .string ⟨⟨xword⟩⟩), (3, .int .i64 x6l7), (4, .string ⟨⟨e3⟩⟩), (5, .agg #[.string ⟨⟨([] : List UInt8)⟩⟩, .string ⟨⟨([97, 108, 108] : List UInt8)⟩⟩, .string ⟨⟨([115, 99, 114, 101, 101, 110] : List UInt8)⟩⟩, .string ⟨⟨([112, 114, 105, 110, 116] : List UInt8)⟩⟩, .string ⟨⟨([109, 105, 110, 45, 119, 105, 100, 116, 104] : List UInt8)⟩⟩, .string ⟨⟨([109, 97, 120, 45, 119, 105, 100, 116, 104] : List UInt8)⟩⟩, .string ⟨⟨([109, 105, 110, 45, 104, 101, 105, 103, 104, 116] : List UInt8)⟩⟩, .string ⟨⟨([109, 97, 120, 45, 104, 101, 105, 103, 104, 116] : List UInt8)⟩⟩, .string ⟨⟨([112, 114, 101, 102, 101, 114, 115, 45, 99, 111, 108, 111, 114, 45, 115, 99, 104, 101, 109, 101, 58, 100, 97, 114, 107] : List UInt8)⟩⟩, .string ⟨⟨([112, 114, 101, 102, 101, 114, 115, 45, 99, 111, 108, 111, 114, 45, 115, 99, 104, 101, 109, 101, 58, 108, 105, 103, 104, 116] : List UInt8)⟩⟩, .string ⟨⟨([111, 114, 105, 101, 110, 116, 97, 116, 105, 111, 110, 58, 112, 111, 114, 116, 114, 97, 105, 116] : List UInt8)⟩⟩, .string ⟨⟨([111, 114, 105, 101, 110, 116, 97, 116, 105, 111, 110, 58, 108, 97, 110, 100, 115, 99, 97, 112, 101] : List UInt8)⟩⟩]), (6, .int .i64 x6l7), (12, .bool (decide (x6l7 > 0)))] (by kernel_rfl) ?_
          refine Ok.boolAt 12 (decide (x6l7 > 0)) rfl (fun hc6 => ?_) (fun hc6 => ?_)
          · replace hF := hF.1 hc6
            refine Ok.batch 2 [(0, .string ⟨⟨xword⟩⟩), (3, .int .i64 x6l7), (5, .agg #[.string ⟨⟨([] : List UInt8)⟩⟩, .string ⟨⟨([97, 108, 108] : List UInt8)⟩⟩, .string ⟨⟨([115, 99, 114, 101, 101, 110] : List UInt8)⟩⟩, .string ⟨⟨([112, 114, 105, 110, 116] : List UInt8)⟩⟩, .string ⟨⟨([109, 105, 110, 45, 119, 105, 100, 116, 104] : List UInt8)⟩⟩, .string ⟨⟨([109, 97, 120, 45, 119, 105, 100, 116, 104] : List UInt8)⟩⟩, .string ⟨⟨([109, 105, 110, 45, 104, 101, 105, 103, 104, 116] : List UInt8)⟩⟩, .string ⟨⟨([109, 97, 120, 45, 104, 101, 105, 103, 104, 116] : List UInt8)⟩⟩, .string ⟨⟨([112, 114, 101, 102, 101, 114, 115, 45, 99, 111, 108, 111, 114, 45, 115, 99, 104, 101, 109, 101, 58, 100, 97, 114, 107] : List UInt8)⟩⟩, .string ⟨⟨([112, 114, 101, 102, 101, 114, 115, 45, 99, 111, 108, 111, 114, 45, 115, 99, 104, 101, 109, 101, 58, 108, 105, 103, 104, 116] : List UInt8)⟩⟩, .string ⟨⟨([111, 114, 105, 101, 110, 116, 97, 116, 105, 111, 110, 58, 112, 111, 114, 116, 114, 97, 105, 116] : List UInt8)⟩⟩, .string ⟨⟨([111, 114, 105, 101, 110, 116, 97, 116, 105, 111, 110, 58, 108, 97, 110, 100, 115, 99, 97, 112, 101] : List UInt8)⟩⟩]), (6, .int .i64 x6l7), (12, .bool true), (13, .string ⟨⟨e3⟩⟩), (14, .string ⟨⟨xword⟩⟩)] (by kernel_rfl) ?_
            refine Ok.opYes (j := 2) (d := 12) (want := true) (b := true) rfl (by kernel_rfl) (by kernel_rfl) rfl (OpOk.step (v := .bool (e3 == xword)) (Yields.strCmp (f := .eql) (a := e3) (b := xword) (by kernel_rfl) (by kernel_rfl) rfl) rfl rfl ?_)
            refine Ok.batch 1 [(0, .string ⟨⟨xword⟩⟩), (3, .int .i64 x6l7), (5, .agg #[.string ⟨⟨([] : List UInt8)⟩⟩, .string ⟨⟨([97, 108, 108] : List UInt8)⟩⟩, .string ⟨⟨([115, 99, 114, 101, 101, 110] : List UInt8)⟩⟩, .string ⟨⟨([112, 114, 105, 110, 116] : List UInt8)⟩⟩, .string ⟨⟨([109, 105, 110, 45, 119, 105, 100, 116, 104] : List UInt8)⟩⟩, .string ⟨⟨([109, 97, 120, 45, 119, 105, 100, 116, 104] : List UInt8)⟩⟩, .string ⟨⟨([109, 105, 110, 45, 104, 101, 105, 103, 104, 116] : List UInt8)⟩⟩, .string ⟨⟨([109, 97, 120, 45, 104, 101, 105, 103, 104, 116] : List UInt8)⟩⟩, .string ⟨⟨([112, 114, 101, 102, 101, 114, 115, 45, 99, 111, 108, 111, 114, 45, 115, 99, 104, 101, 109, 101, 58, 100, 97, 114, 107] : List UInt8)⟩⟩, .string ⟨⟨([112, 114, 101, 102, 101, 114, 115, 45, 99, 111, 108, 111, 114, 45, 115, 99, 104, 101, 109, 101, 58, 108, 105, 103, 104, 116] : List UInt8)⟩⟩, .string ⟨⟨([111, 114, 105, 101, 110, 116, 97, 116, 105, 111, 110, 58, 112, 111, 114, 116, 114, 97, 105, 116] : List UInt8)⟩⟩, .string ⟨⟨([111, 114, 105, 101, 110, 116, 97, 116, 105, 111, 110, 58, 108, 97, 110, 100, 115, 99, 97, 112, 101] : List UInt8)⟩⟩]), (6, .int .i64 x6l7), (16, .bool (e3 == xword))] (by kernel_rfl) ?_
            refine Ok.nil ?_
            refine Ok.thenN ?_
            refine Ok.reval 16 rfl (show (.bool (e3 == xword) : Value) = .bool ((decide (x6l7 > 0)) && (e3 == xword)) from congrArg (Value.bool) (mand_t hc6)) ?_
            exact fun a W hA hW => ⟨hA.sub (by kernel_rfl), hW, hF⟩
          · replace hF := hF.2 hc6
            refine Ok.batch 4 [(0, .string ⟨⟨xword⟩⟩), (3, .int .i64 x6l7), (5, .agg #[.string ⟨⟨([] : List UInt8)⟩⟩, .string ⟨⟨([97, 108, 108] : List UInt8)⟩⟩, .string ⟨⟨([115, 99, 114, 101, 101, 110] : List UInt8)⟩⟩, .string ⟨⟨([112, 114, 105, 110, 116] : List UInt8)⟩⟩, .string ⟨⟨([109, 105, 110, 45, 119, 105, 100, 116, 104] : List UInt8)⟩⟩, .string ⟨⟨([109, 97, 120, 45, 119, 105, 100, 116, 104] : List UInt8)⟩⟩, .string ⟨⟨([109, 105, 110, 45, 104, 101, 105, 103, 104, 116] : List UInt8)⟩⟩, .string ⟨⟨([109, 97, 120, 45, 104, 101, 105, 103, 104, 116] : List UInt8)⟩⟩, .string ⟨⟨([112, 114, 101, 102, 101, 114, 115, 45, 99, 111, 108, 111, 114, 45, 115, 99, 104, 101, 109, 101, 58, 100, 97, 114, 107] : List UInt8)⟩⟩, .string ⟨⟨([112, 114, 101, 102, 101, 114, 115, 45, 99, 111, 108, 111, 114, 45, 115, 99, 104, 101, 109, 101, 58, 108, 105, 103, 104, 116] : List UInt8)⟩⟩, .string ⟨⟨([111, 114, 105, 101, 110, 116, 97, 116, 105, 111, 110, 58, 112, 111, 114, 116, 114, 97, 105, 116] : List UInt8)⟩⟩, .string ⟨⟨([111, 114, 105, 101, 110, 116, 97, 116, 105, 111, 110, 58, 108, 97, 110, 100, 115, 99, 97, 112, 101] : List UInt8)⟩⟩]), (6, .int .i64 x6l7), (16, .bool false)] (by kernel_rfl) ?_
            refine Ok.nil ?_
            refine Ok.thenN ?_
            refine Ok.reval 16 rfl (show (.bool false : Value) = .bool ((decide (x6l7 > 0)) && (e3 == xword)) from congrArg (Value.bool) (mand_f hc6)) ?_
            exact fun a W hA hW => ⟨hA.sub (by kernel_rfl), hW, hF⟩
        ·
          clear hF
          rintro a W ⟨hA, hW, hF⟩
          refine (?_ : Ok _ _ _ _ _ _) a W hA hW
          clear hA hW
          refine Ok.cond (b := ((decide (x6l7 > 0)) && (e3 == xword))) rfl (fun hc5 => ?_) (fun hc5 => ?_)
          · replace hF := hF.1 hc5
            refine Ok.seq ?_
            refine Ok.region ?_
            refine Ok.batch 2 [(2, .int .i64 x6l7)] (by kernel_rfl) ?_
            refine Ok.nil ?_
            refine Ok.thenN ?_
            refine Ok.ret ?_
            refine Ok.blockR ?_
            refine Ok.thenR ?_
            refine Ok.thenR ?_
            refine Ok.blockR ?_
            refine Ok.thenR ?_
            exact Ok.resH (vs := [.int .i64 x6l7]) (.inl rfl) rfl (.cons (.tmp rfl) .nil) (Gext.refl w0 g) ⟨x6l7, rfl, rfl, hF⟩
          · replace hF := hF.2 hc5
            refine Ok.skip ?_
            refine Ok.blockN ?_
            refine Ok.thenN ?_
            refine Ok.region ?_
            refine Ok.batch 2 [(0, .string ⟨⟨xword⟩⟩), (5, .agg #[.string ⟨⟨([] : List UInt8)⟩⟩, .string ⟨⟨([97, 108, 108] : List UInt8)⟩⟩, .string ⟨⟨([115, 99, 114, 101, 101, 110] : List UInt8)⟩⟩, .string ⟨⟨([112, 114, 105, 110, 116] : List UInt8)⟩⟩, .string ⟨⟨([109, 105, 110, 45, 119, 105, 100, 116, 104] : List UInt8)⟩⟩, .string ⟨⟨([109, 97, 120, 45, 119, 105, 100, 116, 104] : List UInt8)⟩⟩, .string ⟨⟨([109, 105, 110, 45, 104, 101, 105, 103, 104, 116] : List UInt8)⟩⟩, .string ⟨⟨([109, 97, 120, 45, 104, 101, 105, 103, 104, 116] : List UInt8)⟩⟩, .string ⟨⟨([112, 114, 101, 102, 101, 114, 115, 45, 99, 111, 108, 111, 114, 45, 115, 99, 104, 101, 109, 101, 58, 100, 97, 114, 107] : List UInt8)⟩⟩, .string ⟨⟨([112, 114, 101, 102, 101, 114, 115, 45, 99, 111, 108, 111, 114, 45, 115, 99, 104, 101, 109, 101, 58, 108, 105, 103, 104, 116] : List UInt8)⟩⟩, .string ⟨⟨([111, 114, 105, 101, 110, 116, 97, 116, 105, 111, 110, 58, 112, 111, 114, 116, 114, 97, 105, 116] : List UInt8)⟩⟩, .string ⟨⟨([111, 114, 105, 101, 110, 116, 97, 116, 105, 111, 110, 58, 108, 97, 110, 100, 115, 99, 97, 112, 101] : List UInt8)⟩⟩]), (6, .int .i64 (IntKind.wrap .i64 (x6l7 + 1)))] (by kernel_rfl) ?_
            refine Ok.nil ?_
            refine Ok.thenN ?_
            subst hg3
            exact fun a W hA hW => ⟨k7, Nat.lt_succ_self _, IntKind.wrap .i64 (x6l7 + 1), hA.sub (by kernel_rfl), hW, hF⟩
      · replace hF := hF.2 hc2
        refine Ok.exit ?_
        refine Ok.thenE ?_
        refine Ok.thenE ?_
        refine Ok.blockHit ?_
        refine Ok.thenN ?_
        refine Ok.seq ?_
        refine Ok.region ?_
        refine Ok.batch 1 [(2, .int .i64 12)] (by kernel_rfl) ?_
        refine Ok.nil ?_
        refine Ok.thenN ?_
        refine Ok.ret ?_
        exact Ok.resH (vs := [.int .i64 12]) (.inl rfl) rfl (.cons (.tmp rfl) .nil) (Gext.refl w0 g) ⟨12, rfl, rfl, hF⟩
def kindN : Int → List (List UInt8) → List UInt8 → Int
  | _, [], _ => 12
  | i, x :: r, w => if (decide (i > 0) && (x == w)) = true then i else kindN (i + 1) r w
def kindS (w : List UInt8) : Int := kindN 0 DWords w
theorem mkd_F (w : List UInt8) : mkdF w (fun r => r = kindS w) := by
  have loop : ∀ (k i : Nat), i + k = 12 → kindS w = kindN i (DWords.drop i) w → mkdl7 w (fun r => r = kindS w) (k + 1) (i : Int) := by
    intro k
    induction k with
    | zero =>
      intro i h he
      obtain rfl : i = 12 := by omega
      exact ⟨(fun h => by cases h), fun _ => he.symm⟩
    | succ k ih =>
      intro i h he
      have hi : i < DWords.length := by show i < 12; omega
      rw [drop_get default hi, kindN] at he
      have key : mkdj18 w (fun r => r = kindS w) (i : Int) (mkdT0.getD (Int.toNat (i : Int)) default) (mkdl7 w (fun r => r = kindS w) (k + 1)) := by
        rw [Int.toNat_natCast]
        refine ⟨fun hc => ?_, fun hc => ?_⟩
        · exact (he.trans (if_t hc)).symm
        · rw [w64 (by omega)]
          exact ih (i + 1) (by omega) (he.trans (if_f hc))
      refine ⟨fun _ => ⟨by omega, by rw [Int.toNat_natCast]; exact hi, fun _ => key, fun _ => key⟩, fun hc => ?_⟩
      have := of_decide_eq_false hc
      omega
  exact ⟨13, loop 12 0 rfl rfl⟩
set_option linter.unusedVariables false in
theorem mkd_c {g : Ghost} (xword : List UInt8) (hG0 : GlobL g 0 (.str) DWords)  : CallsG Tryz.prog 24 #[.string ⟨⟨xword⟩⟩] g (.int .i64 (kindS xword)) :=
  (mkd_ok xword hG0 _ (mkd_F xword)).gives (by rintro g' H' v _ ⟨r0, rfl, rfl, hK⟩; subst hK; rfl)
/-! lower letters -/
def mlwV2 (x10l9 : Int) (yownb1_0l9 : List (Int)) : List (Int) :=
  (if ((decide ((yownb1_0l9.getD (Int.toNat x10l9) default) ≥ 65)) && (decide ((yownb1_0l9.getD (Int.toNat x10l9) default) ≤ 90))) = true then (yownb1_0l9.set (Int.toNat x10l9) (IntKind.wrap .u8 ((yownb1_0l9.getD (Int.toNat x10l9) default) + 32))) else yownb1_0l9)
def mlwj16 (x10l9 : Int) (yownb1_0l9 : List (Int)) (C9 : Int → (List (Int)) → Prop) : Prop :=
  C9 (IntKind.wrap .i64 (x10l9 + 1)) (mlwV2 x10l9 yownb1_0l9)
def mlwl9b (xs : List UInt8) (K : (List UInt8) → Prop) (x10l9 : Int) (yownb1_0l9 : List (Int)) (C9 : Int → (List (Int)) → Prop) : Prop :=
  ((decide (x10l9 < ((intsOf xs).length : Int))) = true → (0 : Int) ≤ x10l9 ∧ Int.toNat x10l9 < yownb1_0l9.length ∧ ((((decide ((yownb1_0l9.getD (Int.toNat x10l9) default) ≥ 65)) && (decide ((yownb1_0l9.getD (Int.toNat x10l9) default) ≤ 90)))) = true → mlwj16 x10l9 yownb1_0l9 C9) ∧ ((((decide ((yownb1_0l9.getD (Int.toNat x10l9) default) ≥ 65)) && (decide ((yownb1_0l9.getD (Int.toNat x10l9) default) ≤ 90)))) = false → mlwj16 x10l9 yownb1_0l9 C9)) ∧ ((decide (x10l9 < ((intsOf xs).length : Int))) = false → K (bytesOf yownb1_0l9))
def mlwl9 (xs : List UInt8) (K : (List UInt8) → Prop) : Nat → Int → (List (Int)) → Prop
  | 0, _, _ => False
  | k + 1, x10l9, yownb1_0l9 => mlwl9b xs K x10l9 yownb1_0l9 (mlwl9 xs K k)
def mlwF (xs : List UInt8) (K : (List UInt8) → Prop) : Prop :=
  ∃ k, mlwl9 xs K k 0 (intsOf xs)
set_option maxHeartbeats 4000000 in
set_option maxRecDepth 100000 in
set_option linter.unusedVariables false in
theorem mlw_ok {g : Ghost} (xs : List UInt8) (K : (List UInt8) → Prop)
    (hF : mlwF xs K) : CallsH Tryz.prog 38 #[.string ⟨⟨xs⟩⟩] g [] (fun g' H' v => ∃ (r0 : List UInt8), v = .string ⟨⟨r0⟩⟩ ∧ H' = [] ∧ K r0) := by
  refine CallsH.enter 29 [(0, .string ⟨⟨xs⟩⟩)] Tryz.func38 rfl (by kernel_rfl) (by kernel_rfl) (by kernel_rfl) fun w0 => ?_
  refine Ok.seq ?_
  refine Ok.region ?_
  refine Ok.batch 1 [(0, .string ⟨⟨xs⟩⟩)] (by kernel_rfl) ?_
  refine Ok.nil ?_
  refine Ok.thenN ?_
  refine Ok.seq ?_
  refine Ok.region ?_
  refine Ok.batch 1 [(6, .string ⟨⟨xs⟩⟩)] (by kernel_rfl) ?_
  refine Ok.op rfl (OpOk.bytesB (s := xs) (by kernel_rfl) Tryz.underlying9 Tryz.underlying61 Tryz.underlying5 rfl fun a1 c1 xs1 hL1 => ?_)
  refine Ok.batch 1 [(3, .slice a1 (intsOf xs).length c1)] (by kernel_rfl) ?_
  refine Ok.nil ?_
  refine Ok.thenN ?_
  refine Ok.seq ?_
  refine Ok.seq ?_
  refine Ok.region ?_
  refine Ok.batch 3 [(3, .slice a1 (intsOf xs).length c1), (8, .slice a1 (intsOf xs).length c1), (9, .int .i64 ((intsOf xs).length : Int)), (10, .int .i64 0)] (by kernel_rfl) ?_
  refine Ok.nil ?_
  refine Ok.thenN ?_
  refine Ok.block ?_
  obtain ⟨k, hF⟩ := hF
  refine Ok.loop (fun k a W => ∃ gl9 : Ghost, Gext w0 g gl9 ∧ ∃ (x10l9 : Int) (ayownb1_0l9 : Option Addr) (cyownb1_0l9 : Nat) (yownb1_0l9 : List (Int)) (xsyownb1_0l9 : List Value), RepL gl9 (.int .u8) xsyownb1_0l9 yownb1_0l9 ∧ StA 29 [(3, .slice ayownb1_0l9 yownb1_0l9.length cyownb1_0l9), (8, .slice ayownb1_0l9 yownb1_0l9.length cyownb1_0l9), (9, .int .i64 ((intsOf xs).length : Int)), (10, .int .i64 x10l9)] a ∧ StW w0 [.ownb (.slice ayownb1_0l9 yownb1_0l9.length cyownb1_0l9) 5 yownb1_0l9.length xsyownb1_0l9] gl9 W ∧ mlwl9 xs K k x10l9 yownb1_0l9) k ?_ ?_
  ·
    exact fun a W hA hW => ⟨g, (Gext.refl w0 g), 0, a1, c1, (intsOf xs), xs1, hL1, hA.sub (by kernel_rfl), hW, hF⟩
  ·
    clear hF
    rintro k9 a W ⟨gl9, hxl9, x10l9, ayownb1_0l9, cyownb1_0l9, yownb1_0l9, xsyownb1_0l9, hLyownb1_0l9, hA, hW, hF⟩
    cases k9 with
    | zero => exact (hF : False).elim
    | succ k9 =>
      refine (?_ : Ok _ _ _ _ _ _) a W hA hW
      clear hA hW
      refine Ok.seq ?_
      refine Ok.region ?_
      refine Ok.batch 1 [(3, .slice ayownb1_0l9 yownb1_0l9.length cyownb1_0l9), (8, .slice ayownb1_0l9 yownb1_0l9.length cyownb1_0l9), (9, .int .i64 ((intsOf xs).length : Int)), (10, .int .i64 x10l9), (11, .bool (decide (x10l9 < ((intsOf xs).length : Int))))] (by kernel_rfl) ?_
      refine Ok.nil ?_
      refine Ok.thenN ?_
      refine Ok.seq ?_
      refine Ok.cond (b := decide (x10l9 < ((intsOf xs).length : Int))) rfl (fun hc2 => ?_) (fun hc2 => ?_)
      · replace hF := hF.1 hc2
        refine Ok.skip ?_
        refine Ok.thenN ?_
        refine Ok.cut (fun a W => ∃ gj16 : Ghost, Gext w0 gl9 gj16 ∧ ∃ (ayownb1_0j16 : Option Addr) (cyownb1_0j16 : Nat) (xsyownb1_0j16 : List Value), RepL gj16 (.int .u8) xsyownb1_0j16 (mlwV2 x10l9 yownb1_0l9) ∧ StA 29 [(3, .slice ayownb1_0j16 (mlwV2 x10l9 yownb1_0l9).length cyownb1_0j16), (8, .slice ayownb1_0j16 (mlwV2 x10l9 yownb1_0l9).length cyownb1_0j16), (9, .int .i64 ((intsOf xs).length : Int)), (10, .int .i64 x10l9)] a ∧ StW w0 [.ownb (.slice ayownb1_0j16 (mlwV2 x10l9 yownb1_0l9).length cyownb1_0j16) 5 (mlwV2 x10l9 yownb1_0l9).length xsyownb1_0j16] gj16 W ∧ mlwj16 x10l9 yownb1_0l9 (mlwl9 xs K k9)) ?_ ?_
        ·
          refine Ok.block ?_
          refine Ok.seq ?_
          refine Ok.region ?_
          refine Ok.batch 1 [(3, .slice ayownb1_0l9 yownb1_0l9.length cyownb1_0l9), (8, .slice ayownb1_0l9 yownb1_0l9.length cyownb1_0l9), (9, .int .i64 ((intsOf xs).length : Int)), (10, .int .i64 x10l9), (12, .int .i64 x10l9)] (by kernel_rfl) ?_
          obtain ⟨h04, h14, hF⟩ := hF
          have he4 := get_of (l := yownb1_0l9) (default : Int) h14
          generalize hg4 : (yownb1_0l9.getD (Int.toNat x10l9) default) = e4 at he4 hF ⊢
          refine Ok.op rfl (OpOk.indexB (q := x10l9) (el := e4) 0 rfl hLyownb1_0l9 rfl rfl Tryz.underlying61 (by kernel_rfl) h04 he4 rfl fun hc3 => ?_)
          refine Ok.op rfl (OpOk.step (v := .int .u8 e4) (Yields.loadB 0 0 rfl hc3 rfl Tryz.underlying5 rfl (by kernel_rfl)) rfl rfl ?_)
          refine Ok.batch 2 [(3, .slice ayownb1_0l9 yownb1_0l9.length cyownb1_0l9), (4, .int .i64 x10l9), (5, .int .u8 e4), (8, .slice ayownb1_0l9 yownb1_0l9.length cyownb1_0l9), (9, .int .i64 ((intsOf xs).length : Int)), (10, .int .i64 x10l9)] (by kernel_rfl) ?_
          refine Ok.nil ?_
          refine Ok.thenN ?_
          refine Ok.seq ?_
          refine Ok.region ?_
          refine Ok.batch 3 [(3, .slice ayownb1_0l9 yownb1_0l9.length cyownb1_0l9), (4, .int .i64 x10l9), (5, .int .u8 e4), (8, .slice ayownb1_0l9 yownb1_0l9.length cyownb1_0l9), (9, .int .i64 ((intsOf xs).length : Int)), (10, .int .i64 x10l9), (17, .bool (decide (e4 ≥ 65)))] (by kernel_rfl) ?_
          refine Ok.midway 3 [(3, .slice ayownb1_0l9 yownb1_0l9.length cyownb1_0l9), (4, .int .i64 x10l9), (5, .int .u8 e4), (8, .slice ayownb1_0l9 yownb1_0l9.length cyownb1_0l9), (9, .int .i64 ((intsOf xs).length : Int)), (10, .int .i64 x10l9), (20, .bool ((decide (e4 ≥ 65)) && (decide (e4 ≤ 90))))] (fun hR5 => ?_) ?_
          · refine Ok.boolAt 17 (decide (e4 ≥ 65)) rfl (fun hc6 => ?_) (fun hc6 => ?_)
            · skip
              refine Ok.batch 3 [(3, .slice ayownb1_0l9 yownb1_0l9.length cyownb1_0l9), (4, .int .i64 x10l9), (5, .int .u8 e4), (8, .slice ayownb1_0l9 yownb1_0l9.length cyownb1_0l9), (9, .int .i64 ((intsOf xs).length : Int)), (10, .int .i64 x10l9), (20, .bool (decide (e4 ≤ 90)))] (by kernel_rfl) ?_
              refine Ok.reval 20 rfl (show (.bool (decide (e4 ≤ 90)) : Value) = .bool ((decide (e4 ≥ 65)) && (decide (e4 ≤ 90))) from congrArg Value.bool (mand_t hc6)) ?_
              refine Ok.batch 0 [(3, .slice ayownb1_0l9 yownb1_0l9.length cyownb1_0l9), (4, .int .i64 x10l9), (5, .int .u8 e4), (8, .slice ayownb1_0l9 yownb1_0l9.length cyownb1_0l9), (9, .int .i64 ((intsOf xs).length : Int)), (10, .int .i64 x10l9), (20, .bool ((decide (e4 ≥ 65)) && (decide (e4 ≤ 90))))] (by kernel_rfl) ?_
              exact hR5
            · skip
              refine Ok.batch 3 [(3, .slice ayownb1_0l9 yownb1_0l9.length cyownb1_0l9), (4, .int .i64 x10l9), (5, .int .u8 e4), (8, .slice ayownb1_0l9 yownb1_0l9.length cyownb1_0l9), (9, .int .i64 ((intsOf xs).length : Int)), (10, .int .i64 x10l9), (20, .bool false)] (by kernel_rfl) ?_
              refine Ok.reval 20 rfl (show (.bool false : Value) = .bool ((decide (e4 ≥ 65)) && (decide (e4 ≤ 90))) from congrArg Value.bool (mand_f hc6)) ?_
              refine Ok.batch 0 [(3, .slice ayownb1_0l9 yownb1_0l9.length cyownb1_0l9), (4, .int .i64 x10l9), (5, .int .u8 e4), (8, .slice ayownb1_0l9 yownb1_0l9.length cyownb1_0l9), (9, .int .i64 ((intsOf xs).length : Int)), (10, .int .i64 x10l9), (20, .bool ((decide (e4 ≥ 65)) && (decide (e4 ≤ 90))))] (by kernel_rfl) ?_
              exact hR5
          refine Ok.nil ?_
          refine Ok.thenN ?_
          refine Ok.cond (b := ((decide (e4 ≥ 65)) && (decide (e4 ≤ 90)))) rfl (fun hc7 => ?_) (fun hc7 => ?_)
          · replace hF := hF.1 hc7
            refine Ok.region ?_
            refine Ok.batch 4 [(3, .slice ayownb1_0l9 yownb1_0l9.length cyownb1_0l9), (8, .slice ayownb1_0l9 yownb1_0l9.length cyownb1_0l9), (9, .int .i64 ((intsOf xs).length : Int)), (10, .int .i64 x10l9), (21, .slice ayownb1_0l9 yownb1_0l9.length cyownb1_0l9), (22, .int .i64 x10l9), (24, .int .u8 (IntKind.wrap .u8 (e4 + 32)))] (by kernel_rfl) ?_
            refine Ok.op rfl (OpOk.indexB (q := x10l9) (el := e4) 0 rfl hLyownb1_0l9 rfl rfl Tryz.underlying61 (by kernel_rfl) h04 he4 rfl fun hc8 => ?_)
            refine Ok.op rfl (OpOk.storeB (q := Int.toNat x10l9) (el' := IntKind.wrap .u8 (e4 + 32)) 0 rfl hLyownb1_0l9 hc8 rfl rfl (by kernel_rfl) fun xs9 hL9 => ?_)
            rw [show yownb1_0l9.length = (yownb1_0l9.set (Int.toNat x10l9) (IntKind.wrap .u8 (e4 + 32))).length from (List.length_set ..).symm]
            refine Ok.nil ?_
            refine Ok.blockN ?_
            refine Ok.thenN ?_
            subst hg4
            refine Ok.reval 3 rfl (show (.slice ayownb1_0l9 (yownb1_0l9.set (Int.toNat x10l9) (IntKind.wrap .u8 ((yownb1_0l9.getD (Int.toNat x10l9) default) + 32))).length cyownb1_0l9 : Value) = .slice ayownb1_0l9 (mlwV2 x10l9 yownb1_0l9).length cyownb1_0l9 from congrArg (fun l : List (Int) => Value.slice ayownb1_0l9 l.length cyownb1_0l9) ((if_t hc7).symm)) ?_
            refine Ok.reval 8 rfl (show (.slice ayownb1_0l9 (yownb1_0l9.set (Int.toNat x10l9) (IntKind.wrap .u8 ((yownb1_0l9.getD (Int.toNat x10l9) default) + 32))).length cyownb1_0l9 : Value) = .slice ayownb1_0l9 (mlwV2 x10l9 yownb1_0l9).length cyownb1_0l9 from congrArg (fun l : List (Int) => Value.slice ayownb1_0l9 l.length cyownb1_0l9) ((if_t hc7).symm)) ?_
            refine Ok.heapEq (H' := [.ownb (.slice ayownb1_0l9 (mlwV2 x10l9 yownb1_0l9).length cyownb1_0l9) 5 (mlwV2 x10l9 yownb1_0l9).length xs9]) (econs (congrArg (fun l : List (Int) => Ent.ownb (.slice ayownb1_0l9 l.length cyownb1_0l9) 5  l.length xs9) ((if_t hc7).symm)) rfl) ?_
            exact fun a W hA hW => ⟨gl9, (Gext.refl w0 gl9), ayownb1_0l9, cyownb1_0l9, xs9, (Eq.mp (congrArg (fun l : List (Int) => RepL gl9 (.int .u8) xs9 l) ((if_t hc7).symm)) hL9), hA.sub (by kernel_rfl), hW, hF⟩
          · replace hF := hF.2 hc7
            refine Ok.skip ?_
            refine Ok.blockN ?_
            refine Ok.thenN ?_
            subst hg4
            refine Ok.reval 3 rfl (show (.slice ayownb1_0l9 yownb1_0l9.length cyownb1_0l9 : Value) = .slice ayownb1_0l9 (mlwV2 x10l9 yownb1_0l9).length cyownb1_0l9 from congrArg (fun l : List (Int) => Value.slice ayownb1_0l9 l.length cyownb1_0l9) ((if_f hc7).symm)) ?_
            refine Ok.reval 8 rfl (show (.slice ayownb1_0l9 yownb1_0l9.length cyownb1_0l9 : Value) = .slice ayownb1_0l9 (mlwV2 x10l9 yownb1_0l9).length cyownb1_0l9 from congrArg (fun l : List (Int) => Value.slice ayownb1_0l9 l.length cyownb1_0l9) ((if_f hc7).symm)) ?_
            refine Ok.heapEq (H' := [.ownb (.slice ayownb1_0l9 (mlwV2 x10l9 yownb1_0l9).length cyownb1_0l9) 5 (mlwV2 x10l9 yownb1_0l9).length xsyownb1_0l9]) (econs (congrArg (fun l : List (Int) => Ent.ownb (.slice ayownb1_0l9 l.length cyownb1_0l9) 5  l.length xsyownb1_0l9) ((if_f hc7).symm)) rfl) ?_
            exact fun a W hA hW => ⟨gl9, (Gext.refl w0 gl9), ayownb1_0l9, cyownb1_0l9, xsyownb1_0l9, (Eq.mp (congrArg (fun l : List (Int) => RepL gl9 (.int .u8) xsyownb1_0l9 l) ((if_f hc7).symm)) hLyownb1_0l9), hA.sub (by kernel_rfl), hW, hF⟩
        ·
          clear hF
          rintro a W ⟨gj16, hxj16, ayownb1_0j16, cyownb1_0j16, xsyownb1_0j16, hLyownb1_0j16, hA, hW, hF⟩
          refine (?_ : Ok _ _ _ _ _ _) a W hA hW
          clear hA hW
          refine Ok.region ?_
          refine Ok.batch 2 [(3, .slice ayownb1_0j16 (mlwV2 x10l9 yownb1_0l9).length cyownb1_0j16), (8, .slice ayownb1_0j16 (mlwV2 x10l9 yownb1_0l9).length cyownb1_0j16), (9, .int .i64 ((intsOf xs).length : Int)), (10, .int .i64 (IntKind.wrap .i64 (x10l9 + 1)))] (by kernel_rfl) ?_
          refine Ok.nil ?_
          refine Ok.thenN ?_
          exact fun a W hA hW => ⟨k9, Nat.lt_succ_self _, gj16, (hxl9.trans hxj16), IntKind.wrap .i64 (x10l9 + 1), ayownb1_0j16, cyownb1_0j16, (mlwV2 x10l9 yownb1_0l9), xsyownb1_0j16, hLyownb1_0j16, hA.sub (by kernel_rfl), hW, hF⟩
      · replace hF := hF.2 hc2
        refine Ok.exit ?_
        refine Ok.thenE ?_
        refine Ok.thenE ?_
        refine Ok.blockHit ?_
        refine Ok.thenN ?_
        refine Ok.seq ?_
        refine Ok.region ?_
        refine Ok.batch 1 [(27, .slice ayownb1_0l9 yownb1_0l9.length cyownb1_0l9)] (by kernel_rfl) ?_
        refine Ok.op rfl (OpOk.step (v := .string ⟨⟨(bytesOf yownb1_0l9)⟩⟩) (Yields.strOfB 0 (by kernel_rfl) rfl rfl hLyownb1_0l9 Tryz.underlying61 Tryz.underlying9 Tryz.underlying5) rfl rfl ?_)
        refine Ok.batch 1 [(2, .string ⟨⟨(bytesOf yownb1_0l9)⟩⟩)] (by kernel_rfl) ?_
        refine Ok.nil ?_
        refine Ok.thenN ?_
        refine Ok.ret ?_
        exact Ok.resP (vs := [.string ⟨⟨(bytesOf yownb1_0l9)⟩⟩]) [] [] (by decide) rfl (.inl rfl) rfl (.cons (.tmp rfl) .nil) hxl9 ⟨(bytesOf yownb1_0l9), rfl, rfl, hF⟩
theorem mlw_step {xs : List UInt8} {i : Nat} (h : i < xs.length) : mlwV2 (i : Int) (intsOf (lowAt xs i)) = intsOf (lowAt xs (i + 1)) := by
  have hl : (lowAt xs i).length = xs.length := by simp [lowAt]; omega
  have hg : (lowAt xs i).getD i 0 = xs.getD i 0 := by
    unfold lowAt
    rw [List.getD_eq_getElem?_getD, List.getElem?_append_right (by simp; omega), List.getD_eq_getElem?_getD, List.getElem?_drop]
    congr 2
    simp; omega
  have hs : (lowAt xs i).set i (lowB (xs.getD i 0)) = lowAt xs (i + 1) := by
    unfold lowAt
    rw [List.set_append_right _ _ (by simp; omega), take_get (0 : UInt8) h, drop_get (l := xs) (0 : UInt8) h, List.map_append, List.append_assoc]
    congr 1
    have e : i - ((xs.take i).map lowB).length = 0 := by simp; omega
    rw [e]; rfl
  have hn : (lowAt xs i).set i (xs.getD i 0) = lowAt xs i := by
    rw [← hg, List.getD_eq_getElem?_getD, List.getElem?_eq_getElem (by omega), Option.getD_some, List.set_getElem_self]
  unfold mlwV2
  rw [Int.toNat_natCast, ints_getD _ _ (by omega), hg, ← hs]
  have := low_eq (xs.getD i 0)
  split
  · rename_i hc
    rw [if_t hc] at this
    rw [this, ints_set]
  · rename_i hc
    rw [if_neg hc] at this
    have : lowB (xs.getD i 0) = xs.getD i 0 := UInt8.toNat_inj.1 (by omega)
    rw [this, hn]
theorem mlw_loop (xs : List UInt8) (hP : xs.length ≤ 140737488351232) (K : List UInt8 → Prop) (hK : K (lowerS xs)) : ∀ (k i : Nat), xs.length = i + k → mlwl9 xs K (k + 1) (i : Int) (intsOf (lowAt xs i)) := by
  intro k
  induction k with
  | zero =>
    intro i h
    refine ⟨fun hc => ?_, fun _ => ?_⟩
    · have := of_decide_eq_true hc; rw [intsOf_length] at this; omega
    · rw [bytesOf_intsOf, lowAt, List.take_of_length_le (by omega), List.drop_of_length_le (by omega), List.append_nil]
      exact hK
  | succ k ih =>
    intro i h
    refine ⟨fun _ => ?_, fun hc => ?_⟩
    · have hl : (lowAt xs i).length = xs.length := by simp [lowAt]; omega
      have key : mlwj16 (i : Int) (intsOf (lowAt xs i)) (mlwl9 xs K (k + 1)) := by
        unfold mlwj16
        rw [w64 (by omega), mlw_step (by omega)]
        exact ih (i + 1) (by omega)
      exact ⟨by omega, by rw [intsOf_length, hl]; omega, fun _ => key, fun _ => key⟩
    · have := of_decide_eq_false hc; rw [intsOf_length] at this; omega
theorem mlw_F (s : List UInt8) (hp : lowerP s) : mlwF s (fun r => r = lowerS s) :=
  ⟨s.length + 1, mlw_loop s hp (fun r => r = lowerS s) rfl s.length 0 (by omega)⟩
set_option linter.unusedVariables false in
theorem mlw_c {g : Ghost} (xs : List UInt8)  (hp : lowerP xs) : CallsG Tryz.prog 38 #[.string ⟨⟨xs⟩⟩] g (.string ⟨⟨(lowerS xs)⟩⟩) :=
  (mlw_ok xs _ (mlw_F xs hp)).gives (by rintro g' H' v _ ⟨r0, rfl, rfl, hK⟩; subst hK; rfl)
def wordP (t : Tok) : Prop := t.2.2.1.length ≤ 140737488351232
def mwdF (xt : Int × List UInt8 × List UInt8 × Int) (K : (List UInt8) → Prop) : Prop :=
  (((xt.1 != 1)) = true → K ([] : List UInt8)) ∧ (((xt.1 != 1)) = false → lowerP xt.2.2.1 ∧ K (lowerS xt.2.2.1))
set_option maxHeartbeats 4000000 in
set_option maxRecDepth 100000 in
set_option linter.unusedVariables false in
theorem mwd_ok {g : Ghost} (xt : Int × List UInt8 × List UInt8 × Int) (K : (List UInt8) → Prop)
    (hF : mwdF xt K) : CallsH Tryz.prog 23 #[.agg #[.int .i64 xt.1, .string ⟨⟨xt.2.1⟩⟩, .string ⟨⟨xt.2.2.1⟩⟩, .int .i64 xt.2.2.2]] g [] (fun g' H' v => ∃ (r0 : List UInt8), v = .string ⟨⟨r0⟩⟩ ∧ H' = [] ∧ K r0) := by
  refine CallsH.enter 9 [(0, .agg #[.int .i64 xt.1, .string ⟨⟨xt.2.1⟩⟩, .string ⟨⟨xt.2.2.1⟩⟩, .int .i64 xt.2.2.2])] Tryz.func23 rfl (by kernel_rfl) (by kernel_rfl) (by kernel_rfl) fun w0 => ?_
  refine Ok.seq ?_
  refine Ok.region ?_
  refine Ok.op rfl (OpOk.box (v := .agg #[.int .i64 xt.1, .string ⟨⟨xt.2.1⟩⟩, .string ⟨⟨xt.2.2.1⟩⟩, .int .i64 xt.2.2.2]) (cs := #[.int .i64 xt.1, .string ⟨⟨xt.2.1⟩⟩, .string ⟨⟨xt.2.2.1⟩⟩, .int .i64 xt.2.2.2]) rfl (by kernel_rfl) rfl fun bs1 => ?_)
  refine Ok.batch 1 [(1, .pointer (some ⟨bs1, 0, none⟩))] (by kernel_rfl) ?_
  refine Ok.nil ?_
  refine Ok.thenN ?_
  refine Ok.seq ?_
  refine Ok.seq ?_
  refine Ok.region ?_
  refine Ok.batch 1 [(1, .pointer (some ⟨bs1, 0, none⟩)), (3, .pointer (some ⟨bs1, 0, none⟩))] (by kernel_rfl) ?_
  refine Ok.op rfl (OpOk.step (v := .int .i64 xt.1) (Yields.load 0 rfl rfl Tryz.underlying3 rfl (by kernel_rfl)) rfl rfl ?_)
  refine Ok.batch 1 [(1, .pointer (some ⟨bs1, 0, none⟩)), (5, .bool (xt.1 != 1))] (by kernel_rfl) ?_
  refine Ok.nil ?_
  refine Ok.thenN ?_
  refine Ok.cond (b := (xt.1 != 1)) rfl (fun hc2 => ?_) (fun hc2 => ?_)
  · replace hF := hF.1 hc2
    refine Ok.seq ?_
    refine Ok.region ?_
    refine Ok.batch 1 [(2, .string ⟨⟨([] : List UInt8)⟩⟩)] (by kernel_rfl) ?_
    refine Ok.nil ?_
    refine Ok.thenN ?_
    refine Ok.ret ?_
    refine Ok.thenR ?_
    exact Ok.resP (vs := [.string ⟨⟨([] : List UInt8)⟩⟩]) [] [] (by decide) rfl (.inl rfl) rfl (.cons (.tmp rfl) .nil) (Gext.refl w0 g) ⟨([] : List UInt8), rfl, rfl, hF⟩
  · replace hF := hF.2 hc2
    refine Ok.skip ?_
    refine Ok.thenN ?_
    refine Ok.seq ?_
    refine Ok.region ?_
    refine Ok.batch 1 [(6, .pointer (some ⟨bs1, 2, none⟩))] (by kernel_rfl) ?_
    refine Ok.op rfl (OpOk.step (v := .string ⟨⟨xt.2.2.1⟩⟩) (Yields.load 0 rfl rfl Tryz.underlying9 rfl (by kernel_rfl)) rfl rfl ?_)
    obtain ⟨hp3, hF⟩ := hF
    refine Ok.op rfl (OpOk.callG (v := .string ⟨⟨(lowerS xt.2.2.1)⟩⟩) (enters (by kernel_rfl) (fun _ => by kernel_rfl)) (fun W hW => mlw_c xt.2.2.1 hp3) rfl ?_)
    refine Ok.batch 1 [(2, .string ⟨⟨(lowerS xt.2.2.1)⟩⟩)] (by kernel_rfl) ?_
    refine Ok.nil ?_
    refine Ok.thenN ?_
    refine Ok.ret ?_
    exact Ok.resP (vs := [.string ⟨⟨(lowerS xt.2.2.1)⟩⟩]) [] [] (by decide) rfl (.inl rfl) rfl (.cons (.tmp rfl) .nil) (Gext.refl w0 g) ⟨(lowerS xt.2.2.1), rfl, rfl, hF⟩
def mwdM (xt : Int × List UInt8 × List UInt8 × Int) : List UInt8 := (if (xt.1 != 1) = true then ([] : List UInt8) else (lowerS xt.2.2.1))
set_option linter.unusedSimpArgs false in
set_option linter.unusedVariables false in
theorem mwdF_A (xt : Int × List UInt8 × List UInt8 × Int) (hp : wordP xt) (P : List UInt8 → Prop) (h : P (mwdM xt)) : mwdF xt (fun k0 => P k0) := by
  unfold mwdM at h
  unfold mwdF
  refine ⟨fun hc0 => ?_, fun hc0 => ?_⟩
  · rw [if_t hc0] at h
    exact h
  · rw [if_f hc0] at h
    refine ⟨?_, ?_⟩
    · first | exact hp | omega | assumption | exact trivial | (have h0 := List.length_pos_iff.mpr (by assumption); omega) | (simp; omega) | (simp at *; omega)
    exact h
theorem mwd_F (xt : Int × List UInt8 × List UInt8 × Int) (hp : wordP xt) : mwdF xt (fun k0 => k0 = mwdM xt) :=
  mwdF_A xt hp (fun z => z = mwdM xt) rfl
set_option linter.unusedVariables false in
theorem mwd_c {g : Ghost} (xt : Int × List UInt8 × List UInt8 × Int)  (hp : wordP xt) : CallsG Tryz.prog 23 #[.agg #[.int .i64 xt.1, .string ⟨⟨xt.2.1⟩⟩, .string ⟨⟨xt.2.2.1⟩⟩, .int .i64 xt.2.2.2]] g (.string ⟨⟨(mwdM xt)⟩⟩) :=
  (mwd_ok xt _ (mwd_F xt hp)).gives (by rintro g' H' v _ ⟨r0, rfl, rfl, hK⟩; subst hK; rfl)
/-! solid tokens -/
def mslV2 (xl : List (Int × List UInt8 × List UInt8 × Int)) (x8l9 : Int) (yown1_0l9 : List (Int × List UInt8 × List UInt8 × Int)) : List (Int × List UInt8 × List UInt8 × Int) :=
  (if (((xl.getD (Int.toNat x8l9) default).1 != 8) && ((xl.getD (Int.toNat x8l9) default).1 != 9)) = true then (yown1_0l9 ++ ([(xl.getD (Int.toNat x8l9) default)] : List (Int × List UInt8 × List UInt8 × Int))) else yown1_0l9)
def mslj16 (xl : List (Int × List UInt8 × List UInt8 × Int)) (x8l9 : Int) (yown1_0l9 : List (Int × List UInt8 × List UInt8 × Int)) (C9 : Int → (List (Int × List UInt8 × List UInt8 × Int)) → Prop) : Prop :=
  C9 (IntKind.wrap .i64 (x8l9 + 1)) (mslV2 xl x8l9 yown1_0l9)
def mslj20 (xl : List (Int × List UInt8 × List UInt8 × Int)) (e4 : Int × List UInt8 × List UInt8 × Int) (x8l9 : Int) (yown1_0l9 : List (Int × List UInt8 × List UInt8 × Int)) (C9 : Int → (List (Int × List UInt8 × List UInt8 × Int)) → Prop) : Prop :=
  ((((e4.1 != 8) && (e4.1 != 9))) = true → (yown1_0l9 ++ ([e4] : List (Int × List UInt8 × List UInt8 × Int))).length ≤ 2932031007402 ∧ mslj16 xl x8l9 yown1_0l9 C9) ∧ ((((e4.1 != 8) && (e4.1 != 9))) = false → mslj16 xl x8l9 yown1_0l9 C9)
def msll9b (xl : List (Int × List UInt8 × List UInt8 × Int)) (K : (List (Int × List UInt8 × List UInt8 × Int)) → Prop) (x8l9 : Int) (yown1_0l9 : List (Int × List UInt8 × List UInt8 × Int)) (C9 : Int → (List (Int × List UInt8 × List UInt8 × Int)) → Prop) : Prop :=
  ((decide (x8l9 < (xl.length : Int))) = true → (0 : Int) ≤ x8l9 ∧ Int.toNat x8l9 < xl.length ∧ ((((xl.getD (Int.toNat x8l9) default).1 != 8)) = true → mslj20 xl (xl.getD (Int.toNat x8l9) default) x8l9 yown1_0l9 C9) ∧ ((((xl.getD (Int.toNat x8l9) default).1 != 8)) = false → mslj20 xl (xl.getD (Int.toNat x8l9) default) x8l9 yown1_0l9 C9)) ∧ ((decide (x8l9 < (xl.length : Int))) = false → K yown1_0l9)
def msll9 (xl : List (Int × List UInt8 × List UInt8 × Int)) (K : (List (Int × List UInt8 × List UInt8 × Int)) → Prop) : Nat → Int → (List (Int × List UInt8 × List UInt8 × Int)) → Prop
  | 0, _, _ => False
  | k + 1, x8l9, yown1_0l9 => msll9b xl K x8l9 yown1_0l9 (msll9 xl K k)
def mslF (xl : List (Int × List UInt8 × List UInt8 × Int)) (K : (List (Int × List UInt8 × List UInt8 × Int)) → Prop) : Prop :=
  ∃ k, msll9 xl K k 0 ([] : List (Int × List UInt8 × List UInt8 × Int))
set_option maxHeartbeats 4000000 in
set_option maxRecDepth 100000 in
set_option linter.unusedVariables false in
theorem msl_ok {g : Ghost} {axl_0 : Option Addr} {cxl_0 : Nat} (xl : List (Int × List UInt8 × List UInt8 × Int)) (hRxl_0 : Rep g (.slice (.pair (.int .i64) (.pair (.str) (.pair (.str) (.int .i64))))) [.slice axl_0 xl.length cxl_0] xl) (K : (List (Int × List UInt8 × List UInt8 × Int)) → Prop)
    (hF : mslF xl K) : CallsH Tryz.prog 15 #[.slice axl_0 xl.length cxl_0] g [] (fun g' H' v => ∃ (r0 : List (Int × List UInt8 × List UInt8 × Int)), ∃ (ar0_0 : Option Addr) (cr0_0 : Nat), v = .slice ar0_0 r0.length cr0_0 ∧ Rep g' (.slice (.pair (.int .i64) (.pair (.str) (.pair (.str) (.int .i64))))) [.slice ar0_0 r0.length cr0_0] r0 ∧ H' = [] ∧ K r0) := by
  refine CallsH.enter 26 [(0, .slice axl_0 xl.length cxl_0)] Tryz.func15 rfl (by kernel_rfl) (by kernel_rfl) (by kernel_rfl) fun w0 => ?_
  refine Ok.seq ?_
  refine Ok.region ?_
  refine Ok.batch 1 [(0, .slice axl_0 xl.length cxl_0)] (by kernel_rfl) ?_
  refine Ok.nil ?_
  refine Ok.thenN ?_
  refine Ok.seq ?_
  refine Ok.region ?_
  refine Ok.batch 1 [(0, .slice axl_0 xl.length cxl_0), (3, .slice none 0 0)] (by kernel_rfl) ?_
  have hL1 : RepL g (.pair (.int .i64) (.pair (.str) (.pair (.str) (.int .i64)))) [] [] := rfl
  refine Ok.ownNil 55 4 ?_
  refine Ok.nil ?_
  refine Ok.thenN ?_
  refine Ok.seq ?_
  refine Ok.seq ?_
  refine Ok.region ?_
  refine Ok.batch 3 [(3, .slice none ([] : List (Int × List UInt8 × List UInt8 × Int)).length 0), (6, .slice axl_0 xl.length cxl_0), (7, .int .i64 (xl.length : Int)), (8, .int .i64 0)] (by kernel_rfl) ?_
  refine Ok.nil ?_
  refine Ok.thenN ?_
  refine Ok.block ?_
  obtain ⟨k, hF⟩ := hF
  refine Ok.loop (fun k a W => ∃ gl9 : Ghost, Gext w0 g gl9 ∧ ∃ (x8l9 : Int) (ayown1_0l9 : Option Addr) (cyown1_0l9 : Nat) (yown1_0l9 : List (Int × List UInt8 × List UInt8 × Int)) (xsyown1_0l9 : List Value), RepL gl9 (.pair (.int .i64) (.pair (.str) (.pair (.str) (.int .i64)))) xsyown1_0l9 yown1_0l9 ∧ StA 26 [(3, .slice ayown1_0l9 yown1_0l9.length cyown1_0l9), (6, .slice axl_0 xl.length cxl_0), (7, .int .i64 (xl.length : Int)), (8, .int .i64 x8l9)] a ∧ StW w0 [.own (.slice ayown1_0l9 yown1_0l9.length cyown1_0l9) 55 4 yown1_0l9.length xsyown1_0l9] gl9 W ∧ msll9 xl K k x8l9 yown1_0l9) k ?_ ?_
  ·
    exact fun a W hA hW => ⟨g, (Gext.refl w0 g), 0, none, 0, ([] : List (Int × List UInt8 × List UInt8 × Int)), [], hL1, hA.sub (by kernel_rfl), hW, hF⟩
  ·
    clear hF
    rintro k9 a W ⟨gl9, hxl9, x8l9, ayown1_0l9, cyown1_0l9, yown1_0l9, xsyown1_0l9, hLyown1_0l9, hA, hW, hF⟩
    cases k9 with
    | zero => exact (hF : False).elim
    | succ k9 =>
      refine (?_ : Ok _ _ _ _ _ _) a W hA hW
      clear hA hW
      replace hRxl_0 := hRxl_0.mono hxl9.1
      refine Ok.seq ?_
      refine Ok.region ?_
      refine Ok.batch 1 [(3, .slice ayown1_0l9 yown1_0l9.length cyown1_0l9), (6, .slice axl_0 xl.length cxl_0), (7, .int .i64 (xl.length : Int)), (8, .int .i64 x8l9), (9, .bool (decide (x8l9 < (xl.length : Int))))] (by kernel_rfl) ?_
      refine Ok.nil ?_
      refine Ok.thenN ?_
      refine Ok.seq ?_
      refine Ok.cond (b := decide (x8l9 < (xl.length : Int))) rfl (fun hc2 => ?_) (fun hc2 => ?_)
      · replace hF := hF.1 hc2
        refine Ok.skip ?_
        refine Ok.thenN ?_
        refine Ok.cut (fun a W => ∃ gj16 : Ghost, Gext w0 gl9 gj16 ∧ ∃ (ayown1_0j16 : Option Addr) (cyown1_0j16 : Nat) (xsyown1_0j16 : List Value), RepL gj16 (.pair (.int .i64) (.pair (.str) (.pair (.str) (.int .i64)))) xsyown1_0j16 (mslV2 xl x8l9 yown1_0l9) ∧ StA 26 [(3, .slice ayown1_0j16 (mslV2 xl x8l9 yown1_0l9).length cyown1_0j16), (6, .slice axl_0 xl.length cxl_0), (7, .int .i64 (xl.length : Int)), (8, .int .i64 x8l9)] a ∧ StW w0 [.own (.slice ayown1_0j16 (mslV2 xl x8l9 yown1_0l9).length cyown1_0j16) 55 4 (mslV2 xl x8l9 yown1_0l9).length xsyown1_0j16] gj16 W ∧ mslj16 xl x8l9 yown1_0l9 (msll9 xl K k9)) ?_ ?_
        ·
          refine Ok.block ?_
          refine Ok.seq ?_
          refine Ok.region ?_
          obtain ⟨h04, h14, hF⟩ := hF
          have he4 := get_of (l := xl) (default : Int × List UInt8 × List UInt8 × Int) h14
          generalize hg4 : (xl.getD (Int.toNat x8l9) default) = e4 at he4 hF ⊢
          refine Ok.op rfl (OpOk.indexRo (e := .pair (.int .i64) (.pair (.str) (.pair (.str) (.int .i64)))) (i := x8l9) (el := e4) rfl rfl Tryz.underlying46 (by kernel_rfl) hRxl_0 h04 he4 rfl fun q3 o3 cs3 _ hat3 hr3 => ?_)
          obtain ⟨_, _, rfl, rfl, ⟨_, _, rfl, rfl, ⟨_, _, rfl, rfl, rfl⟩⟩⟩ := hr3
          replace hat3 : At gl9 q3 o3 [.int .i64 e4.1, .string ⟨⟨e4.2.1⟩⟩, .string ⟨⟨e4.2.2.1⟩⟩, .int .i64 e4.2.2.2] := hat3
          refine Ok.op rfl (OpOk.step (v := .agg #[.int .i64 e4.1, .string ⟨⟨e4.2.1⟩⟩, .string ⟨⟨e4.2.2.1⟩⟩, .int .i64 e4.2.2.2]) (Yields.loadAggRo 0 4 #[.int .i64 e4.1, .string ⟨⟨e4.2.1⟩⟩, .string ⟨⟨e4.2.2.1⟩⟩, .int .i64 e4.2.2.2] hat3 (by kernel_rfl) Tryz.underlying55 rfl (by kernel_rfl) (by kernel_rfl) (by kernel_rfl)) rfl rfl ?_)
          refine Ok.op rfl (OpOk.alloc (z := .agg #[.int .i64 0, .string ⟨⟨([] : List UInt8)⟩⟩, .string ⟨⟨([] : List UInt8)⟩⟩, .int .i64 0]) (cs := #[.int .i64 0, .string ⟨⟨([] : List UInt8)⟩⟩, .string ⟨⟨([] : List UInt8)⟩⟩, .int .i64 0]) (by kernel_rfl) (by kernel_rfl) rfl fun bs5 => ?_)
          refine Ok.op rfl (OpOk.store (k := 4) (v := .agg #[.int .i64 e4.1, .string ⟨⟨e4.2.1⟩⟩, .string ⟨⟨e4.2.2.1⟩⟩, .int .i64 e4.2.2.2]) (H' := [.blk bs5 (.cells #[.int .i64 e4.1, .string ⟨⟨e4.2.1⟩⟩, .string ⟨⟨e4.2.2.1⟩⟩, .int .i64 e4.2.2.2] 55), .own (.slice ayown1_0l9 yown1_0l9.length cyown1_0l9) 55 4 yown1_0l9.length xsyown1_0l9]) 0 rfl rfl rfl (by kernel_rfl) (by kernel_rfl) (by kernel_rfl) (by kernel_rfl) (by kernel_rfl) ?_)
          refine Ok.nil ?_
          refine Ok.thenN ?_
          refine Ok.cut (fun a W => ∃ gj20 : Ghost, Gext w0 gl9 gj20 ∧ StA 26 [(3, .slice ayown1_0l9 yown1_0l9.length cyown1_0l9), (5, .pointer (some ⟨bs5, 0, none⟩)), (6, .slice axl_0 xl.length cxl_0), (7, .int .i64 (xl.length : Int)), (8, .int .i64 x8l9), (19, .bool ((e4.1 != 8) && (e4.1 != 9)))] a ∧ StW w0 [.blk bs5 (.cells #[.int .i64 e4.1, .string ⟨⟨e4.2.1⟩⟩, .string ⟨⟨e4.2.2.1⟩⟩, .int .i64 e4.2.2.2] 55), .own (.slice ayown1_0l9 yown1_0l9.length cyown1_0l9) 55 4 yown1_0l9.length xsyown1_0l9] gj20 W ∧ mslj20 xl e4 x8l9 yown1_0l9 (msll9 xl K k9)) ?_ ?_
          ·
            refine Ok.region ?_
            refine Ok.batch 1 [(3, .slice ayown1_0l9 yown1_0l9.length cyown1_0l9), (5, .pointer (some ⟨bs5, 0, none⟩)), (6, .slice axl_0 xl.length cxl_0), (7, .int .i64 (xl.length : Int)), (8, .int .i64 x8l9), (12, .pointer (some ⟨bs5, 0, none⟩))] (by kernel_rfl) ?_
            refine Ok.op rfl (OpOk.step (v := .int .i64 e4.1) (Yields.load 0 rfl rfl Tryz.underlying3 rfl (by kernel_rfl)) rfl rfl ?_)
            refine Ok.batch 2 [(3, .slice ayown1_0l9 yown1_0l9.length cyown1_0l9), (5, .pointer (some ⟨bs5, 0, none⟩)), (6, .slice axl_0 xl.length cxl_0), (7, .int .i64 (xl.length : Int)), (8, .int .i64 x8l9), (15, .bool (e4.1 != 8))] (by kernel_rfl) ?_
            refine Ok.boolAt 15 ((e4.1 != 8)) rfl (fun hc9 => ?_) (fun hc9 => ?_)
            · replace hF := hF.1 hc9
              refine Ok.batch 1 [(3, .slice ayown1_0l9 yown1_0l9.length cyown1_0l9), (5, .pointer (some ⟨bs5, 0, none⟩)), (6, .slice axl_0 xl.length cxl_0), (7, .int .i64 (xl.length : Int)), (8, .int .i64 x8l9), (15, .bool true), (16, .pointer (some ⟨bs5, 0, none⟩))] (by kernel_rfl) ?_
              refine Ok.opYes (j := 3) (d := 15) (want := true) (b := true) rfl (by kernel_rfl) (by kernel_rfl) rfl (OpOk.step (v := .int .i64 e4.1) (Yields.load 0 rfl rfl Tryz.underlying3 rfl (by kernel_rfl)) rfl rfl ?_)
              refine Ok.batch 2 [(3, .slice ayown1_0l9 yown1_0l9.length cyown1_0l9), (5, .pointer (some ⟨bs5, 0, none⟩)), (6, .slice axl_0 xl.length cxl_0), (7, .int .i64 (xl.length : Int)), (8, .int .i64 x8l9), (19, .bool (e4.1 != 9))] (by kernel_rfl) ?_
              refine Ok.nil ?_
              refine Ok.thenN ?_
              refine Ok.reval 19 rfl (show (.bool (e4.1 != 9) : Value) = .bool ((e4.1 != 8) && (e4.1 != 9)) from congrArg (Value.bool) (mand_t hc9)) ?_
              exact fun a W hA hW => ⟨gl9, (Gext.refl w0 gl9), hA.sub (by kernel_rfl), hW, hF⟩
            · replace hF := hF.2 hc9
              refine Ok.batch 4 [(3, .slice ayown1_0l9 yown1_0l9.length cyown1_0l9), (5, .pointer (some ⟨bs5, 0, none⟩)), (6, .slice axl_0 xl.length cxl_0), (7, .int .i64 (xl.length : Int)), (8, .int .i64 x8l9), (19, .bool false)] (by kernel_rfl) ?_
              refine Ok.nil ?_
              refine Ok.thenN ?_
              refine Ok.reval 19 rfl (show (.bool false : Value) = .bool ((e4.1 != 8) && (e4.1 != 9)) from congrArg (Value.bool) (mand_f hc9)) ?_
              exact fun a W hA hW => ⟨gl9, (Gext.refl w0 gl9), hA.sub (by kernel_rfl), hW, hF⟩
          ·
            clear hF
            rintro a W ⟨gj20, hxj20, hA, hW, hF⟩
            refine (?_ : Ok _ _ _ _ _ _) a W hA hW
            clear hA hW
            replace hLyown1_0l9 := hLyown1_0l9.mono hxj20.1
            replace hRxl_0 := hRxl_0.mono hxj20.1
            refine Ok.cond (b := ((e4.1 != 8) && (e4.1 != 9))) rfl (fun hc6 => ?_) (fun hc6 => ?_)
            · replace hF := hF.1 hc6
              refine Ok.region ?_
              refine Ok.batch 1 [(5, .pointer (some ⟨bs5, 0, none⟩)), (6, .slice axl_0 xl.length cxl_0), (7, .int .i64 (xl.length : Int)), (8, .int .i64 x8l9), (20, .slice ayown1_0l9 yown1_0l9.length cyown1_0l9)] (by kernel_rfl) ?_
              refine Ok.op rfl (OpOk.step (v := .agg #[.int .i64 e4.1, .string ⟨⟨e4.2.1⟩⟩, .string ⟨⟨e4.2.2.1⟩⟩, .int .i64 e4.2.2.2]) (Yields.loadAgg 0 4 #[.int .i64 e4.1, .string ⟨⟨e4.2.1⟩⟩, .string ⟨⟨e4.2.2.1⟩⟩, .int .i64 e4.2.2.2] rfl rfl Tryz.underlying55 rfl (by kernel_rfl) (by kernel_rfl) (by kernel_rfl)) rfl rfl ?_)
              have hL7 : RepL gj20 (.pair (.int .i64) (.pair (.str) (.pair (.str) (.int .i64)))) ([.int .i64 e4.1, .string ⟨⟨e4.2.1⟩⟩, .string ⟨⟨e4.2.2.1⟩⟩, .int .i64 e4.2.2.2] : List Value) ([e4] : List (Int × List UInt8 × List UInt8 × Int)) := (RepL.consN (c := [.int .i64 e4.1, .string ⟨⟨e4.2.1⟩⟩, .string ⟨⟨e4.2.2.1⟩⟩, .int .i64 e4.2.2.2]) ⟨[.int .i64 e4.1], [.string ⟨⟨e4.2.1⟩⟩, .string ⟨⟨e4.2.2.1⟩⟩, .int .i64 e4.2.2.2], rfl, rfl, ⟨[.string ⟨⟨e4.2.1⟩⟩], [.string ⟨⟨e4.2.2.1⟩⟩, .int .i64 e4.2.2.2], rfl, rfl, ⟨[.string ⟨⟨e4.2.2.1⟩⟩], [.int .i64 e4.2.2.2], rfl, rfl, rfl⟩⟩⟩ rfl)
              refine Ok.op rfl (OpOk.lit (E := 55) (.pair (.int .i64) (.pair (.str) (.pair (.str) (.int .i64)))) ([e4] : List (Int × List UInt8 × List UInt8 × Int)) ([.int .i64 e4.1, .string ⟨⟨e4.2.1⟩⟩, .string ⟨⟨e4.2.2.1⟩⟩, .int .i64 e4.2.2.2] : List Value) (by kernel_rfl) (by kernel_rfl) rfl (by kernel_rfl) hL7 rfl fun b7 => ?_)
              obtain ⟨hb8, hF⟩ := hF
              refine Ok.op rfl (OpOk.append' (e := .pair (.int .i64) (.pair (.str) (.pair (.str) (.int .i64)))) 48 2932031007402 2 0 rfl rfl rfl rfl hLyown1_0l9 hL7 Tryz.underlying46 (by kernel_rfl) (by kernel_rfl) (by kernel_rfl) hb8 rfl fun a8 c8 xs8 hL8 => ?_)
              refine Ok.batch 1 [(3, .slice a8 (yown1_0l9 ++ ([e4] : List (Int × List UInt8 × List UInt8 × Int))).length c8), (6, .slice axl_0 xl.length cxl_0), (7, .int .i64 (xl.length : Int)), (8, .int .i64 x8l9)] (by kernel_rfl) ?_
              refine Ok.nil ?_
              refine Ok.blockN ?_
              refine Ok.thenN ?_
              subst hg4
              refine Ok.reval 3 rfl (show (.slice a8 (yown1_0l9 ++ ([(xl.getD (Int.toNat x8l9) default)] : List (Int × List UInt8 × List UInt8 × Int))).length c8 : Value) = .slice a8 (mslV2 xl x8l9 yown1_0l9).length c8 from congrArg (fun l : List (Int × List UInt8 × List UInt8 × Int) => Value.slice a8 l.length c8) ((if_t hc6).symm)) ?_
              refine Ok.heapEq (H' := [.own (.slice (some ⟨b7, 0, none⟩) ([(xl.getD (Int.toNat x8l9) default)] : List (Int × List UInt8 × List UInt8 × Int)).length 1) 55 4 ([(xl.getD (Int.toNat x8l9) default)] : List (Int × List UInt8 × List UInt8 × Int)).length ([.int .i64 (xl.getD (Int.toNat x8l9) default).1, .string ⟨⟨(xl.getD (Int.toNat x8l9) default).2.1⟩⟩, .string ⟨⟨(xl.getD (Int.toNat x8l9) default).2.2.1⟩⟩, .int .i64 (xl.getD (Int.toNat x8l9) default).2.2.2] : List Value), .blk bs5 (.cells #[.int .i64 ((xl.getD (Int.toNat x8l9) default).1), .string ⟨⟨(xl.getD (Int.toNat x8l9) default).2.1⟩⟩, .string ⟨⟨(xl.getD (Int.toNat x8l9) default).2.2.1⟩⟩, .int .i64 ((xl.getD (Int.toNat x8l9) default).2.2.2)] 55), .own (.slice a8 (mslV2 xl x8l9 yown1_0l9).length c8) 55 4 (mslV2 xl x8l9 yown1_0l9).length xs8]) (econs (rfl) (econs (rfl) (econs (congrArg (fun l : List (Int × List UInt8 × List UInt8 × Int) => Ent.own (.slice a8 l.length c8) 55 4 l.length xs8) ((if_t hc6).symm)) rfl))) ?_
              exact fun a W hA hW => ⟨gj20, hxj20, a8, c8, xs8, (Eq.mp (congrArg (fun l : List (Int × List UInt8 × List UInt8 × Int) => RepL gj20 (.pair (.int .i64) (.pair (.str) (.pair (.str) (.int .i64)))) xs8 l) ((if_t hc6).symm)) hL8), hA.sub (by kernel_rfl), hW.sub (.cons _ (.cons _ (.cons_cons _ .slnil))), hF⟩
            · replace hF := hF.2 hc6
              refine Ok.skip ?_
              refine Ok.blockN ?_
              refine Ok.thenN ?_
              subst hg4
              refine Ok.reval 3 rfl (show (.slice ayown1_0l9 yown1_0l9.length cyown1_0l9 : Value) = .slice ayown1_0l9 (mslV2 xl x8l9 yown1_0l9).length cyown1_0l9 from congrArg (fun l : List (Int × List UInt8 × List UInt8 × Int) => Value.slice ayown1_0l9 l.length cyown1_0l9) ((if_f hc6).symm)) ?_
              refine Ok.heapEq (H' := [.blk bs5 (.cells #[.int .i64 ((xl.getD (Int.toNat x8l9) default).1), .string ⟨⟨(xl.getD (Int.toNat x8l9) default).2.1⟩⟩, .string ⟨⟨(xl.getD (Int.toNat x8l9) default).2.2.1⟩⟩, .int .i64 ((xl.getD (Int.toNat x8l9) default).2.2.2)] 55), .own (.slice ayown1_0l9 (mslV2 xl x8l9 yown1_0l9).length cyown1_0l9) 55 4 (mslV2 xl x8l9 yown1_0l9).length xsyown1_0l9]) (econs (rfl) (econs (congrArg (fun l : List (Int × List UInt8 × List UInt8 × Int) => Ent.own (.slice ayown1_0l9 l.length cyown1_0l9) 55 4 l.length xsyown1_0l9) ((if_f hc6).symm)) rfl)) ?_
              exact fun a W hA hW => ⟨gj20, hxj20, ayown1_0l9, cyown1_0l9, xsyown1_0l9, (Eq.mp (congrArg (fun l : List (Int × List UInt8 × List UInt8 × Int) => RepL gj20 (.pair (.int .i64) (.pair (.str) (.pair (.str) (.int .i64)))) xsyown1_0l9 l) ((if_f hc6).symm)) hLyown1_0l9), hA.sub (by kernel_rfl), hW.sub (.cons _ (.cons_cons _ .slnil)), hF⟩
        ·
          clear hF
          rintro a W ⟨gj16, hxj16, ayown1_0j16, cyown1_0j16, xsyown1_0j16, hLyown1_0j16, hA, hW, hF⟩
          refine (?_ : Ok _ _ _ _ _ _) a W hA hW
          clear hA hW
          replace hRxl_0 := hRxl_0.mono hxj16.1
          refine Ok.region ?_
          refine Ok.batch 2 [(3, .slice ayown1_0j16 (mslV2 xl x8l9 yown1_0l9).length cyown1_0j16), (6, .slice axl_0 xl.length cxl_0), (7, .int .i64 (xl.length : Int)), (8, .int .i64 (IntKind.wrap .i64 (x8l9 + 1)))] (by kernel_rfl) ?_
          refine Ok.nil ?_
          refine Ok.thenN ?_
          exact fun a W hA hW => ⟨k9, Nat.lt_succ_self _, gj16, (hxl9.trans hxj16), IntKind.wrap .i64 (x8l9 + 1), ayown1_0j16, cyown1_0j16, (mslV2 xl x8l9 yown1_0l9), xsyown1_0j16, hLyown1_0j16, hA.sub (by kernel_rfl), hW, hF⟩
      · replace hF := hF.2 hc2
        refine Ok.exit ?_
        refine Ok.thenE ?_
        refine Ok.thenE ?_
        refine Ok.blockHit ?_
        refine Ok.thenN ?_
        refine Ok.seq ?_
        refine Ok.region ?_
        refine Ok.batch 2 [(2, .slice ayown1_0l9 yown1_0l9.length cyown1_0l9)] (by kernel_rfl) ?_
        refine Ok.nil ?_
        refine Ok.thenN ?_
        refine Ok.ret ?_
        refine Ok.freeze (H' := []) 0 rfl hLyown1_0l9 rfl fun g10 hx10 hRf10 => ?_
        exact Ok.resH (vs := [.slice ayown1_0l9 yown1_0l9.length cyown1_0l9]) (.inl rfl) rfl (.cons (.tmp rfl) .nil) (hxl9.trans hx10) ⟨yown1_0l9, ayown1_0l9, cyown1_0l9, rfl, hRf10, rfl, hF⟩
def solidS (l : List Tok) : List Tok := l.filter fun t => t.1 != 8 && t.1 != 9
def solidP (l : List Tok) : Prop := l.length ≤ 1000000
theorem msl_F (l : List Tok) (hp : solidP l) : mslF l (fun r => r = solidS l) := by
  unfold solidP at hp
  have loop : ∀ (k i : Nat) (acc : List Tok), i + k = l.length → acc.length ≤ i → acc ++ solidS (l.drop i) = solidS l → msll9 l (fun r => r = solidS l) (k + 1) (i : Int) acc := by
    intro k
    induction k with
    | zero =>
      intro i acc h ha he
      rw [List.drop_of_length_le (by omega)] at he
      have he : acc = solidS l := by simpa [solidS] using he
      exact ⟨fun h => by have := of_decide_eq_true h; omega, fun _ => he⟩
    | succ k ih =>
      intro i acc h ha he
      rw [drop_get default (by omega)] at he
      have key : msll9b l (fun r => r = solidS l) (i : Int) acc (msll9 l (fun r => r = solidS l) (k + 1)) := by
        refine ⟨fun _ => ⟨by omega, by rw [Int.toNat_natCast]; omega, ?_⟩, fun hc => by have := of_decide_eq_false hc; omega⟩
        have k20 : mslj20 l (l.getD (Int.toNat (i : Int)) default) (i : Int) acc (msll9 l (fun r => r = solidS l) (k + 1)) := by
          have k16 : mslj16 l (i : Int) acc (msll9 l (fun r => r = solidS l) (k + 1)) := by
            unfold mslj16 mslV2
            rw [w64 (by omega), Int.toNat_natCast]
            have e : solidS (l.getD i default :: l.drop (i + 1)) = if ((l.getD i default).1 != 8 && (l.getD i default).1 != 9) = true then l.getD i default :: solidS (l.drop (i + 1)) else solidS (l.drop (i + 1)) := by
              unfold solidS
              rw [List.filter_cons]
            rw [e] at he
            split
            · rename_i hc
              rw [if_pos hc] at he
              refine ih (i + 1) _ (by omega) (by rw [List.length_append]; simp; omega) ?_
              rw [List.append_assoc]
              exact he
            · rename_i hc
              rw [if_neg hc] at he
              exact ih (i + 1) _ (by omega) (by omega) he
          refine ⟨fun _ => ⟨?_, k16⟩, fun _ => k16⟩
          rw [List.length_append]
          simp
          omega
        exact ⟨fun _ => k20, fun _ => k20⟩
      exact key
  exact ⟨_, loop l.length 0 [] (by omega) (Nat.le_refl _) rfl⟩
set_option linter.unusedVariables false in
theorem msl_c {g : Ghost} {axl_0 : Option Addr} {cxl_0 : Nat} (xl : List (Int × List UInt8 × List UInt8 × Int)) (hRxl_0 : Rep g (.slice (.pair (.int .i64) (.pair (.str) (.pair (.str) (.int .i64))))) [.slice axl_0 xl.length cxl_0] xl)  (hp : solidP xl) : CallsH Tryz.prog 15 #[.slice axl_0 xl.length cxl_0] g [] (fun g' H' v => ∃ (ar0_0 : Option Addr) (cr0_0 : Nat), v = .slice ar0_0 (solidS xl).length cr0_0 ∧ Rep g' (.slice (.pair (.int .i64) (.pair (.str) (.pair (.str) (.int .i64))))) [.slice ar0_0 (solidS xl).length cr0_0] (solidS xl) ∧ H' = []) :=
  (msl_ok xl hRxl_0 _ (msl_F xl hp)).mono (by rintro g' H' v _ ⟨r0, ar0_0, cr0_0, rfl, hRr0_0, rfl, hK⟩; subst hK; exact ⟨ar0_0, cr0_0, rfl, hRr0_0, rfl⟩)
/-! the end of a block -/
def menj22 (K : Int → Prop) (yown5_0j22 : List (Int)) (x11l11 : Int) (C11 : Int → (List (Int)) → Prop) : Prop :=
  ((((yown5_0j22.length : Int) == 0)) = true → K (IntKind.wrap .i64 (x11l11 + 1))) ∧ ((((yown5_0j22.length : Int) == 0)) = false → C11 (IntKind.wrap .i64 (x11l11 + 1)) yown5_0j22)
def menj26 (K : Int → Prop) (e8 : Int × List UInt8 × List UInt8 × Int) (x11l11 : Int) (yown5_0l11 : List (Int)) (C11 : Int → (List (Int)) → Prop) : Prop :=
  ((((e8.1 == 10) || (e8.1 == 2))) = true → (0 : Int) ≤ (IntKind.wrap .i64 ((e8.2.1.length : Int) - 1)) ∧ Int.toNat (IntKind.wrap .i64 ((e8.2.1.length : Int) - 1)) < e8.2.1.length ∧ (∀ e13 : Int, assocK ((e8.2.1.getD (Int.toNat (IntKind.wrap .i64 ((e8.2.1.length : Int) - 1))) 0).toNat : Int) (putK 123 125 (putK 91 93 (putK 40 41 ([] : List ((Int) × (Int)))))) = some e13 → (yown5_0l11 ++ ([e13] : List (Int))).length ≤ 140737488355328 ∧ menj22 K (yown5_0l11 ++ ([e13] : List (Int))) x11l11 C11) ∧ (assocK ((e8.2.1.getD (Int.toNat (IntKind.wrap .i64 ((e8.2.1.length : Int) - 1))) 0).toNat : Int) (putK 123 125 (putK 91 93 (putK 40 41 ([] : List ((Int) × (Int)))))) = none → (yown5_0l11 ++ ([0] : List (Int))).length ≤ 140737488355328 ∧ menj22 K (yown5_0l11 ++ ([0] : List (Int))) x11l11 C11)) ∧ ((((e8.1 == 10) || (e8.1 == 2))) = false → (((e8.1 == 11)) = true → (0 : Int) ≤ 0 ∧ Int.toNat 0 < e8.2.1.length ∧ (0 : Int) ≤ (IntKind.wrap .i64 ((yown5_0l11.length : Int) - 1)) ∧ Int.toNat (IntKind.wrap .i64 ((yown5_0l11.length : Int) - 1)) < yown5_0l11.length ∧ (((((e8.2.1.getD (Int.toNat 0) 0).toNat : Int) == (yown5_0l11.getD (Int.toNat (IntKind.wrap .i64 ((yown5_0l11.length : Int) - 1))) default))) = true → (0 : Int) ≤ (IntKind.wrap .i64 ((yown5_0l11.length : Int) - 1)) ∧ (IntKind.wrap .i64 ((yown5_0l11.length : Int) - 1)) ≤ (yown5_0l11.length : Int) ∧ menj22 K (yown5_0l11.take (Int.toNat (IntKind.wrap .i64 ((yown5_0l11.length : Int) - 1)))) x11l11 C11) ∧ (((((e8.2.1.getD (Int.toNat 0) 0).toNat : Int) == (yown5_0l11.getD (Int.toNat (IntKind.wrap .i64 ((yown5_0l11.length : Int) - 1))) default))) = false → menj22 K yown5_0l11 x11l11 C11)) ∧ (((e8.1 == 11)) = false → menj22 K yown5_0l11 x11l11 C11))
def menl11b (xl : List (Int × List UInt8 × List UInt8 × Int)) (K : Int → Prop) (x11l11 : Int) (yown5_0l11 : List (Int)) (C11 : Int → (List (Int)) → Prop) : Prop :=
  ((decide (x11l11 < (xl.length : Int))) = true → (0 : Int) ≤ x11l11 ∧ Int.toNat x11l11 < xl.length ∧ ((((xl.getD (Int.toNat x11l11) default).1 == 10)) = true → menj26 K (xl.getD (Int.toNat x11l11) default) x11l11 yown5_0l11 C11) ∧ ((((xl.getD (Int.toNat x11l11) default).1 == 10)) = false → menj26 K (xl.getD (Int.toNat x11l11) default) x11l11 yown5_0l11 C11)) ∧ ((decide (x11l11 < (xl.length : Int))) = false → K 0)
def menl11 (xl : List (Int × List UInt8 × List UInt8 × Int)) (K : Int → Prop) : Nat → Int → (List (Int)) → Prop
  | 0, _, _ => False
  | k + 1, x11l11, yown5_0l11 => menl11b xl K x11l11 yown5_0l11 (menl11 xl K k)
def menF (xl : List (Int × List UInt8 × List UInt8 × Int)) (K : Int → Prop) : Prop :=
  ∃ k, menl11 xl K k 0 ([] : List (Int))
set_option maxHeartbeats 4000000 in
set_option maxRecDepth 100000 in
set_option linter.unusedVariables false in
theorem men_ok {g : Ghost} {axl_0 : Option Addr} {cxl_0 : Nat} (xl : List (Int × List UInt8 × List UInt8 × Int)) (hRxl_0 : Rep g (.slice (.pair (.int .i64) (.pair (.str) (.pair (.str) (.int .i64))))) [.slice axl_0 xl.length cxl_0] xl) (K : Int → Prop)
    (hF : menF xl K) : CallsH Tryz.prog 22 #[.slice axl_0 xl.length cxl_0] g [] (fun g' H' v => ∃ (r0 : Int), v = .int .i64 r0 ∧ H' = [] ∧ K r0) := by
  refine CallsH.enter 56 [(0, .slice axl_0 xl.length cxl_0)] Tryz.func22 rfl (by kernel_rfl) (by kernel_rfl) (by kernel_rfl) fun w0 => ?_
  refine Ok.seq ?_
  refine Ok.region ?_
  refine Ok.batch 1 [(0, .slice axl_0 xl.length cxl_0)] (by kernel_rfl) ?_
  refine Ok.nil ?_
  refine Ok.thenN ?_
  refine Ok.seq ?_
  refine Ok.region ?_
  refine Ok.op rfl (OpOk.makeMap (.int .u8) false (kt := (Value.int .u8)) rfl fun b1 hM1 => ?_)
  refine Ok.op rfl (OpOk.insert (vt := .int .u8) (row := false) (cells := [.int .u8 41]) (y := 41) keyInt 0 rfl hM1 rfl rfl rfl Tryz.underlying74 Tryz.underlying5 rfl rfl fun es2 ck2 hM2 => ?_)
  refine Ok.op rfl (OpOk.insert (vt := .int .u8) (row := false) (cells := [.int .u8 93]) (y := 93) keyInt 0 rfl hM2 rfl rfl rfl Tryz.underlying74 Tryz.underlying5 rfl rfl fun es3 ck3 hM3 => ?_)
  refine Ok.op rfl (OpOk.insert (vt := .int .u8) (row := false) (cells := [.int .u8 125]) (y := 125) keyInt 0 rfl hM3 rfl rfl rfl Tryz.underlying74 Tryz.underlying5 rfl rfl fun es4 ck4 hM4 => ?_)
  refine Ok.batch 2 [(0, .slice axl_0 xl.length cxl_0), (3, .map (some b1))] (by kernel_rfl) ?_
  refine Ok.nil ?_
  refine Ok.thenN ?_
  refine Ok.seq ?_
  refine Ok.region ?_
  refine Ok.batch 1 [(0, .slice axl_0 xl.length cxl_0), (3, .map (some b1)), (4, .slice none 0 0)] (by kernel_rfl) ?_
  have hL5 : RepL g (.int .u8) [] [] := rfl
  refine Ok.ownNil 5 1 ?_
  refine Ok.nil ?_
  refine Ok.thenN ?_
  refine Ok.seq ?_
  refine Ok.seq ?_
  refine Ok.region ?_
  refine Ok.batch 3 [(3, .map (some b1)), (4, .slice none ([] : List (Int)).length 0), (9, .slice axl_0 xl.length cxl_0), (10, .int .i64 (xl.length : Int)), (11, .int .i64 0)] (by kernel_rfl) ?_
  refine Ok.nil ?_
  refine Ok.thenN ?_
  refine Ok.block ?_
  obtain ⟨k, hF⟩ := hF
  refine Ok.loop (fun k a W => ∃ gl11 : Ghost, Gext w0 g gl11 ∧ ∃ (x11l11 : Int) (ayown5_0l11 : Option Addr) (cyown5_0l11 : Nat) (yown5_0l11 : List (Int)) (xsyown5_0l11 : List Value), RepL gl11 (.int .u8) xsyown5_0l11 yown5_0l11 ∧ StA 56 [(3, .map (some b1)), (4, .slice ayown5_0l11 yown5_0l11.length cyown5_0l11), (9, .slice axl_0 xl.length cxl_0), (10, .int .i64 (xl.length : Int)), (11, .int .i64 x11l11)] a ∧ StW w0 [.own (.slice ayown5_0l11 yown5_0l11.length cyown5_0l11) 5 1 yown5_0l11.length xsyown5_0l11, .blk b1 (.map es4 ck4)] gl11 W ∧ menl11 xl K k x11l11 yown5_0l11) k ?_ ?_
  ·
    exact fun a W hA hW => ⟨g, (Gext.refl w0 g), 0, none, 0, ([] : List (Int)), [], hL5, hA.sub (by kernel_rfl), hW, hF⟩
  ·
    clear hF
    rintro k11 a W ⟨gl11, hxl11, x11l11, ayown5_0l11, cyown5_0l11, yown5_0l11, xsyown5_0l11, hLyown5_0l11, hA, hW, hF⟩
    cases k11 with
    | zero => exact (hF : False).elim
    | succ k11 =>
      refine (?_ : Ok _ _ _ _ _ _) a W hA hW
      clear hA hW
      replace hRxl_0 := hRxl_0.mono hxl11.1
      replace hM4 := hM4.mono hxl11.1
      refine Ok.seq ?_
      refine Ok.region ?_
      refine Ok.batch 1 [(3, .map (some b1)), (4, .slice ayown5_0l11 yown5_0l11.length cyown5_0l11), (9, .slice axl_0 xl.length cxl_0), (10, .int .i64 (xl.length : Int)), (11, .int .i64 x11l11), (12, .bool (decide (x11l11 < (xl.length : Int))))] (by kernel_rfl) ?_
      refine Ok.nil ?_
      refine Ok.thenN ?_
      refine Ok.seq ?_
      refine Ok.cond (b := decide (x11l11 < (xl.length : Int))) rfl (fun hc6 => ?_) (fun hc6 => ?_)
      · replace hF := hF.1 hc6
        refine Ok.skip ?_
        refine Ok.thenN ?_
        refine Ok.seq ?_
        refine Ok.block ?_
        refine Ok.seq ?_
        refine Ok.region ?_
        refine Ok.batch 1 [(3, .map (some b1)), (4, .slice ayown5_0l11 yown5_0l11.length cyown5_0l11), (9, .slice axl_0 xl.length cxl_0), (10, .int .i64 (xl.length : Int)), (11, .int .i64 x11l11), (13, .int .i64 x11l11)] (by kernel_rfl) ?_
        obtain ⟨h08, h18, hF⟩ := hF
        have he8 := get_of (l := xl) (default : Int × List UInt8 × List UInt8 × Int) h18
        generalize hg8 : (xl.getD (Int.toNat x11l11) default) = e8 at he8 hF ⊢
        refine Ok.op rfl (OpOk.indexRo (e := .pair (.int .i64) (.pair (.str) (.pair (.str) (.int .i64)))) (i := x11l11) (el := e8) rfl rfl Tryz.underlying46 (by kernel_rfl) hRxl_0 h08 he8 rfl fun q7 o7 cs7 _ hat7 hr7 => ?_)
        obtain ⟨_, _, rfl, rfl, ⟨_, _, rfl, rfl, ⟨_, _, rfl, rfl, rfl⟩⟩⟩ := hr7
        replace hat7 : At gl11 q7 o7 [.int .i64 e8.1, .string ⟨⟨e8.2.1⟩⟩, .string ⟨⟨e8.2.2.1⟩⟩, .int .i64 e8.2.2.2] := hat7
        refine Ok.op rfl (OpOk.step (v := .agg #[.int .i64 e8.1, .string ⟨⟨e8.2.1⟩⟩, .string ⟨⟨e8.2.2.1⟩⟩, .int .i64 e8.2.2.2]) (Yields.loadAggRo 0 4 #[.int .i64 e8.1, .string ⟨⟨e8.2.1⟩⟩, .string ⟨⟨e8.2.2.1⟩⟩, .int .i64 e8.2.2.2] hat7 (by kernel_rfl) Tryz.underlying55 rfl (by kernel_rfl) (by kernel_rfl) (by kernel_rfl)) rfl rfl ?_)
        refine Ok.op rfl (OpOk.alloc (z := .agg #[.int .i64 0, .string ⟨⟨([] : List UInt8)⟩⟩, .string ⟨⟨([] : List UInt8)⟩⟩, .int .i64 0]) (cs := #[.int .i64 0, .string ⟨⟨([] : List UInt8)⟩⟩, .string ⟨⟨([] : List UInt8)⟩⟩, .int .i64 0]) (by kernel_rfl) (by kernel_rfl) rfl fun bs6 => ?_)
        refine Ok.batch 1 [(3, .map (some b1)), (4, .slice ayown5_0l11 yown5_0l11.length cyown5_0l11), (5, .int .i64 x11l11), (6, .pointer (some ⟨bs6, 0, none⟩)), (9, .slice axl_0 xl.length cxl_0), (10, .int .i64 (xl.length : Int)), (11, .int .i64 x11l11), (15, .agg #[.int .i64 e8.1, .string ⟨⟨e8.2.1⟩⟩, .string ⟨⟨e8.2.2.1⟩⟩, .int .i64 e8.2.2.2])] (by kernel_rfl) ?_
        refine Ok.op rfl (OpOk.store (k := 4) (v := .agg #[.int .i64 e8.1, .string ⟨⟨e8.2.1⟩⟩, .string ⟨⟨e8.2.2.1⟩⟩, .int .i64 e8.2.2.2]) (H' := [.blk bs6 (.cells #[.int .i64 e8.1, .string ⟨⟨e8.2.1⟩⟩, .string ⟨⟨e8.2.2.1⟩⟩, .int .i64 e8.2.2.2] 55), .own (.slice ayown5_0l11 yown5_0l11.length cyown5_0l11) 5 1 yown5_0l11.length xsyown5_0l11, .blk b1 (.map es4 ck4)]) 0 rfl rfl rfl (by kernel_rfl) (by kernel_rfl) (by kernel_rfl) (by kernel_rfl) (by kernel_rfl) ?_)
        refine Ok.nil ?_
        refine Ok.thenN ?_
        refine Ok.cut (fun a W => ∃ gj22 : Ghost, Gext w0 gl11 gj22 ∧ ∃ (ayown5_0j22 : Option Addr) (cyown5_0j22 : Nat) (yown5_0j22 : List (Int)) (xsyown5_0j22 : List Value), RepL gj22 (.int .u8) xsyown5_0j22 yown5_0j22 ∧ StA 56 [(3, .map (some b1)), (4, .slice ayown5_0j22 yown5_0j22.length cyown5_0j22), (5, .int .i64 x11l11), (9, .slice axl_0 xl.length cxl_0), (10, .int .i64 (xl.length : Int)), (11, .int .i64 x11l11)] a ∧ StW w0 [.own (.slice ayown5_0j22 yown5_0j22.length cyown5_0j22) 5 1 yown5_0j22.length xsyown5_0j22, .blk b1 (.map es4 ck4)] gj22 W ∧ menj22 K yown5_0j22 x11l11 (menl11 xl K k11)) ?_ ?_
        ·
          refine Ok.seq ?_
          refine Ok.region ?_
          refine Ok.batch 1 [(3, .map (some b1)), (4, .slice ayown5_0l11 yown5_0l11.length cyown5_0l11), (5, .int .i64 x11l11), (6, .pointer (some ⟨bs6, 0, none⟩)), (9, .slice axl_0 xl.length cxl_0), (10, .int .i64 (xl.length : Int)), (11, .int .i64 x11l11), (16, .pointer (some ⟨bs6, 0, none⟩))] (by kernel_rfl) ?_
          refine Ok.op rfl (OpOk.step (v := .int .i64 e8.1) (Yields.load 0 rfl rfl Tryz.underlying3 rfl (by kernel_rfl)) rfl rfl ?_)
          refine Ok.nil ?_
          refine Ok.thenN ?_
          refine Ok.block ?_
          refine Ok.cut (fun a W => ∃ gj26 : Ghost, Gext w0 gl11 gj26 ∧ StA 56 [(3, .map (some b1)), (4, .slice ayown5_0l11 yown5_0l11.length cyown5_0l11), (5, .int .i64 x11l11), (6, .pointer (some ⟨bs6, 0, none⟩)), (9, .slice axl_0 xl.length cxl_0), (10, .int .i64 (xl.length : Int)), (11, .int .i64 x11l11), (17, .int .i64 e8.1), (18, .bool ((e8.1 == 10) || (e8.1 == 2)))] a ∧ StW w0 [.blk bs6 (.cells #[.int .i64 e8.1, .string ⟨⟨e8.2.1⟩⟩, .string ⟨⟨e8.2.2.1⟩⟩, .int .i64 e8.2.2.2] 55), .own (.slice ayown5_0l11 yown5_0l11.length cyown5_0l11) 5 1 yown5_0l11.length xsyown5_0l11, .blk b1 (.map es4 ck4)] gj26 W ∧ menj26 K e8 x11l11 yown5_0l11 (menl11 xl K k11)) ?_ ?_
          ·
            refine Ok.seq ?_
            refine Ok.region ?_
            refine Ok.batch 2 [(3, .map (some b1)), (4, .slice ayown5_0l11 yown5_0l11.length cyown5_0l11), (5, .int .i64 x11l11), (6, .pointer (some ⟨bs6, 0, none⟩)), (9, .slice axl_0 xl.length cxl_0), (10, .int .i64 (xl.length : Int)), (11, .int .i64 x11l11), (17, .int .i64 e8.1), (18, .bool (e8.1 == 10))] (by kernel_rfl) ?_
            refine Ok.nil ?_
            refine Ok.thenN ?_
            refine Ok.cond (b := (e8.1 == 10)) rfl (fun hc24 => ?_) (fun hc24 => ?_)
            · replace hF := hF.1 hc24
              refine Ok.skip ?_
              refine Ok.thenN ?_
              refine Ok.reval 18 rfl (show (.bool (e8.1 == 10) : Value) = .bool ((e8.1 == 10) || (e8.1 == 2)) from congrArg (Value.bool) ((Eq.trans (hc24) (mor_t hc24)))) ?_
              exact fun a W hA hW => ⟨gl11, (Gext.refl w0 gl11), hA.sub (by kernel_rfl), hW, hF⟩
            · replace hF := hF.2 hc24
              refine Ok.region ?_
              refine Ok.batch 2 [(3, .map (some b1)), (4, .slice ayown5_0l11 yown5_0l11.length cyown5_0l11), (5, .int .i64 x11l11), (6, .pointer (some ⟨bs6, 0, none⟩)), (9, .slice axl_0 xl.length cxl_0), (10, .int .i64 (xl.length : Int)), (11, .int .i64 x11l11), (17, .int .i64 e8.1), (18, .bool (e8.1 == 2))] (by kernel_rfl) ?_
              refine Ok.nil ?_
              refine Ok.thenN ?_
              refine Ok.reval 18 rfl (show (.bool (e8.1 == 2) : Value) = .bool ((e8.1 == 10) || (e8.1 == 2)) from congrArg (Value.bool) (mor_f hc24)) ?_
              exact fun a W hA hW => ⟨gl11, (Gext.refl w0 gl11), hA.sub (by kernel_rfl), hW, hF⟩
          ·
            clear hF
            rintro a W ⟨gj26, hxj26, hA, hW, hF⟩
            refine (?_ : Ok _ _ _ _ _ _) a W hA hW
            clear hA hW
            replace hLyown5_0l11 := hLyown5_0l11.mono hxj26.1
            replace hRxl_0 := hRxl_0.mono hxj26.1
            replace hM4 := hM4.mono hxj26.1
            refine Ok.cond (b := ((e8.1 == 10) || (e8.1 == 2))) rfl (fun hc11 => ?_) (fun hc11 => ?_)
            · replace hF := hF.1 hc11
              refine Ok.region ?_
              refine Ok.batch 3 [(3, .map (some b1)), (5, .int .i64 x11l11), (6, .pointer (some ⟨bs6, 0, none⟩)), (9, .slice axl_0 xl.length cxl_0), (10, .int .i64 (xl.length : Int)), (11, .int .i64 x11l11), (21, .slice ayown5_0l11 yown5_0l11.length cyown5_0l11), (22, .map (some b1)), (23, .pointer (some ⟨bs6, 1, none⟩))] (by kernel_rfl) ?_
              refine Ok.op rfl (OpOk.step (v := .string ⟨⟨e8.2.1⟩⟩) (Yields.load 0 rfl rfl Tryz.underlying9 rfl (by kernel_rfl)) rfl rfl ?_)
              refine Ok.batch 1 [(3, .map (some b1)), (5, .int .i64 x11l11), (9, .slice axl_0 xl.length cxl_0), (10, .int .i64 (xl.length : Int)), (11, .int .i64 x11l11), (21, .slice ayown5_0l11 yown5_0l11.length cyown5_0l11), (22, .map (some b1)), (24, .string ⟨⟨e8.2.1⟩⟩), (25, .pointer (some ⟨bs6, 1, none⟩))] (by kernel_rfl) ?_
              refine Ok.op rfl (OpOk.step (v := .string ⟨⟨e8.2.1⟩⟩) (Yields.load 0 rfl rfl Tryz.underlying9 rfl (by kernel_rfl)) rfl rfl ?_)
              refine Ok.batch 2 [(3, .map (some b1)), (5, .int .i64 x11l11), (9, .slice axl_0 xl.length cxl_0), (10, .int .i64 (xl.length : Int)), (11, .int .i64 x11l11), (21, .slice ayown5_0l11 yown5_0l11.length cyown5_0l11), (22, .map (some b1)), (24, .string ⟨⟨e8.2.1⟩⟩), (28, .int .i64 (IntKind.wrap .i64 ((e8.2.1.length : Int) - 1)))] (by kernel_rfl) ?_
              obtain ⟨h012, h112, hF⟩ := hF
              have he12 := get_of (l := e8.2.1) (0 : UInt8) h112
              generalize hg12 : (e8.2.1.getD (Int.toNat (IntKind.wrap .i64 ((e8.2.1.length : Int) - 1))) 0) = e12 at he12 hF ⊢
              refine Ok.op rfl (OpOk.step (v := .int .u8 (e12.toNat : Int)) (Yields.indexStr (k := .i64) (i := (IntKind.wrap .i64 ((e8.2.1.length : Int) - 1))) (s := e8.2.1) (b := e12) (by kernel_rfl) (by kernel_rfl) Tryz.underlying9 h012 he12) rfl rfl ?_)
              cases hce13 : assocK (e12.toNat : Int) (putK 123 125 (putK 91 93 (putK 40 41 ([] : List ((Int) × (Int)))))) with
              | some e13 =>
                replace hF := hF.1 e13 hce13
                refine Ok.op rfl (OpOk.lookupSome (vt := .int .u8) (row := false) keyInt 2 rfl hM4 rfl rfl Tryz.underlying74 Tryz.underlying5 hce13 rfl fun v13 cs13 hvi13 hr13 u13 hu13 => ?_)
                obtain rfl := hr13
                have hvi13 : ([.int .u8 e13] : List Value) = [v13] := hvi13
                injection hvi13 with hvi13
                subst hvi13
                have hu13 : u13 = .int .u8 e13 := hu13
                subst hu13
                have hL14 : RepL gj26 (.int .u8) ([.int .u8 e13] : List Value) ([e13] : List (Int)) := (RepL.consN (c := [.int .u8 e13]) rfl rfl)
                refine Ok.op rfl (OpOk.lit (E := 5) (.int .u8) ([e13] : List (Int)) ([.int .u8 e13] : List Value) (by kernel_rfl) (by kernel_rfl) rfl (by kernel_rfl) hL14 rfl fun b14 => ?_)
                obtain ⟨hb15, hF⟩ := hF
                refine Ok.op rfl (OpOk.append' (e := .int .u8) 1 140737488355328 2 0 rfl rfl rfl rfl hLyown5_0l11 hL14 Tryz.underlying61 (by kernel_rfl) (by kernel_rfl) (by kernel_rfl) hb15 rfl fun a15 c15 xs15 hL15 => ?_)
                refine Ok.batch 1 [(3, .map (some b1)), (4, .slice a15 (yown5_0l11 ++ ([e13] : List (Int))).length c15), (5, .int .i64 x11l11), (9, .slice axl_0 xl.length cxl_0), (10, .int .i64 (xl.length : Int)), (11, .int .i64 x11l11)] (by kernel_rfl) ?_
                refine Ok.nil ?_
                refine Ok.blockN ?_
                refine Ok.thenN ?_
                subst hg12
                exact fun a W hA hW => ⟨gj26, hxj26, a15, c15, (yown5_0l11 ++ ([e13] : List (Int))), xs15, hL15, hA.sub (by kernel_rfl), hW.sub (.cons _ (.cons _ (.cons_cons _ (.cons_cons _ .slnil)))), hF⟩
              | none =>
                replace hF := hF.2 hce13
                refine Ok.op rfl (OpOk.lookupNone (vt := .int .u8) (row := false) (z := .int .u8 0) (u := .int .u8 0) keyInt 2 rfl hM4 rfl rfl Tryz.underlying74 Tryz.underlying5 (by kernel_rfl) hce13 rfl rfl ?_)
                have hL16 : RepL gj26 (.int .u8) ([.int .u8 0] : List Value) ([0] : List (Int)) := (RepL.consN (c := [.int .u8 0]) rfl rfl)
                refine Ok.op rfl (OpOk.lit (E := 5) (.int .u8) ([0] : List (Int)) ([.int .u8 0] : List Value) (by kernel_rfl) (by kernel_rfl) rfl (by kernel_rfl) hL16 rfl fun b16 => ?_)
                obtain ⟨hb17, hF⟩ := hF
                refine Ok.op rfl (OpOk.append' (e := .int .u8) 1 140737488355328 2 0 rfl rfl rfl rfl hLyown5_0l11 hL16 Tryz.underlying61 (by kernel_rfl) (by kernel_rfl) (by kernel_rfl) hb17 rfl fun a17 c17 xs17 hL17 => ?_)
                refine Ok.batch 1 [(3, .map (some b1)), (4, .slice a17 (yown5_0l11 ++ ([0] : List (Int))).length c17), (5, .int .i64 x11l11), (9, .slice axl_0 xl.length cxl_0), (10, .int .i64 (xl.length : Int)), (11, .int .i64 x11l11)] (by kernel_rfl) ?_
                refine Ok.nil ?_
                refine Ok.blockN ?_
                refine Ok.thenN ?_
                subst hg12
                exact fun a W hA hW => ⟨gj26, hxj26, a17, c17, (yown5_0l11 ++ ([0] : List (Int))), xs17, hL17, hA.sub (by kernel_rfl), hW.sub (.cons _ (.cons _ (.cons_cons _ (.cons_cons _ .slnil)))), hF⟩
            · replace hF := hF.2 hc11
              refine Ok.seq ?_
              refine Ok.region ?_
              refine Ok.batch 2 [(3, .map (some b1)), (4, .slice ayown5_0l11 yown5_0l11.length cyown5_0l11), (5, .int .i64 x11l11), (6, .pointer (some ⟨bs6, 0, none⟩)), (9, .slice axl_0 xl.length cxl_0), (10, .int .i64 (xl.length : Int)), (11, .int .i64 x11l11), (33, .bool (e8.1 == 11))] (by kernel_rfl) ?_
              refine Ok.nil ?_
              refine Ok.thenN ?_
              refine Ok.cond (b := (e8.1 == 11)) rfl (fun hc18 => ?_) (fun hc18 => ?_)
              · replace hF := hF.1 hc18
                refine Ok.seq ?_
                refine Ok.quiet' (by kernel_rfl) (by kernel_rfl) ?_
                refine OkQ.batch 1 [(3, .map (some b1)), (4, .slice ayown5_0l11 yown5_0l11.length cyown5_0l11), (5, .int .i64 x11l11), (9, .slice axl_0 xl.length cxl_0), (10, .int .i64 (xl.length : Int)), (11, .int .i64 x11l11), (35, .pointer (some ⟨bs6, 1, none⟩))] (by kernel_rfl) ?_
                refine OkQ.op rfl (OpQ.step (v := .string ⟨⟨e8.2.1⟩⟩) (Yields.load 0 rfl rfl Tryz.underlying9 rfl (by kernel_rfl)) rfl rfl ?_)
                obtain ⟨h019, h119, hF⟩ := hF
                have he19 := get_of (l := e8.2.1) (0 : UInt8) h119
                generalize hg19 : (e8.2.1.getD (Int.toNat 0) 0) = e19 at he19 hF ⊢
                refine OkQ.op rfl (OpQ.step (v := .int .u8 (e19.toNat : Int)) (Yields.indexStr (k := .i64) (i := 0) (s := e8.2.1) (b := e19) (by kernel_rfl) (by kernel_rfl) Tryz.underlying9 h019 he19) rfl rfl ?_)
                refine OkQ.batch 4 [(3, .map (some b1)), (4, .slice ayown5_0l11 yown5_0l11.length cyown5_0l11), (5, .int .i64 x11l11), (9, .slice axl_0 xl.length cxl_0), (10, .int .i64 (xl.length : Int)), (11, .int .i64 x11l11), (37, .int .u8 (e19.toNat : Int)), (38, .slice ayown5_0l11 yown5_0l11.length cyown5_0l11), (41, .int .i64 (IntKind.wrap .i64 ((yown5_0l11.length : Int) - 1)))] (by kernel_rfl) ?_
                obtain ⟨h021, h121, hF⟩ := hF
                have he21 := get_of (l := yown5_0l11) (default : Int) h121
                generalize hg21 : (yown5_0l11.getD (Int.toNat (IntKind.wrap .i64 ((yown5_0l11.length : Int) - 1))) default) = e21 at he21 hF ⊢
                refine OkQ.op rfl (OpQ.indexOwn (e := .int .u8) (q := IntKind.wrap .i64 ((yown5_0l11.length : Int) - 1)) (el := e21) 1 rfl hLyown5_0l11 rfl rfl Tryz.underlying61 (by kernel_rfl) (by kernel_rfl) h021 he21 rfl fun cs20 _ hr20 hc20 => ?_)
                obtain rfl := hr20
                replace hc20 : ∀ j v, ([.int .u8 e21] : List Value)[j]? = some v → xsyown5_0l11[Int.toNat (IntKind.wrap .i64 ((yown5_0l11.length : Int) - 1)) * 1 + j]? = some v := hc20
                refine OkQ.op rfl (OpQ.step (v := .int .u8 e21) (Yields.loadOwn 1 0 rfl hc20 rfl Tryz.underlying5 rfl (by kernel_rfl)) rfl rfl ?_)
                refine OkQ.batch 1 [(3, .map (some b1)), (4, .slice ayown5_0l11 yown5_0l11.length cyown5_0l11), (5, .int .i64 x11l11), (9, .slice axl_0 xl.length cxl_0), (10, .int .i64 (xl.length : Int)), (11, .int .i64 x11l11), (44, .bool ((e19.toNat : Int) == e21))] (by kernel_rfl) ?_
                refine OkQ.nil ?_
                refine Ok.thenN ?_
                refine Ok.cond (b := ((e19.toNat : Int) == e21)) rfl (fun hc22 => ?_) (fun hc22 => ?_)
                · replace hF := hF.1 hc22
                  refine Ok.region ?_
                  refine Ok.batch 4 [(3, .map (some b1)), (5, .int .i64 x11l11), (9, .slice axl_0 xl.length cxl_0), (10, .int .i64 (xl.length : Int)), (11, .int .i64 x11l11), (45, .slice ayown5_0l11 yown5_0l11.length cyown5_0l11), (48, .int .i64 (IntKind.wrap .i64 ((yown5_0l11.length : Int) - 1)))] (by kernel_rfl) ?_
                  obtain ⟨h023, h223, hF⟩ := hF
                  refine Ok.op rfl (OpOk.cutOwn (e := .int .u8) (h := (IntKind.wrap .i64 ((yown5_0l11.length : Int) - 1))) 1 rfl rfl rfl hLyown5_0l11 Tryz.underlying61 (by kernel_rfl) h023 h223 rfl fun xs23 hL23 => ?_)
                  refine Ok.batch 1 [(3, .map (some b1)), (4, .slice ayown5_0l11 (yown5_0l11.take (Int.toNat (IntKind.wrap .i64 ((yown5_0l11.length : Int) - 1)))).length cyown5_0l11), (5, .int .i64 x11l11), (9, .slice axl_0 xl.length cxl_0), (10, .int .i64 (xl.length : Int)), (11, .int .i64 x11l11)] (by kernel_rfl) ?_
                  refine Ok.nil ?_
                  refine Ok.blockN ?_
                  refine Ok.thenN ?_
                  subst hg21
                  subst hg19
                  exact fun a W hA hW => ⟨gj26, hxj26, ayown5_0l11, cyown5_0l11, (yown5_0l11.take (Int.toNat (IntKind.wrap .i64 ((yown5_0l11.length : Int) - 1)))), xs23, hL23, hA.sub (by kernel_rfl), hW.sub (.cons _ (.cons_cons _ (.cons_cons _ .slnil))), hF⟩
                · replace hF := hF.2 hc22
                  refine Ok.skip ?_
                  refine Ok.blockN ?_
                  refine Ok.thenN ?_
                  subst hg21
                  subst hg19
                  exact fun a W hA hW => ⟨gj26, hxj26, ayown5_0l11, cyown5_0l11, yown5_0l11, xsyown5_0l11, hLyown5_0l11, hA.sub (by kernel_rfl), hW.sub (.cons _ (.cons_cons _ (.cons_cons _ .slnil))), hF⟩
              · replace hF := hF.2 hc18
                refine Ok.skip ?_
                refine Ok.blockN ?_
                refine Ok.thenN ?_
                exact fun a W hA hW => ⟨gj26, hxj26, ayown5_0l11, cyown5_0l11, yown5_0l11, xsyown5_0l11, hLyown5_0l11, hA.sub (by kernel_rfl), hW.sub (.cons _ (.cons_cons _ (.cons_cons _ .slnil))), hF⟩
        ·
          clear hF
          rintro a W ⟨gj22, hxj22, ayown5_0j22, cyown5_0j22, yown5_0j22, xsyown5_0j22, hLyown5_0j22, hA, hW, hF⟩
          refine (?_ : Ok _ _ _ _ _ _) a W hA hW
          clear hA hW
          replace hRxl_0 := hRxl_0.mono hxj22.1
          replace hM4 := hM4.mono hxj22.1
          refine Ok.seq ?_
          refine Ok.region ?_
          refine Ok.batch 3 [(3, .map (some b1)), (4, .slice ayown5_0j22 yown5_0j22.length cyown5_0j22), (5, .int .i64 x11l11), (9, .slice axl_0 xl.length cxl_0), (10, .int .i64 (xl.length : Int)), (11, .int .i64 x11l11), (52, .bool ((yown5_0j22.length : Int) == 0))] (by kernel_rfl) ?_
          refine Ok.nil ?_
          refine Ok.thenN ?_
          refine Ok.cond (b := ((yown5_0j22.length : Int) == 0)) rfl (fun hc10 => ?_) (fun hc10 => ?_)
          · replace hF := hF.1 hc10
            refine Ok.seq ?_
            refine Ok.region ?_
            refine Ok.batch 3 [(2, .int .i64 (IntKind.wrap .i64 (x11l11 + 1)))] (by kernel_rfl) ?_
            refine Ok.nil ?_
            refine Ok.thenN ?_
            refine Ok.ret ?_
            refine Ok.blockR ?_
            refine Ok.thenR ?_
            refine Ok.thenR ?_
            refine Ok.blockR ?_
            refine Ok.thenR ?_
            exact Ok.resP (vs := [.int .i64 (IntKind.wrap .i64 (x11l11 + 1))]) [] [] (by decide) rfl (.inl rfl) rfl (.cons (.tmp rfl) .nil) (hxl11.trans hxj22) ⟨(IntKind.wrap .i64 (x11l11 + 1)), rfl, rfl, hF⟩
          · replace hF := hF.2 hc10
            refine Ok.skip ?_
            refine Ok.blockN ?_
            refine Ok.thenN ?_
            refine Ok.region ?_
            refine Ok.batch 2 [(3, .map (some b1)), (4, .slice ayown5_0j22 yown5_0j22.length cyown5_0j22), (9, .slice axl_0 xl.length cxl_0), (10, .int .i64 (xl.length : Int)), (11, .int .i64 (IntKind.wrap .i64 (x11l11 + 1)))] (by kernel_rfl) ?_
            refine Ok.nil ?_
            refine Ok.thenN ?_
            subst hg8
            exact fun a W hA hW => ⟨k11, Nat.lt_succ_self _, gj22, (hxl11.trans hxj22), IntKind.wrap .i64 (x11l11 + 1), ayown5_0j22, cyown5_0j22, yown5_0j22, xsyown5_0j22, hLyown5_0j22, hA.sub (by kernel_rfl), hW, hF⟩
      · replace hF := hF.2 hc6
        refine Ok.exit ?_
        refine Ok.thenE ?_
        refine Ok.thenE ?_
        refine Ok.blockHit ?_
        refine Ok.thenN ?_
        refine Ok.seq ?_
        refine Ok.region ?_
        refine Ok.batch 1 [(2, .int .i64 0)] (by kernel_rfl) ?_
        refine Ok.nil ?_
        refine Ok.thenN ?_
        refine Ok.ret ?_
        exact Ok.resP (vs := [.int .i64 0]) [] [] (by decide) rfl (.inl rfl) rfl (.cons (.tmp rfl) .nil) hxl11 ⟨0, rfl, rfl, hF⟩
def closS (c : Int) : Int := match assocK c (putK 123 125 (putK 91 93 (putK 40 41 ([] : List (Int × Int))))) with
  | some e => e
  | none => 0
def endN : Int → List Int → List Tok → Option Int
  | _, _, [] => some 0
  | i, w, t :: r =>
    if (t.1 == 10 || t.1 == 2) = true then
      (if t.2.1.length = 0 ∨ 1000000 < t.2.1.length then none else endN (i + 1) (w ++ [closS ((t.2.1.getD (t.2.1.length - 1) 0).toNat : Int)]) r)
    else if (t.1 == 11) = true then
      (if t.2.1.length = 0 ∨ w.length = 0 then none else
        (if (((t.2.1.getD 0 0).toNat : Int) == w.getD (w.length - 1) default) = true then
          (if w.length = 1 then some (i + 1) else endN (i + 1) (w.take (w.length - 1)) r) else endN (i + 1) w r))
    else if w.length = 0 then some (i + 1) else endN (i + 1) w r
def endS (l : List Tok) : Int := (endN 0 [] l).getD 0
def endP (l : List Tok) : Prop := l.length ≤ 1000000 ∧ (endN 0 [] l).isSome = true
theorem men_F (l : List Tok) (hp : endP l) : menF l (fun r => r = endS l) := by
  obtain ⟨hl, hs⟩ := hp
  obtain ⟨r, hr⟩ := Option.isSome_iff_exists.1 hs
  have e0 : endS l = r := by unfold endS; rw [hr]; rfl
  rw [e0]
  have loop : ∀ (k i : Nat) (w : List Int), i + k = l.length → w.length ≤ i → endN (i : Int) w (l.drop i) = some r → menl11 l (fun x => x = r) (k + 1) (i : Int) w := by
    intro k
    induction k with
    | zero =>
      intro i w h hw he
      rw [List.drop_of_length_le (by omega), endN] at he
      exact ⟨fun h => by have := of_decide_eq_true h; omega, fun _ => Option.some.inj he⟩
    | succ k ih =>
      intro i w h hw he
      rw [drop_get default (by omega), endN] at he
      have j22n : ∀ w' : List Int, w'.length ≤ i + 1 → w'.length ≠ 0 → endN ((i : Int) + 1) w' (l.drop (i + 1)) = some r → menj22 (fun x => x = r) w' (i : Int) (menl11 l (fun x => x = r) (k + 1)) := by
        intro w' hw' hn he
        unfold menj22
        rw [w64 (by omega)]
        exact ⟨fun hc => by have := eq_of_beq hc; omega, fun _ => ih (i + 1) w' (by omega) hw' he⟩
      have j22z : ∀ w' : List Int, w'.length = 0 → (i : Int) + 1 = r → menj22 (fun x => x = r) w' (i : Int) (menl11 l (fun x => x = r) (k + 1)) := by
        intro w' hw' he
        unfold menj22
        rw [w64 (by omega)]
        exact ⟨fun _ => he, fun hc => by rw [hw'] at hc; cases hc⟩
      have key : menj26 (fun x => x = r) (l.getD i default) (i : Int) w (menl11 l (fun x => x = r) (k + 1)) := by
        generalize l.getD i default = t at he ⊢
        refine ⟨fun hc => ?_, fun hc => ?_⟩
        · rw [if_t hc] at he
          split at he
          · cases he
          · rename_i hn
            rw [w64 (by omega), show Int.toNat ((t.2.1.length : Int) - 1) = t.2.1.length - 1 by omega]
            refine ⟨by omega, by omega, fun e hce => ?_, fun hce => ?_⟩
            · unfold closS at he
              rw [hce] at he
              exact ⟨by rw [List.length_append]; simp; omega, j22n _ (by rw [List.length_append]; simp; omega) (by rw [List.length_append]; simp) he⟩
            · unfold closS at he
              rw [hce] at he
              exact ⟨by rw [List.length_append]; simp; omega, j22n _ (by rw [List.length_append]; simp; omega) (by rw [List.length_append]; simp) he⟩
        · rw [if_f hc] at he
          refine ⟨fun hc2 => ?_, fun hc2 => ?_⟩
          · rw [if_t hc2] at he
            split at he
            · cases he
            · rename_i hn
              rw [w64 (by omega), show Int.toNat ((w.length : Int) - 1) = w.length - 1 by omega]
              refine ⟨by omega, by show 0 < _; omega, by omega, by omega, fun h3 => ?_, fun h3 => ?_⟩
              · have h3 : (((t.2.1.getD 0 0).toNat : Int) == w.getD (w.length - 1) default) = true := h3
                rw [if_t h3] at he
                refine ⟨by omega, by omega, ?_⟩
                split at he
                · rename_i h1
                  exact j22z _ (by rw [List.length_take]; omega) (Option.some.inj he)
                · rename_i h1
                  exact j22n _ (by rw [List.length_take]; omega) (by rw [List.length_take]; omega) he
              · have h3 : (((t.2.1.getD 0 0).toNat : Int) == w.getD (w.length - 1) default) = false := h3
                rw [if_f h3] at he
                exact j22n _ (by omega) (by omega) he
          · rw [if_f hc2] at he
            split at he
            · rename_i h1
              exact j22z _ h1 (Option.some.inj he)
            · rename_i h1
              exact j22n _ (by omega) h1 he
      refine ⟨fun _ => ⟨by omega, by rw [Int.toNat_natCast]; omega, ?_⟩, fun hc => by have := of_decide_eq_false hc; omega⟩
      rw [Int.toNat_natCast]
      exact ⟨fun _ => key, fun _ => key⟩
  exact ⟨_, loop l.length 0 [] (by omega) (Nat.le_refl _) hr⟩
set_option linter.unusedVariables false in
theorem men_c {g : Ghost} {axl_0 : Option Addr} {cxl_0 : Nat} (xl : List (Int × List UInt8 × List UInt8 × Int)) (hRxl_0 : Rep g (.slice (.pair (.int .i64) (.pair (.str) (.pair (.str) (.int .i64))))) [.slice axl_0 xl.length cxl_0] xl)  (hp : endP xl) : CallsG Tryz.prog 22 #[.slice axl_0 xl.length cxl_0] g (.int .i64 (endS xl)) :=
  (men_ok xl hRxl_0 _ (men_F xl hp)).gives (by rintro g' H' v _ ⟨r0, rfl, rfl, hK⟩; subst hK; rfl)
end Go.Proofs.YtjehllphdpkjeaaGreatDoor.Me
