/- The script reader's small steps. -/
import Derived.Test.YtaojddkfacnddaaDoorBlc
import Derived.Test.YtaojddkfacnddaaDoorMor
import Derived.Test.YtaojddkfacnddaaDoorByt
import Derived.Test.YtaojddkfacnddaaDoorPl
import Derived.Test.YtaojddkfacnddaaDoorFld
namespace Go.Proofs.YtaojddkfacnddaaDoor.Jl
open Go Go.Eng Go.RowKit Bld Fl
set_option linter.unusedVariables false
abbrev TK := Int × Int × Int × List UInt8 × Int
abbrev RD := List UInt8 × Int × List TK
def ibS (s : List UInt8) (c : Int) : Int := Lib.indexByte s c.toNat.toUInt8
theorem ib_c {g : Ghost} (s : List UInt8) (c : Int) : CallsG Tryd.prog 29 #[.string ⟨⟨s⟩⟩, .int .u8 c] g (.int .i64 (ibS s c)) := fun W hW =>
  (Tryd.strings_IndexByte ⟨⟨s⟩⟩ c W).mono fun e W' ⟨he, hw⟩ => ⟨he, by subst hw; exact Below.refl _ _⟩
def DSpace : List (Int) := [0, 0, 0, 0, 0, 0, 0, 0, 0, 1, 1, 1, 1, 1, 0, 0, 0, 0, 0, 0, 0, 0, 0, 0, 0, 0, 0, 0, 0, 0, 0, 0, 1, 0, 0, 0, 0, 0, 0, 0, 0, 0, 0, 0, 0, 0, 0, 0, 0, 0, 0, 0, 0, 0, 0, 0, 0, 0, 0, 0, 0, 0, 0, 0, 0, 0, 0, 0, 0, 0, 0, 0, 0, 0, 0, 0, 0, 0, 0, 0, 0, 0, 0, 0, 0, 0, 0, 0, 0, 0, 0, 0, 0, 0, 0, 0, 0, 0, 0, 0, 0, 0, 0, 0, 0, 0, 0, 0, 0, 0, 0, 0, 0, 0, 0, 0, 0, 0, 0, 0, 0, 0, 0, 0, 0, 0, 0, 0, 0, 0, 0, 0, 0, 0, 0, 0, 0, 0, 0, 0, 0, 0, 0, 0, 0, 0, 0, 0, 0, 0, 0, 0, 0, 0, 0, 0, 0, 0, 0, 0, 0, 0, 0, 0, 0, 0, 0, 0, 0, 0, 0, 0, 0, 0, 0, 0, 0, 0, 0, 0, 0, 0, 0, 0, 0, 0, 0, 0, 0, 0, 0, 0, 0, 0, 0, 0, 0, 0, 0, 0, 0, 0, 0, 0, 0, 0, 0, 0, 0, 0, 0, 0, 0, 0, 0, 0, 0, 0, 0, 0, 0, 0, 0, 0, 0, 0, 0, 0, 0, 0, 0, 0, 0, 0, 0, 0, 0, 0, 0, 0, 0, 0, 0, 0, 0, 0, 0, 0, 0, 0, 0, 0, 0, 0, 0, 0]
def inP (l : List (List UInt8)) (_ : List UInt8) : Prop := l.length ≤ 1000000
def sidxl7b (xs : List (List UInt8)) (xv : List UInt8) (K : Int → Prop) (x8l7 : Int) (C7 : Int → Prop) : Prop :=
  ((decide (x8l7 < (xs.length : Int))) = true → (0 : Int) ≤ x8l7 ∧ Int.toNat x8l7 < xs.length ∧ (((xv == (xs.getD (Int.toNat x8l7) default))) = true → K x8l7) ∧ (((xv == (xs.getD (Int.toNat x8l7) default))) = false → C7 (IntKind.wrap .i64 (x8l7 + 1)))) ∧ ((decide (x8l7 < (xs.length : Int))) = false → K (-1))
def sidxl7 (xs : List (List UInt8)) (xv : List UInt8) (K : Int → Prop) : Nat → Int → Prop
  | 0, _ => False
  | k + 1, x8l7 => sidxl7b xs xv K x8l7 (sidxl7 xs xv K k)
def sidxF (xs : List (List UInt8)) (xv : List UInt8) (K : Int → Prop) : Prop :=
  ∃ k, sidxl7 xs xv K k 0
set_option maxHeartbeats 4000000 in
set_option maxRecDepth 100000 in
set_option linter.unusedVariables false in
theorem sidx_ok {g : Ghost} {axs_0 : Option Addr} {cxs_0 : Nat} (xs : List (List UInt8)) (xv : List UInt8) (hRxs_0 : Rep g (.slice (.str)) [.slice axs_0 xs.length cxs_0] xs) (K : Int → Prop)
    (hF : sidxF xs xv K) : CallsH Tryd.prog 75 #[.slice axs_0 xs.length cxs_0, .string ⟨⟨xv⟩⟩] g [] (fun g' H' v => ∃ (r0 : Int), v = .int .i64 r0 ∧ H' = [] ∧ K r0) := by
  refine CallsH.enter 19 [(0, .slice axs_0 xs.length cxs_0), (1, .string ⟨⟨xv⟩⟩)] Tryd.func75 rfl (by kernel_rfl) (by kernel_rfl) (by kernel_rfl) fun w0 => ?_
  refine Ok.seq ?_
  refine Ok.region ?_
  refine Ok.batch 1 [(0, .slice axs_0 xs.length cxs_0), (1, .string ⟨⟨xv⟩⟩)] (by kernel_rfl) ?_
  refine Ok.nil ?_
  refine Ok.thenN ?_
  refine Ok.seq ?_
  refine Ok.seq ?_
  refine Ok.region ?_
  refine Ok.batch 3 [(0, .slice axs_0 xs.length cxs_0), (1, .string ⟨⟨xv⟩⟩), (7, .int .i64 (xs.length : Int)), (8, .int .i64 0)] (by kernel_rfl) ?_
  refine Ok.nil ?_
  refine Ok.thenN ?_
  refine Ok.block ?_
  obtain ⟨k, hF⟩ := hF
  refine Ok.loop (fun k a W => ∃ (x8l7 : Int), StA 19 [(0, .slice axs_0 xs.length cxs_0), (1, .string ⟨⟨xv⟩⟩), (7, .int .i64 (xs.length : Int)), (8, .int .i64 x8l7)] a ∧ StW w0 [] g W ∧ sidxl7 xs xv K k x8l7) k ?_ ?_
  ·
    exact fun a W hA hW => ⟨0, hA.sub (by kernel_rfl), hW, hF⟩
  ·
    clear hF
    rintro k7 a W ⟨x8l7, hA, hW, hF⟩
    cases k7 with
    | zero => exact (hF : False).elim
    | succ k7 =>
      refine (?_ : Ok _ _ _ _ _ _) a W hA hW
      clear hA hW
      refine Ok.seq ?_
      refine Ok.region ?_
      refine Ok.batch 1 [(0, .slice axs_0 xs.length cxs_0), (1, .string ⟨⟨xv⟩⟩), (7, .int .i64 (xs.length : Int)), (8, .int .i64 x8l7), (9, .bool (decide (x8l7 < (xs.length : Int))))] (by kernel_rfl) ?_
      refine Ok.nil ?_
      refine Ok.thenN ?_
      refine Ok.seq ?_
      refine Ok.cond (b := decide (x8l7 < (xs.length : Int))) rfl (fun hc1 => ?_) (fun hc1 => ?_)
      · replace hF := hF.1 hc1
        refine Ok.skip ?_
        refine Ok.thenN ?_
        refine Ok.seq ?_
        refine Ok.block ?_
        refine Ok.seq ?_
        refine Ok.region ?_
        refine Ok.batch 2 [(0, .slice axs_0 xs.length cxs_0), (1, .string ⟨⟨xv⟩⟩), (5, .int .i64 x8l7), (7, .int .i64 (xs.length : Int)), (8, .int .i64 x8l7)] (by kernel_rfl) ?_
        refine Ok.nil ?_
        refine Ok.thenN ?_
        refine Ok.seq ?_
        refine Ok.region ?_
        refine Ok.batch 3 [(0, .slice axs_0 xs.length cxs_0), (1, .string ⟨⟨xv⟩⟩), (5, .int .i64 x8l7), (7, .int .i64 (xs.length : Int)), (8, .int .i64 x8l7), (11, .string ⟨⟨xv⟩⟩), (12, .slice axs_0 xs.length cxs_0), (13, .int .i64 x8l7)] (by kernel_rfl) ?_
        obtain ⟨h03, h13, hF⟩ := hF
        have he3 := get_of (l := xs) (default : List UInt8) h13
        generalize hg3 : (xs.getD (Int.toNat x8l7) default) = e3 at he3 hF ⊢
        refine Ok.op rfl (OpOk.indexRo (e := .str) (i := x8l7) (el := e3) rfl rfl Tryd.underlying65 (by kernel_rfl) hRxs_0 h03 he3 rfl fun q2 o2 cs2 _ hat2 hr2 => ?_)
        obtain rfl := hr2
        replace hat2 : At g q2 o2 [.string ⟨⟨e3⟩⟩] := hat2
        refine Ok.op rfl (OpOk.step (v := .string ⟨⟨e3⟩⟩) (Yields.loadRo 0 hat2 (by kernel_rfl) Tryd.underlying9 rfl (by kernel_rfl)) rfl rfl ?_)
        refine Ok.op rfl (OpOk.step (v := .bool (xv == e3)) (Yields.strCmp (f := .eql) (a := xv) (b := e3) (by kernel_rfl) (by kernel_rfl) rfl) rfl rfl ?_)
        refine Ok.nil ?_
        refine Ok.thenN ?_
        refine Ok.cond (b := (xv == e3)) rfl (fun hc4 => ?_) (fun hc4 => ?_)
        · replace hF := hF.1 hc4
          refine Ok.seq ?_
          refine Ok.region ?_
          refine Ok.batch 2 [(4, .int .i64 x8l7)] (by kernel_rfl) ?_
          refine Ok.nil ?_
          refine Ok.thenN ?_
          refine Ok.ret ?_
          refine Ok.blockR ?_
          refine Ok.thenR ?_
          refine Ok.thenR ?_
          refine Ok.blockR ?_
          refine Ok.thenR ?_
          exact Ok.resH (vs := [.int .i64 x8l7]) (.inl rfl) rfl (.cons (.tmp rfl) .nil) (Gext.refl w0 g) ⟨x8l7, rfl, rfl, hF⟩
        · replace hF := hF.2 hc4
          refine Ok.skip ?_
          refine Ok.blockN ?_
          refine Ok.thenN ?_
          refine Ok.region ?_
          refine Ok.batch 2 [(0, .slice axs_0 xs.length cxs_0), (1, .string ⟨⟨xv⟩⟩), (7, .int .i64 (xs.length : Int)), (8, .int .i64 (IntKind.wrap .i64 (x8l7 + 1)))] (by kernel_rfl) ?_
          refine Ok.nil ?_
          refine Ok.thenN ?_
          subst hg3
          exact fun a W hA hW => ⟨k7, Nat.lt_succ_self _, IntKind.wrap .i64 (x8l7 + 1), hA.sub (by kernel_rfl), hW, hF⟩
      · replace hF := hF.2 hc1
        refine Ok.exit ?_
        refine Ok.thenE ?_
        refine Ok.thenE ?_
        refine Ok.blockHit ?_
        refine Ok.thenN ?_
        refine Ok.seq ?_
        refine Ok.region ?_
        refine Ok.batch 1 [(4, .int .i64 (-1))] (by kernel_rfl) ?_
        refine Ok.nil ?_
        refine Ok.thenN ?_
        refine Ok.ret ?_
        exact Ok.resH (vs := [.int .i64 (-1)]) (.inl rfl) rfl (.cons (.tmp rfl) .nil) (Gext.refl w0 g) ⟨(-1), rfl, rfl, hF⟩
def sidxN (v : List UInt8) : List (List UInt8) → Nat → Int
  | [], _ => -1
  | x :: l, i => if (v == x) = true then (i : Int) else sidxN v l (i + 1)
def sidxS (l : List (List UInt8)) (s : List UInt8) : Int := sidxN s l 0
theorem sidx_F (l : List (List UInt8)) (s : List UInt8) (hp : inP l s) : sidxF l s (fun r => r = sidxS l s) := by
  unfold inP at hp
  have loop : ∀ (k i : Nat), i + k = l.length → sidxS l s = sidxN s (l.drop i) i → sidxl7 l s (fun r => r = sidxS l s) (k + 1) (i : Int) := by
    intro k
    induction k with
    | zero =>
      intro i h h2
      rw [List.drop_of_length_le (by omega)] at h2
      exact ⟨fun hc => by have := of_decide_eq_true hc; omega, fun _ => h2.symm⟩
    | succ k ih =>
      intro i h h2
      rw [drop_get (l := l) default (by omega), sidxN] at h2
      refine ⟨fun _ => ⟨by omega, by omega, fun hc => ?_, fun hc => ?_⟩, fun hc => by have := of_decide_eq_false hc; omega⟩
      · rw [Int.toNat_natCast] at hc
        rw [h2, if_t hc]
      · rw [Int.toNat_natCast] at hc
        rw [if_f hc] at h2
        rw [w64 (by omega)]
        exact ih (i + 1) (by omega) h2
  exact ⟨_, loop l.length 0 (by omega) rfl⟩
set_option linter.unusedVariables false in
theorem sidx_c {g : Ghost} {axs_0 : Option Addr} {cxs_0 : Nat} (xs : List (List UInt8)) (xv : List UInt8) (hRxs_0 : Rep g (.slice (.str)) [.slice axs_0 xs.length cxs_0] xs)  (hp : inP xs xv) : CallsG Tryd.prog 75 #[.slice axs_0 xs.length cxs_0, .string ⟨⟨xv⟩⟩] g (.int .i64 (sidxS xs xv)) :=
  (sidx_ok xs xv hRxs_0 _ (sidx_F xs xv hp)).gives (by rintro g' H' v _ ⟨r0, rfl, rfl, hK⟩; subst hK; rfl)
theorem sidx_con (s : List UInt8) : ∀ (l : List (List UInt8)) (i : Nat), decide (sidxN s l i ≥ 0) = l.contains s
  | [], _ => rfl
  | x :: l, i => by
    rw [sidxN, List.contains_cons]
    cases h : s == x
    · rw [if_f rfl, Bool.false_or, sidx_con s l (i + 1)]
    · rw [if_t rfl]; simp
def sconF (xs : List (List UInt8)) (xv : List UInt8) (K : Bool → Prop) : Prop :=
  inP xs xv ∧ K (decide ((sidxS xs xv) ≥ 0))
set_option maxHeartbeats 4000000 in
set_option maxRecDepth 100000 in
set_option linter.unusedVariables false in
theorem scon_ok {g : Ghost} {axs_0 : Option Addr} {cxs_0 : Nat} (xs : List (List UInt8)) (xv : List UInt8) (hRxs_0 : Rep g (.slice (.str)) [.slice axs_0 xs.length cxs_0] xs) (K : Bool → Prop)
    (hF : sconF xs xv K) : CallsH Tryd.prog 46 #[.slice axs_0 xs.length cxs_0, .string ⟨⟨xv⟩⟩] g [] (fun g' H' v => ∃ (r0 : Bool), v = .bool r0 ∧ H' = [] ∧ K r0) := by
  refine CallsH.enter 9 [(0, .slice axs_0 xs.length cxs_0), (1, .string ⟨⟨xv⟩⟩)] Tryd.func46 rfl (by kernel_rfl) (by kernel_rfl) (by kernel_rfl) fun w0 => ?_
  refine Ok.seq ?_
  refine Ok.region ?_
  refine Ok.batch 1 [(0, .slice axs_0 xs.length cxs_0), (1, .string ⟨⟨xv⟩⟩)] (by kernel_rfl) ?_
  refine Ok.nil ?_
  refine Ok.thenN ?_
  refine Ok.seq ?_
  refine Ok.region ?_
  refine Ok.batch 2 [(5, .slice axs_0 xs.length cxs_0), (6, .string ⟨⟨xv⟩⟩)] (by kernel_rfl) ?_
  obtain ⟨hp1, hF⟩ := hF
  refine Ok.op rfl (OpOk.callG (v := .int .i64 (sidxS xs xv)) (enters (by kernel_rfl) (fun _ => by kernel_rfl)) (fun W hW => sidx_c xs xv (hRxs_0.mono hW.sees) hp1) rfl ?_)
  refine Ok.batch 2 [(4, .bool (decide ((sidxS xs xv) ≥ 0)))] (by kernel_rfl) ?_
  refine Ok.nil ?_
  refine Ok.thenN ?_
  refine Ok.ret ?_
  exact Ok.resH (vs := [.bool (decide ((sidxS xs xv) ≥ 0))]) (.inl rfl) rfl (.cons (.tmp rfl) .nil) (Gext.refl w0 g) ⟨(decide ((sidxS xs xv) ≥ 0)), rfl, rfl, hF⟩
def sconM (xs : List (List UInt8)) (xv : List UInt8) : Bool := (decide ((sidxS xs xv) ≥ 0))
set_option linter.unusedSimpArgs false in
set_option linter.unusedVariables false in
theorem sconF_A (xs : List (List UInt8)) (xv : List UInt8) (hp : inP xs xv) (P : Bool → Prop) (h : P (sconM xs xv)) : sconF xs xv (fun k0 => P k0) := by
  unfold sconM at h
  unfold sconF
  refine ⟨?_, ?_⟩
  · first | exact hp | omega | assumption | exact trivial | (have h0 := List.length_pos_iff.mpr (by assumption); omega) | (simp; omega) | (simp at *; omega)
  exact h
theorem scon_F (xs : List (List UInt8)) (xv : List UInt8) (hp : inP xs xv) : sconF xs xv (fun k0 => k0 = sconM xs xv) :=
  sconF_A xs xv hp (fun z => z = sconM xs xv) rfl
set_option linter.unusedVariables false in
theorem scon_c {g : Ghost} {axs_0 : Option Addr} {cxs_0 : Nat} (xs : List (List UInt8)) (xv : List UInt8) (hRxs_0 : Rep g (.slice (.str)) [.slice axs_0 xs.length cxs_0] xs)  (hp : inP xs xv) : CallsG Tryd.prog 46 #[.slice axs_0 xs.length cxs_0, .string ⟨⟨xv⟩⟩] g (.bool (sconM xs xv)) :=
  (scon_ok xs xv hRxs_0 _ (scon_F xs xv hp)).gives (by rintro g' H' v _ ⟨r0, rfl, rfl, hK⟩; subst hK; rfl)
theorem scon_eq (l : List (List UInt8)) (s : List UInt8) : sconM l s = l.contains s := sidx_con s l 0
def jletF (xc : Int) (K : Bool → Prop) : Prop :=
  K ((((decide (xc ≥ 97)) && (decide (xc ≤ 122))) || ((decide (xc ≥ 65)) && (decide (xc ≤ 90)))) || (xc == 95))
set_option maxHeartbeats 4000000 in
set_option maxRecDepth 100000 in
set_option linter.unusedVariables false in
theorem jlet_ok {g : Ghost} (xc : Int) (K : Bool → Prop)
    (hF : jletF xc K) : CallsH Tryd.prog 30 #[.int .u8 xc] g [] (fun g' H' v => ∃ (r0 : Bool), v = .bool r0 ∧ H' = [] ∧ K r0) := by
  refine CallsH.enter 21 [(0, .int .u8 xc)] Tryd.func30 rfl (by kernel_rfl) (by kernel_rfl) (by kernel_rfl) fun w0 => ?_
  refine Ok.seq ?_
  refine Ok.region ?_
  refine Ok.batch 1 [(0, .int .u8 xc)] (by kernel_rfl) ?_
  refine Ok.nil ?_
  refine Ok.thenN ?_
  refine Ok.seq ?_
  refine Ok.region ?_
  refine Ok.batch 3 [(0, .int .u8 xc), (5, .bool (decide (xc ≥ 97)))] (by kernel_rfl) ?_
  refine Ok.midway 3 [(0, .int .u8 xc), (8, .bool ((decide (xc ≥ 97)) && (decide (xc ≤ 122))))] (fun hR1 => ?_) ?_
  · refine Ok.boolAt 5 (decide (xc ≥ 97)) rfl (fun hc2 => ?_) (fun hc2 => ?_)
    · skip
      refine Ok.batch 3 [(0, .int .u8 xc), (8, .bool (decide (xc ≤ 122)))] (by kernel_rfl) ?_
      refine Ok.reval 8 rfl (show (.bool (decide (xc ≤ 122)) : Value) = .bool ((decide (xc ≥ 97)) && (decide (xc ≤ 122))) from congrArg Value.bool (mand_t hc2)) ?_
      refine Ok.batch 0 [(0, .int .u8 xc), (8, .bool ((decide (xc ≥ 97)) && (decide (xc ≤ 122))))] (by kernel_rfl) ?_
      exact hR1
    · skip
      refine Ok.batch 3 [(0, .int .u8 xc), (8, .bool false)] (by kernel_rfl) ?_
      refine Ok.reval 8 rfl (show (.bool false : Value) = .bool ((decide (xc ≥ 97)) && (decide (xc ≤ 122))) from congrArg Value.bool (mand_f hc2)) ?_
      refine Ok.batch 0 [(0, .int .u8 xc), (8, .bool ((decide (xc ≥ 97)) && (decide (xc ≤ 122))))] (by kernel_rfl) ?_
      exact hR1
  refine Ok.batch 1 [(0, .int .u8 xc), (9, .bool ((decide (xc ≥ 97)) && (decide (xc ≤ 122))))] (by kernel_rfl) ?_
  refine Ok.midway 7 [(0, .int .u8 xc), (16, .bool (((decide (xc ≥ 97)) && (decide (xc ≤ 122))) || ((decide (xc ≥ 65)) && (decide (xc ≤ 90)))))] (fun hR3 => ?_) ?_
  · refine Ok.boolAt 9 (((decide (xc ≥ 97)) && (decide (xc ≤ 122)))) rfl (fun hc4 => ?_) (fun hc4 => ?_)
    · skip
      refine Ok.batch 7 [(0, .int .u8 xc), (16, .bool true)] (by kernel_rfl) ?_
      refine Ok.reval 16 rfl (show (.bool true : Value) = .bool (((decide (xc ≥ 97)) && (decide (xc ≤ 122))) || ((decide (xc ≥ 65)) && (decide (xc ≤ 90)))) from congrArg Value.bool (mor_t hc4)) ?_
      refine Ok.batch 0 [(0, .int .u8 xc), (16, .bool (((decide (xc ≥ 97)) && (decide (xc ≤ 122))) || ((decide (xc ≥ 65)) && (decide (xc ≤ 90)))))] (by kernel_rfl) ?_
      exact hR3
    · skip
      refine Ok.batch 3 [(0, .int .u8 xc), (9, .bool false), (12, .bool (decide (xc ≥ 65)))] (by kernel_rfl) ?_
      refine Ok.midway 3 [(0, .int .u8 xc), (9, .bool false), (15, .bool ((decide (xc ≥ 65)) && (decide (xc ≤ 90))))] (fun hR5 => ?_) ?_
      · refine Ok.boolAt 12 (decide (xc ≥ 65)) rfl (fun hc6 => ?_) (fun hc6 => ?_)
        · skip
          refine Ok.batch 3 [(0, .int .u8 xc), (9, .bool false), (15, .bool (decide (xc ≤ 90)))] (by kernel_rfl) ?_
          refine Ok.reval 15 rfl (show (.bool (decide (xc ≤ 90)) : Value) = .bool ((decide (xc ≥ 65)) && (decide (xc ≤ 90))) from congrArg Value.bool (mand_t hc6)) ?_
          refine Ok.batch 0 [(0, .int .u8 xc), (9, .bool false), (15, .bool ((decide (xc ≥ 65)) && (decide (xc ≤ 90))))] (by kernel_rfl) ?_
          exact hR5
        · skip
          refine Ok.batch 3 [(0, .int .u8 xc), (9, .bool false), (15, .bool false)] (by kernel_rfl) ?_
          refine Ok.reval 15 rfl (show (.bool false : Value) = .bool ((decide (xc ≥ 65)) && (decide (xc ≤ 90))) from congrArg Value.bool (mand_f hc6)) ?_
          refine Ok.batch 0 [(0, .int .u8 xc), (9, .bool false), (15, .bool ((decide (xc ≥ 65)) && (decide (xc ≤ 90))))] (by kernel_rfl) ?_
          exact hR5
      refine Ok.batch 1 [(0, .int .u8 xc), (16, .bool ((decide (xc ≥ 65)) && (decide (xc ≤ 90))))] (by kernel_rfl) ?_
      refine Ok.reval 16 rfl (show (.bool ((decide (xc ≥ 65)) && (decide (xc ≤ 90))) : Value) = .bool (((decide (xc ≥ 97)) && (decide (xc ≤ 122))) || ((decide (xc ≥ 65)) && (decide (xc ≤ 90)))) from congrArg Value.bool (mor_f hc4)) ?_
      refine Ok.batch 0 [(0, .int .u8 xc), (16, .bool (((decide (xc ≥ 97)) && (decide (xc ≤ 122))) || ((decide (xc ≥ 65)) && (decide (xc ≤ 90)))))] (by kernel_rfl) ?_
      exact hR3
  refine Ok.batch 1 [(0, .int .u8 xc), (17, .bool (((decide (xc ≥ 97)) && (decide (xc ≤ 122))) || ((decide (xc ≥ 65)) && (decide (xc ≤ 90)))))] (by kernel_rfl) ?_
  refine Ok.midway 3 [(20, .bool ((((decide (xc ≥ 97)) && (decide (xc ≤ 122))) || ((decide (xc ≥ 65)) && (decide (xc ≤ 90)))) || (xc == 95)))] (fun hR7 => ?_) ?_
  · refine Ok.boolAt 17 ((((decide (xc ≥ 97)) && (decide (xc ≤ 122))) || ((decide (xc ≥ 65)) && (decide (xc ≤ 90))))) rfl (fun hc8 => ?_) (fun hc8 => ?_)
    · skip
      refine Ok.batch 3 [(20, .bool true)] (by kernel_rfl) ?_
      refine Ok.reval 20 rfl (show (.bool true : Value) = .bool ((((decide (xc ≥ 97)) && (decide (xc ≤ 122))) || ((decide (xc ≥ 65)) && (decide (xc ≤ 90)))) || (xc == 95)) from congrArg Value.bool (mor_t hc8)) ?_
      refine Ok.batch 0 [(20, .bool ((((decide (xc ≥ 97)) && (decide (xc ≤ 122))) || ((decide (xc ≥ 65)) && (decide (xc ≤ 90)))) || (xc == 95)))] (by kernel_rfl) ?_
      exact hR7
    · skip
      refine Ok.batch 3 [(20, .bool (xc == 95))] (by kernel_rfl) ?_
      refine Ok.reval 20 rfl (show (.bool (xc == 95) : Value) = .bool ((((decide (xc ≥ 97)) && (decide (xc ≤ 122))) || ((decide (xc ≥ 65)) && (decide (xc ≤ 90)))) || (xc == 95)) from congrArg Value.bool (mor_f hc8)) ?_
      refine Ok.batch 0 [(20, .bool ((((decide (xc ≥ 97)) && (decide (xc ≤ 122))) || ((decide (xc ≥ 65)) && (decide (xc ≤ 90)))) || (xc == 95)))] (by kernel_rfl) ?_
      exact hR7
  refine Ok.batch 1 [(2, .bool ((((decide (xc ≥ 97)) && (decide (xc ≤ 122))) || ((decide (xc ≥ 65)) && (decide (xc ≤ 90)))) || (xc == 95)))] (by kernel_rfl) ?_
  refine Ok.nil ?_
  refine Ok.thenN ?_
  refine Ok.ret ?_
  exact Ok.resH (vs := [.bool ((((decide (xc ≥ 97)) && (decide (xc ≤ 122))) || ((decide (xc ≥ 65)) && (decide (xc ≤ 90)))) || (xc == 95))]) (.inl rfl) rfl (.cons (.tmp rfl) .nil) (Gext.refl w0 g) ⟨((((decide (xc ≥ 97)) && (decide (xc ≤ 122))) || ((decide (xc ≥ 65)) && (decide (xc ≤ 90)))) || (xc == 95)), rfl, rfl, hF⟩
def jletM (xc : Int) : Bool := ((((decide (xc ≥ 97)) && (decide (xc ≤ 122))) || ((decide (xc ≥ 65)) && (decide (xc ≤ 90)))) || (xc == 95))
set_option linter.unusedSimpArgs false in
set_option linter.unusedVariables false in
theorem jletF_A (xc : Int) (P : Bool → Prop) (h : P (jletM xc)) : jletF xc (fun k0 => P k0) := by
  unfold jletM at h
  unfold jletF
  exact h
theorem jlet_F (xc : Int) : jletF xc (fun k0 => k0 = jletM xc) :=
  jletF_A xc (fun z => z = jletM xc) rfl
set_option linter.unusedVariables false in
theorem jlet_c {g : Ghost} (xc : Int)  : CallsG Tryd.prog 30 #[.int .u8 xc] g (.bool (jletM xc)) :=
  (jlet_ok xc _ (jlet_F xc)).gives (by rintro g' H' v _ ⟨r0, rfl, rfl, hK⟩; subst hK; rfl)
def jdigF (xc : Int) (K : Bool → Prop) : Prop :=
  K ((decide (xc ≥ 48)) && (decide (xc ≤ 57)))
set_option maxHeartbeats 4000000 in
set_option maxRecDepth 100000 in
set_option linter.unusedVariables false in
theorem jdig_ok {g : Ghost} (xc : Int) (K : Bool → Prop)
    (hF : jdigF xc K) : CallsH Tryd.prog 32 #[.int .u8 xc] g [] (fun g' H' v => ∃ (r0 : Bool), v = .bool r0 ∧ H' = [] ∧ K r0) := by
  refine CallsH.enter 9 [(0, .int .u8 xc)] Tryd.func32 rfl (by kernel_rfl) (by kernel_rfl) (by kernel_rfl) fun w0 => ?_
  refine Ok.seq ?_
  refine Ok.region ?_
  refine Ok.batch 1 [(0, .int .u8 xc)] (by kernel_rfl) ?_
  refine Ok.nil ?_
  refine Ok.thenN ?_
  refine Ok.seq ?_
  refine Ok.region ?_
  refine Ok.batch 3 [(0, .int .u8 xc), (5, .bool (decide (xc ≥ 48)))] (by kernel_rfl) ?_
  refine Ok.midway 3 [(8, .bool ((decide (xc ≥ 48)) && (decide (xc ≤ 57))))] (fun hR1 => ?_) ?_
  · refine Ok.boolAt 5 (decide (xc ≥ 48)) rfl (fun hc2 => ?_) (fun hc2 => ?_)
    · skip
      refine Ok.batch 3 [(8, .bool (decide (xc ≤ 57)))] (by kernel_rfl) ?_
      refine Ok.reval 8 rfl (show (.bool (decide (xc ≤ 57)) : Value) = .bool ((decide (xc ≥ 48)) && (decide (xc ≤ 57))) from congrArg Value.bool (mand_t hc2)) ?_
      refine Ok.batch 0 [(8, .bool ((decide (xc ≥ 48)) && (decide (xc ≤ 57))))] (by kernel_rfl) ?_
      exact hR1
    · skip
      refine Ok.batch 3 [(8, .bool false)] (by kernel_rfl) ?_
      refine Ok.reval 8 rfl (show (.bool false : Value) = .bool ((decide (xc ≥ 48)) && (decide (xc ≤ 57))) from congrArg Value.bool (mand_f hc2)) ?_
      refine Ok.batch 0 [(8, .bool ((decide (xc ≥ 48)) && (decide (xc ≤ 57))))] (by kernel_rfl) ?_
      exact hR1
  refine Ok.batch 1 [(2, .bool ((decide (xc ≥ 48)) && (decide (xc ≤ 57))))] (by kernel_rfl) ?_
  refine Ok.nil ?_
  refine Ok.thenN ?_
  refine Ok.ret ?_
  exact Ok.resH (vs := [.bool ((decide (xc ≥ 48)) && (decide (xc ≤ 57)))]) (.inl rfl) rfl (.cons (.tmp rfl) .nil) (Gext.refl w0 g) ⟨((decide (xc ≥ 48)) && (decide (xc ≤ 57))), rfl, rfl, hF⟩
def jdigM (xc : Int) : Bool := ((decide (xc ≥ 48)) && (decide (xc ≤ 57)))
set_option linter.unusedSimpArgs false in
set_option linter.unusedVariables false in
theorem jdigF_A (xc : Int) (P : Bool → Prop) (h : P (jdigM xc)) : jdigF xc (fun k0 => P k0) := by
  unfold jdigM at h
  unfold jdigF
  exact h
theorem jdig_F (xc : Int) : jdigF xc (fun k0 => k0 = jdigM xc) :=
  jdigF_A xc (fun z => z = jdigM xc) rfl
set_option linter.unusedVariables false in
theorem jdig_c {g : Ghost} (xc : Int)  : CallsG Tryd.prog 32 #[.int .u8 xc] g (.bool (jdigM xc)) :=
  (jdig_ok xc _ (jdig_F xc)).gives (by rintro g' H' v _ ⟨r0, rfl, rfl, hK⟩; subst hK; rfl)
def rdP (x : RD) : Prop := x.1.length ≤ 1000000 ∧ 0 ≤ x.2.1 ∧ x.2.1 ≤ (x.1.length : Int)
def jpeekF (xr : List UInt8 × Int × List (Int × Int × Int × List UInt8 × Int)) (xn : Int) (K : Int → (List UInt8 × Int × List (Int × Int × Int × List UInt8 × Int)) → Prop) : Prop :=
  ((decide ((IntKind.wrap .i64 (xr.2.1 + xn)) < (xr.1.length : Int))) = true → (0 : Int) ≤ (IntKind.wrap .i64 (xr.2.1 + xn)) ∧ Int.toNat (IntKind.wrap .i64 (xr.2.1 + xn)) < xr.1.length ∧ K ((xr.1.getD (Int.toNat (IntKind.wrap .i64 (xr.2.1 + xn))) 0).toNat : Int) xr) ∧ ((decide ((IntKind.wrap .i64 (xr.2.1 + xn)) < (xr.1.length : Int))) = false → K 0 xr)
set_option maxHeartbeats 4000000 in
set_option maxRecDepth 100000 in
set_option linter.unusedVariables false in
theorem jpeek_ok {g : Ghost} {bxr : Nat} {axr_0 : Option Addr} {cxr_0 : Nat} {xsxr_0 : List Value} (xr : List UInt8 × Int × List (Int × Int × Int × List UInt8 × Int)) (xn : Int) (hLxr_0 : RepL g (.pair (.int .i64) (.pair (.int .i64) (.pair (.int .i64) (.pair (.str) (.int .i64))))) xsxr_0 xr.2.2) (K : Int → (List UInt8 × Int × List (Int × Int × Int × List UInt8 × Int)) → Prop)
    (hF : jpeekF xr xn K) : CallsH Tryd.prog 28 #[.pointer (some ⟨bxr, 0, none⟩), .int .i64 xn] g [.blk bxr (.cells #[.string ⟨⟨xr.1⟩⟩, .int .i64 xr.2.1, .slice axr_0 xr.2.2.length cxr_0] 37), .own (.slice axr_0 xr.2.2.length cxr_0) 39 5 xr.2.2.length xsxr_0] (fun g' H' v => ∃ (r0 : Int), ∃ (fxr : List UInt8 × Int × List (Int × Int × Int × List UInt8 × Int)), ∃ (afxr_0 : Option Addr) (cfxr_0 : Nat) (xsfxr_0 : List Value), v = .int .u8 r0 ∧ RepL g' (.pair (.int .i64) (.pair (.int .i64) (.pair (.int .i64) (.pair (.str) (.int .i64))))) xsfxr_0 fxr.2.2 ∧ H' = [.blk bxr (.cells #[.string ⟨⟨fxr.1⟩⟩, .int .i64 fxr.2.1, .slice afxr_0 fxr.2.2.length cfxr_0] 37), .own (.slice afxr_0 fxr.2.2.length cfxr_0) 39 5 fxr.2.2.length xsfxr_0] ∧ K r0 fxr) := by
  refine CallsH.enter 28 [(0, .pointer (some ⟨bxr, 0, none⟩)), (1, .int .i64 xn)] Tryd.func28 rfl (by kernel_rfl) (by kernel_rfl) (by kernel_rfl) fun w0 => ?_
  refine Ok.seq ?_
  refine Ok.region ?_
  refine Ok.batch 1 [(0, .pointer (some ⟨bxr, 0, none⟩)), (1, .int .i64 xn)] (by kernel_rfl) ?_
  refine Ok.nil ?_
  refine Ok.thenN ?_
  refine Ok.seq ?_
  refine Ok.seq ?_
  refine Ok.quiet' (by kernel_rfl) (by kernel_rfl) ?_
  refine OkQ.batch 3 [(0, .pointer (some ⟨bxr, 0, none⟩)), (1, .int .i64 xn), (7, .pointer (some ⟨bxr, 1, none⟩))] (by kernel_rfl) ?_
  refine OkQ.op rfl (OpQ.step (v := .int .i64 xr.2.1) (Yields.load 0 rfl rfl Tryd.underlying3 rfl (by kernel_rfl)) rfl rfl ?_)
  refine OkQ.batch 5 [(0, .pointer (some ⟨bxr, 0, none⟩)), (1, .int .i64 xn), (10, .int .i64 (IntKind.wrap .i64 (xr.2.1 + xn))), (13, .pointer (some ⟨bxr, 0, none⟩))] (by kernel_rfl) ?_
  refine OkQ.op rfl (OpQ.step (v := .string ⟨⟨xr.1⟩⟩) (Yields.load 0 rfl rfl Tryd.underlying9 rfl (by kernel_rfl)) rfl rfl ?_)
  refine OkQ.batch 2 [(0, .pointer (some ⟨bxr, 0, none⟩)), (1, .int .i64 xn), (16, .bool (decide ((IntKind.wrap .i64 (xr.2.1 + xn)) < (xr.1.length : Int))))] (by kernel_rfl) ?_
  refine OkQ.nil ?_
  refine Ok.thenN ?_
  refine Ok.cond (b := decide ((IntKind.wrap .i64 (xr.2.1 + xn)) < (xr.1.length : Int))) rfl (fun hc1 => ?_) (fun hc1 => ?_)
  · replace hF := hF.1 hc1
    refine Ok.seq ?_
    refine Ok.quiet' (by kernel_rfl) (by kernel_rfl) ?_
    refine OkQ.batch 3 [(0, .pointer (some ⟨bxr, 0, none⟩)), (1, .int .i64 xn), (19, .pointer (some ⟨bxr, 0, none⟩))] (by kernel_rfl) ?_
    refine OkQ.op rfl (OpQ.step (v := .string ⟨⟨xr.1⟩⟩) (Yields.load 0 rfl rfl Tryd.underlying9 rfl (by kernel_rfl)) rfl rfl ?_)
    refine OkQ.batch 3 [(1, .int .i64 xn), (20, .string ⟨⟨xr.1⟩⟩), (23, .pointer (some ⟨bxr, 1, none⟩))] (by kernel_rfl) ?_
    refine OkQ.op rfl (OpQ.step (v := .int .i64 xr.2.1) (Yields.load 0 rfl rfl Tryd.underlying3 rfl (by kernel_rfl)) rfl rfl ?_)
    refine OkQ.batch 2 [(20, .string ⟨⟨xr.1⟩⟩), (26, .int .i64 (IntKind.wrap .i64 (xr.2.1 + xn)))] (by kernel_rfl) ?_
    obtain ⟨h02, h12, hF⟩ := hF
    have he2 := get_of (l := xr.1) (0 : UInt8) h12
    generalize hg2 : (xr.1.getD (Int.toNat (IntKind.wrap .i64 (xr.2.1 + xn))) 0) = e2 at he2 hF ⊢
    refine OkQ.op rfl (OpQ.step (v := .int .u8 (e2.toNat : Int)) (Yields.indexStr (k := .i64) (i := (IntKind.wrap .i64 (xr.2.1 + xn))) (s := xr.1) (b := e2) (by kernel_rfl) (by kernel_rfl) Tryd.underlying9 h02 he2) rfl rfl ?_)
    refine OkQ.batch 1 [(4, .int .u8 (e2.toNat : Int))] (by kernel_rfl) ?_
    refine OkQ.nil ?_
    refine Ok.thenN ?_
    refine Ok.ret ?_
    refine Ok.thenR ?_
    exact Ok.resH (vs := [.int .u8 (e2.toNat : Int)]) (.inl rfl) rfl (.cons (.tmp rfl) .nil) (Gext.refl w0 g) ⟨(e2.toNat : Int), xr, axr_0, cxr_0, xsxr_0, rfl, hLxr_0, rfl, hF⟩
  · replace hF := hF.2 hc1
    refine Ok.skip ?_
    refine Ok.thenN ?_
    refine Ok.seq ?_
    refine Ok.region ?_
    refine Ok.batch 1 [(4, .int .u8 0)] (by kernel_rfl) ?_
    refine Ok.nil ?_
    refine Ok.thenN ?_
    refine Ok.ret ?_
    exact Ok.resH (vs := [.int .u8 0]) (.inl rfl) rfl (.cons (.tmp rfl) .nil) (Gext.refl w0 g) ⟨0, xr, axr_0, cxr_0, xsxr_0, rfl, hLxr_0, rfl, hF⟩
def jpeekS (x : RD) (n : Int) : Int × RD := (if decide (x.2.1 + n < (x.1.length : Int)) = true then ((x.1.getD (Int.toNat (x.2.1 + n)) 0).toNat : Int) else 0, x)
def jpeekP (x : RD) (n : Int) : Prop := rdP x ∧ 0 ≤ n ∧ n ≤ 10
theorem jpeek_F (x : RD) (n : Int) (hp : jpeekP x n) : jpeekF x n (fun r r1 => (r, r1) = jpeekS x n) := by
  obtain ⟨⟨h1, h2, h3⟩, h4, h5⟩ := hp
  unfold jpeekF
  rw [w64 (by omega)]
  exact ⟨fun hc => ⟨by omega, by have := of_decide_eq_true hc; omega, by unfold jpeekS; rw [if_t hc]⟩, fun hc => by unfold jpeekS; rw [if_f hc]⟩
set_option linter.unusedVariables false in
theorem jpeek_c {g : Ghost} {bxr : Nat} {axr_0 : Option Addr} {cxr_0 : Nat} {xsxr_0 : List Value} (xr : List UInt8 × Int × List (Int × Int × Int × List UInt8 × Int)) (xn : Int) (hLxr_0 : RepL g (.pair (.int .i64) (.pair (.int .i64) (.pair (.int .i64) (.pair (.str) (.int .i64))))) xsxr_0 xr.2.2)  (hp : jpeekP xr xn) : CallsH Tryd.prog 28 #[.pointer (some ⟨bxr, 0, none⟩), .int .i64 xn] g [.blk bxr (.cells #[.string ⟨⟨xr.1⟩⟩, .int .i64 xr.2.1, .slice axr_0 xr.2.2.length cxr_0] 37), .own (.slice axr_0 xr.2.2.length cxr_0) 39 5 xr.2.2.length xsxr_0] (fun g' H' v => ∃ (afxr_0 : Option Addr) (cfxr_0 : Nat) (xsfxr_0 : List Value), v = .int .u8 ((jpeekS xr xn).1) ∧ RepL g' (.pair (.int .i64) (.pair (.int .i64) (.pair (.int .i64) (.pair (.str) (.int .i64))))) xsfxr_0 ((jpeekS xr xn).2).2.2 ∧ H' = [.blk bxr (.cells #[.string ⟨⟨((jpeekS xr xn).2).1⟩⟩, .int .i64 ((jpeekS xr xn).2).2.1, .slice afxr_0 ((jpeekS xr xn).2).2.2.length cfxr_0] 37), .own (.slice afxr_0 ((jpeekS xr xn).2).2.2.length cfxr_0) 39 5 ((jpeekS xr xn).2).2.2.length xsfxr_0]) :=
  (jpeek_ok xr xn hLxr_0 _ (jpeek_F xr xn hp)).mono (by rintro g' H' v _ ⟨r0, fxr, afxr_0, cfxr_0, xsfxr_0, rfl, hLfxr_0, rfl, hK⟩; obtain ⟨rfl, rfl⟩ : r0 = (jpeekS xr xn).1 ∧ fxr = (jpeekS xr xn).2 := ⟨congrArg (fun z => z.1) hK, congrArg (fun z => z.2) hK⟩; exact ⟨afxr_0, cfxr_0, xsfxr_0, rfl, hLfxr_0, rfl⟩)
def jskipj22 (ybxr_0l2 : List UInt8) (ybxr_1l2 : Int) (yown_xr_2_0l2 : List (Int × Int × Int × List UInt8 × Int)) (C2 : (List UInt8) → Int → (List (Int × Int × Int × List UInt8 × Int)) → Prop) : Prop :=
  C2 (if (((ybxr_0l2.getD (Int.toNat ybxr_1l2) 0).toNat : Int) == 47) = true then ((jpeekS (ybxr_0l2, ybxr_1l2, yown_xr_2_0l2) 1).2).1 else ybxr_0l2) (IntKind.wrap .i64 ((if (((ybxr_0l2.getD (Int.toNat ybxr_1l2) 0).toNat : Int) == 47) = true then (((jpeekS (ybxr_0l2, ybxr_1l2, yown_xr_2_0l2) 1).2).2).1 else ybxr_1l2) + (if (decide ((ibS ((if (((ybxr_0l2.getD (Int.toNat ybxr_1l2) 0).toNat : Int) == 47) = true then ((jpeekS (ybxr_0l2, ybxr_1l2, yown_xr_2_0l2) 1).2).1 else ybxr_0l2).drop (Int.toNat (if (((ybxr_0l2.getD (Int.toNat ybxr_1l2) 0).toNat : Int) == 47) = true then (((jpeekS (ybxr_0l2, ybxr_1l2, yown_xr_2_0l2) 1).2).2).1 else ybxr_1l2))) 10) < 0)) = true then IntKind.wrap .i64 (((if (((ybxr_0l2.getD (Int.toNat ybxr_1l2) 0).toNat : Int) == 47) = true then ((jpeekS (ybxr_0l2, ybxr_1l2, yown_xr_2_0l2) 1).2).1 else ybxr_0l2).length : Int) - (if (((ybxr_0l2.getD (Int.toNat ybxr_1l2) 0).toNat : Int) == 47) = true then (((jpeekS (ybxr_0l2, ybxr_1l2, yown_xr_2_0l2) 1).2).2).1 else ybxr_1l2)) else (ibS ((if (((ybxr_0l2.getD (Int.toNat ybxr_1l2) 0).toNat : Int) == 47) = true then ((jpeekS (ybxr_0l2, ybxr_1l2, yown_xr_2_0l2) 1).2).1 else ybxr_0l2).drop (Int.toNat (if (((ybxr_0l2.getD (Int.toNat ybxr_1l2) 0).toNat : Int) == 47) = true then (((jpeekS (ybxr_0l2, ybxr_1l2, yown_xr_2_0l2) 1).2).2).1 else ybxr_1l2))) 10)))) (if (((ybxr_0l2.getD (Int.toNat ybxr_1l2) 0).toNat : Int) == 47) = true then (((jpeekS (ybxr_0l2, ybxr_1l2, yown_xr_2_0l2) 1).2).2).2 else yown_xr_2_0l2)
def jskipj17 (K : (List UInt8 × Int × List (Int × Int × Int × List UInt8 × Int)) → Prop) (e2 : UInt8) (ybxr_0l2 : List UInt8) (ybxr_1l2 : Int) (yown_xr_2_0l2 : List (Int × Int × Int × List UInt8 × Int)) (C2 : (List UInt8) → Int → (List (Int × Int × Int × List UInt8 × Int)) → Prop) : Prop :=
  (((((e2.toNat : Int) == 47) && (((jpeekS (ybxr_0l2, ybxr_1l2, yown_xr_2_0l2) 1).1) == 47))) = true → (0 : Int) ≤ (if ((e2.toNat : Int) == 47) = true then (((jpeekS (ybxr_0l2, ybxr_1l2, yown_xr_2_0l2) 1).2).2).1 else ybxr_1l2) ∧ ((if ((e2.toNat : Int) == 47) = true then (((jpeekS (ybxr_0l2, ybxr_1l2, yown_xr_2_0l2) 1).2).2).1 else ybxr_1l2) : Int) ≤ ((if ((e2.toNat : Int) == 47) = true then ((jpeekS (ybxr_0l2, ybxr_1l2, yown_xr_2_0l2) 1).2).1 else ybxr_0l2).length : Int) ∧ ((if ((e2.toNat : Int) == 47) = true then ((jpeekS (ybxr_0l2, ybxr_1l2, yown_xr_2_0l2) 1).2).1 else ybxr_0l2).length : Int) ≤ ((if ((e2.toNat : Int) == 47) = true then ((jpeekS (ybxr_0l2, ybxr_1l2, yown_xr_2_0l2) 1).2).1 else ybxr_0l2).length : Int) ∧ ((decide ((ibS ((if ((e2.toNat : Int) == 47) = true then ((jpeekS (ybxr_0l2, ybxr_1l2, yown_xr_2_0l2) 1).2).1 else ybxr_0l2).drop (Int.toNat (if ((e2.toNat : Int) == 47) = true then (((jpeekS (ybxr_0l2, ybxr_1l2, yown_xr_2_0l2) 1).2).2).1 else ybxr_1l2))) 10) < 0)) = true → jskipj22 ybxr_0l2 ybxr_1l2 yown_xr_2_0l2 C2) ∧ ((decide ((ibS ((if ((e2.toNat : Int) == 47) = true then ((jpeekS (ybxr_0l2, ybxr_1l2, yown_xr_2_0l2) 1).2).1 else ybxr_0l2).drop (Int.toNat (if ((e2.toNat : Int) == 47) = true then (((jpeekS (ybxr_0l2, ybxr_1l2, yown_xr_2_0l2) 1).2).2).1 else ybxr_1l2))) 10) < 0)) = false → jskipj22 ybxr_0l2 ybxr_1l2 yown_xr_2_0l2 C2)) ∧ (((((e2.toNat : Int) == 47) && (((jpeekS (ybxr_0l2, ybxr_1l2, yown_xr_2_0l2) 1).1) == 47))) = false → K ((if ((e2.toNat : Int) == 47) = true then ((jpeekS (ybxr_0l2, ybxr_1l2, yown_xr_2_0l2) 1).2).1 else ybxr_0l2), (if ((e2.toNat : Int) == 47) = true then (((jpeekS (ybxr_0l2, ybxr_1l2, yown_xr_2_0l2) 1).2).2).1 else ybxr_1l2), (if ((e2.toNat : Int) == 47) = true then (((jpeekS (ybxr_0l2, ybxr_1l2, yown_xr_2_0l2) 1).2).2).2 else yown_xr_2_0l2)))
def jskipl2b (K : (List UInt8 × Int × List (Int × Int × Int × List UInt8 × Int)) → Prop) (ybxr_0l2 : List UInt8) (ybxr_1l2 : Int) (yown_xr_2_0l2 : List (Int × Int × Int × List UInt8 × Int)) (C2 : (List UInt8) → Int → (List (Int × Int × Int × List UInt8 × Int)) → Prop) : Prop :=
  ((decide (ybxr_1l2 < (ybxr_0l2.length : Int))) = true → (0 : Int) ≤ ybxr_1l2 ∧ Int.toNat ybxr_1l2 < ybxr_0l2.length ∧ ((((((((ybxr_0l2.getD (Int.toNat ybxr_1l2) 0).toNat : Int) == 32) || (((ybxr_0l2.getD (Int.toNat ybxr_1l2) 0).toNat : Int) == 9)) || (((ybxr_0l2.getD (Int.toNat ybxr_1l2) 0).toNat : Int) == 10)) || (((ybxr_0l2.getD (Int.toNat ybxr_1l2) 0).toNat : Int) == 13))) = true → C2 ybxr_0l2 (IntKind.wrap .i64 (ybxr_1l2 + 1)) yown_xr_2_0l2) ∧ ((((((((ybxr_0l2.getD (Int.toNat ybxr_1l2) 0).toNat : Int) == 32) || (((ybxr_0l2.getD (Int.toNat ybxr_1l2) 0).toNat : Int) == 9)) || (((ybxr_0l2.getD (Int.toNat ybxr_1l2) 0).toNat : Int) == 10)) || (((ybxr_0l2.getD (Int.toNat ybxr_1l2) 0).toNat : Int) == 13))) = false → (((((ybxr_0l2.getD (Int.toNat ybxr_1l2) 0).toNat : Int) == 47)) = true → jpeekP (ybxr_0l2, ybxr_1l2, yown_xr_2_0l2) 1 ∧ jskipj17 K (ybxr_0l2.getD (Int.toNat ybxr_1l2) 0) ybxr_0l2 ybxr_1l2 yown_xr_2_0l2 C2) ∧ (((((ybxr_0l2.getD (Int.toNat ybxr_1l2) 0).toNat : Int) == 47)) = false → jskipj17 K (ybxr_0l2.getD (Int.toNat ybxr_1l2) 0) ybxr_0l2 ybxr_1l2 yown_xr_2_0l2 C2))) ∧ ((decide (ybxr_1l2 < (ybxr_0l2.length : Int))) = false → K (ybxr_0l2, ybxr_1l2, yown_xr_2_0l2))
def jskipl2 (K : (List UInt8 × Int × List (Int × Int × Int × List UInt8 × Int)) → Prop) : Nat → (List UInt8) → Int → (List (Int × Int × Int × List UInt8 × Int)) → Prop
  | 0, _, _, _ => False
  | k + 1, ybxr_0l2, ybxr_1l2, yown_xr_2_0l2 => jskipl2b K ybxr_0l2 ybxr_1l2 yown_xr_2_0l2 (jskipl2 K k)
def jskipF (xr : List UInt8 × Int × List (Int × Int × Int × List UInt8 × Int)) (K : (List UInt8 × Int × List (Int × Int × Int × List UInt8 × Int)) → Prop) : Prop :=
  ∃ k, jskipl2 K k xr.1 xr.2.1 xr.2.2
set_option maxHeartbeats 4000000 in
set_option maxRecDepth 100000 in
set_option linter.unusedVariables false in
theorem jskip_ok {g : Ghost} {bxr : Nat} {axr_0 : Option Addr} {cxr_0 : Nat} {xsxr_0 : List Value} (xr : List UInt8 × Int × List (Int × Int × Int × List UInt8 × Int)) (hLxr_0 : RepL g (.pair (.int .i64) (.pair (.int .i64) (.pair (.int .i64) (.pair (.str) (.int .i64))))) xsxr_0 xr.2.2) (K : (List UInt8 × Int × List (Int × Int × Int × List UInt8 × Int)) → Prop)
    (hF : jskipF xr K) : CallsH Tryd.prog 13 #[.pointer (some ⟨bxr, 0, none⟩)] g [.blk bxr (.cells #[.string ⟨⟨xr.1⟩⟩, .int .i64 xr.2.1, .slice axr_0 xr.2.2.length cxr_0] 37), .own (.slice axr_0 xr.2.2.length cxr_0) 39 5 xr.2.2.length xsxr_0] (fun g' H' v => ∃ (fxr : List UInt8 × Int × List (Int × Int × Int × List UInt8 × Int)), ∃ (afxr_0 : Option Addr) (cfxr_0 : Nat) (xsfxr_0 : List Value), v = .tuple #[] ∧ RepL g' (.pair (.int .i64) (.pair (.int .i64) (.pair (.int .i64) (.pair (.str) (.int .i64))))) xsfxr_0 fxr.2.2 ∧ H' = [.blk bxr (.cells #[.string ⟨⟨fxr.1⟩⟩, .int .i64 fxr.2.1, .slice afxr_0 fxr.2.2.length cfxr_0] 37), .own (.slice afxr_0 fxr.2.2.length cfxr_0) 39 5 fxr.2.2.length xsfxr_0] ∧ K fxr) := by
  refine CallsH.enter 83 [(0, .pointer (some ⟨bxr, 0, none⟩))] Tryd.func13 rfl (by kernel_rfl) (by kernel_rfl) (by kernel_rfl) fun w0 => ?_
  refine Ok.block ?_
  obtain ⟨k, hF⟩ := hF
  refine Ok.loop (fun k a W => ∃ gl2 : Ghost, Gext w0 g gl2 ∧ ∃ (ybxr_0l2 : List UInt8) (ybxr_1l2 : Int) (ayown_xr_2_0l2 : Option Addr) (cyown_xr_2_0l2 : Nat) (yown_xr_2_0l2 : List (Int × Int × Int × List UInt8 × Int)) (xsyown_xr_2_0l2 : List Value), RepL gl2 (.pair (.int .i64) (.pair (.int .i64) (.pair (.int .i64) (.pair (.str) (.int .i64))))) xsyown_xr_2_0l2 yown_xr_2_0l2 ∧ StA 83 [(0, .pointer (some ⟨bxr, 0, none⟩))] a ∧ StW w0 [.blk bxr (.cells #[.string ⟨⟨ybxr_0l2⟩⟩, .int .i64 ybxr_1l2, .slice ayown_xr_2_0l2 yown_xr_2_0l2.length cyown_xr_2_0l2] 37), .own (.slice ayown_xr_2_0l2 yown_xr_2_0l2.length cyown_xr_2_0l2) 39 5 yown_xr_2_0l2.length xsyown_xr_2_0l2] gl2 W ∧ jskipl2 K k ybxr_0l2 ybxr_1l2 yown_xr_2_0l2) k ?_ ?_
  ·
    exact fun a W hA hW => ⟨g, (Gext.refl w0 g), xr.1, xr.2.1, axr_0, cxr_0, xr.2.2, xsxr_0, hLxr_0, hA.sub (by kernel_rfl), hW, hF⟩
  ·
    clear hF
    rintro k2 a W ⟨gl2, hxl2, ybxr_0l2, ybxr_1l2, ayown_xr_2_0l2, cyown_xr_2_0l2, yown_xr_2_0l2, xsyown_xr_2_0l2, hLyown_xr_2_0l2, hA, hW, hF⟩
    cases k2 with
    | zero => exact (hF : False).elim
    | succ k2 =>
      refine (?_ : Ok _ _ _ _ _ _) a W hA hW
      clear hA hW
      refine Ok.seq ?_
      refine Ok.seq ?_
      refine Ok.quiet' (by kernel_rfl) (by kernel_rfl) ?_
      refine OkQ.batch 3 [(0, .pointer (some ⟨bxr, 0, none⟩)), (6, .pointer (some ⟨bxr, 1, none⟩))] (by kernel_rfl) ?_
      refine OkQ.op rfl (OpQ.step (v := .int .i64 ybxr_1l2) (Yields.load 0 rfl rfl Tryd.underlying3 rfl (by kernel_rfl)) rfl rfl ?_)
      refine OkQ.batch 3 [(0, .pointer (some ⟨bxr, 0, none⟩)), (7, .int .i64 ybxr_1l2), (10, .pointer (some ⟨bxr, 0, none⟩))] (by kernel_rfl) ?_
      refine OkQ.op rfl (OpQ.step (v := .string ⟨⟨ybxr_0l2⟩⟩) (Yields.load 0 rfl rfl Tryd.underlying9 rfl (by kernel_rfl)) rfl rfl ?_)
      refine OkQ.batch 2 [(0, .pointer (some ⟨bxr, 0, none⟩)), (13, .bool (decide (ybxr_1l2 < (ybxr_0l2.length : Int))))] (by kernel_rfl) ?_
      refine OkQ.nil ?_
      refine Ok.thenN ?_
      refine Ok.cond (b := decide (ybxr_1l2 < (ybxr_0l2.length : Int))) rfl (fun hc1 => ?_) (fun hc1 => ?_)
      · replace hF := hF.1 hc1
        refine Ok.skip ?_
        refine Ok.thenN ?_
        refine Ok.block ?_
        refine Ok.seq ?_
        refine Ok.quiet' (by kernel_rfl) (by kernel_rfl) ?_
        refine OkQ.batch 3 [(0, .pointer (some ⟨bxr, 0, none⟩)), (16, .pointer (some ⟨bxr, 0, none⟩))] (by kernel_rfl) ?_
        refine OkQ.op rfl (OpQ.step (v := .string ⟨⟨ybxr_0l2⟩⟩) (Yields.load 0 rfl rfl Tryd.underlying9 rfl (by kernel_rfl)) rfl rfl ?_)
        refine OkQ.batch 3 [(0, .pointer (some ⟨bxr, 0, none⟩)), (17, .string ⟨⟨ybxr_0l2⟩⟩), (20, .pointer (some ⟨bxr, 1, none⟩))] (by kernel_rfl) ?_
        refine OkQ.op rfl (OpQ.step (v := .int .i64 ybxr_1l2) (Yields.load 0 rfl rfl Tryd.underlying3 rfl (by kernel_rfl)) rfl rfl ?_)
        obtain ⟨h02, h12, hF⟩ := hF
        have he2 := get_of (l := ybxr_0l2) (0 : UInt8) h12
        generalize hg2 : (ybxr_0l2.getD (Int.toNat ybxr_1l2) 0) = e2 at he2 hF ⊢
        refine OkQ.op rfl (OpQ.step (v := .int .u8 (e2.toNat : Int)) (Yields.indexStr (k := .i64) (i := ybxr_1l2) (s := ybxr_0l2) (b := e2) (by kernel_rfl) (by kernel_rfl) Tryd.underlying9 h02 he2) rfl rfl ?_)
        refine OkQ.batch 1 [(0, .pointer (some ⟨bxr, 0, none⟩)), (2, .int .u8 (e2.toNat : Int))] (by kernel_rfl) ?_
        refine OkQ.nil ?_
        refine Ok.thenN ?_
        refine Ok.block ?_
        refine Ok.seq ?_
        refine Ok.region ?_
        refine Ok.batch 3 [(0, .pointer (some ⟨bxr, 0, none⟩)), (2, .int .u8 (e2.toNat : Int)), (26, .bool ((e2.toNat : Int) == 32))] (by kernel_rfl) ?_
        refine Ok.midway 3 [(0, .pointer (some ⟨bxr, 0, none⟩)), (2, .int .u8 (e2.toNat : Int)), (29, .bool (((e2.toNat : Int) == 32) || ((e2.toNat : Int) == 9)))] (fun hR3 => ?_) ?_
        · refine Ok.boolAt 26 (((e2.toNat : Int) == 32)) rfl (fun hc4 => ?_) (fun hc4 => ?_)
          · skip
            refine Ok.batch 3 [(0, .pointer (some ⟨bxr, 0, none⟩)), (2, .int .u8 (e2.toNat : Int)), (29, .bool true)] (by kernel_rfl) ?_
            refine Ok.reval 29 rfl (show (.bool true : Value) = .bool (((e2.toNat : Int) == 32) || ((e2.toNat : Int) == 9)) from congrArg Value.bool (mor_t hc4)) ?_
            refine Ok.batch 0 [(0, .pointer (some ⟨bxr, 0, none⟩)), (2, .int .u8 (e2.toNat : Int)), (29, .bool (((e2.toNat : Int) == 32) || ((e2.toNat : Int) == 9)))] (by kernel_rfl) ?_
            exact hR3
          · skip
            refine Ok.batch 3 [(0, .pointer (some ⟨bxr, 0, none⟩)), (2, .int .u8 (e2.toNat : Int)), (29, .bool ((e2.toNat : Int) == 9))] (by kernel_rfl) ?_
            refine Ok.reval 29 rfl (show (.bool ((e2.toNat : Int) == 9) : Value) = .bool (((e2.toNat : Int) == 32) || ((e2.toNat : Int) == 9)) from congrArg Value.bool (mor_f hc4)) ?_
            refine Ok.batch 0 [(0, .pointer (some ⟨bxr, 0, none⟩)), (2, .int .u8 (e2.toNat : Int)), (29, .bool (((e2.toNat : Int) == 32) || ((e2.toNat : Int) == 9)))] (by kernel_rfl) ?_
            exact hR3
        refine Ok.batch 1 [(0, .pointer (some ⟨bxr, 0, none⟩)), (2, .int .u8 (e2.toNat : Int)), (30, .bool (((e2.toNat : Int) == 32) || ((e2.toNat : Int) == 9)))] (by kernel_rfl) ?_
        refine Ok.midway 3 [(0, .pointer (some ⟨bxr, 0, none⟩)), (2, .int .u8 (e2.toNat : Int)), (33, .bool ((((e2.toNat : Int) == 32) || ((e2.toNat : Int) == 9)) || ((e2.toNat : Int) == 10)))] (fun hR5 => ?_) ?_
        · refine Ok.boolAt 30 ((((e2.toNat : Int) == 32) || ((e2.toNat : Int) == 9))) rfl (fun hc6 => ?_) (fun hc6 => ?_)
          · skip
            refine Ok.batch 3 [(0, .pointer (some ⟨bxr, 0, none⟩)), (2, .int .u8 (e2.toNat : Int)), (33, .bool true)] (by kernel_rfl) ?_
            refine Ok.reval 33 rfl (show (.bool true : Value) = .bool ((((e2.toNat : Int) == 32) || ((e2.toNat : Int) == 9)) || ((e2.toNat : Int) == 10)) from congrArg Value.bool (mor_t hc6)) ?_
            refine Ok.batch 0 [(0, .pointer (some ⟨bxr, 0, none⟩)), (2, .int .u8 (e2.toNat : Int)), (33, .bool ((((e2.toNat : Int) == 32) || ((e2.toNat : Int) == 9)) || ((e2.toNat : Int) == 10)))] (by kernel_rfl) ?_
            exact hR5
          · skip
            refine Ok.batch 3 [(0, .pointer (some ⟨bxr, 0, none⟩)), (2, .int .u8 (e2.toNat : Int)), (33, .bool ((e2.toNat : Int) == 10))] (by kernel_rfl) ?_
            refine Ok.reval 33 rfl (show (.bool ((e2.toNat : Int) == 10) : Value) = .bool ((((e2.toNat : Int) == 32) || ((e2.toNat : Int) == 9)) || ((e2.toNat : Int) == 10)) from congrArg Value.bool (mor_f hc6)) ?_
            refine Ok.batch 0 [(0, .pointer (some ⟨bxr, 0, none⟩)), (2, .int .u8 (e2.toNat : Int)), (33, .bool ((((e2.toNat : Int) == 32) || ((e2.toNat : Int) == 9)) || ((e2.toNat : Int) == 10)))] (by kernel_rfl) ?_
            exact hR5
        refine Ok.batch 1 [(0, .pointer (some ⟨bxr, 0, none⟩)), (2, .int .u8 (e2.toNat : Int)), (34, .bool ((((e2.toNat : Int) == 32) || ((e2.toNat : Int) == 9)) || ((e2.toNat : Int) == 10)))] (by kernel_rfl) ?_
        refine Ok.midway 3 [(0, .pointer (some ⟨bxr, 0, none⟩)), (2, .int .u8 (e2.toNat : Int)), (37, .bool (((((e2.toNat : Int) == 32) || ((e2.toNat : Int) == 9)) || ((e2.toNat : Int) == 10)) || ((e2.toNat : Int) == 13)))] (fun hR7 => ?_) ?_
        · refine Ok.boolAt 34 (((((e2.toNat : Int) == 32) || ((e2.toNat : Int) == 9)) || ((e2.toNat : Int) == 10))) rfl (fun hc8 => ?_) (fun hc8 => ?_)
          · skip
            refine Ok.batch 3 [(0, .pointer (some ⟨bxr, 0, none⟩)), (2, .int .u8 (e2.toNat : Int)), (37, .bool true)] (by kernel_rfl) ?_
            refine Ok.reval 37 rfl (show (.bool true : Value) = .bool (((((e2.toNat : Int) == 32) || ((e2.toNat : Int) == 9)) || ((e2.toNat : Int) == 10)) || ((e2.toNat : Int) == 13)) from congrArg Value.bool (mor_t hc8)) ?_
            refine Ok.batch 0 [(0, .pointer (some ⟨bxr, 0, none⟩)), (2, .int .u8 (e2.toNat : Int)), (37, .bool (((((e2.toNat : Int) == 32) || ((e2.toNat : Int) == 9)) || ((e2.toNat : Int) == 10)) || ((e2.toNat : Int) == 13)))] (by kernel_rfl) ?_
            exact hR7
          · skip
            refine Ok.batch 3 [(0, .pointer (some ⟨bxr, 0, none⟩)), (2, .int .u8 (e2.toNat : Int)), (37, .bool ((e2.toNat : Int) == 13))] (by kernel_rfl) ?_
            refine Ok.reval 37 rfl (show (.bool ((e2.toNat : Int) == 13) : Value) = .bool (((((e2.toNat : Int) == 32) || ((e2.toNat : Int) == 9)) || ((e2.toNat : Int) == 10)) || ((e2.toNat : Int) == 13)) from congrArg Value.bool (mor_f hc8)) ?_
            refine Ok.batch 0 [(0, .pointer (some ⟨bxr, 0, none⟩)), (2, .int .u8 (e2.toNat : Int)), (37, .bool (((((e2.toNat : Int) == 32) || ((e2.toNat : Int) == 9)) || ((e2.toNat : Int) == 10)) || ((e2.toNat : Int) == 13)))] (by kernel_rfl) ?_
            exact hR7
        refine Ok.batch 1 [(0, .pointer (some ⟨bxr, 0, none⟩)), (2, .int .u8 (e2.toNat : Int)), (23, .bool (((((e2.toNat : Int) == 32) || ((e2.toNat : Int) == 9)) || ((e2.toNat : Int) == 10)) || ((e2.toNat : Int) == 13)))] (by kernel_rfl) ?_
        refine Ok.nil ?_
        refine Ok.thenN ?_
        refine Ok.cond (b := (((((e2.toNat : Int) == 32) || ((e2.toNat : Int) == 9)) || ((e2.toNat : Int) == 10)) || ((e2.toNat : Int) == 13))) rfl (fun hc9 => ?_) (fun hc9 => ?_)
        · replace hF := hF.1 hc9
          refine Ok.region ?_
          refine Ok.batch 3 [(0, .pointer (some ⟨bxr, 0, none⟩)), (38, .pointer (some ⟨bxr, 0, none⟩)), (40, .pointer (some ⟨bxr, 1, none⟩))] (by kernel_rfl) ?_
          refine Ok.op rfl (OpOk.step (v := .int .i64 ybxr_1l2) (Yields.load 0 rfl rfl Tryd.underlying3 rfl (by kernel_rfl)) rfl rfl ?_)
          refine Ok.batch 3 [(0, .pointer (some ⟨bxr, 0, none⟩)), (42, .int .i64 (IntKind.wrap .i64 (ybxr_1l2 + 1))), (44, .pointer (some ⟨bxr, 1, none⟩))] (by kernel_rfl) ?_
          refine Ok.op rfl (OpOk.store (k := 1) (v := .int .i64 (IntKind.wrap .i64 (ybxr_1l2 + 1))) (H' := [.blk bxr (.cells #[.string ⟨⟨ybxr_0l2⟩⟩, .int .i64 (IntKind.wrap .i64 (ybxr_1l2 + 1)), .slice ayown_xr_2_0l2 yown_xr_2_0l2.length cyown_xr_2_0l2] 37), .own (.slice ayown_xr_2_0l2 yown_xr_2_0l2.length cyown_xr_2_0l2) 39 5 yown_xr_2_0l2.length xsyown_xr_2_0l2]) 0 rfl rfl rfl (by kernel_rfl) (by kernel_rfl) (by kernel_rfl) (by kernel_rfl) (by kernel_rfl) ?_)
          refine Ok.nil ?_
          refine Ok.blockN ?_
          refine Ok.blockN ?_
          refine Ok.thenN ?_
          subst hg2
          exact fun a W hA hW => ⟨k2, Nat.lt_succ_self _, gl2, hxl2, ybxr_0l2, IntKind.wrap .i64 (ybxr_1l2 + 1), ayown_xr_2_0l2, cyown_xr_2_0l2, yown_xr_2_0l2, xsyown_xr_2_0l2, hLyown_xr_2_0l2, hA.sub (by kernel_rfl), hW, hF⟩
        · replace hF := hF.2 hc9
          refine Ok.cut (fun a W => ∃ gj17 : Ghost, Gext w0 gl2 gj17 ∧ ∃ (ayown_xr_2_0j17 : Option Addr) (cyown_xr_2_0j17 : Nat) (xsyown_xr_2_0j17 : List Value), RepL gj17 (.pair (.int .i64) (.pair (.int .i64) (.pair (.int .i64) (.pair (.str) (.int .i64))))) xsyown_xr_2_0j17 (if ((e2.toNat : Int) == 47) = true then (((jpeekS (ybxr_0l2, ybxr_1l2, yown_xr_2_0l2) 1).2).2).2 else yown_xr_2_0l2) ∧ StA 83 [(0, .pointer (some ⟨bxr, 0, none⟩)), (45, .bool (((e2.toNat : Int) == 47) && (((jpeekS (ybxr_0l2, ybxr_1l2, yown_xr_2_0l2) 1).1) == 47)))] a ∧ StW w0 [.blk bxr (.cells #[.string ⟨⟨(if ((e2.toNat : Int) == 47) = true then ((jpeekS (ybxr_0l2, ybxr_1l2, yown_xr_2_0l2) 1).2).1 else ybxr_0l2)⟩⟩, .int .i64 (if ((e2.toNat : Int) == 47) = true then (((jpeekS (ybxr_0l2, ybxr_1l2, yown_xr_2_0l2) 1).2).2).1 else ybxr_1l2), .slice ayown_xr_2_0j17 (if ((e2.toNat : Int) == 47) = true then (((jpeekS (ybxr_0l2, ybxr_1l2, yown_xr_2_0l2) 1).2).2).2 else yown_xr_2_0l2).length cyown_xr_2_0j17] 37), .own (.slice ayown_xr_2_0j17 (if ((e2.toNat : Int) == 47) = true then (((jpeekS (ybxr_0l2, ybxr_1l2, yown_xr_2_0l2) 1).2).2).2 else yown_xr_2_0l2).length cyown_xr_2_0j17) 39 5 (if ((e2.toNat : Int) == 47) = true then (((jpeekS (ybxr_0l2, ybxr_1l2, yown_xr_2_0l2) 1).2).2).2 else yown_xr_2_0l2).length xsyown_xr_2_0j17] gj17 W ∧ jskipj17 K e2 ybxr_0l2 ybxr_1l2 yown_xr_2_0l2 (jskipl2 K k2)) ?_ ?_
          ·
            refine Ok.region ?_
            refine Ok.batch 3 [(0, .pointer (some ⟨bxr, 0, none⟩)), (48, .bool ((e2.toNat : Int) == 47))] (by kernel_rfl) ?_
            refine Ok.boolAt 48 (((e2.toNat : Int) == 47)) rfl (fun hc13 => ?_) (fun hc13 => ?_)
            · replace hF := hF.1 hc13
              refine Ok.batch 1 [(0, .pointer (some ⟨bxr, 0, none⟩)), (48, .bool true), (49, .pointer (some ⟨bxr, 0, none⟩))] (by kernel_rfl) ?_
              obtain ⟨hp14, hF⟩ := hF
              refine Ok.opYes (j := 2) (d := 48) (want := true) (b := true) rfl (by kernel_rfl) (by kernel_rfl) rfl (OpOk.callH [.blk bxr (.cells #[.string ⟨⟨ybxr_0l2⟩⟩, .int .i64 ybxr_1l2, .slice ayown_xr_2_0l2 yown_xr_2_0l2.length cyown_xr_2_0l2] 37), .own (.slice ayown_xr_2_0l2 yown_xr_2_0l2.length cyown_xr_2_0l2) 39 5 yown_xr_2_0l2.length xsyown_xr_2_0l2] [] (enters (by kernel_rfl) (fun _ => by kernel_rfl)) rfl (jpeek_c (ybxr_0l2, ybxr_1l2, yown_xr_2_0l2) 1 hLyown_xr_2_0l2 hp14) rfl fun g15 _ _ hx15 hV15 => ?_)
              obtain ⟨a15_0, c15_0, xs15_0, rfl, hL15_0, rfl⟩ := hV15
              refine Ok.batch 3 [(0, .pointer (some ⟨bxr, 0, none⟩)), (45, .bool (((jpeekS (ybxr_0l2, ybxr_1l2, yown_xr_2_0l2) 1).1) == 47))] (by kernel_rfl) ?_
              refine Ok.nil ?_
              refine Ok.thenN ?_
              refine Ok.reval 45 rfl (show (.bool (((jpeekS (ybxr_0l2, ybxr_1l2, yown_xr_2_0l2) 1).1) == 47) : Value) = .bool (((e2.toNat : Int) == 47) && (((jpeekS (ybxr_0l2, ybxr_1l2, yown_xr_2_0l2) 1).1) == 47)) from congrArg (Value.bool) (mand_t hc13)) ?_
              refine Ok.heapEq (H' := [.blk bxr (.cells #[.string ⟨⟨(if ((e2.toNat : Int) == 47) = true then ((jpeekS (ybxr_0l2, ybxr_1l2, yown_xr_2_0l2) 1).2).1 else ybxr_0l2)⟩⟩, .int .i64 (if ((e2.toNat : Int) == 47) = true then (((jpeekS (ybxr_0l2, ybxr_1l2, yown_xr_2_0l2) 1).2).2).1 else ybxr_1l2), .slice a15_0 (if ((e2.toNat : Int) == 47) = true then (((jpeekS (ybxr_0l2, ybxr_1l2, yown_xr_2_0l2) 1).2).2).2 else yown_xr_2_0l2).length c15_0] 37), .own (.slice a15_0 (if ((e2.toNat : Int) == 47) = true then (((jpeekS (ybxr_0l2, ybxr_1l2, yown_xr_2_0l2) 1).2).2).2 else yown_xr_2_0l2).length c15_0) 39 5 (if ((e2.toNat : Int) == 47) = true then (((jpeekS (ybxr_0l2, ybxr_1l2, yown_xr_2_0l2) 1).2).2).2 else yown_xr_2_0l2).length xs15_0]) (econs (congrArg (fun l : List Value => Ent.blk bxr (.cells ⟨l⟩ 37)) (lcons (congrArg ((fun s : List UInt8 => Value.string ⟨⟨s⟩⟩)) ((if_t hc13).symm)) (lcons (congrArg (Value.int .i64) ((if_t hc13).symm)) (lcons (congrArg (fun l : List (Int × Int × Int × List UInt8 × Int) => Value.slice a15_0 l.length c15_0) ((if_t hc13).symm)) rfl)))) (econs (congrArg (fun l : List (Int × Int × Int × List UInt8 × Int) => Ent.own (.slice a15_0 l.length c15_0) 39 5 l.length xs15_0) ((if_t hc13).symm)) rfl)) ?_
              exact fun a W hA hW => ⟨g15, hx15, a15_0, c15_0, xs15_0, (Eq.mp (congrArg (fun l : List (Int × Int × Int × List UInt8 × Int) => RepL g15 (.pair (.int .i64) (.pair (.int .i64) (.pair (.int .i64) (.pair (.str) (.int .i64))))) xs15_0 l) ((if_t hc13).symm)) hL15_0), hA.sub (by kernel_rfl), hW, hF⟩
            · replace hF := hF.2 hc13
              refine Ok.batch 5 [(0, .pointer (some ⟨bxr, 0, none⟩)), (45, .bool false)] (by kernel_rfl) ?_
              refine Ok.nil ?_
              refine Ok.thenN ?_
              refine Ok.reval 45 rfl (show (.bool false : Value) = .bool (((e2.toNat : Int) == 47) && (((jpeekS (ybxr_0l2, ybxr_1l2, yown_xr_2_0l2) 1).1) == 47)) from congrArg (Value.bool) (mand_f hc13)) ?_
              refine Ok.heapEq (H' := [.blk bxr (.cells #[.string ⟨⟨(if ((e2.toNat : Int) == 47) = true then ((jpeekS (ybxr_0l2, ybxr_1l2, yown_xr_2_0l2) 1).2).1 else ybxr_0l2)⟩⟩, .int .i64 (if ((e2.toNat : Int) == 47) = true then (((jpeekS (ybxr_0l2, ybxr_1l2, yown_xr_2_0l2) 1).2).2).1 else ybxr_1l2), .slice ayown_xr_2_0l2 (if ((e2.toNat : Int) == 47) = true then (((jpeekS (ybxr_0l2, ybxr_1l2, yown_xr_2_0l2) 1).2).2).2 else yown_xr_2_0l2).length cyown_xr_2_0l2] 37), .own (.slice ayown_xr_2_0l2 (if ((e2.toNat : Int) == 47) = true then (((jpeekS (ybxr_0l2, ybxr_1l2, yown_xr_2_0l2) 1).2).2).2 else yown_xr_2_0l2).length cyown_xr_2_0l2) 39 5 (if ((e2.toNat : Int) == 47) = true then (((jpeekS (ybxr_0l2, ybxr_1l2, yown_xr_2_0l2) 1).2).2).2 else yown_xr_2_0l2).length xsyown_xr_2_0l2]) (econs (congrArg (fun l : List Value => Ent.blk bxr (.cells ⟨l⟩ 37)) (lcons (congrArg ((fun s : List UInt8 => Value.string ⟨⟨s⟩⟩)) ((if_f hc13).symm)) (lcons (congrArg (Value.int .i64) ((if_f hc13).symm)) (lcons (congrArg (fun l : List (Int × Int × Int × List UInt8 × Int) => Value.slice ayown_xr_2_0l2 l.length cyown_xr_2_0l2) ((if_f hc13).symm)) rfl)))) (econs (congrArg (fun l : List (Int × Int × Int × List UInt8 × Int) => Ent.own (.slice ayown_xr_2_0l2 l.length cyown_xr_2_0l2) 39 5 l.length xsyown_xr_2_0l2) ((if_f hc13).symm)) rfl)) ?_
              exact fun a W hA hW => ⟨gl2, (Gext.refl w0 gl2), ayown_xr_2_0l2, cyown_xr_2_0l2, xsyown_xr_2_0l2, (Eq.mp (congrArg (fun l : List (Int × Int × Int × List UInt8 × Int) => RepL gl2 (.pair (.int .i64) (.pair (.int .i64) (.pair (.int .i64) (.pair (.str) (.int .i64))))) xsyown_xr_2_0l2 l) ((if_f hc13).symm)) hLyown_xr_2_0l2), hA.sub (by kernel_rfl), hW, hF⟩
          ·
            clear hF
            rintro a W ⟨gj17, hxj17, ayown_xr_2_0j17, cyown_xr_2_0j17, xsyown_xr_2_0j17, hLyown_xr_2_0j17, hA, hW, hF⟩
            refine (?_ : Ok _ _ _ _ _ _) a W hA hW
            clear hA hW
            refine Ok.cond (b := (((e2.toNat : Int) == 47) && (((jpeekS (ybxr_0l2, ybxr_1l2, yown_xr_2_0l2) 1).1) == 47))) rfl (fun hc10 => ?_) (fun hc10 => ?_)
            · replace hF := hF.1 hc10
              refine Ok.seq ?_
              refine Ok.quiet' (by kernel_rfl) (by kernel_rfl) ?_
              refine OkQ.batch 3 [(0, .pointer (some ⟨bxr, 0, none⟩)), (55, .pointer (some ⟨bxr, 0, none⟩))] (by kernel_rfl) ?_
              refine OkQ.op rfl (OpQ.step (v := .string ⟨⟨(if ((e2.toNat : Int) == 47) = true then ((jpeekS (ybxr_0l2, ybxr_1l2, yown_xr_2_0l2) 1).2).1 else ybxr_0l2)⟩⟩) (Yields.load 0 rfl rfl Tryd.underlying9 rfl (by kernel_rfl)) rfl rfl ?_)
              refine OkQ.batch 3 [(0, .pointer (some ⟨bxr, 0, none⟩)), (56, .string ⟨⟨(if ((e2.toNat : Int) == 47) = true then ((jpeekS (ybxr_0l2, ybxr_1l2, yown_xr_2_0l2) 1).2).1 else ybxr_0l2)⟩⟩), (59, .pointer (some ⟨bxr, 1, none⟩))] (by kernel_rfl) ?_
              refine OkQ.op rfl (OpQ.step (v := .int .i64 (if ((e2.toNat : Int) == 47) = true then (((jpeekS (ybxr_0l2, ybxr_1l2, yown_xr_2_0l2) 1).2).2).1 else ybxr_1l2)) (Yields.load 0 rfl rfl Tryd.underlying3 rfl (by kernel_rfl)) rfl rfl ?_)
              obtain ⟨h011, h111, h211, hF⟩ := hF
              refine OkQ.op rfl (OpQ.step (v := .string ⟨⟨(if ((e2.toNat : Int) == 47) = true then ((jpeekS (ybxr_0l2, ybxr_1l2, yown_xr_2_0l2) 1).2).1 else ybxr_0l2).drop (Int.toNat (if ((e2.toNat : Int) == 47) = true then (((jpeekS (ybxr_0l2, ybxr_1l2, yown_xr_2_0l2) 1).2).2).1 else ybxr_1l2))⟩⟩) (Yields.sliceStr (s := (if ((e2.toNat : Int) == 47) = true then ((jpeekS (ybxr_0l2, ybxr_1l2, yown_xr_2_0l2) 1).2).1 else ybxr_0l2)) (l := (if ((e2.toNat : Int) == 47) = true then (((jpeekS (ybxr_0l2, ybxr_1l2, yown_xr_2_0l2) 1).2).2).1 else ybxr_1l2)) (h := ((if ((e2.toNat : Int) == 47) = true then ((jpeekS (ybxr_0l2, ybxr_1l2, yown_xr_2_0l2) 1).2).1 else ybxr_0l2).length : Int)) (by kernel_rfl) Tryd.underlying9 (.inl ⟨_, _, rfl, rfl⟩) (.inr ⟨rfl, rfl⟩) h011 h111 h211 ((if ((e2.toNat : Int) == 47) = true then ((jpeekS (ybxr_0l2, ybxr_1l2, yown_xr_2_0l2) 1).2).1 else ybxr_0l2).drop (Int.toNat (if ((e2.toNat : Int) == 47) = true then (((jpeekS (ybxr_0l2, ybxr_1l2, yown_xr_2_0l2) 1).2).2).1 else ybxr_1l2))) (by rw [show (((if ((e2.toNat : Int) == 47) = true then ((jpeekS (ybxr_0l2, ybxr_1l2, yown_xr_2_0l2) 1).2).1 else ybxr_0l2).length : Int)).toNat = (if ((e2.toNat : Int) == 47) = true then ((jpeekS (ybxr_0l2, ybxr_1l2, yown_xr_2_0l2) 1).2).1 else ybxr_0l2).length from Int.toNat_natCast _, List.take_length])) rfl rfl ?_)
              refine OkQ.op rfl (OpQ.callG (v := .int .i64 (ibS ((if ((e2.toNat : Int) == 47) = true then ((jpeekS (ybxr_0l2, ybxr_1l2, yown_xr_2_0l2) 1).2).1 else ybxr_0l2).drop (Int.toNat (if ((e2.toNat : Int) == 47) = true then (((jpeekS (ybxr_0l2, ybxr_1l2, yown_xr_2_0l2) 1).2).2).1 else ybxr_1l2))) 10)) (enters (by kernel_rfl) (fun _ => by kernel_rfl)) (fun W hW => ib_c ((if ((e2.toNat : Int) == 47) = true then ((jpeekS (ybxr_0l2, ybxr_1l2, yown_xr_2_0l2) 1).2).1 else ybxr_0l2).drop (Int.toNat (if ((e2.toNat : Int) == 47) = true then (((jpeekS (ybxr_0l2, ybxr_1l2, yown_xr_2_0l2) 1).2).2).1 else ybxr_1l2))) 10) rfl ?_)
              refine OkQ.batch 1 [(0, .pointer (some ⟨bxr, 0, none⟩)), (3, .int .i64 (ibS ((if ((e2.toNat : Int) == 47) = true then ((jpeekS (ybxr_0l2, ybxr_1l2, yown_xr_2_0l2) 1).2).1 else ybxr_0l2).drop (Int.toNat (if ((e2.toNat : Int) == 47) = true then (((jpeekS (ybxr_0l2, ybxr_1l2, yown_xr_2_0l2) 1).2).2).1 else ybxr_1l2))) 10))] (by kernel_rfl) ?_
              refine OkQ.nil ?_
              refine Ok.thenN ?_
              refine Ok.cut (fun a W => ∃ gj22 : Ghost, Gext w0 gj17 gj22 ∧ StA 83 [(0, .pointer (some ⟨bxr, 0, none⟩)), (3, .int .i64 (if (decide ((ibS ((if ((e2.toNat : Int) == 47) = true then ((jpeekS (ybxr_0l2, ybxr_1l2, yown_xr_2_0l2) 1).2).1 else ybxr_0l2).drop (Int.toNat (if ((e2.toNat : Int) == 47) = true then (((jpeekS (ybxr_0l2, ybxr_1l2, yown_xr_2_0l2) 1).2).2).1 else ybxr_1l2))) 10) < 0)) = true then IntKind.wrap .i64 (((if ((e2.toNat : Int) == 47) = true then ((jpeekS (ybxr_0l2, ybxr_1l2, yown_xr_2_0l2) 1).2).1 else ybxr_0l2).length : Int) - (if ((e2.toNat : Int) == 47) = true then (((jpeekS (ybxr_0l2, ybxr_1l2, yown_xr_2_0l2) 1).2).2).1 else ybxr_1l2)) else (ibS ((if ((e2.toNat : Int) == 47) = true then ((jpeekS (ybxr_0l2, ybxr_1l2, yown_xr_2_0l2) 1).2).1 else ybxr_0l2).drop (Int.toNat (if ((e2.toNat : Int) == 47) = true then (((jpeekS (ybxr_0l2, ybxr_1l2, yown_xr_2_0l2) 1).2).2).1 else ybxr_1l2))) 10)))] a ∧ StW w0 [.blk bxr (.cells #[.string ⟨⟨(if ((e2.toNat : Int) == 47) = true then ((jpeekS (ybxr_0l2, ybxr_1l2, yown_xr_2_0l2) 1).2).1 else ybxr_0l2)⟩⟩, .int .i64 (if ((e2.toNat : Int) == 47) = true then (((jpeekS (ybxr_0l2, ybxr_1l2, yown_xr_2_0l2) 1).2).2).1 else ybxr_1l2), .slice ayown_xr_2_0j17 (if ((e2.toNat : Int) == 47) = true then (((jpeekS (ybxr_0l2, ybxr_1l2, yown_xr_2_0l2) 1).2).2).2 else yown_xr_2_0l2).length cyown_xr_2_0j17] 37), .own (.slice ayown_xr_2_0j17 (if ((e2.toNat : Int) == 47) = true then (((jpeekS (ybxr_0l2, ybxr_1l2, yown_xr_2_0l2) 1).2).2).2 else yown_xr_2_0l2).length cyown_xr_2_0j17) 39 5 (if ((e2.toNat : Int) == 47) = true then (((jpeekS (ybxr_0l2, ybxr_1l2, yown_xr_2_0l2) 1).2).2).2 else yown_xr_2_0l2).length xsyown_xr_2_0j17] gj22 W ∧ jskipj22 ybxr_0l2 ybxr_1l2 yown_xr_2_0l2 (jskipl2 K k2)) ?_ ?_
              ·
                refine Ok.seq ?_
                refine Ok.region ?_
                refine Ok.batch 2 [(0, .pointer (some ⟨bxr, 0, none⟩)), (3, .int .i64 (ibS ((if ((e2.toNat : Int) == 47) = true then ((jpeekS (ybxr_0l2, ybxr_1l2, yown_xr_2_0l2) 1).2).1 else ybxr_0l2).drop (Int.toNat (if ((e2.toNat : Int) == 47) = true then (((jpeekS (ybxr_0l2, ybxr_1l2, yown_xr_2_0l2) 1).2).2).1 else ybxr_1l2))) 10)), (64, .bool (decide ((ibS ((if ((e2.toNat : Int) == 47) = true then ((jpeekS (ybxr_0l2, ybxr_1l2, yown_xr_2_0l2) 1).2).1 else ybxr_0l2).drop (Int.toNat (if ((e2.toNat : Int) == 47) = true then (((jpeekS (ybxr_0l2, ybxr_1l2, yown_xr_2_0l2) 1).2).2).1 else ybxr_1l2))) 10) < 0)))] (by kernel_rfl) ?_
                refine Ok.nil ?_
                refine Ok.thenN ?_
                refine Ok.cond (b := decide ((ibS ((if ((e2.toNat : Int) == 47) = true then ((jpeekS (ybxr_0l2, ybxr_1l2, yown_xr_2_0l2) 1).2).1 else ybxr_0l2).drop (Int.toNat (if ((e2.toNat : Int) == 47) = true then (((jpeekS (ybxr_0l2, ybxr_1l2, yown_xr_2_0l2) 1).2).2).1 else ybxr_1l2))) 10) < 0)) rfl (fun hc12 => ?_) (fun hc12 => ?_)
                · replace hF := hF.1 hc12
                  refine Ok.quiet' (by kernel_rfl) (by kernel_rfl) ?_
                  refine OkQ.batch 3 [(0, .pointer (some ⟨bxr, 0, none⟩)), (67, .pointer (some ⟨bxr, 0, none⟩))] (by kernel_rfl) ?_
                  refine OkQ.op rfl (OpQ.step (v := .string ⟨⟨(if ((e2.toNat : Int) == 47) = true then ((jpeekS (ybxr_0l2, ybxr_1l2, yown_xr_2_0l2) 1).2).1 else ybxr_0l2)⟩⟩) (Yields.load 0 rfl rfl Tryd.underlying9 rfl (by kernel_rfl)) rfl rfl ?_)
                  refine OkQ.batch 4 [(0, .pointer (some ⟨bxr, 0, none⟩)), (69, .int .i64 ((if ((e2.toNat : Int) == 47) = true then ((jpeekS (ybxr_0l2, ybxr_1l2, yown_xr_2_0l2) 1).2).1 else ybxr_0l2).length : Int)), (72, .pointer (some ⟨bxr, 1, none⟩))] (by kernel_rfl) ?_
                  refine OkQ.op rfl (OpQ.step (v := .int .i64 (if ((e2.toNat : Int) == 47) = true then (((jpeekS (ybxr_0l2, ybxr_1l2, yown_xr_2_0l2) 1).2).2).1 else ybxr_1l2)) (Yields.load 0 rfl rfl Tryd.underlying3 rfl (by kernel_rfl)) rfl rfl ?_)
                  refine OkQ.batch 2 [(0, .pointer (some ⟨bxr, 0, none⟩)), (3, .int .i64 (IntKind.wrap .i64 (((if ((e2.toNat : Int) == 47) = true then ((jpeekS (ybxr_0l2, ybxr_1l2, yown_xr_2_0l2) 1).2).1 else ybxr_0l2).length : Int) - (if ((e2.toNat : Int) == 47) = true then (((jpeekS (ybxr_0l2, ybxr_1l2, yown_xr_2_0l2) 1).2).2).1 else ybxr_1l2))))] (by kernel_rfl) ?_
                  refine OkQ.nil ?_
                  refine Ok.thenN ?_
                  refine Ok.reval 3 rfl (show (.int .i64 (IntKind.wrap .i64 (((if ((e2.toNat : Int) == 47) = true then ((jpeekS (ybxr_0l2, ybxr_1l2, yown_xr_2_0l2) 1).2).1 else ybxr_0l2).length : Int) - (if ((e2.toNat : Int) == 47) = true then (((jpeekS (ybxr_0l2, ybxr_1l2, yown_xr_2_0l2) 1).2).2).1 else ybxr_1l2))) : Value) = .int .i64 (if (decide ((ibS ((if ((e2.toNat : Int) == 47) = true then ((jpeekS (ybxr_0l2, ybxr_1l2, yown_xr_2_0l2) 1).2).1 else ybxr_0l2).drop (Int.toNat (if ((e2.toNat : Int) == 47) = true then (((jpeekS (ybxr_0l2, ybxr_1l2, yown_xr_2_0l2) 1).2).2).1 else ybxr_1l2))) 10) < 0)) = true then IntKind.wrap .i64 (((if ((e2.toNat : Int) == 47) = true then ((jpeekS (ybxr_0l2, ybxr_1l2, yown_xr_2_0l2) 1).2).1 else ybxr_0l2).length : Int) - (if ((e2.toNat : Int) == 47) = true then (((jpeekS (ybxr_0l2, ybxr_1l2, yown_xr_2_0l2) 1).2).2).1 else ybxr_1l2)) else (ibS ((if ((e2.toNat : Int) == 47) = true then ((jpeekS (ybxr_0l2, ybxr_1l2, yown_xr_2_0l2) 1).2).1 else ybxr_0l2).drop (Int.toNat (if ((e2.toNat : Int) == 47) = true then (((jpeekS (ybxr_0l2, ybxr_1l2, yown_xr_2_0l2) 1).2).2).1 else ybxr_1l2))) 10)) from congrArg (Value.int .i64) ((if_t hc12).symm)) ?_
                  exact fun a W hA hW => ⟨gj17, (Gext.refl w0 gj17), hA.sub (by kernel_rfl), hW, hF⟩
                · replace hF := hF.2 hc12
                  refine Ok.skip ?_
                  refine Ok.thenN ?_
                  refine Ok.reval 3 rfl (show (.int .i64 (ibS ((if ((e2.toNat : Int) == 47) = true then ((jpeekS (ybxr_0l2, ybxr_1l2, yown_xr_2_0l2) 1).2).1 else ybxr_0l2).drop (Int.toNat (if ((e2.toNat : Int) == 47) = true then (((jpeekS (ybxr_0l2, ybxr_1l2, yown_xr_2_0l2) 1).2).2).1 else ybxr_1l2))) 10) : Value) = .int .i64 (if (decide ((ibS ((if ((e2.toNat : Int) == 47) = true then ((jpeekS (ybxr_0l2, ybxr_1l2, yown_xr_2_0l2) 1).2).1 else ybxr_0l2).drop (Int.toNat (if ((e2.toNat : Int) == 47) = true then (((jpeekS (ybxr_0l2, ybxr_1l2, yown_xr_2_0l2) 1).2).2).1 else ybxr_1l2))) 10) < 0)) = true then IntKind.wrap .i64 (((if ((e2.toNat : Int) == 47) = true then ((jpeekS (ybxr_0l2, ybxr_1l2, yown_xr_2_0l2) 1).2).1 else ybxr_0l2).length : Int) - (if ((e2.toNat : Int) == 47) = true then (((jpeekS (ybxr_0l2, ybxr_1l2, yown_xr_2_0l2) 1).2).2).1 else ybxr_1l2)) else (ibS ((if ((e2.toNat : Int) == 47) = true then ((jpeekS (ybxr_0l2, ybxr_1l2, yown_xr_2_0l2) 1).2).1 else ybxr_0l2).drop (Int.toNat (if ((e2.toNat : Int) == 47) = true then (((jpeekS (ybxr_0l2, ybxr_1l2, yown_xr_2_0l2) 1).2).2).1 else ybxr_1l2))) 10)) from congrArg (Value.int .i64) ((if_f hc12).symm)) ?_
                  exact fun a W hA hW => ⟨gj17, (Gext.refl w0 gj17), hA.sub (by kernel_rfl), hW, hF⟩
              ·
                clear hF
                rintro a W ⟨gj22, hxj22, hA, hW, hF⟩
                refine (?_ : Ok _ _ _ _ _ _) a W hA hW
                clear hA hW
                replace hLyown_xr_2_0j17 := hLyown_xr_2_0j17.mono hxj22.1
                refine Ok.region ?_
                refine Ok.batch 3 [(0, .pointer (some ⟨bxr, 0, none⟩)), (3, .int .i64 (if (decide ((ibS ((if ((e2.toNat : Int) == 47) = true then ((jpeekS (ybxr_0l2, ybxr_1l2, yown_xr_2_0l2) 1).2).1 else ybxr_0l2).drop (Int.toNat (if ((e2.toNat : Int) == 47) = true then (((jpeekS (ybxr_0l2, ybxr_1l2, yown_xr_2_0l2) 1).2).2).1 else ybxr_1l2))) 10) < 0)) = true then IntKind.wrap .i64 (((if ((e2.toNat : Int) == 47) = true then ((jpeekS (ybxr_0l2, ybxr_1l2, yown_xr_2_0l2) 1).2).1 else ybxr_0l2).length : Int) - (if ((e2.toNat : Int) == 47) = true then (((jpeekS (ybxr_0l2, ybxr_1l2, yown_xr_2_0l2) 1).2).2).1 else ybxr_1l2)) else (ibS ((if ((e2.toNat : Int) == 47) = true then ((jpeekS (ybxr_0l2, ybxr_1l2, yown_xr_2_0l2) 1).2).1 else ybxr_0l2).drop (Int.toNat (if ((e2.toNat : Int) == 47) = true then (((jpeekS (ybxr_0l2, ybxr_1l2, yown_xr_2_0l2) 1).2).2).1 else ybxr_1l2))) 10))), (75, .pointer (some ⟨bxr, 0, none⟩)), (77, .pointer (some ⟨bxr, 1, none⟩))] (by kernel_rfl) ?_
                refine Ok.op rfl (OpOk.step (v := .int .i64 (if ((e2.toNat : Int) == 47) = true then (((jpeekS (ybxr_0l2, ybxr_1l2, yown_xr_2_0l2) 1).2).2).1 else ybxr_1l2)) (Yields.load 0 rfl rfl Tryd.underlying3 rfl (by kernel_rfl)) rfl rfl ?_)
                refine Ok.batch 4 [(0, .pointer (some ⟨bxr, 0, none⟩)), (80, .int .i64 (IntKind.wrap .i64 ((if ((e2.toNat : Int) == 47) = true then (((jpeekS (ybxr_0l2, ybxr_1l2, yown_xr_2_0l2) 1).2).2).1 else ybxr_1l2) + (if (decide ((ibS ((if ((e2.toNat : Int) == 47) = true then ((jpeekS (ybxr_0l2, ybxr_1l2, yown_xr_2_0l2) 1).2).1 else ybxr_0l2).drop (Int.toNat (if ((e2.toNat : Int) == 47) = true then (((jpeekS (ybxr_0l2, ybxr_1l2, yown_xr_2_0l2) 1).2).2).1 else ybxr_1l2))) 10) < 0)) = true then IntKind.wrap .i64 (((if ((e2.toNat : Int) == 47) = true then ((jpeekS (ybxr_0l2, ybxr_1l2, yown_xr_2_0l2) 1).2).1 else ybxr_0l2).length : Int) - (if ((e2.toNat : Int) == 47) = true then (((jpeekS (ybxr_0l2, ybxr_1l2, yown_xr_2_0l2) 1).2).2).1 else ybxr_1l2)) else (ibS ((if ((e2.toNat : Int) == 47) = true then ((jpeekS (ybxr_0l2, ybxr_1l2, yown_xr_2_0l2) 1).2).1 else ybxr_0l2).drop (Int.toNat (if ((e2.toNat : Int) == 47) = true then (((jpeekS (ybxr_0l2, ybxr_1l2, yown_xr_2_0l2) 1).2).2).1 else ybxr_1l2))) 10))))), (82, .pointer (some ⟨bxr, 1, none⟩))] (by kernel_rfl) ?_
                refine Ok.op rfl (OpOk.store (k := 1) (v := .int .i64 (IntKind.wrap .i64 ((if ((e2.toNat : Int) == 47) = true then (((jpeekS (ybxr_0l2, ybxr_1l2, yown_xr_2_0l2) 1).2).2).1 else ybxr_1l2) + (if (decide ((ibS ((if ((e2.toNat : Int) == 47) = true then ((jpeekS (ybxr_0l2, ybxr_1l2, yown_xr_2_0l2) 1).2).1 else ybxr_0l2).drop (Int.toNat (if ((e2.toNat : Int) == 47) = true then (((jpeekS (ybxr_0l2, ybxr_1l2, yown_xr_2_0l2) 1).2).2).1 else ybxr_1l2))) 10) < 0)) = true then IntKind.wrap .i64 (((if ((e2.toNat : Int) == 47) = true then ((jpeekS (ybxr_0l2, ybxr_1l2, yown_xr_2_0l2) 1).2).1 else ybxr_0l2).length : Int) - (if ((e2.toNat : Int) == 47) = true then (((jpeekS (ybxr_0l2, ybxr_1l2, yown_xr_2_0l2) 1).2).2).1 else ybxr_1l2)) else (ibS ((if ((e2.toNat : Int) == 47) = true then ((jpeekS (ybxr_0l2, ybxr_1l2, yown_xr_2_0l2) 1).2).1 else ybxr_0l2).drop (Int.toNat (if ((e2.toNat : Int) == 47) = true then (((jpeekS (ybxr_0l2, ybxr_1l2, yown_xr_2_0l2) 1).2).2).1 else ybxr_1l2))) 10))))) (H' := [.blk bxr (.cells #[.string ⟨⟨(if ((e2.toNat : Int) == 47) = true then ((jpeekS (ybxr_0l2, ybxr_1l2, yown_xr_2_0l2) 1).2).1 else ybxr_0l2)⟩⟩, .int .i64 (IntKind.wrap .i64 ((if ((e2.toNat : Int) == 47) = true then (((jpeekS (ybxr_0l2, ybxr_1l2, yown_xr_2_0l2) 1).2).2).1 else ybxr_1l2) + (if (decide ((ibS ((if ((e2.toNat : Int) == 47) = true then ((jpeekS (ybxr_0l2, ybxr_1l2, yown_xr_2_0l2) 1).2).1 else ybxr_0l2).drop (Int.toNat (if ((e2.toNat : Int) == 47) = true then (((jpeekS (ybxr_0l2, ybxr_1l2, yown_xr_2_0l2) 1).2).2).1 else ybxr_1l2))) 10) < 0)) = true then IntKind.wrap .i64 (((if ((e2.toNat : Int) == 47) = true then ((jpeekS (ybxr_0l2, ybxr_1l2, yown_xr_2_0l2) 1).2).1 else ybxr_0l2).length : Int) - (if ((e2.toNat : Int) == 47) = true then (((jpeekS (ybxr_0l2, ybxr_1l2, yown_xr_2_0l2) 1).2).2).1 else ybxr_1l2)) else (ibS ((if ((e2.toNat : Int) == 47) = true then ((jpeekS (ybxr_0l2, ybxr_1l2, yown_xr_2_0l2) 1).2).1 else ybxr_0l2).drop (Int.toNat (if ((e2.toNat : Int) == 47) = true then (((jpeekS (ybxr_0l2, ybxr_1l2, yown_xr_2_0l2) 1).2).2).1 else ybxr_1l2))) 10)))), .slice ayown_xr_2_0j17 (if ((e2.toNat : Int) == 47) = true then (((jpeekS (ybxr_0l2, ybxr_1l2, yown_xr_2_0l2) 1).2).2).2 else yown_xr_2_0l2).length cyown_xr_2_0j17] 37), .own (.slice ayown_xr_2_0j17 (if ((e2.toNat : Int) == 47) = true then (((jpeekS (ybxr_0l2, ybxr_1l2, yown_xr_2_0l2) 1).2).2).2 else yown_xr_2_0l2).length cyown_xr_2_0j17) 39 5 (if ((e2.toNat : Int) == 47) = true then (((jpeekS (ybxr_0l2, ybxr_1l2, yown_xr_2_0l2) 1).2).2).2 else yown_xr_2_0l2).length xsyown_xr_2_0j17]) 0 rfl rfl rfl (by kernel_rfl) (by kernel_rfl) (by kernel_rfl) (by kernel_rfl) (by kernel_rfl) ?_)
                refine Ok.nil ?_
                refine Ok.blockN ?_
                refine Ok.blockN ?_
                refine Ok.thenN ?_
                subst hg2
                exact fun a W hA hW => ⟨k2, Nat.lt_succ_self _, gj22, ((hxl2.trans hxj17).trans hxj22), (if (((ybxr_0l2.getD (Int.toNat ybxr_1l2) 0).toNat : Int) == 47) = true then ((jpeekS (ybxr_0l2, ybxr_1l2, yown_xr_2_0l2) 1).2).1 else ybxr_0l2), IntKind.wrap .i64 ((if (((ybxr_0l2.getD (Int.toNat ybxr_1l2) 0).toNat : Int) == 47) = true then (((jpeekS (ybxr_0l2, ybxr_1l2, yown_xr_2_0l2) 1).2).2).1 else ybxr_1l2) + (if (decide ((ibS ((if (((ybxr_0l2.getD (Int.toNat ybxr_1l2) 0).toNat : Int) == 47) = true then ((jpeekS (ybxr_0l2, ybxr_1l2, yown_xr_2_0l2) 1).2).1 else ybxr_0l2).drop (Int.toNat (if (((ybxr_0l2.getD (Int.toNat ybxr_1l2) 0).toNat : Int) == 47) = true then (((jpeekS (ybxr_0l2, ybxr_1l2, yown_xr_2_0l2) 1).2).2).1 else ybxr_1l2))) 10) < 0)) = true then IntKind.wrap .i64 (((if (((ybxr_0l2.getD (Int.toNat ybxr_1l2) 0).toNat : Int) == 47) = true then ((jpeekS (ybxr_0l2, ybxr_1l2, yown_xr_2_0l2) 1).2).1 else ybxr_0l2).length : Int) - (if (((ybxr_0l2.getD (Int.toNat ybxr_1l2) 0).toNat : Int) == 47) = true then (((jpeekS (ybxr_0l2, ybxr_1l2, yown_xr_2_0l2) 1).2).2).1 else ybxr_1l2)) else (ibS ((if (((ybxr_0l2.getD (Int.toNat ybxr_1l2) 0).toNat : Int) == 47) = true then ((jpeekS (ybxr_0l2, ybxr_1l2, yown_xr_2_0l2) 1).2).1 else ybxr_0l2).drop (Int.toNat (if (((ybxr_0l2.getD (Int.toNat ybxr_1l2) 0).toNat : Int) == 47) = true then (((jpeekS (ybxr_0l2, ybxr_1l2, yown_xr_2_0l2) 1).2).2).1 else ybxr_1l2))) 10))), ayown_xr_2_0j17, cyown_xr_2_0j17, (if (((ybxr_0l2.getD (Int.toNat ybxr_1l2) 0).toNat : Int) == 47) = true then (((jpeekS (ybxr_0l2, ybxr_1l2, yown_xr_2_0l2) 1).2).2).2 else yown_xr_2_0l2), xsyown_xr_2_0j17, hLyown_xr_2_0j17, hA.sub (by kernel_rfl), hW, hF⟩
            · replace hF := hF.2 hc10
              refine Ok.ret ?_
              refine Ok.blockR ?_
              refine Ok.blockR ?_
              refine Ok.thenR ?_
              refine Ok.blockR ?_
              exact Ok.resH (vs := []) (.inl rfl) rfl .nil (hxl2.trans hxj17) ⟨((if ((e2.toNat : Int) == 47) = true then ((jpeekS (ybxr_0l2, ybxr_1l2, yown_xr_2_0l2) 1).2).1 else ybxr_0l2), (if ((e2.toNat : Int) == 47) = true then (((jpeekS (ybxr_0l2, ybxr_1l2, yown_xr_2_0l2) 1).2).2).1 else ybxr_1l2), (if ((e2.toNat : Int) == 47) = true then (((jpeekS (ybxr_0l2, ybxr_1l2, yown_xr_2_0l2) 1).2).2).2 else yown_xr_2_0l2)), ayown_xr_2_0j17, cyown_xr_2_0j17, xsyown_xr_2_0j17, rfl, hLyown_xr_2_0j17, rfl, hF⟩
      · replace hF := hF.2 hc1
        refine Ok.exit ?_
        refine Ok.thenE ?_
        refine Ok.thenE ?_
        refine Ok.blockHit ?_
        exact Ok.resH (vs := []) (.inr rfl) rfl .nil hxl2 ⟨(ybxr_0l2, ybxr_1l2, yown_xr_2_0l2), ayown_xr_2_0l2, cyown_xr_2_0l2, xsyown_xr_2_0l2, rfl, hLyown_xr_2_0l2, rfl, hF⟩
def wsB (c : UInt8) : Bool := ((((c.toNat : Int) == 32) || ((c.toNat : Int) == 9)) || ((c.toNat : Int) == 10)) || ((c.toNat : Int) == 13)
/-- how many bytes part tokens here; the flag: in a remark -/
def skN : List UInt8 → Bool → Nat
  | [], _ => 0
  | c :: l, true => 1 + skN l (!((c.toNat : Int) == 10))
  | c :: l, false => if wsB c = true then 1 + skN l false else if (((c.toNat : Int) == 47) && (((l.headD 0).toNat : Int) == 47)) = true then 1 + skN l true else 0
theorem skN_le : ∀ (l : List UInt8) (b : Bool), skN l b ≤ l.length
  | [], _ => Nat.le_refl _
  | c :: l, true => by
    have := skN_le l (!((c.toNat : Int) == 10))
    rw [skN, List.length_cons]; omega
  | c :: l, false => by
    have h1 := skN_le l false
    have h2 := skN_le l true
    rw [skN, List.length_cons]; split
    · omega
    · split <;> omega
/-- how long the rest of the line is -/
def eolN (l : List UInt8) : Int := if decide (ibS l 10 < 0) = true then (l.length : Int) else ibS l 10
theorem eolN_nil : eolN [] = 0 := rfl
theorem eolN_cons (c : UInt8) (l : List UInt8) : eolN (c :: l) = if ((c.toNat : Int) == 10) = true then 0 else 1 + eolN l := by
  have hg : -1 ≤ ibS l 10 := Lib.indexByte_ge _ _
  have e : ibS (c :: l) 10 = if c == 10 then 0 else if ibS l 10 == -1 then -1 else ibS l 10 + 1 := rfl
  have hc : (c == 10) = ((c.toNat : Int) == 10) := by
    rw [Bool.eq_iff_iff, beq_iff_eq, beq_iff_eq]
    exact ⟨fun h => by rw [h]; rfl, fun h => UInt8.toNat_inj.1 (by rw [show (10 : UInt8).toNat = 10 from rfl]; omega)⟩
  unfold eolN
  rw [e, hc]
  cases ((c.toNat : Int) == 10)
  · simp only [Bool.false_eq_true, if_false]
    by_cases h : ibS l 10 = -1
    · simp [h]; omega
    · have h0 : (ibS l 10 == -1) = false := by simpa using h
      rw [h0]
      simp only [Bool.false_eq_true, if_false]
      rw [if_f (decide_eq_false (by omega)), if_f (decide_eq_false (by omega))]; omega
  · simp
theorem eolN_ge : ∀ l : List UInt8, 0 ≤ eolN l ∧ eolN l ≤ (l.length : Int)
  | [] => ⟨Int.le_refl _, Int.le_refl _⟩
  | c :: l => by
    have := eolN_ge l
    rw [eolN_cons, List.length_cons]; split <;> omega
theorem skN_eol : ∀ l : List UInt8, skN l true = (eolN l).toNat + skN (l.drop (eolN l).toNat) false
  | [] => rfl
  | c :: l => by
    have h1 := skN_eol l
    have h2 := eolN_ge l
    rw [eolN_cons]
    cases h : ((c.toNat : Int) == 10)
    · rw [if_f rfl, skN, h, show (1 + eolN l).toNat = (eolN l).toNat + 1 by omega, List.drop_succ_cons, Bool.not_false, h1]; omega
    · have hw : wsB c = true := by unfold wsB; rw [h]; simp
      rw [if_t rfl, skN, h]
      show _ = 0 + skN (c :: l) false
      rw [skN, if_t hw]; simp
def jskipS (x : RD) : RD := (x.1, x.2.1 + (skN (x.1.drop (Int.toNat x.2.1)) false : Nat), x.2.2)
theorem jskip_F (x : RD) (hp : rdP x) : jskipF x (fun r => r = jskipS x) := by
  have hl := hp.1
  have loop : ∀ (k : Nat) (i : Int), i.toNat + k = x.1.length → 0 ≤ i → i + (skN (x.1.drop i.toNat) false : Nat) = (jskipS x).2.1 → ∀ m, k ≤ m → jskipl2 (fun r => r = jskipS x) (m + 1) x.1 i x.2.2 := by
    intro k
    induction k using Nat.strongRecOn with
    | _ k ih =>
      intro i h hi h4 m hm
      have fin : i = (jskipS x).2.1 → (x.1, i, x.2.2) = jskipS x := fun e => by rw [e]; rfl
      by_cases hk : k = 0
      · subst hk
        rw [List.drop_of_length_le (by omega)] at h4
        have hc : decide (i < (x.1.length : Int)) = false := decide_eq_false (by omega)
        exact ⟨fun h => (Bool.false_ne_true (hc.symm.trans h)).elim, fun _ => fin (by rw [← h4]; show i = i + ((0 : Nat) : Int); omega)⟩
      · obtain ⟨k, rfl⟩ : ∃ j, k = j + 1 := ⟨k - 1, by omega⟩
        obtain ⟨m, rfl⟩ : ∃ j, m = j + 1 := ⟨m - 1, by omega⟩
        have hc : decide (i < (x.1.length : Int)) = true := decide_eq_true (by omega)
        have hd := drop_get (l := x.1) (k := i.toNat) 0 (by omega)
        have hpk : ((if decide (i + 1 < (x.1.length : Int)) = true then ((x.1.getD (Int.toNat (i + 1)) 0).toNat : Int) else 0)) = (((x.1.drop (i.toNat + 1)).headD 0).toNat : Int) := by
          by_cases hj : i.toNat + 1 < x.1.length
          · rw [if_t (decide_eq_true (by omega)), drop_get (l := x.1) 0 hj, List.headD_cons, show Int.toNat (i + 1) = i.toNat + 1 by omega]
          · rw [if_f (decide_eq_false (by omega)), List.drop_of_length_le (by omega)]; rfl
        rw [hd, skN] at h4
        refine ⟨fun _ => ⟨hi, by omega, fun hw => ?_, fun hw => ?_⟩, fun h => (Bool.false_ne_true (h.symm.trans hc)).elim⟩
        · rw [if_t (show wsB _ = true from hw)] at h4
          rw [w64 (by omega)]
          exact ih k (by omega) (i + 1) (by omega) (by omega) (by rw [show (i + 1).toNat = i.toNat + 1 by omega, ← h4]; omega) m (by omega)
        · rw [if_f (show wsB _ = false from hw)] at h4
          have key : jskipj17 (fun r => r = jskipS x) (x.1.getD (Int.toNat i) 0) x.1 i x.2.2 (jskipl2 (fun r => r = jskipS x) (m + 1)) := by
            unfold jskipj17 jskipj22
            simp only [jpeekS, ite_self, hpk]
            refine ⟨fun hs => ?_, fun hs => fin ?_⟩
            · rw [if_t hs] at h4
              have h47 : ((x.1.getD (Int.toNat i) 0).toNat : Int) = 47 := by
                rw [Bool.and_eq_true, beq_iff_eq] at hs; exact hs.1
              have he : (IntKind.wrap .i64 (i + (if decide (ibS (x.1.drop i.toNat) 10 < 0) = true then IntKind.wrap .i64 ((x.1.length : Int) - i) else ibS (x.1.drop i.toNat) 10))) = i + eolN (x.1.drop i.toNat) := by
                have hb := eolN_ge (x.1.drop i.toNat)
                rw [w64 (x := (x.1.length : Int) - i) (by omega)]
                have : (if decide (ibS (x.1.drop i.toNat) 10 < 0) = true then ((x.1.length : Int) - i) else ibS (x.1.drop i.toNat) 10) = eolN (x.1.drop i.toNat) := by
                  unfold eolN
                  rw [List.length_drop]
                  split
                  · omega
                  · rfl
                rw [this, w64 (by rw [List.length_drop] at hb; omega)]
              have hgo : jskipl2 (fun r => r = jskipS x) (m + 1) x.1 (i + eolN (x.1.drop i.toNat)) x.2.2 := by
                have hb := eolN_ge (x.1.drop (i.toNat + 1))
                rw [List.length_drop] at hb
                have e1 : eolN (x.1.drop i.toNat) = 1 + eolN (x.1.drop (i.toNat + 1)) := by
                  rw [hd, eolN_cons, if_f (by rw [h47]; rfl)]
                refine ih (k - (eolN (x.1.drop (i.toNat + 1))).toNat) (by omega) _ (by omega) (by omega) ?_ m (by omega)
                rw [skN_eol, List.drop_drop] at h4
                rw [e1, show (i + (1 + eolN (x.1.drop (i.toNat + 1)))).toNat = i.toNat + 1 + (eolN (x.1.drop (i.toNat + 1))).toNat by omega, ← h4]
                omega
              rw [he]
              exact ⟨hi, by omega, by omega, fun _ => hgo, fun _ => hgo⟩
            · rw [if_f hs] at h4
              rw [← h4]; show i = i + ((0 : Nat) : Int); omega
          exact ⟨fun _ => ⟨⟨⟨hl, hi, by show i ≤ (x.1.length : Int); omega⟩, by omega, by omega⟩, key⟩, fun _ => key⟩
  obtain ⟨h1, h2, h3⟩ := hp
  exact ⟨_, loop (x.1.length - x.2.1.toNat) x.2.1 (by omega) h2 rfl _ (Nat.le_refl _)⟩
set_option linter.unusedVariables false in
theorem jskip_c {g : Ghost} {bxr : Nat} {axr_0 : Option Addr} {cxr_0 : Nat} {xsxr_0 : List Value} (xr : List UInt8 × Int × List (Int × Int × Int × List UInt8 × Int)) (hLxr_0 : RepL g (.pair (.int .i64) (.pair (.int .i64) (.pair (.int .i64) (.pair (.str) (.int .i64))))) xsxr_0 xr.2.2)  (hp : rdP xr) : CallsH Tryd.prog 13 #[.pointer (some ⟨bxr, 0, none⟩)] g [.blk bxr (.cells #[.string ⟨⟨xr.1⟩⟩, .int .i64 xr.2.1, .slice axr_0 xr.2.2.length cxr_0] 37), .own (.slice axr_0 xr.2.2.length cxr_0) 39 5 xr.2.2.length xsxr_0] (fun g' H' v => ∃ (afxr_0 : Option Addr) (cfxr_0 : Nat) (xsfxr_0 : List Value), v = .tuple #[] ∧ RepL g' (.pair (.int .i64) (.pair (.int .i64) (.pair (.int .i64) (.pair (.str) (.int .i64))))) xsfxr_0 (jskipS xr).2.2 ∧ H' = [.blk bxr (.cells #[.string ⟨⟨(jskipS xr).1⟩⟩, .int .i64 (jskipS xr).2.1, .slice afxr_0 (jskipS xr).2.2.length cfxr_0] 37), .own (.slice afxr_0 (jskipS xr).2.2.length cfxr_0) 39 5 (jskipS xr).2.2.length xsfxr_0]) :=
  (jskip_ok xr hLxr_0 _ (jskip_F xr hp)).mono (by rintro g' H' v _ ⟨fxr, afxr_0, cfxr_0, xsfxr_0, rfl, hLfxr_0, rfl, hK⟩; subst hK; exact ⟨afxr_0, cfxr_0, xsfxr_0, rfl, hLfxr_0, rfl⟩)
def jnbj3 (xc : Int) (K : Bool → Prop) : Prop :=
  K ((jletM xc) || (jdigM xc))
def jnbF (xc : Int) (K : Bool → Prop) : Prop :=
  (((jletM xc)) = true → jnbj3 xc K) ∧ (((jletM xc)) = false → jnbj3 xc K)
set_option maxHeartbeats 4000000 in
set_option maxRecDepth 100000 in
set_option linter.unusedVariables false in
theorem jnb_ok {g : Ghost} (xc : Int) (K : Bool → Prop)
    (hF : jnbF xc K) : CallsH Tryd.prog 45 #[.int .u8 xc] g [] (fun g' H' v => ∃ (r0 : Bool), v = .bool r0 ∧ H' = [] ∧ K r0) := by
  refine CallsH.enter 9 [(0, .int .u8 xc)] Tryd.func45 rfl (by kernel_rfl) (by kernel_rfl) (by kernel_rfl) fun w0 => ?_
  refine Ok.seq ?_
  refine Ok.region ?_
  refine Ok.batch 1 [(0, .int .u8 xc)] (by kernel_rfl) ?_
  refine Ok.nil ?_
  refine Ok.thenN ?_
  refine Ok.cut (fun a W => StA 9 [(2, .bool ((jletM xc) || (jdigM xc)))] a ∧ StW w0 [] g W ∧ jnbj3 xc K) ?_ ?_
  ·
    refine Ok.region ?_
    refine Ok.batch 1 [(0, .int .u8 xc), (3, .int .u8 xc)] (by kernel_rfl) ?_
    refine Ok.op rfl (OpOk.callG (v := .bool (jletM xc)) (enters (by kernel_rfl) (fun _ => by kernel_rfl)) (fun W hW => jlet_c xc) rfl ?_)
    refine Ok.batch 1 [(0, .int .u8 xc), (5, .bool (jletM xc))] (by kernel_rfl) ?_
    refine Ok.boolAt 5 ((jletM xc)) rfl (fun hc1 => ?_) (fun hc1 => ?_)
    · replace hF := hF.1 hc1
      refine Ok.batch 4 [(2, .bool true)] (by kernel_rfl) ?_
      refine Ok.nil ?_
      refine Ok.thenN ?_
      refine Ok.reval 2 rfl (show (.bool true : Value) = .bool ((jletM xc) || (jdigM xc)) from congrArg (Value.bool) (mor_t hc1)) ?_
      exact fun a W hA hW => ⟨hA.sub (by kernel_rfl), hW, hF⟩
    · replace hF := hF.2 hc1
      refine Ok.batch 1 [(5, .bool false), (6, .int .u8 xc)] (by kernel_rfl) ?_
      refine Ok.opYes (j := 2) (d := 5) (want := false) (b := false) rfl (by kernel_rfl) (by kernel_rfl) rfl (OpOk.callG (v := .bool (jdigM xc)) (enters (by kernel_rfl) (fun _ => by kernel_rfl)) (fun W hW => jdig_c xc) rfl ?_)
      refine Ok.batch 2 [(2, .bool (jdigM xc))] (by kernel_rfl) ?_
      refine Ok.nil ?_
      refine Ok.thenN ?_
      refine Ok.reval 2 rfl (show (.bool (jdigM xc) : Value) = .bool ((jletM xc) || (jdigM xc)) from congrArg (Value.bool) (mor_f hc1)) ?_
      exact fun a W hA hW => ⟨hA.sub (by kernel_rfl), hW, hF⟩
  ·
    clear hF
    rintro a W ⟨hA, hW, hF⟩
    refine (?_ : Ok _ _ _ _ _ _) a W hA hW
    clear hA hW
    refine Ok.ret ?_
    exact Ok.resH (vs := [.bool ((jletM xc) || (jdigM xc))]) (.inl rfl) rfl (.cons (.tmp rfl) .nil) (Gext.refl w0 g) ⟨((jletM xc) || (jdigM xc)), rfl, rfl, hF⟩
def jnbj3M (xc : Int) : Bool := ((jletM xc) || (jdigM xc))
set_option linter.unusedSimpArgs false in
set_option linter.unusedVariables false in
theorem jnbj3_A (xc : Int) (P : Bool → Prop) (h : P (jnbj3M xc)) : jnbj3 xc (fun k0 => P k0) := by
  unfold jnbj3M at h
  unfold jnbj3
  exact h
def jnbM (xc : Int) : Bool := (jnbj3M xc)
set_option linter.unusedSimpArgs false in
set_option linter.unusedVariables false in
theorem jnbF_A (xc : Int) (P : Bool → Prop) (h : P (jnbM xc)) : jnbF xc (fun k0 => P k0) := by
  unfold jnbM at h
  unfold jnbF
  refine ⟨fun hc0 => ?_, fun hc0 => ?_⟩
  · skip
    exact jnbj3_A xc _ h
  · skip
    exact jnbj3_A xc _ h
theorem jnb_F (xc : Int) : jnbF xc (fun k0 => k0 = jnbM xc) :=
  jnbF_A xc (fun z => z = jnbM xc) rfl
set_option linter.unusedVariables false in
theorem jnb_c {g : Ghost} (xc : Int)  : CallsG Tryd.prog 45 #[.int .u8 xc] g (.bool (jnbM xc)) :=
  (jnb_ok xc _ (jnb_F xc)).gives (by rintro g' H' v _ ⟨r0, rfl, rfl, hK⟩; subst hK; rfl)
def jrunj9 (xr : List UInt8 × Int × List (Int × Int × Int × List UInt8 × Int)) (xis : Int → Bool) (K : (List UInt8) → (List UInt8 × Int × List (Int × Int × Int × List UInt8 × Int)) → Prop) (ybxr_1l7 : Int) (C7 : Int → Prop) : Prop :=
  ((((decide (ybxr_1l7 < (xr.1.length : Int))) && (xis ((xr.1.getD (Int.toNat ybxr_1l7) 0).toNat : Int)))) = true → C7 (IntKind.wrap .i64 (ybxr_1l7 + 1))) ∧ ((((decide (ybxr_1l7 < (xr.1.length : Int))) && (xis ((xr.1.getD (Int.toNat ybxr_1l7) 0).toNat : Int)))) = false → (0 : Int) ≤ xr.2.1 ∧ (xr.2.1 : Int) ≤ ybxr_1l7 ∧ ybxr_1l7 ≤ (xr.1.length : Int) ∧ K ((xr.1.take (Int.toNat ybxr_1l7)).drop (Int.toNat xr.2.1)) (xr.1, ybxr_1l7, xr.2.2))
def jrunl7b (xr : List UInt8 × Int × List (Int × Int × Int × List UInt8 × Int)) (xis : Int → Bool) (pxis : Int → Prop) (K : (List UInt8) → (List UInt8 × Int × List (Int × Int × Int × List UInt8 × Int)) → Prop) (ybxr_1l7 : Int) (C7 : Int → Prop) : Prop :=
  ((decide (ybxr_1l7 < (xr.1.length : Int))) = true → (0 : Int) ≤ ybxr_1l7 ∧ Int.toNat ybxr_1l7 < xr.1.length ∧ pxis ((xr.1.getD (Int.toNat ybxr_1l7) 0).toNat : Int) ∧ jrunj9 xr xis K ybxr_1l7 C7) ∧ ((decide (ybxr_1l7 < (xr.1.length : Int))) = false → jrunj9 xr xis K ybxr_1l7 C7)
def jrunl7 (xr : List UInt8 × Int × List (Int × Int × Int × List UInt8 × Int)) (xis : Int → Bool) (pxis : Int → Prop) (K : (List UInt8) → (List UInt8 × Int × List (Int × Int × Int × List UInt8 × Int)) → Prop) : Nat → Int → Prop
  | 0, _ => False
  | k + 1, ybxr_1l7 => jrunl7b xr xis pxis K ybxr_1l7 (jrunl7 xr xis pxis K k)
def jrunF (xr : List UInt8 × Int × List (Int × Int × Int × List UInt8 × Int)) (xis : Int → Bool) (pxis : Int → Prop) (K : (List UInt8) → (List UInt8 × Int × List (Int × Int × Int × List UInt8 × Int)) → Prop) : Prop :=
  ∃ k, jrunl7 xr xis pxis K k xr.2.1
set_option maxHeartbeats 4000000 in
set_option maxRecDepth 100000 in
set_option linter.unusedVariables false in
theorem jrun_ok {g : Ghost} {bxr : Nat} {axr_0 : Option Addr} {cxr_0 : Nat} {xsxr_0 : List Value} (xr : List UInt8 × Int × List (Int × Int × Int × List UInt8 × Int)) {vxis : Value} (xis : Int → Bool) (pxis : Int → Prop) (hLxr_0 : RepL g (.pair (.int .i64) (.pair (.int .i64) (.pair (.int .i64) (.pair (.str) (.int .i64))))) xsxr_0 xr.2.2) (hfxis : ∀ (y0 : Int), pxis y0 → FnG Tryd.prog vxis #[.int .u8 y0] g (.bool (xis y0))) (K : (List UInt8) → (List UInt8 × Int × List (Int × Int × Int × List UInt8 × Int)) → Prop)
    (hF : jrunF xr xis pxis K) : CallsH Tryd.prog 44 #[.pointer (some ⟨bxr, 0, none⟩), vxis] g [.blk bxr (.cells #[.string ⟨⟨xr.1⟩⟩, .int .i64 xr.2.1, .slice axr_0 xr.2.2.length cxr_0] 37), .own (.slice axr_0 xr.2.2.length cxr_0) 39 5 xr.2.2.length xsxr_0] (fun g' H' v => ∃ (r0 : List UInt8), ∃ (fxr : List UInt8 × Int × List (Int × Int × Int × List UInt8 × Int)), ∃ (afxr_0 : Option Addr) (cfxr_0 : Nat) (xsfxr_0 : List Value), v = .string ⟨⟨r0⟩⟩ ∧ RepL g' (.pair (.int .i64) (.pair (.int .i64) (.pair (.int .i64) (.pair (.str) (.int .i64))))) xsfxr_0 fxr.2.2 ∧ H' = [.blk bxr (.cells #[.string ⟨⟨fxr.1⟩⟩, .int .i64 fxr.2.1, .slice afxr_0 fxr.2.2.length cfxr_0] 37), .own (.slice afxr_0 fxr.2.2.length cfxr_0) 39 5 fxr.2.2.length xsfxr_0] ∧ K r0 fxr) := by
  refine CallsH.enter 50 [(0, .pointer (some ⟨bxr, 0, none⟩)), (1, vxis)] Tryd.func44 rfl (by kernel_rfl) (by kernel_rfl) (by kernel_rfl) fun w0 => ?_
  refine Ok.seq ?_
  refine Ok.region ?_
  refine Ok.batch 1 [(0, .pointer (some ⟨bxr, 0, none⟩)), (1, vxis)] (by kernel_rfl) ?_
  refine Ok.nil ?_
  refine Ok.thenN ?_
  refine Ok.seq ?_
  refine Ok.region ?_
  refine Ok.batch 3 [(0, .pointer (some ⟨bxr, 0, none⟩)), (1, vxis), (8, .pointer (some ⟨bxr, 1, none⟩))] (by kernel_rfl) ?_
  refine Ok.op rfl (OpOk.step (v := .int .i64 xr.2.1) (Yields.load 0 rfl rfl Tryd.underlying3 rfl (by kernel_rfl)) rfl rfl ?_)
  refine Ok.batch 1 [(0, .pointer (some ⟨bxr, 0, none⟩)), (1, vxis), (5, .int .i64 xr.2.1)] (by kernel_rfl) ?_
  refine Ok.nil ?_
  refine Ok.thenN ?_
  refine Ok.seq ?_
  refine Ok.block ?_
  obtain ⟨k, hF⟩ := hF
  refine Ok.loop (fun k a W => ∃ gl7 : Ghost, Gext w0 g gl7 ∧ ∃ (ybxr_1l7 : Int), StA 50 [(0, .pointer (some ⟨bxr, 0, none⟩)), (1, vxis), (5, .int .i64 xr.2.1)] a ∧ StW w0 [.blk bxr (.cells #[.string ⟨⟨xr.1⟩⟩, .int .i64 ybxr_1l7, .slice axr_0 xr.2.2.length cxr_0] 37), .own (.slice axr_0 xr.2.2.length cxr_0) 39 5 xr.2.2.length xsxr_0] gl7 W ∧ jrunl7 xr xis pxis K k ybxr_1l7) k ?_ ?_
  ·
    exact fun a W hA hW => ⟨g, (Gext.refl w0 g), xr.2.1, hA.sub (by kernel_rfl), hW, hF⟩
  ·
    clear hF
    rintro k7 a W ⟨gl7, hxl7, ybxr_1l7, hA, hW, hF⟩
    cases k7 with
    | zero => exact (hF : False).elim
    | succ k7 =>
      refine (?_ : Ok _ _ _ _ _ _) a W hA hW
      clear hA hW
      replace hfxis := (fun y0 hp => (hfxis y0 hp).mono hxl7.1)
      replace hLxr_0 := hLxr_0.mono hxl7.1
      refine Ok.seq ?_
      refine Ok.cut (fun a W => ∃ gj9 : Ghost, Gext w0 gl7 gj9 ∧ StA 50 [(0, .pointer (some ⟨bxr, 0, none⟩)), (1, vxis), (5, .int .i64 xr.2.1), (32, .bool ((decide (ybxr_1l7 < (xr.1.length : Int))) && (xis ((xr.1.getD (Int.toNat ybxr_1l7) 0).toNat : Int))))] a ∧ StW w0 [.blk bxr (.cells #[.string ⟨⟨xr.1⟩⟩, .int .i64 ybxr_1l7, .slice axr_0 xr.2.2.length cxr_0] 37), .own (.slice axr_0 xr.2.2.length cxr_0) 39 5 xr.2.2.length xsxr_0] gj9 W ∧ jrunj9 xr xis K ybxr_1l7 (jrunl7 xr xis pxis K k7)) ?_ ?_
      ·
        refine Ok.quiet' (by kernel_rfl) (by kernel_rfl) ?_
        refine OkQ.batch 3 [(0, .pointer (some ⟨bxr, 0, none⟩)), (1, vxis), (5, .int .i64 xr.2.1), (12, .pointer (some ⟨bxr, 1, none⟩))] (by kernel_rfl) ?_
        refine OkQ.op rfl (OpQ.step (v := .int .i64 ybxr_1l7) (Yields.load 0 rfl rfl Tryd.underlying3 rfl (by kernel_rfl)) rfl rfl ?_)
        refine OkQ.batch 3 [(0, .pointer (some ⟨bxr, 0, none⟩)), (1, vxis), (5, .int .i64 xr.2.1), (13, .int .i64 ybxr_1l7), (16, .pointer (some ⟨bxr, 0, none⟩))] (by kernel_rfl) ?_
        refine OkQ.op rfl (OpQ.step (v := .string ⟨⟨xr.1⟩⟩) (Yields.load 0 rfl rfl Tryd.underlying9 rfl (by kernel_rfl)) rfl rfl ?_)
        refine OkQ.batch 3 [(0, .pointer (some ⟨bxr, 0, none⟩)), (1, vxis), (5, .int .i64 xr.2.1), (20, .bool (decide (ybxr_1l7 < (xr.1.length : Int))))] (by kernel_rfl) ?_
        refine OkQ.boolAt 20 (decide (ybxr_1l7 < (xr.1.length : Int))) rfl (fun hc3 => ?_) (fun hc3 => ?_)
        · replace hF := hF.1 hc3
          refine OkQ.batch 4 [(0, .pointer (some ⟨bxr, 0, none⟩)), (1, vxis), (5, .int .i64 xr.2.1), (20, .bool true), (21, vxis), (24, .pointer (some ⟨bxr, 0, none⟩))] (by kernel_rfl) ?_
          refine OkQ.opYes (j := 10) (d := 20) (want := true) (b := true) rfl (by kernel_rfl) (by kernel_rfl) rfl (OpQ.step (v := .string ⟨⟨xr.1⟩⟩) (Yields.load 0 rfl rfl Tryd.underlying9 rfl (by kernel_rfl)) rfl rfl ?_)
          refine OkQ.batch 3 [(0, .pointer (some ⟨bxr, 0, none⟩)), (1, vxis), (5, .int .i64 xr.2.1), (20, .bool true), (21, vxis), (25, .string ⟨⟨xr.1⟩⟩), (28, .pointer (some ⟨bxr, 1, none⟩))] (by kernel_rfl) ?_
          refine OkQ.opYes (j := 10) (d := 20) (want := true) (b := true) rfl (by kernel_rfl) (by kernel_rfl) rfl (OpQ.step (v := .int .i64 ybxr_1l7) (Yields.load 0 rfl rfl Tryd.underlying3 rfl (by kernel_rfl)) rfl rfl ?_)
          obtain ⟨h04, h14, hF⟩ := hF
          have he4 := get_of (l := xr.1) (0 : UInt8) h14
          generalize hg4 : (xr.1.getD (Int.toNat ybxr_1l7) 0) = e4 at he4 hF ⊢
          refine OkQ.opYes (j := 10) (d := 20) (want := true) (b := true) rfl (by kernel_rfl) (by kernel_rfl) rfl (OpQ.step (v := .int .u8 (e4.toNat : Int)) (Yields.indexStr (k := .i64) (i := ybxr_1l7) (s := xr.1) (b := e4) (by kernel_rfl) (by kernel_rfl) Tryd.underlying9 h04 he4) rfl rfl ?_)
          obtain ⟨hq5, hF⟩ := hF
          refine OkQ.opYes (j := 10) (d := 20) (want := true) (b := true) rfl (by kernel_rfl) (by kernel_rfl) rfl (OpQ.apply (args := #[.int .u8 (e4.toNat : Int)]) (v := .bool (xis (e4.toNat : Int))) rfl (by kernel_rfl) (by kernel_rfl) (hfxis (e4.toNat : Int) hq5) rfl ?_)
          refine OkQ.batch 1 [(0, .pointer (some ⟨bxr, 0, none⟩)), (1, vxis), (5, .int .i64 xr.2.1), (32, .bool (xis (e4.toNat : Int)))] (by kernel_rfl) ?_
          refine OkQ.nil ?_
          refine Ok.thenN ?_
          subst hg4
          refine Ok.reval 32 rfl (show (.bool (xis ((xr.1.getD (Int.toNat ybxr_1l7) 0).toNat : Int)) : Value) = .bool ((decide (ybxr_1l7 < (xr.1.length : Int))) && (xis ((xr.1.getD (Int.toNat ybxr_1l7) 0).toNat : Int))) from congrArg (Value.bool) (mand_t hc3)) ?_
          exact fun a W hA hW => ⟨gl7, (Gext.refl w0 gl7), hA.sub (by kernel_rfl), hW, hF⟩
        · replace hF := hF.2 hc3
          refine OkQ.batch 12 [(0, .pointer (some ⟨bxr, 0, none⟩)), (1, vxis), (5, .int .i64 xr.2.1), (32, .bool false)] (by kernel_rfl) ?_
          refine OkQ.nil ?_
          refine Ok.thenN ?_
          refine Ok.reval 32 rfl (show (.bool false : Value) = .bool ((decide (ybxr_1l7 < (xr.1.length : Int))) && (xis ((xr.1.getD (Int.toNat ybxr_1l7) 0).toNat : Int))) from congrArg (Value.bool) (mand_f hc3)) ?_
          exact fun a W hA hW => ⟨gl7, (Gext.refl w0 gl7), hA.sub (by kernel_rfl), hW, hF⟩
      ·
        clear hF
        rintro a W ⟨gj9, hxj9, hA, hW, hF⟩
        refine (?_ : Ok _ _ _ _ _ _) a W hA hW
        clear hA hW
        replace hfxis := (fun y0 hp => (hfxis y0 hp).mono hxj9.1)
        replace hLxr_0 := hLxr_0.mono hxj9.1
        refine Ok.cond (b := ((decide (ybxr_1l7 < (xr.1.length : Int))) && (xis ((xr.1.getD (Int.toNat ybxr_1l7) 0).toNat : Int)))) rfl (fun hc1 => ?_) (fun hc1 => ?_)
        · replace hF := hF.1 hc1
          refine Ok.skip ?_
          refine Ok.thenN ?_
          refine Ok.block ?_
          refine Ok.region ?_
          refine Ok.batch 3 [(0, .pointer (some ⟨bxr, 0, none⟩)), (1, vxis), (5, .int .i64 xr.2.1), (33, .pointer (some ⟨bxr, 0, none⟩)), (35, .pointer (some ⟨bxr, 1, none⟩))] (by kernel_rfl) ?_
          refine Ok.op rfl (OpOk.step (v := .int .i64 ybxr_1l7) (Yields.load 0 rfl rfl Tryd.underlying3 rfl (by kernel_rfl)) rfl rfl ?_)
          refine Ok.batch 3 [(0, .pointer (some ⟨bxr, 0, none⟩)), (1, vxis), (5, .int .i64 xr.2.1), (37, .int .i64 (IntKind.wrap .i64 (ybxr_1l7 + 1))), (39, .pointer (some ⟨bxr, 1, none⟩))] (by kernel_rfl) ?_
          refine Ok.op rfl (OpOk.store (k := 1) (v := .int .i64 (IntKind.wrap .i64 (ybxr_1l7 + 1))) (H' := [.blk bxr (.cells #[.string ⟨⟨xr.1⟩⟩, .int .i64 (IntKind.wrap .i64 (ybxr_1l7 + 1)), .slice axr_0 xr.2.2.length cxr_0] 37), .own (.slice axr_0 xr.2.2.length cxr_0) 39 5 xr.2.2.length xsxr_0]) 0 rfl rfl rfl (by kernel_rfl) (by kernel_rfl) (by kernel_rfl) (by kernel_rfl) (by kernel_rfl) ?_)
          refine Ok.nil ?_
          refine Ok.blockN ?_
          refine Ok.thenN ?_
          exact fun a W hA hW => ⟨k7, Nat.lt_succ_self _, gj9, (hxl7.trans hxj9), IntKind.wrap .i64 (ybxr_1l7 + 1), hA.sub (by kernel_rfl), hW, hF⟩
        · replace hF := hF.2 hc1
          refine Ok.exit ?_
          refine Ok.thenE ?_
          refine Ok.thenE ?_
          refine Ok.blockHit ?_
          refine Ok.thenN ?_
          refine Ok.seq ?_
          refine Ok.quiet' (by kernel_rfl) (by kernel_rfl) ?_
          refine OkQ.batch 3 [(0, .pointer (some ⟨bxr, 0, none⟩)), (5, .int .i64 xr.2.1), (42, .pointer (some ⟨bxr, 0, none⟩))] (by kernel_rfl) ?_
          refine OkQ.op rfl (OpQ.step (v := .string ⟨⟨xr.1⟩⟩) (Yields.load 0 rfl rfl Tryd.underlying9 rfl (by kernel_rfl)) rfl rfl ?_)
          refine OkQ.batch 4 [(43, .string ⟨⟨xr.1⟩⟩), (44, .int .i64 xr.2.1), (47, .pointer (some ⟨bxr, 1, none⟩))] (by kernel_rfl) ?_
          refine OkQ.op rfl (OpQ.step (v := .int .i64 ybxr_1l7) (Yields.load 0 rfl rfl Tryd.underlying3 rfl (by kernel_rfl)) rfl rfl ?_)
          obtain ⟨h02, h12, h22, hF⟩ := hF
          refine OkQ.op rfl (OpQ.step (v := .string ⟨⟨(xr.1.take (Int.toNat ybxr_1l7)).drop (Int.toNat xr.2.1)⟩⟩) (Yields.sliceStr (s := xr.1) (l := xr.2.1) (h := ybxr_1l7) (by kernel_rfl) Tryd.underlying9 (.inl ⟨_, _, rfl, rfl⟩) (.inl ⟨_, _, rfl, rfl⟩) h02 h12 h22 ((xr.1.take (Int.toNat ybxr_1l7)).drop (Int.toNat xr.2.1)) rfl) rfl rfl ?_)
          refine OkQ.batch 1 [(4, .string ⟨⟨(xr.1.take (Int.toNat ybxr_1l7)).drop (Int.toNat xr.2.1)⟩⟩)] (by kernel_rfl) ?_
          refine OkQ.nil ?_
          refine Ok.thenN ?_
          refine Ok.ret ?_
          exact Ok.resH (vs := [.string ⟨⟨(xr.1.take (Int.toNat ybxr_1l7)).drop (Int.toNat xr.2.1)⟩⟩]) (.inl rfl) rfl (.cons (.tmp rfl) .nil) (hxl7.trans hxj9) ⟨((xr.1.take (Int.toNat ybxr_1l7)).drop (Int.toNat xr.2.1)), (xr.1, ybxr_1l7, xr.2.2), axr_0, cxr_0, xsxr_0, rfl, hLxr_0, rfl, hF⟩
def runN (is : Int → Bool) : List UInt8 → Nat
  | [] => 0
  | c :: l => if is (c.toNat : Int) = true then 1 + runN is l else 0
theorem runN_le (is : Int → Bool) : ∀ l : List UInt8, runN is l ≤ l.length
  | [] => Nat.le_refl _
  | c :: l => by
    have := runN_le is l
    rw [runN, List.length_cons]; split <;> omega
def runE (x : RD) (is : Int → Bool) : Int := x.2.1 + (runN is (x.1.drop (Int.toNat x.2.1)) : Nat)
def jrunS (x : RD) (is : Int → Bool) : List UInt8 × RD := ((x.1.take (Int.toNat (runE x is))).drop (Int.toNat x.2.1), x.1, runE x is, x.2.2)
def jrunP (x : RD) (_ : Int → Bool) (p : Int → Prop) : Prop := rdP x ∧ ∀ v, p v
theorem jrun_F (x : RD) (is : Int → Bool) (p : Int → Prop) (hp : jrunP x is p) : jrunF x is p (fun r r1 => (r, r1) = jrunS x is) := by
  obtain ⟨⟨h1, h2, h3⟩, hq⟩ := hp
  have loop : ∀ (k : Nat) (i : Int), i.toNat + k = x.1.length → x.2.1 ≤ i → i + (runN is (x.1.drop i.toNat) : Nat) = runE x is → jrunl7 x is p (fun r r1 => (r, r1) = jrunS x is) (k + 1) i := by
    intro k
    induction k with
    | zero =>
      intro i h hi h4
      rw [List.drop_of_length_le (by omega)] at h4
      have hc : decide (i < (x.1.length : Int)) = false := decide_eq_false (by omega)
      refine ⟨fun h => (Bool.false_ne_true (hc.symm.trans h)).elim, fun _ => ⟨fun h => ?_, fun _ => ⟨h2, hi, by omega, ?_⟩⟩⟩
      · rw [hc] at h; exact (Bool.false_ne_true h).elim
      · have : i = runE x is := by rw [← h4]; show i = i + ((0 : Nat) : Int); omega
        rw [this]; rfl
    | succ k ih =>
      intro i h hi h4
      have hc : decide (i < (x.1.length : Int)) = true := decide_eq_true (by omega)
      rw [drop_get (l := x.1) 0 (by omega), runN] at h4
      refine ⟨fun _ => ⟨by omega, by omega, hq _, fun h => ?_, fun h => ⟨h2, hi, by omega, ?_⟩⟩, fun h => (Bool.false_ne_true (h.symm.trans hc)).elim⟩
      · rw [hc, Bool.true_and] at h
        rw [if_t h] at h4
        rw [w64 (by omega)]
        exact ih (i + 1) (by omega) (by omega) (by rw [show (i + 1).toNat = i.toNat + 1 by omega, ← h4]; omega)
      · rw [hc, Bool.true_and] at h
        rw [if_f h] at h4
        have : i = runE x is := by rw [← h4]; show i = i + ((0 : Nat) : Int); omega
        rw [this]; rfl
  exact ⟨_, loop (x.1.length - x.2.1.toNat) x.2.1 (by omega) (Int.le_refl _) rfl⟩
set_option linter.unusedVariables false in
theorem jrun_c {g : Ghost} {bxr : Nat} {axr_0 : Option Addr} {cxr_0 : Nat} {xsxr_0 : List Value} (xr : List UInt8 × Int × List (Int × Int × Int × List UInt8 × Int)) {vxis : Value} (xis : Int → Bool) (pxis : Int → Prop) (hLxr_0 : RepL g (.pair (.int .i64) (.pair (.int .i64) (.pair (.int .i64) (.pair (.str) (.int .i64))))) xsxr_0 xr.2.2) (hfxis : ∀ (y0 : Int), pxis y0 → FnG Tryd.prog vxis #[.int .u8 y0] g (.bool (xis y0)))  (hp : jrunP xr xis pxis) : CallsH Tryd.prog 44 #[.pointer (some ⟨bxr, 0, none⟩), vxis] g [.blk bxr (.cells #[.string ⟨⟨xr.1⟩⟩, .int .i64 xr.2.1, .slice axr_0 xr.2.2.length cxr_0] 37), .own (.slice axr_0 xr.2.2.length cxr_0) 39 5 xr.2.2.length xsxr_0] (fun g' H' v => ∃ (afxr_0 : Option Addr) (cfxr_0 : Nat) (xsfxr_0 : List Value), v = .string ⟨⟨((jrunS xr xis).1)⟩⟩ ∧ RepL g' (.pair (.int .i64) (.pair (.int .i64) (.pair (.int .i64) (.pair (.str) (.int .i64))))) xsfxr_0 ((jrunS xr xis).2).2.2 ∧ H' = [.blk bxr (.cells #[.string ⟨⟨((jrunS xr xis).2).1⟩⟩, .int .i64 ((jrunS xr xis).2).2.1, .slice afxr_0 ((jrunS xr xis).2).2.2.length cfxr_0] 37), .own (.slice afxr_0 ((jrunS xr xis).2).2.2.length cfxr_0) 39 5 ((jrunS xr xis).2).2.2.length xsfxr_0]) :=
  (jrun_ok xr xis pxis hLxr_0 hfxis _ (jrun_F xr xis pxis hp)).mono (by rintro g' H' v _ ⟨r0, fxr, afxr_0, cfxr_0, xsfxr_0, rfl, hLfxr_0, rfl, hK⟩; obtain ⟨rfl, rfl⟩ : r0 = (jrunS xr xis).1 ∧ fxr = (jrunS xr xis).2 := ⟨congrArg (fun z => z.1) hK, congrArg (fun z => z.2) hK⟩; exact ⟨afxr_0, cfxr_0, xsfxr_0, rfl, hLfxr_0, rfl⟩)
def jhexF (xc : Int) (K : Int → Prop) : Prop :=
  K (ibS ([48, 49, 50, 51, 52, 53, 54, 55, 56, 57, 97, 98, 99, 100, 101, 102] : List UInt8) xc)
set_option maxHeartbeats 4000000 in
set_option maxRecDepth 100000 in
set_option linter.unusedVariables false in
theorem jhex_ok {g : Ghost} (xc : Int) (K : Int → Prop)
    (hF : jhexF xc K) : CallsH Tryd.prog 78 #[.int .u8 xc] g [] (fun g' H' v => ∃ (r0 : Int), v = .int .i64 r0 ∧ H' = [] ∧ K r0) := by
  refine CallsH.enter 5 [(0, .int .u8 xc)] Tryd.func78 rfl (by kernel_rfl) (by kernel_rfl) (by kernel_rfl) fun w0 => ?_
  refine Ok.seq ?_
  refine Ok.region ?_
  refine Ok.batch 1 [(0, .int .u8 xc)] (by kernel_rfl) ?_
  refine Ok.nil ?_
  refine Ok.thenN ?_
  refine Ok.seq ?_
  refine Ok.region ?_
  refine Ok.batch 1 [(3, .int .u8 xc)] (by kernel_rfl) ?_
  refine Ok.op rfl (OpOk.callG (v := .int .i64 (ibS ([48, 49, 50, 51, 52, 53, 54, 55, 56, 57, 97, 98, 99, 100, 101, 102] : List UInt8) xc)) (enters (by kernel_rfl) (fun _ => by kernel_rfl)) (fun W hW => ib_c ([48, 49, 50, 51, 52, 53, 54, 55, 56, 57, 97, 98, 99, 100, 101, 102] : List UInt8) xc) rfl ?_)
  refine Ok.batch 1 [(2, .int .i64 (ibS ([48, 49, 50, 51, 52, 53, 54, 55, 56, 57, 97, 98, 99, 100, 101, 102] : List UInt8) xc))] (by kernel_rfl) ?_
  refine Ok.nil ?_
  refine Ok.thenN ?_
  refine Ok.ret ?_
  exact Ok.resH (vs := [.int .i64 (ibS ([48, 49, 50, 51, 52, 53, 54, 55, 56, 57, 97, 98, 99, 100, 101, 102] : List UInt8) xc)]) (.inl rfl) rfl (.cons (.tmp rfl) .nil) (Gext.refl w0 g) ⟨(ibS ([48, 49, 50, 51, 52, 53, 54, 55, 56, 57, 97, 98, 99, 100, 101, 102] : List UInt8) xc), rfl, rfl, hF⟩
def jhexM (xc : Int) : Int := (ibS ([48, 49, 50, 51, 52, 53, 54, 55, 56, 57, 97, 98, 99, 100, 101, 102] : List UInt8) xc)
set_option linter.unusedSimpArgs false in
set_option linter.unusedVariables false in
theorem jhexF_A (xc : Int) (P : Int → Prop) (h : P (jhexM xc)) : jhexF xc (fun k0 => P k0) := by
  unfold jhexM at h
  unfold jhexF
  exact h
theorem jhex_F (xc : Int) : jhexF xc (fun k0 => k0 = jhexM xc) :=
  jhexF_A xc (fun z => z = jhexM xc) rfl
set_option linter.unusedVariables false in
theorem jhex_c {g : Ghost} (xc : Int)  : CallsG Tryd.prog 78 #[.int .u8 xc] g (.int .i64 (jhexM xc)) :=
  (jhex_ok xc _ (jhex_F xc)).gives (by rintro g' H' v _ ⟨r0, rfl, rfl, hK⟩; subst hK; rfl)
end Go.Proofs.YtaojddkfacnddaaDoor.Jl
