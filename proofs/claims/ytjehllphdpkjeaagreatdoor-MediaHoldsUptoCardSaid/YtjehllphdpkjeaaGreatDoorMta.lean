/- Queries as texts: Itoa, Replace, Join, digits. -/
import Derived.Test.YtjehllphdpkjeaaGreatDoorLaid
import Derived.Test.YtjehllphdpkjeaaGreatDoorMor
import Derived.Test.YtjehllphdpkjeaaGreatDoorShelf
import Derived.Test.YtjehllphdpkjeaaGreatDoorCsl
import Derived.Lib.Join
import Derived.Lib.Replace
namespace Go.Proofs.YtjehllphdpkjeaaGreatDoor.Me
open Go Go.Eng Go.RowKit Go.Shelf Go.Proofs
set_option linter.unusedVariables false
def i64P (x : Int) : Prop := -9223372036854775808 ≤ x ∧ x ≤ 9223372036854775807
def DPow : List (Int) := [1, 10, 100, 1000, 10000, 100000, 1000000, 10000000, 100000000, 1000000000, 10000000000, 100000000000, 1000000000000, 10000000000000, 100000000000000, 1000000000000000, 10000000000000000, 100000000000000000, 1000000000000000000, 10000000000000000000]
theorem itoa_c {g : Ghost} (x : Int) (hG : GlobL g 6 (.int .u64) DPow) (hp : i64P x) : CallsG Tryz.prog 84 #[.int .i64 x] g (.string ⟨⟨Lib.itoa x⟩⟩) := fun W hW => by
  obtain ⟨xs, h1, h2⟩ := hG.var (P := Tryz.prog) hW (name := "internal/strconv.uint64pow10") (by kernel_rfl)
  have htab : Lib.TabIs Tryz.prog W "internal/strconv.uint64pow10" .u64 Lib.pow10Tab := by
    unfold Lib.TabIs
    rw [h1, repL_ints h2, show DPow = Lib.pow10Tab by decide]
  exact (Tryz.strconv_Itoa x hp.1 hp.2 W htab).mono fun e W' ⟨he, k, os, hw⟩ => ⟨he, by subst hw; exact ⟨rfl, rfl, rfl, by simp [Sort.grow], fun i hi => by
    show ((W.drewN k).heap ++ os)[i]? = _
    rw [Array.getElem?_append_left (show i < (W.drewN k).heap.size from hi)]; rfl⟩⟩
def replS (s o n : List UInt8) (k : Int) : List UInt8 := Lib.replace s o n k
def replP (s o n : List UInt8) (_ : Int) : Prop := s.length ≤ 1000 ∧ o.length = 1 ∧ n.length ≤ 1000
def joinS (l : List (List UInt8)) (sep : List UInt8) : List UInt8 := Lib.join l sep
def joinP (l : List (List UInt8)) (sep : List UInt8) : Prop := l.length ≤ 140737488355328 ∧ (Lib.join l sep).length ≤ 140737488355328
/-! digits -/
def digS (n : Int) : List UInt8 := Lib.decDigits n.toNat
def digP (N : Nat) (n : Int) : Prop := 0 ≤ n ∧ n ≤ 9223372036854775807 ∧ n < N
def dig_C (N : Nat) : Prop := ∀ (g : Ghost) (xn : Int)  (hp : digP N xn), CallsG Tryz.prog 20 #[.int .i64 xn] g (.string ⟨⟨(digS xn)⟩⟩)
def digV0 (xn : Int) : List UInt8 :=
  (if (decide (xn > 9)) = true then (digS (IntKind.wrap .i64 (Int.tdiv xn 10))) ++ (bytesOf ([IntKind.wrap .u8 (IntKind.wrap .i64 (48 + (Int.tmod xn 10)))] : List (Int))) else (bytesOf ([IntKind.wrap .u8 (IntKind.wrap .i64 (48 + (Int.tmod xn 10)))] : List (Int))))
def digj5 (xn : Int) (K : (List UInt8) → Prop) : Prop :=
  K (digV0 xn)
def digF (N : Nat) (xn : Int) (K : (List UInt8) → Prop) : Prop :=
  ((decide (xn > 9)) = true → digP N (IntKind.wrap .i64 (Int.tdiv xn 10)) ∧ (digS (IntKind.wrap .i64 (Int.tdiv xn 10))).length + (bytesOf ([IntKind.wrap .u8 (IntKind.wrap .i64 (48 + (Int.tmod xn 10)))] : List (Int))).length ≤ maxLen ∧ digj5 xn K) ∧ ((decide (xn > 9)) = false → digj5 xn K)
set_option maxHeartbeats 4000000 in
set_option maxRecDepth 100000 in
set_option linter.unusedVariables false in
theorem dig_ok {g : Ghost} (N : Nat) (ih_dig : dig_C N) (xn : Int) (K : (List UInt8) → Prop)
    (hF : digF N xn K) : CallsH Tryz.prog 20 #[.int .i64 xn] g [] (fun g' H' v => ∃ (r0 : List UInt8), v = .string ⟨⟨r0⟩⟩ ∧ H' = [] ∧ K r0) := by
  refine CallsH.enter 18 [(0, .int .i64 xn)] Tryz.func20 rfl (by kernel_rfl) (by kernel_rfl) (by kernel_rfl) fun w0 => ?_
  refine Ok.seq ?_
  refine Ok.region ?_
  refine Ok.batch 1 [(0, .int .i64 xn)] (by kernel_rfl) ?_
  refine Ok.nil ?_
  refine Ok.thenN ?_
  refine Ok.seq ?_
  refine Ok.region ?_
  refine Ok.batch 4 [(0, .int .i64 xn), (7, .int .u8 (IntKind.wrap .u8 (IntKind.wrap .i64 (48 + (Int.tmod xn 10)))))] (by kernel_rfl) ?_
  have hL1 : RepL g (.int .u8) ([.int .u8 (IntKind.wrap .u8 (IntKind.wrap .i64 (48 + (Int.tmod xn 10))))] : List Value) ([IntKind.wrap .u8 (IntKind.wrap .i64 (48 + (Int.tmod xn 10)))] : List (Int)) := (RepL.consN (c := [.int .u8 (IntKind.wrap .u8 (IntKind.wrap .i64 (48 + (Int.tmod xn 10))))]) rfl rfl)
  refine Ok.op rfl (OpOk.lit (E := 5) (.int .u8) ([IntKind.wrap .u8 (IntKind.wrap .i64 (48 + (Int.tmod xn 10)))] : List (Int)) ([.int .u8 (IntKind.wrap .u8 (IntKind.wrap .i64 (48 + (Int.tmod xn 10))))] : List Value) (by kernel_rfl) (by kernel_rfl) rfl (by kernel_rfl) hL1 rfl fun b1 => ?_)
  refine Ok.op rfl (OpOk.step (v := .string ⟨⟨(bytesOf ([IntKind.wrap .u8 (IntKind.wrap .i64 (48 + (Int.tmod xn 10)))] : List (Int)))⟩⟩) (Yields.strOfOwn 0 (by kernel_rfl) rfl rfl hL1 Tryz.underlying61 Tryz.underlying9 Tryz.underlying5) rfl rfl ?_)
  refine Ok.batch 1 [(0, .int .i64 xn), (3, .string ⟨⟨(bytesOf ([IntKind.wrap .u8 (IntKind.wrap .i64 (48 + (Int.tmod xn 10)))] : List (Int)))⟩⟩)] (by kernel_rfl) ?_
  refine Ok.nil ?_
  refine Ok.thenN ?_
  refine Ok.cut (fun a W => ∃ gj5 : Ghost, Gext w0 g gj5 ∧ StA 18 [(3, .string ⟨⟨(digV0 xn)⟩⟩)] a ∧ StW w0 [] gj5 W ∧ digj5 xn K) ?_ ?_
  ·
    refine Ok.seq ?_
    refine Ok.region ?_
    refine Ok.batch 2 [(0, .int .i64 xn), (3, .string ⟨⟨(bytesOf ([IntKind.wrap .u8 (IntKind.wrap .i64 (48 + (Int.tmod xn 10)))] : List (Int)))⟩⟩), (11, .bool (decide (xn > 9)))] (by kernel_rfl) ?_
    refine Ok.nil ?_
    refine Ok.thenN ?_
    refine Ok.cond (b := decide (xn > 9)) rfl (fun hc2 => ?_) (fun hc2 => ?_)
    · replace hF := hF.1 hc2
      refine Ok.region ?_
      refine Ok.batch 2 [(3, .string ⟨⟨(bytesOf ([IntKind.wrap .u8 (IntKind.wrap .i64 (48 + (Int.tmod xn 10)))] : List (Int)))⟩⟩), (13, .int .i64 (IntKind.wrap .i64 (Int.tdiv xn 10)))] (by kernel_rfl) ?_
      obtain ⟨hp3, hF⟩ := hF
      refine Ok.op rfl (OpOk.callG (v := .string ⟨⟨(digS (IntKind.wrap .i64 (Int.tdiv xn 10)))⟩⟩) (enters (by kernel_rfl) (fun _ => by kernel_rfl)) (fun W hW => ih_dig _ (IntKind.wrap .i64 (Int.tdiv xn 10)) hp3) rfl ?_)
      refine Ok.batch 1 [(14, .string ⟨⟨(digS (IntKind.wrap .i64 (Int.tdiv xn 10)))⟩⟩), (15, .string ⟨⟨(bytesOf ([IntKind.wrap .u8 (IntKind.wrap .i64 (48 + (Int.tmod xn 10)))] : List (Int)))⟩⟩)] (by kernel_rfl) ?_
      obtain ⟨hv, hF⟩ := hF
      refine Ok.op rfl (OpOk.step (v := .string ⟨⟨(digS (IntKind.wrap .i64 (Int.tdiv xn 10))) ++ (bytesOf ([IntKind.wrap .u8 (IntKind.wrap .i64 (48 + (Int.tmod xn 10)))] : List (Int)))⟩⟩) (Yields.strAdd rfl rfl hv) rfl rfl ?_)
      refine Ok.batch 1 [(3, .string ⟨⟨(digS (IntKind.wrap .i64 (Int.tdiv xn 10))) ++ (bytesOf ([IntKind.wrap .u8 (IntKind.wrap .i64 (48 + (Int.tmod xn 10)))] : List (Int)))⟩⟩)] (by kernel_rfl) ?_
      refine Ok.nil ?_
      refine Ok.thenN ?_
      refine Ok.reval 3 rfl (show (.string ⟨⟨(digS (IntKind.wrap .i64 (Int.tdiv xn 10))) ++ (bytesOf ([IntKind.wrap .u8 (IntKind.wrap .i64 (48 + (Int.tmod xn 10)))] : List (Int)))⟩⟩ : Value) = .string ⟨⟨(digV0 xn)⟩⟩ from congrArg ((fun s : List UInt8 => Value.string ⟨⟨s⟩⟩)) ((if_t hc2).symm)) ?_
      exact fun a W hA hW => ⟨g, (Gext.refl w0 g), hA.sub (by kernel_rfl), hW.sub (.cons _ .slnil), hF⟩
    · replace hF := hF.2 hc2
      refine Ok.skip ?_
      refine Ok.thenN ?_
      refine Ok.reval 3 rfl (show (.string ⟨⟨(bytesOf ([IntKind.wrap .u8 (IntKind.wrap .i64 (48 + (Int.tmod xn 10)))] : List (Int)))⟩⟩ : Value) = .string ⟨⟨(digV0 xn)⟩⟩ from congrArg ((fun s : List UInt8 => Value.string ⟨⟨s⟩⟩)) ((if_f hc2).symm)) ?_
      exact fun a W hA hW => ⟨g, (Gext.refl w0 g), hA.sub (by kernel_rfl), hW.sub (.cons _ .slnil), hF⟩
  ·
    clear hF
    rintro a W ⟨gj5, hxj5, hA, hW, hF⟩
    refine (?_ : Ok _ _ _ _ _ _) a W hA hW
    clear hA hW
    refine Ok.seq ?_
    refine Ok.region ?_
    refine Ok.batch 2 [(2, .string ⟨⟨(digV0 xn)⟩⟩)] (by kernel_rfl) ?_
    refine Ok.nil ?_
    refine Ok.thenN ?_
    refine Ok.ret ?_
    exact Ok.resH (vs := [.string ⟨⟨(digV0 xn)⟩⟩]) (.inl rfl) rfl (.cons (.tmp rfl) .nil) hxj5 ⟨(digV0 xn), rfl, rfl, hF⟩
theorem dig_0 (n : Int) : ¬ digP 0 n := fun h => by have h1 := h.1; have h2 := h.2.2; omega
theorem dec_len : ∀ (N u : Nat), u ≤ N → (Lib.decDigits u).length ≤ u + 1 := by
  intro N
  induction N with
  | zero => intro u h; rw [Lib.decDigits, dif_pos (by omega)]; simp
  | succ N ih =>
    intro u h
    rw [Lib.decDigits]
    split
    · simp
    · have := ih (u / 10) (by omega)
      simp; omega
theorem dig_F (N : Nat) (n : Int) (h : digP (N + 1) n) : digF N n (fun r => r = digS n) := by
  obtain ⟨h0, h1, h2⟩ := h
  obtain ⟨u, rfl⟩ : ∃ u : Nat, n = u := ⟨n.toNat, by omega⟩
  have e1 : Int.tdiv (u : Int) 10 = ((u / 10 : Nat) : Int) := by rw [Int.tdiv_eq_ediv_of_nonneg (by omega)]; omega
  have e2 : Int.tmod (u : Int) 10 = ((u % 10 : Nat) : Int) := by rw [Int.tmod_eq_emod_of_nonneg (by omega)]; omega
  have eB : bytesOf [IntKind.wrap .u8 (IntKind.wrap .i64 (48 + ((u % 10 : Nat) : Int)))] = [UInt8.ofNat (48 + u % 10)] := by
    rw [w64 (by omega), IntWalk.u8_in _ (by omega)]
    simp only [bytesOf, List.map_cons, List.map_nil]
    rw [show (48 + ((u % 10 : Nat) : Int)).toNat = 48 + u % 10 by omega]
  have key : digj5 (u : Int) (fun r => r = digS (u : Int)) := by
    unfold digj5 digV0
    rw [e1, e2, eB, w64 (by omega)]
    unfold digS
    rw [Int.toNat_natCast, Int.toNat_natCast]
    by_cases hu : u < 10
    · rw [if_f (by simp; omega), Lib.decDigits.eq_def u, dif_pos hu]
      rw [Nat.mod_eq_of_lt hu]
    · rw [if_t (by simp; omega), Lib.decDigits.eq_def u, dif_neg hu]
  refine ⟨fun hc => ⟨?_, ?_, key⟩, fun _ => key⟩
  · rw [e1, w64 (by omega)]
    have := of_decide_eq_true hc
    exact ⟨by omega, by omega, by omega⟩
  · rw [e1, e2, eB, w64 (by omega), maxLen_eq]
    have := dec_len (u / 10) (u / 10) (Nat.le_refl _)
    unfold digS
    rw [Int.toNat_natCast]
    simp; omega
set_option linter.unusedVariables false in
theorem dig_rec : ∀ N, dig_C N
  | 0 => (by intro g xn hp; exact (dig_0 xn hp).elim)
  | N + 1 =>
    have ih := dig_rec N
    (by intro g xn hp; exact (dig_ok N ih xn _ (dig_F N xn hp)).gives (by rintro g' H' v _ ⟨r0, rfl, rfl, hK⟩; subst hK; rfl))
def digPE (xn : Int) : Prop := ∃ N, digP N xn
set_option linter.unusedVariables false in
theorem dig_c {g : Ghost} (xn : Int)  (hp : digPE xn) : CallsG Tryz.prog 20 #[.int .i64 xn] g (.string ⟨⟨(digS xn)⟩⟩) := by
  obtain ⟨N, hp⟩ := hp
  exact (dig_rec N) _ xn hp
theorem dig_ok' {n : Int} (h : 0 ≤ n ∧ n ≤ 9223372036854775807) : digPE n := ⟨n.toNat + 1, h.1, h.2, by omega⟩
def sgnP (N : Nat) (n : Int) : Prop := i64P n ∧ n.natAbs < N
def sgn_C (N : Nat) : Prop := ∀ (g : Ghost) (xn : Int)  (hp : sgnP N xn), CallsG Tryz.prog 14 #[.int .i64 xn] g (.string ⟨⟨(Lib.itoa xn)⟩⟩)
def sgnF (N : Nat) (xn : Int) (K : (List UInt8) → Prop) : Prop :=
  ((decide (xn ≤ (-10))) = true → sgnP N (IntKind.wrap .i64 (Int.tdiv xn 10)) ∧ digPE (IntKind.wrap .i64 (0 - (Int.tmod xn 10))) ∧ (Lib.itoa (IntKind.wrap .i64 (Int.tdiv xn 10))).length + (digS (IntKind.wrap .i64 (0 - (Int.tmod xn 10)))).length ≤ maxLen ∧ K ((Lib.itoa (IntKind.wrap .i64 (Int.tdiv xn 10))) ++ (digS (IntKind.wrap .i64 (0 - (Int.tmod xn 10)))))) ∧ ((decide (xn ≤ (-10))) = false → ((decide (xn < 0)) = true → digPE (IntKind.wrap .i64 (0 - xn)) ∧ ([45] : List UInt8).length + (digS (IntKind.wrap .i64 (0 - xn))).length ≤ maxLen ∧ K (([45] : List UInt8) ++ (digS (IntKind.wrap .i64 (0 - xn))))) ∧ ((decide (xn < 0)) = false → digPE xn ∧ K (digS xn)))
set_option maxHeartbeats 4000000 in
set_option maxRecDepth 100000 in
set_option linter.unusedVariables false in
theorem sgn_ok {g : Ghost} (N : Nat) (ih_sgn : sgn_C N) (xn : Int) (K : (List UInt8) → Prop)
    (hF : sgnF N xn K) : CallsH Tryz.prog 14 #[.int .i64 xn] g [] (fun g' H' v => ∃ (r0 : List UInt8), v = .string ⟨⟨r0⟩⟩ ∧ H' = [] ∧ K r0) := by
  refine CallsH.enter 21 [(0, .int .i64 xn)] Tryz.func14 rfl (by kernel_rfl) (by kernel_rfl) (by kernel_rfl) fun w0 => ?_
  refine Ok.seq ?_
  refine Ok.region ?_
  refine Ok.batch 1 [(0, .int .i64 xn)] (by kernel_rfl) ?_
  refine Ok.nil ?_
  refine Ok.thenN ?_
  refine Ok.seq ?_
  refine Ok.seq ?_
  refine Ok.region ?_
  refine Ok.batch 2 [(0, .int .i64 xn), (4, .bool (decide (xn ≤ (-10))))] (by kernel_rfl) ?_
  refine Ok.nil ?_
  refine Ok.thenN ?_
  refine Ok.cond (b := decide (xn ≤ (-10))) rfl (fun hc1 => ?_) (fun hc1 => ?_)
  · replace hF := hF.1 hc1
    refine Ok.seq ?_
    refine Ok.region ?_
    refine Ok.batch 2 [(0, .int .i64 xn), (6, .int .i64 (IntKind.wrap .i64 (Int.tdiv xn 10)))] (by kernel_rfl) ?_
    obtain ⟨hp2, hF⟩ := hF
    refine Ok.op rfl (OpOk.callG (v := .string ⟨⟨(Lib.itoa (IntKind.wrap .i64 (Int.tdiv xn 10)))⟩⟩) (enters (by kernel_rfl) (fun _ => by kernel_rfl)) (fun W hW => ih_sgn _ (IntKind.wrap .i64 (Int.tdiv xn 10)) hp2) rfl ?_)
    refine Ok.batch 3 [(7, .string ⟨⟨(Lib.itoa (IntKind.wrap .i64 (Int.tdiv xn 10)))⟩⟩), (10, .int .i64 (IntKind.wrap .i64 (0 - (Int.tmod xn 10))))] (by kernel_rfl) ?_
    obtain ⟨hp3, hF⟩ := hF
    refine Ok.op rfl (OpOk.callG (v := .string ⟨⟨(digS (IntKind.wrap .i64 (0 - (Int.tmod xn 10))))⟩⟩) (enters (by kernel_rfl) (fun _ => by kernel_rfl)) (fun W hW => dig_c (IntKind.wrap .i64 (0 - (Int.tmod xn 10))) hp3) rfl ?_)
    obtain ⟨hv, hF⟩ := hF
    refine Ok.op rfl (OpOk.step (v := .string ⟨⟨(Lib.itoa (IntKind.wrap .i64 (Int.tdiv xn 10))) ++ (digS (IntKind.wrap .i64 (0 - (Int.tmod xn 10))))⟩⟩) (Yields.strAdd rfl rfl hv) rfl rfl ?_)
    refine Ok.batch 1 [(2, .string ⟨⟨(Lib.itoa (IntKind.wrap .i64 (Int.tdiv xn 10))) ++ (digS (IntKind.wrap .i64 (0 - (Int.tmod xn 10))))⟩⟩)] (by kernel_rfl) ?_
    refine Ok.nil ?_
    refine Ok.thenN ?_
    refine Ok.ret ?_
    refine Ok.thenR ?_
    exact Ok.resH (vs := [.string ⟨⟨(Lib.itoa (IntKind.wrap .i64 (Int.tdiv xn 10))) ++ (digS (IntKind.wrap .i64 (0 - (Int.tmod xn 10))))⟩⟩]) (.inl rfl) rfl (.cons (.tmp rfl) .nil) (Gext.refl w0 g) ⟨((Lib.itoa (IntKind.wrap .i64 (Int.tdiv xn 10))) ++ (digS (IntKind.wrap .i64 (0 - (Int.tmod xn 10))))), rfl, rfl, hF⟩
  · replace hF := hF.2 hc1
    refine Ok.skip ?_
    refine Ok.thenN ?_
    refine Ok.seq ?_
    refine Ok.seq ?_
    refine Ok.region ?_
    refine Ok.batch 2 [(0, .int .i64 xn), (14, .bool (decide (xn < 0)))] (by kernel_rfl) ?_
    refine Ok.nil ?_
    refine Ok.thenN ?_
    refine Ok.cond (b := decide (xn < 0)) rfl (fun hc4 => ?_) (fun hc4 => ?_)
    · replace hF := hF.1 hc4
      refine Ok.seq ?_
      refine Ok.region ?_
      refine Ok.batch 2 [(16, .int .i64 (IntKind.wrap .i64 (0 - xn)))] (by kernel_rfl) ?_
      obtain ⟨hp5, hF⟩ := hF
      refine Ok.op rfl (OpOk.callG (v := .string ⟨⟨(digS (IntKind.wrap .i64 (0 - xn)))⟩⟩) (enters (by kernel_rfl) (fun _ => by kernel_rfl)) (fun W hW => dig_c (IntKind.wrap .i64 (0 - xn)) hp5) rfl ?_)
      obtain ⟨hv, hF⟩ := hF
      refine Ok.op rfl (OpOk.step (v := .string ⟨⟨([45] : List UInt8) ++ (digS (IntKind.wrap .i64 (0 - xn)))⟩⟩) (Yields.strAdd rfl rfl hv) rfl rfl ?_)
      refine Ok.batch 1 [(2, .string ⟨⟨([45] : List UInt8) ++ (digS (IntKind.wrap .i64 (0 - xn)))⟩⟩)] (by kernel_rfl) ?_
      refine Ok.nil ?_
      refine Ok.thenN ?_
      refine Ok.ret ?_
      refine Ok.thenR ?_
      exact Ok.resH (vs := [.string ⟨⟨([45] : List UInt8) ++ (digS (IntKind.wrap .i64 (0 - xn)))⟩⟩]) (.inl rfl) rfl (.cons (.tmp rfl) .nil) (Gext.refl w0 g) ⟨(([45] : List UInt8) ++ (digS (IntKind.wrap .i64 (0 - xn)))), rfl, rfl, hF⟩
    · replace hF := hF.2 hc4
      refine Ok.skip ?_
      refine Ok.thenN ?_
      refine Ok.seq ?_
      refine Ok.region ?_
      refine Ok.batch 1 [(19, .int .i64 xn)] (by kernel_rfl) ?_
      obtain ⟨hp6, hF⟩ := hF
      refine Ok.op rfl (OpOk.callG (v := .string ⟨⟨(digS xn)⟩⟩) (enters (by kernel_rfl) (fun _ => by kernel_rfl)) (fun W hW => dig_c xn hp6) rfl ?_)
      refine Ok.batch 1 [(2, .string ⟨⟨(digS xn)⟩⟩)] (by kernel_rfl) ?_
      refine Ok.nil ?_
      refine Ok.thenN ?_
      refine Ok.ret ?_
      exact Ok.resH (vs := [.string ⟨⟨(digS xn)⟩⟩]) (.inl rfl) rfl (.cons (.tmp rfl) .nil) (Gext.refl w0 g) ⟨(digS xn), rfl, rfl, hF⟩
theorem sgn_0 (n : Int) : ¬ sgnP 0 n := fun h => Nat.not_lt_zero _ h.2
theorem dig_small {n : Int} (h : 0 ≤ n) : (digS n).length ≤ n.toNat + 1 := dec_len n.toNat n.toNat (Nat.le_refl _)
theorem itoa_small (n : Int) : (Lib.itoa n).length ≤ n.natAbs + 2 := by
  unfold Lib.itoa
  split
  · have := dec_len n.natAbs n.natAbs (Nat.le_refl _)
    simp only [List.length_cons]; omega
  · have := dec_len n.toNat n.toNat (Nat.le_refl _)
    omega
theorem sgn_F (N : Nat) (n : Int) (h : sgnP (N + 1) n) : sgnF N n (fun r => r = Lib.itoa n) := by
  obtain ⟨⟨h0, h1⟩, h2⟩ := h
  refine ⟨fun hc => ?_, fun hc => ⟨fun hc2 => ?_, fun hc2 => ?_⟩⟩
  · have hc := of_decide_eq_true hc
    obtain ⟨u, rfl⟩ : ∃ u : Nat, n = -(u : Int) := ⟨n.natAbs, by omega⟩
    have e1 : Int.tdiv (-(u : Int)) 10 = -((u / 10 : Nat) : Int) := by rw [Int.neg_tdiv, Int.tdiv_eq_ediv_of_nonneg (by omega)]; omega
    have e2 : Int.tmod (-(u : Int)) 10 = -((u % 10 : Nat) : Int) := by rw [Int.neg_tmod, Int.tmod_eq_emod_of_nonneg (by omega)]; omega
    rw [e1, e2, w64 (by omega), w64 (by omega), show (0 : Int) - -((u % 10 : Nat) : Int) = ((u % 10 : Nat) : Int) by omega]
    have l1 := itoa_small (-((u / 10 : Nat) : Int))
    have l2 := dig_small (n := ((u % 10 : Nat) : Int)) (by omega)
    refine ⟨⟨⟨by omega, by omega⟩, by omega⟩, dig_ok' (by omega), by rw [maxLen_eq]; omega, ?_⟩
    unfold Lib.itoa digS
    rw [if_pos (by omega), if_pos (by omega), Int.toNat_natCast, Int.natAbs_neg, Int.natAbs_neg, Int.natAbs_natCast, Int.natAbs_natCast]
    have e3 := Lib.decDigits.eq_def u
    rw [dif_neg (by omega)] at e3
    have e4 := Lib.decDigits.eq_def (u % 10)
    rw [dif_pos (by omega)] at e4
    rw [e3, e4]; rfl
  · have hc := of_decide_eq_false hc
    have hc2 := of_decide_eq_true hc2
    have l2 := dig_small (n := 0 - n) (by omega)
    rw [w64 (by omega)]
    refine ⟨dig_ok' (by omega), by rw [maxLen_eq]; simp only [List.length_cons, List.length_nil]; omega, ?_⟩
    unfold Lib.itoa digS
    rw [if_pos (by omega), show (0 - n).toNat = n.natAbs by omega]; rfl
  · have hc2 := of_decide_eq_false hc2
    refine ⟨dig_ok' (by omega), ?_⟩
    unfold Lib.itoa digS
    rw [if_neg (by omega)]
set_option linter.unusedVariables false in
theorem sgn_rec : ∀ N, sgn_C N
  | 0 => (by intro g xn hp; exact (sgn_0 xn hp).elim)
  | N + 1 =>
    have ih := sgn_rec N
    (by intro g xn hp; exact (sgn_ok N ih xn _ (sgn_F N xn hp)).gives (by rintro g' H' v _ ⟨r0, rfl, rfl, hK⟩; subst hK; rfl))
def sgnPE (xn : Int) : Prop := ∃ N, sgnP N xn
set_option linter.unusedVariables false in
theorem sgn_c {g : Ghost} (xn : Int)  (hp : sgnPE xn) : CallsG Tryz.prog 14 #[.int .i64 xn] g (.string ⟨⟨(Lib.itoa xn)⟩⟩) := by
  obtain ⟨N, hp⟩ := hp
  exact (sgn_rec N) _ xn hp
theorem sgn_ok' {n : Int} (h : i64P n) : sgnPE n := ⟨n.natAbs + 1, h, by omega⟩
end Go.Proofs.YtjehllphdpkjeaaGreatDoor.Me
