/- Queries as texts: Itoa, Replace, Join, digits. -/
import Derived.Test.YtcnhdkhkadiohaaGreatDoorLaid
import Derived.Test.YtcnhdkhkadiohaaGreatDoorMor
import Derived.Test.YtcnhdkhkadiohaaGreatDoorShelf
import Derived.Test.YtcnhdkhkadiohaaGreatDoorCsl
import Derived.Lib.Join
namespace Go.Proofs.YtcnhdkhkadiohaaGreatDoor.Me
open Go Go.Eng Go.RowKit Go.Shelf Go.Proofs
set_option maxHeartbeats 4000000
set_option maxRecDepth 100000
set_option linter.unusedSimpArgs false
set_option linter.unusedVariables false
def i64P (x : Int) : Prop := -9223372036854775808 ≤ x ∧ x ≤ 9223372036854775807
def DPow : List Int := [1, 10, 100, 1000, 10000, 100000, 1000000, 10000000, 100000000, 1000000000, 10000000000, 100000000000, 1000000000000, 10000000000000, 100000000000000, 1000000000000000, 10000000000000000, 100000000000000000, 1000000000000000000, 10000000000000000000]
theorem itoa_c {g : Ghost} (x : Int) (hG : GlobL g 3 (.int .u64) DPow) (hp : i64P x) : CallsG Tryz.prog 86 #[iv x] g (sv (Lib.itoa x)) := fun W hW => by
 obtain ⟨xs, h1, h2⟩ := hG.var (P := Tryz.prog) hW (name := "internal/strconv.uint64pow10") kr
 have htab : Lib.TabIs Tryz.prog W "internal/strconv.uint64pow10" .u64 Lib.pow10Tab := by
  unfold Lib.TabIs
  rw [h1, repL_ints h2, show DPow = Lib.pow10Tab by decide]
 exact (Tryz.strconv_Itoa x hp.1 hp.2 W htab).mono fun e W' ⟨he, k, os, hw⟩ => ⟨he, by subst hw; exact ⟨rfl, rfl, rfl, by simp [Sort.grow], fun i hi => by
  show ((W.drewN k).heap ++ os)[i]? = _
  rw [Array.getElem?_append_left (show i < (W.drewN k).heap.size from hi)]; rfl⟩⟩
def joinS (l : List Bs) (sep : Bs) : Bs := Lib.join l sep
def joinP (l : List Bs) (sep : Bs) : Prop := l.length ≤ 140737488355328 ∧ (Lib.join l sep).length ≤ 140737488355328
theorem join_c {g : Ghost} {a : Option Addr} {c : Nat} (l : List Bs) (sep : Bs) (hR : Rep g (.slice (.str)) [.slice a l.length c] l) (hp : joinP l sep) : CallsG Tryz.prog 41 #[.slice a l.length c, sv sep] g (sv (joinS l sep)) := fun W hW => by
 obtain ⟨a', c', hcs, ⟨hlc, hcm⟩, hel⟩ := hR
 simp only [List.cons.injEq, Value.slice.injEq, and_true] at hcs
 obtain ⟨rfl, -, rfl⟩ := hcs
 obtain ⟨h1, h2⟩ := hp
 cases l with
 | nil => exact (Tryz.strings_Join_none a c ⟨⟨sep⟩⟩ W).mono fun e W' ⟨he, hw⟩ => ⟨he, by subst hw; exact Below.refl _ _⟩
 | cons x r =>
  obtain ⟨b, off, rfl, -⟩ := hel 0 x rfl
  have hcell : ∀ (j : Nat) s, (x :: r)[j]? = some s → W.cell? ⟨b, off + j, none⟩ = some (sv s) := fun j s hj => by
   obtain ⟨b', off', hb, ecs, hl, hat, hr⟩ := hel j s hj
   simp only [Option.some.injEq, Addr.mk.injEq, and_true] at hb
   obtain ⟨rfl, rfl⟩ := hb
   have hr : ecs = [sv s] := hr
   subst hr
   have := gcell_cell hW (hat 0 _ rfl)
   rw [show off + j * Ty.str.size + 0 = off + j by show off + j * 1 + 0 = _; omega] at this
   exact this
  have hb : b < W.heap.size := by
   have := hcell 0 x rfl
   unfold World.cell? at this
   apply Classical.byContradiction
   intro hn
   rw [show W.heap[(⟨b, off + 0, none⟩ : Addr).block]? = none from Array.getElem?_eq_none (Nat.le_of_not_lt hn)] at this
   cases this
  have e1 : ((x :: r).map fun s => (⟨⟨s⟩⟩ : ByteArray)).map (·.data.toList) = x :: r := by rw [List.map_map]; exact List.map_id _
  have := Tryz.strings_Join b off c ((x :: r).map fun s => (⟨⟨s⟩⟩ : ByteArray)) ⟨⟨sep⟩⟩ W (fun j y hy => by
   rw [List.getElem?_map, Option.map_eq_some_iff] at hy
   obtain ⟨s, hs, rfl⟩ := hy
   exact hcell j s hs) hb (by rw [List.length_map]; exact h1) (by rw [List.length_map]; exact hlc) (by rw [e1]; exact h2)
  rw [e1, List.length_map] at this
  exact this
/-! digits -/
def digS (n : Int) : Bs := Lib.decDigits n.toNat
def digP (N : Nat) (n : Int) : Prop := 0 ≤ n ∧ n ≤ 9223372036854775807 ∧ n < N
def dig_C (N : Nat) : Prop := ∀ (g : Ghost) (xn : Int)  (hp : digP N xn), CallsG Tryz.prog 81 #[iv xn] g (sv (digS xn))
def digV0 (xn : Int) : Bs :=
 (if (decide (xn > 9)) = true then (digS (w6 (Int.tdiv xn 10))) ++ (bytesOf ([IntKind.wrap .u8 (w6 (48 + (Int.tmod xn 10)))] : List Int)) else (bytesOf ([IntKind.wrap .u8 (w6 (48 + (Int.tmod xn 10)))] : List Int)))
def digj5 (xn : Int) (K : Bs → Prop) : Prop :=
 K (digV0 xn)
def digF (N : Nat) (xn : Int) (K : Bs → Prop) : Prop :=
 ((decide (xn > 9)) = true → digP N (w6 (Int.tdiv xn 10)) ∧ (digS (w6 (Int.tdiv xn 10))).length + (bytesOf ([IntKind.wrap .u8 (w6 (48 + (Int.tmod xn 10)))] : List Int)).length ≤ maxLen ∧ digj5 xn K) ∧ ((decide (xn > 9)) = false → digj5 xn K)
theorem dig_ok {g : Ghost} (N : Nat) (ih_dig : dig_C N) (xn : Int) (K : Bs → Prop)
  (hF : digF N xn K) : CallsH Tryz.prog 81 #[iv xn] g [] (fun g' H' v => ∃ (r0 : Bs), v = sv r0 ∧ H' = [] ∧ K r0) := by
 refine CallsH.enter 18 [(0, iv xn)] Tryz.func81 rfl kr kr kr fun w0 => ?_
 refine Ok.sr ((Ok.B 1 [(0, iv xn)] kr (Ok.nt ((Ok.sr ((Ok.b 4 [0] [(7, .int .u8 (IntKind.wrap .u8 (w6 (48 + (Int.tmod xn 10)))))] ?_)))))))
 have hL1 : RepL g yb ([.int .u8 (IntKind.wrap .u8 (w6 (48 + (Int.tmod xn 10))))] : List Value) ([IntKind.wrap .u8 (w6 (48 + (Int.tmod xn 10)))] : List Int) := (RepL.consN (c := [.int .u8 (IntKind.wrap .u8 (w6 (48 + (Int.tmod xn 10))))]) rfl rfl)
 refine Ok.op rfl (OpOk.lit (E := 5) yb ([IntKind.wrap .u8 (w6 (48 + (Int.tmod xn 10)))] : List Int) ([.int .u8 (IntKind.wrap .u8 (w6 (48 + (Int.tmod xn 10))))] : List Value) kr kr rfl kr hL1 rfl fun b1 => ?_)
 refine Ok.op rfl (OpOk.s (v := sv (bytesOf ([IntKind.wrap .u8 (w6 (48 + (Int.tmod xn 10)))] : List Int))) (Yields.strOfOwn 0 kr rfl rfl hL1 Tryz.underlying23 Tryz.underlying9 Tryz.underlying5) rfl rfl (Ok.b 1 [0] [(3, sv (bytesOf ([IntKind.wrap .u8 (w6 (48 + (Int.tmod xn 10)))] : List Int)))] ?_))
 refine Ok.nt ((Ok.cut (fun a W => ∃ gj5 : Ghost, Gext w0 g gj5 ∧ StA 18 [(3, sv (digV0 xn))] a ∧ StW w0 [] gj5 W ∧ digj5 xn K) ?_ ?_))
 ·
  refine Ok.sr ((Ok.b 2 [0, 3] [(11, .bool (decide (xn > 9)))] ?_))
  refine Ok.nt ((Ok.cn hF rfl (fun hc2 => ?_) (fun hc2 => ?_)))
  ·replace hF := hF.1 hc2
   refine Ok.r (Ok.b 2 [3] [(13, iv (w6 (Int.tdiv xn 10)))] ?_)
   obtain ⟨hp3, hF⟩ := hF
   refine Ok.op rfl (OpOk.f enr (fun W hW => ih_dig _ (w6 (Int.tdiv xn 10)) hp3) rfl ?_)
   refine Ok.B 1 [(14, sv (digS (w6 (Int.tdiv xn 10)))), (15, sv (bytesOf ([IntKind.wrap .u8 (w6 (48 + (Int.tmod xn 10)))] : List Int)))] kr ?_
   obtain ⟨hv, hF⟩ := hF
   refine Ok.op rfl (OpOk.s (v := sv ((digS (w6 (Int.tdiv xn 10))) ++ (bytesOf ([IntKind.wrap .u8 (w6 (48 + (Int.tmod xn 10)))] : List Int)))) (Yields.sa rfl rfl hv) rfl rfl (Ok.B 1 [(3, sv ((digS (w6 (Int.tdiv xn 10))) ++ (bytesOf ([IntKind.wrap .u8 (w6 (48 + (Int.tmod xn 10)))] : List Int))))] kr (Ok.nt ((Ok.v 3 rfl (show (sv ((digS (w6 (Int.tdiv xn 10))) ++ (bytesOf ([IntKind.wrap .u8 (w6 (48 + (Int.tmod xn 10)))] : List Int))) : Value) = sv (digV0 xn) from congrArg ((fun s : Bs => Value.string ⟨⟨s⟩⟩)) ((if_t hc2).symm)) ?_)))))
   exact fun a W hA hW => ⟨g, (Gext.r w0 g), hA.sub kr, hW.sub (.cons _ .slnil), hF⟩
  replace hF := hF.2 hc2
  refine Ok.k (Ok.t (Ok.v 3 rfl (show (sv (bytesOf ([IntKind.wrap .u8 (w6 (48 + (Int.tmod xn 10)))] : List Int)) : Value) = sv (digV0 xn) from congrArg ((fun s : Bs => Value.string ⟨⟨s⟩⟩)) ((if_f hc2).symm)) ?_))
  exact fun a W hA hW => ⟨g, (Gext.r w0 g), hA.sub kr, hW.sub (.cons _ .slnil), hF⟩
 clear hF
 rintro a W ⟨gj5, hxj5, hA, hW, hF⟩
 refine (?_ : Ok _ _ _ _ _ _) a W hA hW
 clear hA hW
 refine Ok.sr ((Ok.B 2 [(2, sv (digV0 xn))] kr (Ok.nt ((Ok.ret ?_)))))
 exact Ok.resH (vs := [sv (digV0 xn)]) (.inl rfl) rfl (.cons (.tmp rfl) .nil) hxj5 ⟨(digV0 xn), rfl, rfl, hF⟩
theorem dig_0 (n : Int) : ¬ digP 0 n := fun h => by have h1 := h.1; have h2 := h.2.2; omega
theorem dec_len : ∀ (N u : Nat), u ≤ N → (Lib.decDigits u).length ≤ u + 1 := by
 intro N
 induction N with
 | zero => intro u h; rw [Lib.decDigits, dif_pos om]; simp
 | succ N ih =>
  intro u h
  rw [Lib.decDigits]
  split
  ·simp
  have := ih (u / 10) om
  simp; omega
theorem dig_F (N : Nat) (n : Int) (h : digP (N + 1) n) : digF N n (fun r => r = digS n) := by
 obtain ⟨h0, h1, h2⟩ := h
 obtain ⟨u, rfl⟩ : ∃ u : Nat, n = u := ⟨n.toNat, by omega⟩
 have e1 : Int.tdiv (u : Int) 10 = ((u / 10 : Nat) : Int) := by rw [Int.tdiv_eq_ediv_of_nonneg om]; omega
 have e2 : Int.tmod (u : Int) 10 = ((u % 10 : Nat) : Int) := by rw [Int.tmod_eq_emod_of_nonneg om]; omega
 have eB : bytesOf [IntKind.wrap .u8 (w6 (48 + ((u % 10 : Nat) : Int)))] = [UInt8.ofNat (48 + u % 10)] := by
  rw [w64 om, IntWalk.u8_in _ om]
  simp only [bytesOf, List.map_cons, List.map_nil]
  rw [show (48 + ((u % 10 : Nat) : Int)).toNat = 48 + u % 10 by omega]
 have key : digj5 (u : Int) (fun r => r = digS (u : Int)) := by
  unfold digj5 digV0
  rw [e1, e2, eB, w64 om]
  unfold digS
  rw [Int.toNat_natCast, Int.toNat_natCast]
  by_cases hu : u < 10
  ·rw [if_f (by simp; omega), Lib.decDigits.eq_def u, dif_pos hu]
   rw [Nat.mod_eq_of_lt hu]
  rw [if_t (by simp; omega), Lib.decDigits.eq_def u, dif_neg hu]
 refine ⟨fun hc => ⟨?_, ?_, key⟩, fun _ => key⟩
 ·rw [e1, w64 om]
  have := of_decide_eq_true hc
  exact ⟨by omega, by omega, by omega⟩
 rw [e1, e2, eB, w64 om, maxLen_eq]
 have := dec_len (u / 10) (u / 10) (Nat.le_refl _)
 unfold digS
 rw [Int.toNat_natCast]
 simp; omega
theorem dig_rec : ∀ N, dig_C N
 | 0 => (by intro g xn hp; exact (dig_0 xn hp).elim)
 | N + 1 =>
  have ih := dig_rec N
  (by intro g xn hp; exact (dig_ok N ih xn _ (dig_F N xn hp)).gives (by rintro g' H' v _ ⟨r0, rfl, rfl, hK⟩; subst hK; rfl))
def digPE (xn : Int) : Prop := ∃ N, digP N xn
theorem dig_c {g : Ghost} (xn : Int)  (hp : digPE xn) : CallsG Tryz.prog 81 #[iv xn] g (sv (digS xn)) := by
 obtain ⟨N, hp⟩ := hp
 exact (dig_rec N) _ xn hp
theorem dig_ok' {n : Int} (h : 0 ≤ n ∧ n ≤ 9223372036854775807) : digPE n := ⟨n.toNat + 1, h.1, h.2, by omega⟩
def sgnP (N : Nat) (n : Int) : Prop := i64P n ∧ n.natAbs < N
def sgn_C (N : Nat) : Prop := ∀ (g : Ghost) (xn : Int)  (hp : sgnP N xn), CallsG Tryz.prog 52 #[iv xn] g (sv (Lib.itoa xn))
def sgnF (N : Nat) (xn : Int) (K : Bs → Prop) : Prop :=
 ((decide (xn ≤ (-10))) = true → sgnP N (w6 (Int.tdiv xn 10)) ∧ digPE (w6 (0 - (Int.tmod xn 10))) ∧ (Lib.itoa (w6 (Int.tdiv xn 10))).length + (digS (w6 (0 - (Int.tmod xn 10)))).length ≤ maxLen ∧ K ((Lib.itoa (w6 (Int.tdiv xn 10))) ++ (digS (w6 (0 - (Int.tmod xn 10)))))) ∧ ((decide (xn ≤ (-10))) = false → ((decide (xn < 0)) = true → digPE (w6 (0 - xn)) ∧ ([45] : Bs).length + (digS (w6 (0 - xn))).length ≤ maxLen ∧ K (([45] : Bs) ++ (digS (w6 (0 - xn))))) ∧ ((decide (xn < 0)) = false → digPE xn ∧ K (digS xn)))
theorem sgn_ok {g : Ghost} (N : Nat) (ih_sgn : sgn_C N) (xn : Int) (K : Bs → Prop)
  (hF : sgnF N xn K) : CallsH Tryz.prog 52 #[iv xn] g [] (fun g' H' v => ∃ (r0 : Bs), v = sv r0 ∧ H' = [] ∧ K r0) := by
 refine CallsH.enter 21 [(0, iv xn)] Tryz.func52 rfl kr kr kr fun w0 => ?_
 refine Ok.sr ((Ok.B 1 [(0, iv xn)] kr (Ok.nt ((Ok.q (Ok.sr ((Ok.b 2 [0] [(4, .bool (decide (xn ≤ (-10))))] ?_))))))))
 refine Ok.nt ((Ok.cn hF rfl (fun hc1 => ?_) (fun hc1 => ?_)))
 ·replace hF := hF.1 hc1
  refine Ok.sr ((Ok.b 2 [0] [(6, iv (w6 (Int.tdiv xn 10)))] ?_))
  obtain ⟨hp2, hF⟩ := hF
  refine Ok.op rfl (OpOk.f enr (fun W hW => ih_sgn _ (w6 (Int.tdiv xn 10)) hp2) rfl ?_)
  refine Ok.B 3 [(7, sv (Lib.itoa (w6 (Int.tdiv xn 10)))), (10, iv (w6 (0 - (Int.tmod xn 10))))] kr ?_
  obtain ⟨hp3, hF⟩ := hF
  refine Ok.op rfl (OpOk.f enr (fun W hW => dig_c (w6 (0 - (Int.tmod xn 10))) hp3) rfl ?_)
  obtain ⟨hv, hF⟩ := hF
  refine Ok.op rfl (OpOk.s (v := sv ((Lib.itoa (w6 (Int.tdiv xn 10))) ++ (digS (w6 (0 - (Int.tmod xn 10)))))) (Yields.sa rfl rfl hv) rfl rfl (Ok.B 1 [(2, sv ((Lib.itoa (w6 (Int.tdiv xn 10))) ++ (digS (w6 (0 - (Int.tmod xn 10))))))] kr (Ok.nt ((Ok.ret (Ok.tr ?_))))))
  exact Ok.resH (vs := [sv ((Lib.itoa (w6 (Int.tdiv xn 10))) ++ (digS (w6 (0 - (Int.tmod xn 10)))))]) (.inl rfl) rfl (.cons (.tmp rfl) .nil) (Gext.r w0 g) ⟨((Lib.itoa (w6 (Int.tdiv xn 10))) ++ (digS (w6 (0 - (Int.tmod xn 10))))), rfl, rfl, hF⟩
 replace hF := hF.2 hc1
 refine Ok.k (Ok.t (Ok.q (Ok.sr ((Ok.b 2 [0] [(14, .bool (decide (xn < 0)))] ?_)))))
 refine Ok.nt ((Ok.cn hF rfl (fun hc4 => ?_) (fun hc4 => ?_)))
 ·replace hF := hF.1 hc4
  refine Ok.sr ((Ok.B 2 [(16, iv (w6 (0 - xn)))] kr ?_))
  obtain ⟨hp5, hF⟩ := hF
  refine Ok.op rfl (OpOk.f enr (fun W hW => dig_c (w6 (0 - xn)) hp5) rfl ?_)
  obtain ⟨hv, hF⟩ := hF
  refine Ok.op rfl (OpOk.s (v := sv (([45] : Bs) ++ (digS (w6 (0 - xn))))) (Yields.sa rfl rfl hv) rfl rfl (Ok.B 1 [(2, sv (([45] : Bs) ++ (digS (w6 (0 - xn)))))] kr (Ok.nt ((Ok.ret (Ok.tr ?_))))))
  exact Ok.resH (vs := [sv (([45] : Bs) ++ (digS (w6 (0 - xn))))]) (.inl rfl) rfl (.cons (.tmp rfl) .nil) (Gext.r w0 g) ⟨(([45] : Bs) ++ (digS (w6 (0 - xn)))), rfl, rfl, hF⟩
 replace hF := hF.2 hc4
 refine Ok.k (Ok.t (Ok.sr ((Ok.B 1 [(19, iv xn)] kr ?_))))
 obtain ⟨hp6, hF⟩ := hF
 refine Ok.op rfl (OpOk.f enr (fun W hW => dig_c xn hp6) rfl ?_)
 refine Ok.B 1 [(2, sv (digS xn))] kr (Ok.nt ((Ok.ret ?_)))
 exact Ok.resH (vs := [sv (digS xn)]) (.inl rfl) rfl (.cons (.tmp rfl) .nil) (Gext.r w0 g) ⟨(digS xn), rfl, rfl, hF⟩
theorem sgn_0 (n : Int) : ¬ sgnP 0 n := fun h => Nat.not_lt_zero _ h.2
theorem dig_small {n : Int} (h : 0 ≤ n) : (digS n).length ≤ n.toNat + 1 := dec_len n.toNat n.toNat (Nat.le_refl _)
theorem itoa_small (n : Int) : (Lib.itoa n).length ≤ n.natAbs + 2 := by
 unfold Lib.itoa
 split
 ·have := dec_len n.natAbs n.natAbs (Nat.le_refl _)
  simp only [List.length_cons]; omega
 have := dec_len n.toNat n.toNat (Nat.le_refl _)
 omega
theorem sgn_F (N : Nat) (n : Int) (h : sgnP (N + 1) n) : sgnF N n (fun r => r = Lib.itoa n) := by
 obtain ⟨⟨h0, h1⟩, h2⟩ := h
 refine ⟨fun hc => ?_, fun hc => ⟨fun hc2 => ?_, fun hc2 => ?_⟩⟩
 ·have hc := of_decide_eq_true hc
  obtain ⟨u, rfl⟩ : ∃ u : Nat, n = -(u : Int) := ⟨n.natAbs, by omega⟩
  have e1 : Int.tdiv (-(u : Int)) 10 = -((u / 10 : Nat) : Int) := by rw [Int.neg_tdiv, Int.tdiv_eq_ediv_of_nonneg om]; omega
  have e2 : Int.tmod (-(u : Int)) 10 = -((u % 10 : Nat) : Int) := by rw [Int.neg_tmod, Int.tmod_eq_emod_of_nonneg om]; omega
  rw [e1, e2, w64 om, w64 om, show (0 : Int) - -((u % 10 : Nat) : Int) = ((u % 10 : Nat) : Int) by omega]
  have l1 := itoa_small (-((u / 10 : Nat) : Int))
  have l2 := dig_small (n := ((u % 10 : Nat) : Int)) om
  refine ⟨⟨⟨by omega, by omega⟩, by omega⟩, dig_ok' om, by rw [maxLen_eq]; omega, ?_⟩
  unfold Lib.itoa digS
  rw [if_pos om, if_pos om, Int.toNat_natCast, Int.natAbs_neg, Int.natAbs_neg, Int.natAbs_natCast, Int.natAbs_natCast]
  have e3 := Lib.decDigits.eq_def u
  rw [dif_neg om] at e3
  have e4 := Lib.decDigits.eq_def (u % 10)
  rw [dif_pos om] at e4
  rw [e3, e4]; rfl
 ·have hc := of_decide_eq_false hc
  have hc2 := of_decide_eq_true hc2
  have l2 := dig_small (n := 0 - n) om
  rw [w64 om]
  refine ⟨dig_ok' om, by rw [maxLen_eq]; simp only [List.length_cons, List.length_nil]; omega, ?_⟩
  unfold Lib.itoa digS
  rw [if_pos om, show (0 - n).toNat = n.natAbs by omega]; rfl
 have hc2 := of_decide_eq_false hc2
 refine ⟨dig_ok' om, ?_⟩
 unfold Lib.itoa digS
 rw [if_neg om]
theorem sgn_rec : ∀ N, sgn_C N
 | 0 => (by intro g xn hp; exact (sgn_0 xn hp).elim)
 | N + 1 =>
  have ih := sgn_rec N
  (by intro g xn hp; exact (sgn_ok N ih xn _ (sgn_F N xn hp)).gives (by rintro g' H' v _ ⟨r0, rfl, rfl, hK⟩; subst hK; rfl))
def sgnPE (xn : Int) : Prop := ∃ N, sgnP N xn
theorem sgn_c {g : Ghost} (xn : Int)  (hp : sgnPE xn) : CallsG Tryz.prog 52 #[iv xn] g (sv (Lib.itoa xn)) := by
 obtain ⟨N, hp⟩ := hp
 exact (sgn_rec N) _ xn hp
theorem sgn_ok' {n : Int} (h : i64P n) : sgnPE n := ⟨n.natAbs + 1, h, by omega⟩
end Go.Proofs.YtcnhdkhkadiohaaGreatDoor.Me
