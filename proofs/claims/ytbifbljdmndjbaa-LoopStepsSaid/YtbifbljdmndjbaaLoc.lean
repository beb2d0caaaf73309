/- Loops: what is right, by the reference. -/
import Derived.Test.YtbifbljdmndjbaaLoe
namespace Go.Proofs.Ytbifbljdmndjbaa.Lo
open Go Go.Eng Go.RowKit
set_option maxHeartbeats 4000000
set_option maxRecDepth 100000
set_option linter.unusedSimpArgs false
set_option linter.unusedVariables false
def rbtF (xn : Int) (xlow : Int) (xhigh : Int) (K : Bool → Prop) : Prop :=
 K ((decide (xlow ≤ xn)) && (decide (xn ≤ xhigh)))
theorem rbt_ok {g : Ghost} (xn : Int) (xlow : Int) (xhigh : Int) (K : Bool → Prop)
  (hF : rbtF xn xlow xhigh K) : CallsH Try.prog 17 #[.int .i64 xn, .int .i64 xlow, .int .i64 xhigh] g [] (fun g' H' v => ∃ (r0 : Bool), v = .bool r0 ∧ H' = [] ∧ K r0) := by
 refine CallsH.enter 15 [(0, .int .i64 xn), (1, .int .i64 xlow), (2, .int .i64 xhigh)] Try.func17 rfl (by kernel_rfl) (by kernel_rfl) (by kernel_rfl) fun w0 => ?_
 refine Ok.seq (Ok.region (Ok.batch 1 [(0, .int .i64 xn), (1, .int .i64 xlow), (2, .int .i64 xhigh)] (by kernel_rfl) (Ok.nil (Ok.thenN (Ok.seq (Ok.region (Ok.bat 4 [0, 2] [(10, .bool (decide (xlow ≤ xn)))] ?_)))))))
 refine Ok.midway 4 [(14, .bool ((decide (xlow ≤ xn)) && (decide (xn ≤ xhigh))))] (fun hR1 => ?_) ?_
 ·refine Ok.boolAt 10 (decide (xlow ≤ xn)) rfl (fun hc2 => ?_) (fun hc2 => ?_)
  ·skip
   refine Ok.batch 4 [(14, .bool (decide (xn ≤ xhigh)))] (by kernel_rfl) (Ok.reval 14 rfl (show (.bool (decide (xn ≤ xhigh)) : Value) = .bool ((decide (xlow ≤ xn)) && (decide (xn ≤ xhigh))) from congrArg Value.bool (mand_t hc2)) (Ok.batch 0 [(14, .bool ((decide (xlow ≤ xn)) && (decide (xn ≤ xhigh))))] (by kernel_rfl) ?_))
   exact hR1
  ·skip
   refine Ok.batch 4 [(14, .bool false)] (by kernel_rfl) (Ok.reval 14 rfl (show (.bool false : Value) = .bool ((decide (xlow ≤ xn)) && (decide (xn ≤ xhigh))) from congrArg Value.bool (mand_f hc2)) (Ok.batch 0 [(14, .bool ((decide (xlow ≤ xn)) && (decide (xn ≤ xhigh))))] (by kernel_rfl) ?_))
   exact hR1
 refine Ok.batch 1 [(6, .bool ((decide (xlow ≤ xn)) && (decide (xn ≤ xhigh))))] (by kernel_rfl) (Ok.nil (Ok.thenN (Ok.ret ?_)))
 exact Ok.resH (vs := [.bool ((decide (xlow ≤ xn)) && (decide (xn ≤ xhigh)))]) (.inl rfl) rfl (.cons (.tmp rfl) .nil) (Gext.refl w0 g) ⟨((decide (xlow ≤ xn)) && (decide (xn ≤ xhigh))), rfl, rfl, hF⟩
def rbtM (xn : Int) (xlow : Int) (xhigh : Int) : Bool := ((decide (xlow ≤ xn)) && (decide (xn ≤ xhigh)))
theorem rbtF_A (xn : Int) (xlow : Int) (xhigh : Int) (P : Bool → Prop) (h : P (rbtM xn xlow xhigh)) : rbtF xn xlow xhigh (fun k0 => P k0) := by
 unfold rbtM at h
 unfold rbtF
 exact h
theorem rbt_F (xn : Int) (xlow : Int) (xhigh : Int) : rbtF xn xlow xhigh (fun k0 => k0 = rbtM xn xlow xhigh) :=
 rbtF_A xn xlow xhigh (fun z => z = rbtM xn xlow xhigh) rfl
theorem rbt_c {g : Ghost} (xn : Int) (xlow : Int) (xhigh : Int)  : CallsG Try.prog 17 #[.int .i64 xn, .int .i64 xlow, .int .i64 xhigh] g (.bool (rbtM xn xlow xhigh)) :=
 (rbt_ok xn xlow xhigh _ (rbt_F xn xlow xhigh)).gives (by rintro g' H' v _ ⟨r0, rfl, rfl, hK⟩; subst hK; rfl)
def rlrV0 (xq : JL) : Bool :=
 ((decide ((xq.2.2.1.length : Int) > 100)) || ((decide ((xq.2.2.2.1.length : Int) > 100)) || (decide ((xq.2.2.2.2.length : Int) > 100))))
def rlrV2 (xq : JL) (e7 : JJ) (yown3_0l21 : List (Int)) (ybs3_0l21 : Bool) : Bool :=
 ((ybs3_0l21 && (decide (e7.1 ≥ 0))) && ((decide (e7.1 < xq.2.1)) && (!(icoS yown3_0l21 e7.1))))
def rlrV15 (xq : JL) (x42l21 : Int) (yown3_0l21 : List (Int)) : List (Int) :=
 (yown3_0l21 ++ ([(xq.2.2.1.getD (Int.toNat x42l21) default).1] : List (Int)))
def rlrV16 (xq : JL) (x42l21 : Int) (yown3_0l21 : List (Int)) (ybs3_0l21 : Bool) : Bool :=
 ((rlrV2 xq (xq.2.2.1.getD (Int.toNat x42l21) default) yown3_0l21 ybs3_0l21) && ((rbtM (xq.2.2.1.getD (Int.toNat x42l21) default).2.1 1 4) && (!(xq.2.2.1.getD (Int.toNat x42l21) default).2.2.1)))
def rlrV19 (xq : JL) (yown3_0l40 : List (Int)) (ybs3_0l40 : Bool) (e20 : JJ) : Bool :=
 ((ybs3_0l40 && (decide (e20.1 ≥ 0))) && ((decide (e20.1 < xq.2.1)) && (!(icoS yown3_0l40 e20.1))))
def rlrV21 (xq : JL) (x65l40 : Int) (yown3_0l40 : List (Int)) : List (Int) :=
 (yown3_0l40 ++ ([(xq.2.2.2.1.getD (Int.toNat x65l40) default).1] : List (Int)))
def rlrV22 (xq : JL) (x65l40 : Int) (yown3_0l40 : List (Int)) (ybs3_0l40 : Bool) : Bool :=
 ((rlrV19 xq yown3_0l40 ybs3_0l40 (xq.2.2.2.1.getD (Int.toNat x65l40) default)) && (((xq.2.2.2.1.getD (Int.toNat x65l40) default).2.1 == 0) && (xq.2.2.2.1.getD (Int.toNat x65l40) default).2.2.1))
def rlrV27 (xq : JL) (yown3_0l59 : List (Int)) (ybs3_0l59 : Bool) (e33 : JT) : Bool :=
 ((ybs3_0l59 && (decide (e33.1 ≥ 0))) && ((decide (e33.1 < xq.2.1)) && (!(icoS yown3_0l59 e33.1))))
def rlrV28 (xq : JL) (yown3_0l59 : List (Int)) (ybs3_0l59 : Bool) (e33 : JT) : Bool :=
 ((rlrV27 xq yown3_0l59 ybs3_0l59 e33) && ((decide (e33.2.1 ≥ xq.1)) && ((decide (e33.2.1 ≤ 1000000000)) && ((rbtM e33.2.2.1 0 1000000000) && (rbtM e33.2.2.2.1 0 1000000000)))))
def rlrV32 (xq : JL) (x124l77 : Int) (ybs3_0l77 : Bool) (x87l59 : Int) (e33 : JT) : Bool :=
 (ybs3_0l77 && ((decide (((xq.2.2.2.2.take (Int.toNat x87l59)).getD (Int.toNat x124l77) default).2.1 < e33.2.1)) || ((((xq.2.2.2.2.take (Int.toNat x87l59)).getD (Int.toNat x124l77) default).2.1 == e33.2.1) && (decide (((xq.2.2.2.2.take (Int.toNat x87l59)).getD (Int.toNat x124l77) default).1 < e33.1)))))
def rlrj28 (xq : JL) (x42l21 : Int) (yown3_0l21 : List (Int)) (ybs3_0l21 : Bool) (C21 : Int → (List (Int)) → Bool → Prop) : Prop :=
 C21 (w6 (x42l21 + 1)) (rlrV15 xq x42l21 yown3_0l21) (rlrV16 xq x42l21 yown3_0l21 ybs3_0l21)
def rlrj1i49 (xq : JL) (e7 : JJ) (x42l21 : Int) (yown3_0l21 : List (Int)) (ybs3_0l21 : Bool) (C21 : Int → (List (Int)) → Bool → Prop) : Prop :=
 (yown3_0l21 ++ ([e7.1] : List (Int))).length ≤ 17592186044416 ∧ (((rlrV2 xq e7 yown3_0l21 ybs3_0l21)) = true → (((rbtM e7.2.1 1 4)) = true → rlrj28 xq x42l21 yown3_0l21 ybs3_0l21 C21) ∧ (((rbtM e7.2.1 1 4)) = false → rlrj28 xq x42l21 yown3_0l21 ybs3_0l21 C21)) ∧ (((rlrV2 xq e7 yown3_0l21 ybs3_0l21)) = false → rlrj28 xq x42l21 yown3_0l21 ybs3_0l21 C21)
def rlrj47 (xq : JL) (x65l40 : Int) (yown3_0l40 : List (Int)) (ybs3_0l40 : Bool) (C40 : Int → (List (Int)) → Bool → Prop) : Prop :=
 C40 (w6 (x65l40 + 1)) (rlrV21 xq x65l40 yown3_0l40) (rlrV22 xq x65l40 yown3_0l40 ybs3_0l40)
def rlrj1i72 (xq : JL) (x65l40 : Int) (yown3_0l40 : List (Int)) (ybs3_0l40 : Bool) (e20 : JJ) (C40 : Int → (List (Int)) → Bool → Prop) : Prop :=
 (yown3_0l40 ++ ([e20.1] : List (Int))).length ≤ 17592186044416 ∧ (((rlrV19 xq yown3_0l40 ybs3_0l40 e20)) = true → (((e20.2.1 == 0)) = true → rlrj47 xq x65l40 yown3_0l40 ybs3_0l40 C40) ∧ (((e20.2.1 == 0)) = false → rlrj47 xq x65l40 yown3_0l40 ybs3_0l40 C40)) ∧ (((rlrV19 xq yown3_0l40 ybs3_0l40 e20)) = false → rlrj47 xq x65l40 yown3_0l40 ybs3_0l40 C40)
def rlrj84 (xq : JL) (x124l77 : Int) (ybs3_0l77 : Bool) (x87l59 : Int) (e33 : JT) (C77 : Int → Bool → Prop) : Prop :=
 C77 (w6 (x124l77 + 1)) (rlrV32 xq x124l77 ybs3_0l77 x87l59 e33)
def rlrl77b (xq : JL) (x87l59 : Int) (yown3_0l59 : List (Int)) (e33 : JT) (C59 : Int → (List (Int)) → Bool → Prop) (x124l77 : Int) (ybs3_0l77 : Bool) (C77 : Int → Bool → Prop) : Prop :=
 ((decide (x124l77 < ((xq.2.2.2.2.take (Int.toNat x87l59)).length : Int))) = true → (0 : Int) ≤ x124l77 ∧ Int.toNat x124l77 < (xq.2.2.2.2.take (Int.toNat x87l59)).length ∧ ((ybs3_0l77) = true → ((decide (((xq.2.2.2.2.take (Int.toNat x87l59)).getD (Int.toNat x124l77) default).2.1 < e33.2.1)) = true → rlrj84 xq x124l77 ybs3_0l77 x87l59 e33 C77) ∧ ((decide (((xq.2.2.2.2.take (Int.toNat x87l59)).getD (Int.toNat x124l77) default).2.1 < e33.2.1)) = false → (((((xq.2.2.2.2.take (Int.toNat x87l59)).getD (Int.toNat x124l77) default).2.1 == e33.2.1)) = true → rlrj84 xq x124l77 ybs3_0l77 x87l59 e33 C77) ∧ (((((xq.2.2.2.2.take (Int.toNat x87l59)).getD (Int.toNat x124l77) default).2.1 == e33.2.1)) = false → rlrj84 xq x124l77 ybs3_0l77 x87l59 e33 C77))) ∧ ((ybs3_0l77) = false → rlrj84 xq x124l77 ybs3_0l77 x87l59 e33 C77)) ∧ ((decide (x124l77 < ((xq.2.2.2.2.take (Int.toNat x87l59)).length : Int))) = false → C59 (w6 (x87l59 + 1)) (yown3_0l59 ++ ([(xq.2.2.2.2.getD (Int.toNat x87l59) default).1] : List (Int))) ybs3_0l77)
def rlrl77 (xq : JL) (x87l59 : Int) (yown3_0l59 : List (Int)) (e33 : JT) (C59 : Int → (List (Int)) → Bool → Prop) : Nat → Int → Bool → Prop
 | 0, _, _ => False
 | k + 1, x124l77, ybs3_0l77 => rlrl77b xq x87l59 yown3_0l59 e33 C59 x124l77 ybs3_0l77 (rlrl77 xq x87l59 yown3_0l59 e33 C59 k)
def rlrj72 (xq : JL) (x87l59 : Int) (yown3_0l59 : List (Int)) (ybs3_0l59 : Bool) (e33 : JT) (C59 : Int → (List (Int)) → Bool → Prop) : Prop :=
 (0 : Int) ≤ 0 ∧ (0 : Int) ≤ x87l59 ∧ x87l59 ≤ (xq.2.2.2.2.length : Int) ∧ ∃ k, rlrl77 xq x87l59 yown3_0l59 e33 C59 k 0 (rlrV28 xq yown3_0l59 ybs3_0l59 e33)
def rlrj1i95 (xq : JL) (x87l59 : Int) (yown3_0l59 : List (Int)) (ybs3_0l59 : Bool) (e33 : JT) (C59 : Int → (List (Int)) → Bool → Prop) : Prop :=
 (yown3_0l59 ++ ([e33.1] : List (Int))).length ≤ 17592186044416 ∧ (((rlrV27 xq yown3_0l59 ybs3_0l59 e33)) = true → ((decide (e33.2.1 ≥ xq.1)) = true → ((decide (e33.2.1 ≤ 1000000000)) = true → (((rbtM e33.2.2.1 0 1000000000)) = true → rlrj72 xq x87l59 yown3_0l59 ybs3_0l59 e33 C59) ∧ (((rbtM e33.2.2.1 0 1000000000)) = false → rlrj72 xq x87l59 yown3_0l59 ybs3_0l59 e33 C59)) ∧ ((decide (e33.2.1 ≤ 1000000000)) = false → rlrj72 xq x87l59 yown3_0l59 ybs3_0l59 e33 C59)) ∧ ((decide (e33.2.1 ≥ xq.1)) = false → rlrj72 xq x87l59 yown3_0l59 ybs3_0l59 e33 C59)) ∧ (((rlrV27 xq yown3_0l59 ybs3_0l59 e33)) = false → rlrj72 xq x87l59 yown3_0l59 ybs3_0l59 e33 C59)
def rlrl59b (xq : JL) (K : Int → Prop) (x87l59 : Int) (yown3_0l59 : List (Int)) (ybs3_0l59 : Bool) (C59 : Int → (List (Int)) → Bool → Prop) : Prop :=
 ((decide (x87l59 < (xq.2.2.2.2.length : Int))) = true → (0 : Int) ≤ x87l59 ∧ Int.toNat x87l59 < xq.2.2.2.2.length ∧ (((ybs3_0l59 && (decide ((xq.2.2.2.2.getD (Int.toNat x87l59) default).1 ≥ 0)))) = true → ((decide ((xq.2.2.2.2.getD (Int.toNat x87l59) default).1 < xq.2.1)) = true → icoP yown3_0l59 (xq.2.2.2.2.getD (Int.toNat x87l59) default).1 ∧ rlrj1i95 xq x87l59 yown3_0l59 ybs3_0l59 (xq.2.2.2.2.getD (Int.toNat x87l59) default) C59) ∧ ((decide ((xq.2.2.2.2.getD (Int.toNat x87l59) default).1 < xq.2.1)) = false → rlrj1i95 xq x87l59 yown3_0l59 ybs3_0l59 (xq.2.2.2.2.getD (Int.toNat x87l59) default) C59)) ∧ (((ybs3_0l59 && (decide ((xq.2.2.2.2.getD (Int.toNat x87l59) default).1 ≥ 0)))) = false → rlrj1i95 xq x87l59 yown3_0l59 ybs3_0l59 (xq.2.2.2.2.getD (Int.toNat x87l59) default) C59)) ∧ ((decide (x87l59 < (xq.2.2.2.2.length : Int))) = false → ((!ybs3_0l59) = true → K 3) ∧ ((!ybs3_0l59) = false → K 0))
def rlrl59 (xq : JL) (K : Int → Prop) : Nat → Int → (List (Int)) → Bool → Prop
 | 0, _, _, _ => False
 | k + 1, x87l59, yown3_0l59, ybs3_0l59 => rlrl59b xq K x87l59 yown3_0l59 ybs3_0l59 (rlrl59 xq K k)
def rlrl40b (xq : JL) (K : Int → Prop) (x65l40 : Int) (yown3_0l40 : List (Int)) (ybs3_0l40 : Bool) (C40 : Int → (List (Int)) → Bool → Prop) : Prop :=
 ((decide (x65l40 < (xq.2.2.2.1.length : Int))) = true → (0 : Int) ≤ x65l40 ∧ Int.toNat x65l40 < xq.2.2.2.1.length ∧ (((ybs3_0l40 && (decide ((xq.2.2.2.1.getD (Int.toNat x65l40) default).1 ≥ 0)))) = true → ((decide ((xq.2.2.2.1.getD (Int.toNat x65l40) default).1 < xq.2.1)) = true → icoP yown3_0l40 (xq.2.2.2.1.getD (Int.toNat x65l40) default).1 ∧ rlrj1i72 xq x65l40 yown3_0l40 ybs3_0l40 (xq.2.2.2.1.getD (Int.toNat x65l40) default) C40) ∧ ((decide ((xq.2.2.2.1.getD (Int.toNat x65l40) default).1 < xq.2.1)) = false → rlrj1i72 xq x65l40 yown3_0l40 ybs3_0l40 (xq.2.2.2.1.getD (Int.toNat x65l40) default) C40)) ∧ (((ybs3_0l40 && (decide ((xq.2.2.2.1.getD (Int.toNat x65l40) default).1 ≥ 0)))) = false → rlrj1i72 xq x65l40 yown3_0l40 ybs3_0l40 (xq.2.2.2.1.getD (Int.toNat x65l40) default) C40)) ∧ ((decide (x65l40 < (xq.2.2.2.1.length : Int))) = false → ∃ k, rlrl59 xq K k 0 yown3_0l40 ybs3_0l40)
def rlrl40 (xq : JL) (K : Int → Prop) : Nat → Int → (List (Int)) → Bool → Prop
 | 0, _, _, _ => False
 | k + 1, x65l40, yown3_0l40, ybs3_0l40 => rlrl40b xq K x65l40 yown3_0l40 ybs3_0l40 (rlrl40 xq K k)
def rlrl21b (xq : JL) (K : Int → Prop) (x42l21 : Int) (yown3_0l21 : List (Int)) (ybs3_0l21 : Bool) (C21 : Int → (List (Int)) → Bool → Prop) : Prop :=
 ((decide (x42l21 < (xq.2.2.1.length : Int))) = true → (0 : Int) ≤ x42l21 ∧ Int.toNat x42l21 < xq.2.2.1.length ∧ (((ybs3_0l21 && (decide ((xq.2.2.1.getD (Int.toNat x42l21) default).1 ≥ 0)))) = true → ((decide ((xq.2.2.1.getD (Int.toNat x42l21) default).1 < xq.2.1)) = true → icoP yown3_0l21 (xq.2.2.1.getD (Int.toNat x42l21) default).1 ∧ rlrj1i49 xq (xq.2.2.1.getD (Int.toNat x42l21) default) x42l21 yown3_0l21 ybs3_0l21 C21) ∧ ((decide ((xq.2.2.1.getD (Int.toNat x42l21) default).1 < xq.2.1)) = false → rlrj1i49 xq (xq.2.2.1.getD (Int.toNat x42l21) default) x42l21 yown3_0l21 ybs3_0l21 C21)) ∧ (((ybs3_0l21 && (decide ((xq.2.2.1.getD (Int.toNat x42l21) default).1 ≥ 0)))) = false → rlrj1i49 xq (xq.2.2.1.getD (Int.toNat x42l21) default) x42l21 yown3_0l21 ybs3_0l21 C21)) ∧ ((decide (x42l21 < (xq.2.2.1.length : Int))) = false → ∃ k, rlrl40 xq K k 0 yown3_0l21 ybs3_0l21)
def rlrl21 (xq : JL) (K : Int → Prop) : Nat → Int → (List (Int)) → Bool → Prop
 | 0, _, _, _ => False
 | k + 1, x42l21, yown3_0l21, ybs3_0l21 => rlrl21b xq K x42l21 yown3_0l21 ybs3_0l21 (rlrl21 xq K k)
def rlrj11 (xq : JL) (K : Int → Prop) : Prop :=
 ∃ k, rlrl21 xq K k 0 ([] : List (Int)) ((rbtM xq.1 0 1000000000) && (rbtM xq.2.1 0 1000000000))
def rlrj4 (xq : JL) (K : Int → Prop) : Prop :=
 (((rlrV0 xq)) = true → K 2) ∧ (((rlrV0 xq)) = false → (((rbtM xq.1 0 1000000000)) = true → rlrj11 xq K) ∧ (((rbtM xq.1 0 1000000000)) = false → rlrj11 xq K))
def rlrF (xq : JL) (K : Int → Prop) : Prop :=
 ((decide ((xq.2.2.1.length : Int) > 100)) = true → rlrj4 xq K) ∧ ((decide ((xq.2.2.1.length : Int) > 100)) = false → ((decide ((xq.2.2.2.1.length : Int) > 100)) = true → rlrj4 xq K) ∧ ((decide ((xq.2.2.2.1.length : Int) > 100)) = false → rlrj4 xq K))
theorem rlr_ok {g : Ghost} {axq_0 : Option Addr} {cxq_0 : Nat} {axq_1 : Option Addr} {cxq_1 : Nat} {axq_2 : Option Addr} {cxq_2 : Nat} (xq : JL) (hRxq_0 : Rep g (.slice (.pair (.int .i64) (.pair (.int .i64) (.pair (.bool) (.pair (.str) (.pair (.int .i64) (.pair (.int .i64) (.str)))))))) [.slice axq_0 xq.2.2.1.length cxq_0] xq.2.2.1) (hRxq_1 : Rep g (.slice (.pair (.int .i64) (.pair (.int .i64) (.pair (.bool) (.pair (.str) (.pair (.int .i64) (.pair (.int .i64) (.str)))))))) [.slice axq_1 xq.2.2.2.1.length cxq_1] xq.2.2.2.1) (hRxq_2 : Rep g (.slice (.pair (.int .i64) (.pair (.int .i64) (.pair (.int .i64) (.pair (.int .i64) (.str)))))) [.slice axq_2 xq.2.2.2.2.length cxq_2] xq.2.2.2.2) (K : Int → Prop)
  (hF : rlrF xq K) : CallsH Try.prog 13 #[.agg #[.int .i64 xq.1, .int .i64 xq.2.1, .slice axq_0 xq.2.2.1.length cxq_0, .slice axq_1 xq.2.2.2.1.length cxq_1, .slice axq_2 xq.2.2.2.2.length cxq_2]] g [] (fun g' H' v => ∃ (r0 : Int), v = .int .i64 r0 ∧ H' = [] ∧ K r0) := by
 refine CallsH.enter 154 [(0, .agg #[.int .i64 xq.1, .int .i64 xq.2.1, .slice axq_0 xq.2.2.1.length cxq_0, .slice axq_1 xq.2.2.2.1.length cxq_1, .slice axq_2 xq.2.2.2.2.length cxq_2])] Try.func13 rfl (by kernel_rfl) (by kernel_rfl) (by kernel_rfl) fun w0 => ?_
 refine Ok.seq (Ok.region (Ok.op rfl (OpOk.box (v := .agg #[.int .i64 xq.1, .int .i64 xq.2.1, .slice axq_0 xq.2.2.1.length cxq_0, .slice axq_1 xq.2.2.2.1.length cxq_1, .slice axq_2 xq.2.2.2.2.length cxq_2]) (cs := #[.int .i64 xq.1, .int .i64 xq.2.1, .slice axq_0 xq.2.2.1.length cxq_0, .slice axq_1 xq.2.2.2.1.length cxq_1, .slice axq_2 xq.2.2.2.2.length cxq_2]) rfl (by kernel_rfl) rfl fun bs1 => ?_)))
 refine Ok.batch 1 [(1, pv bs1 0)] (by kernel_rfl) (Ok.nil (Ok.thenN (Ok.seq (Ok.cut (fun a W => ∃ gj4 : Ghost, Gext w0 g gj4 ∧ StA 154 [(1, pv bs1 0), (29, .bool (rlrV0 xq))] a ∧ StW w0 [.blk bs1 (.cells #[.int .i64 xq.1, .int .i64 xq.2.1, .slice axq_0 xq.2.2.1.length cxq_0, .slice axq_1 xq.2.2.2.1.length cxq_1, .slice axq_2 xq.2.2.2.2.length cxq_2] 37)] gj4 W ∧ rlrj4 xq K) ?_ ?_))))
 ·
  refine Ok.region (Ok.bat 1 [1] [(14, pv bs1 2)] ?_)
  refine Ok.op rfl (OpOk.step (v := .slice axq_0 xq.2.2.1.length cxq_0) (Yields.load 0 rfl rfl Try.underlying34 rfl (by kernel_rfl)) rfl rfl (Ok.bat 3 [1] [(18, .bool (decide ((xq.2.2.1.length : Int) > 100)))] ?_))
  refine Ok.boolAt 18 (decide ((xq.2.2.1.length : Int) > 100)) rfl (fun hc58 => ?_) (fun hc58 => ?_)
  ·replace hF := hF.1 hc58
   refine Ok.bat 11 [1] [(29, .bool true)] ?_
   refine Ok.nil (Ok.thenN (Ok.reval 29 rfl (show (.bool true : Value) = .bool (rlrV0 xq) from congrArg (Value.bool) (mor_t hc58)) ?_))
   exact fun a W hA hW => ⟨g, (Gext.refl w0 g), hA.sub (by kernel_rfl), hW, hF⟩
  ·replace hF := hF.2 hc58
   refine Ok.bat 1 [1] [(18, .bool false), (19, pv bs1 3)] ?_
   refine Ok.opYes (j := 4) (d := 18) (want := false) (b := false) rfl (by kernel_rfl) (by kernel_rfl) rfl (OpOk.step (v := .slice axq_1 xq.2.2.2.1.length cxq_1) (Yields.load 0 rfl rfl Try.underlying34 rfl (by kernel_rfl)) rfl rfl (Ok.bat 4 [1] [(24, .bool (decide ((xq.2.2.2.1.length : Int) > 100)))] ?_))
   refine Ok.boolAt 24 (decide ((xq.2.2.2.1.length : Int) > 100)) rfl (fun hc59 => ?_) (fun hc59 => ?_)
   ·replace hF := hF.1 hc59
    refine Ok.bat 5 [1] [(29, .bool true)] ?_
    refine Ok.nil (Ok.thenN (Ok.reval 29 rfl (show (.bool true : Value) = .bool (rlrV0 xq) from congrArg (Value.bool) ((Eq.trans (mor_t hc59) (mor_f hc58)))) ?_))
    exact fun a W hA hW => ⟨g, (Gext.refl w0 g), hA.sub (by kernel_rfl), hW, hF⟩
   ·replace hF := hF.2 hc59
    refine Ok.bat 1 [1] [(24, .bool false), (25, pv bs1 4)] ?_
    refine Ok.opYes (j := 10) (d := 24) (want := false) (b := false) rfl (by kernel_rfl) (by kernel_rfl) rfl (OpOk.step (v := .slice axq_2 xq.2.2.2.2.length cxq_2) (Yields.load 0 rfl rfl Try.underlying35 rfl (by kernel_rfl)) rfl rfl (Ok.bat 3 [1] [(29, .bool (decide ((xq.2.2.2.2.length : Int) > 100)))] ?_))
    refine Ok.nil (Ok.thenN (Ok.reval 29 rfl (show (.bool (decide ((xq.2.2.2.2.length : Int) > 100)) : Value) = .bool (rlrV0 xq) from congrArg (Value.bool) ((Eq.trans (mor_f hc59) (mor_f hc58)))) ?_))
    exact fun a W hA hW => ⟨g, (Gext.refl w0 g), hA.sub (by kernel_rfl), hW, hF⟩
 ·
  clear hF
  rintro a W ⟨gj4, hxj4, hA, hW, hF⟩
  refine (?_ : Ok _ _ _ _ _ _) a W hA hW
  clear hA hW
  replace hRxq_0 := hRxq_0.mono hxj4.1
  replace hRxq_1 := hRxq_1.mono hxj4.1
  replace hRxq_2 := hRxq_2.mono hxj4.1
  refine Ok.cond (b := (rlrV0 xq)) rfl (fun hc2 => ?_) (fun hc2 => ?_)
  ·replace hF := hF.1 hc2
   refine Ok.seq (Ok.region (Ok.batch 1 [(2, .int .i64 2)] (by kernel_rfl) (Ok.nil (Ok.thenN (Ok.ret (Ok.thenR ?_))))))
   exact Ok.resP (vs := [.int .i64 2]) [] [] (by decide) rfl (.inl rfl) rfl (.cons (.tmp rfl) .nil) hxj4 ⟨2, rfl, rfl, hF⟩
  ·replace hF := hF.2 hc2
   refine Ok.skip (Ok.thenN (Ok.cut (fun a W => ∃ gj11 : Ghost, Gext w0 gj4 gj11 ∧ ∃ (bs3 : Nat), StA 154 [(1, pv bs1 0), (3, pv bs3 0)] a ∧ StW w0 [.blk bs3 (.cells #[.bool ((rbtM xq.1 0 1000000000) && (rbtM xq.2.1 0 1000000000))] 4), .blk bs1 (.cells #[.int .i64 xq.1, .int .i64 xq.2.1, .slice axq_0 xq.2.2.1.length cxq_0, .slice axq_1 xq.2.2.2.1.length cxq_1, .slice axq_2 xq.2.2.2.2.length cxq_2] 37)] gj11 W ∧ rlrj11 xq K) ?_ ?_))
   ·
    refine Ok.region (Ok.bat 1 [1] [(30, pv bs1 0)] ?_)
    refine Ok.op rfl (OpOk.step (v := .int .i64 xq.1) (Yields.load 0 rfl rfl Try.underlying3 rfl (by kernel_rfl)) rfl rfl (Ok.op rfl (OpOk.callG (v := .bool (rbtM xq.1 0 1000000000)) enr (fun W hW => rbt_c xq.1 0 1000000000) rfl ?_)))
    refine Ok.bat 1 [1] [(33, .bool (rbtM xq.1 0 1000000000))] ?_
    refine Ok.boolAt 33 ((rbtM xq.1 0 1000000000)) rfl (fun hc55 => ?_) (fun hc55 => ?_)
    ·replace hF := hF.1 hc55
     refine Ok.bat 1 [1] [(33, .bool true), (34, pv bs1 1)] ?_
     refine Ok.opYes (j := 3) (d := 33) (want := true) (b := true) rfl (by kernel_rfl) (by kernel_rfl) rfl (OpOk.step (v := .int .i64 xq.2.1) (Yields.load 0 rfl rfl Try.underlying3 rfl (by kernel_rfl)) rfl rfl (Ok.opYes (j := 3) (d := 33) (want := true) (b := true) rfl (by kernel_rfl) (by kernel_rfl) rfl (OpOk.callG (v := .bool (rbtM xq.2.1 0 1000000000)) enr (fun W hW => rbt_c xq.2.1 0 1000000000) rfl ?_)))
     refine Ok.bat 1 [1] [(37, .bool (rbtM xq.2.1 0 1000000000))] ?_
     refine Ok.op rfl (OpOk.alloc (z := .bool false) (cs := #[.bool false]) (by kernel_rfl) (by kernel_rfl) rfl fun bs3 => ?_)
     refine Ok.op rfl (OpOk.sto (k := 1) (v := .bool (rbtM xq.2.1 0 1000000000)) 0 #[.bool (rbtM xq.2.1 0 1000000000)] rfl rfl rfl ?_)
     refine Ok.nil (Ok.thenN (Ok.entEq 0 (e' := .blk bs3 (.cells #[.bool ((rbtM xq.1 0 1000000000) && (rbtM xq.2.1 0 1000000000))] 4)) rfl (congrArg (fun l : List Value => Ent.blk bs3 (.cells ⟨l⟩ 4)) (lcons (congrArg (Value.bool) (mand_t hc55)) rfl)) ?_))
     exact fun a W hA hW => ⟨gj4, (Gext.refl w0 gj4), bs3, hA.sub (by kernel_rfl), hW, hF⟩
    ·replace hF := hF.2 hc55
     refine Ok.bat 4 [1] [(37, .bool false)] ?_
     refine Ok.op rfl (OpOk.alloc (z := .bool false) (cs := #[.bool false]) (by kernel_rfl) (by kernel_rfl) rfl fun bs3 => ?_)
     refine Ok.op rfl (OpOk.sto (k := 1) (v := .bool false) 0 #[.bool false] rfl rfl rfl ?_)
     refine Ok.nil (Ok.thenN (Ok.entEq 0 (e' := .blk bs3 (.cells #[.bool ((rbtM xq.1 0 1000000000) && (rbtM xq.2.1 0 1000000000))] 4)) rfl (congrArg (fun l : List Value => Ent.blk bs3 (.cells ⟨l⟩ 4)) (lcons (congrArg (Value.bool) (mand_f hc55)) rfl)) ?_))
     exact fun a W hA hW => ⟨gj4, (Gext.refl w0 gj4), bs3, hA.sub (by kernel_rfl), hW, hF⟩
   ·
    clear hF
    rintro a W ⟨gj11, hxj11, bs3, hA, hW, hF⟩
    refine (?_ : Ok _ _ _ _ _ _) a W hA hW
    clear hA hW
    replace hRxq_0 := hRxq_0.mono hxj11.1
    replace hRxq_1 := hRxq_1.mono hxj11.1
    replace hRxq_2 := hRxq_2.mono hxj11.1
    refine Ok.seq (Ok.region ?_)
    have hL3 : RepL gj11 (.int .i64) [] [] := rfl
    refine Ok.ownNil 3 1 (Ok.op rfl (OpOk.alloc (z := .slice none ([] : List (Int)).length 0) (cs := #[.slice none ([] : List (Int)).length 0]) (by kernel_rfl) (by kernel_rfl) rfl fun bs4 => ?_))
    refine Ok.nil (Ok.thenN (Ok.seq (Ok.region (Ok.bat 2 [1, 3] [(5, .func (.func 44) #[] #[pv bs3 0, pv bs1 0, pv bs4 0])] ?_))))
    refine Ok.nil (Ok.thenN (Ok.seq (Ok.seq (Ok.region (Ok.bat 1 [1, 3, 5] [(39, pv bs1 2)] ?_)))))
    refine Ok.op rfl (OpOk.step (v := .slice axq_0 xq.2.2.1.length cxq_0) (Yields.load 3 rfl rfl Try.underlying34 rfl (by kernel_rfl)) rfl rfl (Ok.bat 2 [1, 3, 5] [(40, .slice axq_0 xq.2.2.1.length cxq_0), (41, .int .i64 (xq.2.2.1.length : Int)), (42, .int .i64 0)] ?_))
    refine Ok.nil (Ok.thenN (Ok.block ?_))
    obtain ⟨k, hF⟩ := hF
    refine Ok.loop (fun k a W => ∃ gl21 : Ghost, Gext w0 gj11 gl21 ∧ ∃ (x42l21 : Int) (ayown3_0l21 : Option Addr) (cyown3_0l21 : Nat) (yown3_0l21 : List (Int)) (xsyown3_0l21 : List Value) (ybs3_0l21 : Bool), RepL gl21 (.int .i64) xsyown3_0l21 yown3_0l21 ∧ StA 154 [(1, pv bs1 0), (3, pv bs3 0), (5, .func (.func 44) #[] #[pv bs3 0, pv bs1 0, pv bs4 0]), (40, .slice axq_0 xq.2.2.1.length cxq_0), (41, .int .i64 (xq.2.2.1.length : Int)), (42, .int .i64 x42l21)] a ∧ StW w0 [.blk bs4 (.cells #[.slice ayown3_0l21 yown3_0l21.length cyown3_0l21] 61), .own (.slice ayown3_0l21 yown3_0l21.length cyown3_0l21) 3 1 yown3_0l21.length xsyown3_0l21, .blk bs3 (.cells #[.bool ybs3_0l21] 4), .blk bs1 (.cells #[.int .i64 xq.1, .int .i64 xq.2.1, .slice axq_0 xq.2.2.1.length cxq_0, .slice axq_1 xq.2.2.2.1.length cxq_1, .slice axq_2 xq.2.2.2.2.length cxq_2] 37)] gl21 W ∧ rlrl21 xq K k x42l21 yown3_0l21 ybs3_0l21) k ?_ ?_
    ·
     exact fun a W hA hW => ⟨gj11, (Gext.refl w0 gj11), 0, none, 0, ([] : List (Int)), [], ((rbtM xq.1 0 1000000000) && (rbtM xq.2.1 0 1000000000)), hL3, hA.sub (by kernel_rfl), hW, hF⟩
    ·
     clear hF
     rintro k21 a W ⟨gl21, hxl21, x42l21, ayown3_0l21, cyown3_0l21, yown3_0l21, xsyown3_0l21, ybs3_0l21, hLyown3_0l21, hA, hW, hF⟩
     cases k21 with
     | zero => exact (hF : False).elim
     | succ k21 =>
      refine (?_ : Ok _ _ _ _ _ _) a W hA hW
      clear hA hW
      replace hRxq_0 := hRxq_0.mono hxl21.1
      replace hRxq_1 := hRxq_1.mono hxl21.1
      replace hRxq_2 := hRxq_2.mono hxl21.1
      refine Ok.seq (Ok.region (Ok.bat 1 [1, 3, 5, 40, 41, 42] [(43, .bool (decide (x42l21 < (xq.2.2.1.length : Int))))] ?_))
      refine Ok.nil (Ok.thenN (Ok.seq (Ok.cond (b := decide (x42l21 < (xq.2.2.1.length : Int))) rfl (fun hc5 => ?_) (fun hc5 => ?_))))
      ·replace hF := hF.1 hc5
       refine Ok.skip (Ok.thenN (Ok.cut (fun a W => ∃ gj28 : Ghost, Gext w0 gl21 gj28 ∧ ∃ (ayown3_0j28 : Option Addr) (cyown3_0j28 : Nat) (xsyown3_0j28 : List Value), RepL gj28 (.int .i64) xsyown3_0j28 (rlrV15 xq x42l21 yown3_0l21) ∧ StA 154 [(1, pv bs1 0), (3, pv bs3 0), (5, .func (.func 44) #[] #[pv bs3 0, pv bs1 0, pv bs4 0]), (40, .slice axq_0 xq.2.2.1.length cxq_0), (41, .int .i64 (xq.2.2.1.length : Int)), (42, .int .i64 x42l21)] a ∧ StW w0 [.blk bs4 (.cells #[.slice ayown3_0j28 (rlrV15 xq x42l21 yown3_0l21).length cyown3_0j28] 61), .own (.slice ayown3_0j28 (rlrV15 xq x42l21 yown3_0l21).length cyown3_0j28) 3 1 (rlrV15 xq x42l21 yown3_0l21).length xsyown3_0j28, .blk bs3 (.cells #[.bool (rlrV16 xq x42l21 yown3_0l21 ybs3_0l21)] 4), .blk bs1 (.cells #[.int .i64 xq.1, .int .i64 xq.2.1, .slice axq_0 xq.2.2.1.length cxq_0, .slice axq_1 xq.2.2.2.1.length cxq_1, .slice axq_2 xq.2.2.2.2.length cxq_2] 37)] gj28 W ∧ rlrj28 xq x42l21 yown3_0l21 ybs3_0l21 (rlrl21 xq K k21)) ?_ ?_))
       ·
        refine Ok.block (Ok.seq (Ok.region ?_))
        obtain ⟨h07, h17, hF⟩ := hF
        have he7 := get_of (l := xq.2.2.1) (default : JJ) h17
        generalize hg7 : (xq.2.2.1.getD (Int.toNat x42l21) default) = e7 at he7 hF ⊢
        refine Ok.op rfl (OpOk.indexRo (e := .pair (.int .i64) (.pair (.int .i64) (.pair (.bool) (.pair (.str) (.pair (.int .i64) (.pair (.int .i64) (.str))))))) (i := x42l21) (el := e7) rfl rfl Try.underlying34 (by kernel_rfl) hRxq_0 h07 he7 rfl fun q6 o6 cs6 _ hat6 hr6 => ?_)
        obtain ⟨_, _, rfl, rfl, ⟨_, _, rfl, rfl, ⟨_, _, rfl, rfl, ⟨_, _, rfl, rfl, ⟨_, _, rfl, rfl, ⟨_, _, rfl, rfl, rfl⟩⟩⟩⟩⟩⟩ := hr6
        replace hat6 : At gl21 q6 o6 [.int .i64 e7.1, .int .i64 e7.2.1, .bool e7.2.2.1, sv e7.2.2.2.1, .int .i64 e7.2.2.2.2.1, .int .i64 e7.2.2.2.2.2.1, sv e7.2.2.2.2.2.2] := hat6
        refine Ok.op rfl (OpOk.step (v := .agg #[.int .i64 e7.1, .int .i64 e7.2.1, .bool e7.2.2.1, sv e7.2.2.2.1, .int .i64 e7.2.2.2.2.1, .int .i64 e7.2.2.2.2.2.1, sv e7.2.2.2.2.2.2]) (Yields.loadAggRo 0 7 #[.int .i64 e7.1, .int .i64 e7.2.1, .bool e7.2.2.1, sv e7.2.2.2.1, .int .i64 e7.2.2.2.2.1, .int .i64 e7.2.2.2.2.2.1, sv e7.2.2.2.2.2.2] hat6 (by kernel_rfl) Try.underlying43 rfl (by kernel_rfl) (by kernel_rfl) (by kernel_rfl)) rfl rfl (Ok.op rfl (OpOk.alloc (z := .agg #[.int .i64 0, .int .i64 0, .bool false, sv ([] : Bs), .int .i64 0, .int .i64 0, sv ([] : Bs)]) (cs := #[.int .i64 0, .int .i64 0, .bool false, sv ([] : Bs), .int .i64 0, .int .i64 0, sv ([] : Bs)]) (by kernel_rfl) (by kernel_rfl) rfl fun bs7 => ?_)))
        refine Ok.op rfl (OpOk.sto (k := 7) (v := .agg #[.int .i64 e7.1, .int .i64 e7.2.1, .bool e7.2.2.1, sv e7.2.2.2.1, .int .i64 e7.2.2.2.2.1, .int .i64 e7.2.2.2.2.2.1, sv e7.2.2.2.2.2.2]) 0 #[.int .i64 e7.1, .int .i64 e7.2.1, .bool e7.2.2.1, sv e7.2.2.2.1, .int .i64 e7.2.2.2.2.1, .int .i64 e7.2.2.2.2.2.1, sv e7.2.2.2.2.2.2] rfl rfl rfl ?_)
        refine Ok.nil (Ok.thenN (Ok.seq (Ok.region (Ok.bat 2 [1, 3, 5, 40, 41, 42] [(7, pv bs7 0), (46, .func (.func 44) #[] #[pv bs3 0, pv bs1 0, pv bs4 0]), (47, pv bs7 0)] ?_))))
        refine Ok.op rfl (OpOk.step (v := .int .i64 e7.1) (Yields.load 0 rfl rfl Try.underlying3 rfl (by kernel_rfl)) rfl rfl (Ok.op rfl (OpOk.inline (args := #[.int .i64 e7.1, pv bs3 0, pv bs1 0, pv bs4 0]) 26 [(0, .int .i64 e7.1), (1, pv bs3 0), (2, pv bs1 0), (3, pv bs4 0)] enr Try.func44 rfl rfl rfl rfl (Ok.cut (fun a W => ∃ gj1i49 : Ghost, Gext w0 gl21 gj1i49 ∧ StA 26 [(0, .int .i64 e7.1), (3, pv bs4 0)] a ∧ StW w0 [.blk bs7 (.cells #[.int .i64 e7.1, .int .i64 e7.2.1, .bool e7.2.2.1, sv e7.2.2.2.1, .int .i64 e7.2.2.2.2.1, .int .i64 e7.2.2.2.2.2.1, sv e7.2.2.2.2.2.2] 43), .blk bs4 (.cells #[.slice ayown3_0l21 yown3_0l21.length cyown3_0l21] 61), .own (.slice ayown3_0l21 yown3_0l21.length cyown3_0l21) 3 1 yown3_0l21.length xsyown3_0l21, .blk bs3 (.cells #[.bool (rlrV2 xq e7 yown3_0l21 ybs3_0l21)] 4), .blk bs1 (.cells #[.int .i64 xq.1, .int .i64 xq.2.1, .slice axq_0 xq.2.2.1.length cxq_0, .slice axq_1 xq.2.2.2.1.length cxq_1, .slice axq_2 xq.2.2.2.2.length cxq_2] 37)] gj1i49 W ∧ rlrj1i49 xq e7 x42l21 yown3_0l21 ybs3_0l21 (rlrl21 xq K k21)) ?_ ?_))))
        ·
         refine Ok.region (Ok.op rfl (OpOk.step (v := .bool ybs3_0l21) (Yields.load 3 rfl rfl Try.underlying4 rfl (by kernel_rfl)) rfl rfl (Ok.batch 1 [(0, .int .i64 e7.1), (1, pv bs3 0), (2, pv bs1 0), (3, pv bs4 0), (6, .bool ybs3_0l21)] (by kernel_rfl) (Ok.midway 3 [(0, .int .i64 e7.1), (1, pv bs3 0), (2, pv bs1 0), (3, pv bs4 0), (9, .bool (ybs3_0l21 && (decide (e7.1 ≥ 0))))] (fun hR13 => ?_) ?_))))
         ·refine Ok.boolAt 6 (ybs3_0l21) rfl (fun hc14 => ?_) (fun hc14 => ?_)
          ·skip
           refine Ok.bat 3 [0, 1, 2, 3] [(9, .bool (decide (e7.1 ≥ 0)))] ?_
           refine Ok.reval 9 rfl (show (.bool (decide (e7.1 ≥ 0)) : Value) = .bool (ybs3_0l21 && (decide (e7.1 ≥ 0))) from congrArg Value.bool (mand_t hc14)) (Ok.bat 0 [0, 1, 2, 3] [(9, .bool (ybs3_0l21 && (decide (e7.1 ≥ 0))))] ?_)
           exact hR13
          ·skip
           refine Ok.bat 3 [0, 1, 2, 3] [(9, .bool false)] ?_
           refine Ok.reval 9 rfl (show (.bool false : Value) = .bool (ybs3_0l21 && (decide (e7.1 ≥ 0))) from congrArg Value.bool (mand_f hc14)) (Ok.bat 0 [0, 1, 2, 3] [(9, .bool (ybs3_0l21 && (decide (e7.1 ≥ 0))))] ?_)
           exact hR13
         refine Ok.bat 1 [0, 1, 2, 3] [(10, .bool (ybs3_0l21 && (decide (e7.1 ≥ 0))))] ?_
         refine Ok.boolAt 10 ((ybs3_0l21 && (decide (e7.1 ≥ 0)))) rfl (fun hc15 => ?_) (fun hc15 => ?_)
         ·replace hF := hF.1 hc15
          refine Ok.bat 2 [0, 1, 3] [(10, .bool true), (11, .int .i64 e7.1), (12, pv bs1 1)] ?_
          refine Ok.opYes (j := 5) (d := 10) (want := true) (b := true) rfl (by kernel_rfl) (by kernel_rfl) rfl (OpOk.step (v := .int .i64 xq.2.1) (Yields.load 4 rfl rfl Try.underlying3 rfl (by kernel_rfl)) rfl rfl (Ok.bat 3 [0, 1, 3] [(16, .bool (decide (e7.1 < xq.2.1)))] ?_))
          refine Ok.boolAt 16 (decide (e7.1 < xq.2.1)) rfl (fun hc16 => ?_) (fun hc16 => ?_)
          ·replace hF := hF.1 hc16
           refine Ok.opYes (j := 11) (d := 16) (want := true) (b := true) rfl (by kernel_rfl) (by kernel_rfl) rfl (OpOk.step (v := .slice ayown3_0l21 yown3_0l21.length cyown3_0l21) (Yields.load 1 rfl rfl Try.underlying61 rfl (by kernel_rfl)) rfl rfl (Ok.bat 1 [0, 1, 3] [(16, .bool true), (17, .slice ayown3_0l21 yown3_0l21.length cyown3_0l21), (18, .int .i64 e7.1)] ?_))
           obtain ⟨hp17, hF⟩ := hF
           refine Ok.opYes (j := 11) (d := 16) (want := true) (b := true) rfl (by kernel_rfl) (by kernel_rfl) rfl (OpOk.callG (v := .bool (icoS yown3_0l21 e7.1)) enr (fun W hW => ico_c yown3_0l21 e7.1 (hW.seeOwn 2 rfl hLyown3_0l21) hp17) rfl ?_)
           refine Ok.bat 2 [0, 1, 3] [(21, .bool (!(icoS yown3_0l21 e7.1)))] ?_
           refine Ok.op rfl (OpOk.sto (k := 1) (v := .bool (!(icoS yown3_0l21 e7.1))) 3 #[.bool (!(icoS yown3_0l21 e7.1))] rfl rfl rfl ?_)
           refine Ok.nil (Ok.thenN (Ok.entEq 3 (e' := .blk bs3 (.cells #[.bool (rlrV2 xq e7 yown3_0l21 ybs3_0l21)] 4)) rfl (congrArg (fun l : List Value => Ent.blk bs3 (.cells ⟨l⟩ 4)) (lcons (congrArg (Value.bool) ((Eq.trans (mand_t hc16) (mand_t hc15)))) rfl)) ?_))
           exact fun a W hA hW => ⟨gl21, (Gext.refl w0 gl21), hA.sub (by kernel_rfl), hW, hF⟩
          ·replace hF := hF.2 hc16
           refine Ok.bat 5 [0, 1, 3] [(21, .bool false)] ?_
           refine Ok.op rfl (OpOk.sto (k := 1) (v := .bool false) 3 #[.bool false] rfl rfl rfl ?_)
           refine Ok.nil (Ok.thenN (Ok.entEq 3 (e' := .blk bs3 (.cells #[.bool (rlrV2 xq e7 yown3_0l21 ybs3_0l21)] 4)) rfl (congrArg (fun l : List Value => Ent.blk bs3 (.cells ⟨l⟩ 4)) (lcons (congrArg (Value.bool) ((Eq.trans (mand_f hc16) (mand_t hc15)))) rfl)) ?_))
           exact fun a W hA hW => ⟨gl21, (Gext.refl w0 gl21), hA.sub (by kernel_rfl), hW, hF⟩
         ·replace hF := hF.2 hc15
          refine Ok.bat 11 [0, 1, 3] [(21, .bool false)] ?_
          refine Ok.op rfl (OpOk.sto (k := 1) (v := .bool false) 3 #[.bool false] rfl rfl rfl ?_)
          refine Ok.nil (Ok.thenN (Ok.entEq 3 (e' := .blk bs3 (.cells #[.bool (rlrV2 xq e7 yown3_0l21 ybs3_0l21)] 4)) rfl (congrArg (fun l : List Value => Ent.blk bs3 (.cells ⟨l⟩ 4)) (lcons (congrArg (Value.bool) (mand_f hc15)) rfl)) ?_))
          exact fun a W hA hW => ⟨gl21, (Gext.refl w0 gl21), hA.sub (by kernel_rfl), hW, hF⟩
        ·
         clear hF
         rintro a W ⟨gj1i49, hxj1i49, hA, hW, hF⟩
         refine (?_ : Ok _ _ _ _ _ _) a W hA hW
         clear hA hW
         replace hLyown3_0l21 := hLyown3_0l21.mono hxj1i49.1
         replace hRxq_0 := hRxq_0.mono hxj1i49.1
         replace hRxq_1 := hRxq_1.mono hxj1i49.1
         replace hRxq_2 := hRxq_2.mono hxj1i49.1
         refine Ok.region (Ok.op rfl (OpOk.step (v := .slice ayown3_0l21 yown3_0l21.length cyown3_0l21) (Yields.load 1 rfl rfl Try.underlying61 rfl (by kernel_rfl)) rfl rfl (Ok.bat 1 [3] [(22, .slice ayown3_0l21 yown3_0l21.length cyown3_0l21), (23, .int .i64 e7.1)] ?_)))
         have hL9 : RepL gj1i49 (.int .i64) ([.int .i64 e7.1] : List Value) ([e7.1] : List (Int)) := (RepL.consN (c := [.int .i64 e7.1]) rfl rfl)
         refine Ok.op rfl (OpOk.lit (E := 3) (.int .i64) ([e7.1] : List (Int)) ([.int .i64 e7.1] : List Value) (by kernel_rfl) (by kernel_rfl) rfl (by kernel_rfl) hL9 rfl fun b9 => ?_)
         obtain ⟨hb10, hF⟩ := hF
         refine Ok.op rfl (OpOk.append' (e := .int .i64) 8 17592186044416 3 0 rfl rfl rfl rfl hLyown3_0l21 hL9 Try.underlying61 (by kernel_rfl) (by kernel_rfl) (by kernel_rfl) hb10 rfl fun a10 c10 xs10 hL10 => ?_)
         refine Ok.op rfl (OpOk.sto (k := 1) (v := .slice a10 (yown3_0l21 ++ ([e7.1] : List (Int))).length c10) 2 #[.slice a10 (yown3_0l21 ++ ([e7.1] : List (Int))).length c10] rfl rfl rfl ?_)
         refine Ok.nil (Ok.back (vs := []) (.inr rfl) rfl .nil rfl (Ok.nil (Ok.thenN (Ok.region (Ok.op rfl (OpOk.step (v := .bool (rlrV2 xq e7 yown3_0l21 ybs3_0l21)) (Yields.load 4 rfl rfl Try.underlying4 rfl (by kernel_rfl)) rfl rfl (Ok.batch 1 [(1, pv bs1 0), (3, pv bs3 0), (5, .func (.func 44) #[] #[pv bs3 0, pv bs1 0, pv bs4 0]), (7, pv bs7 0), (40, .slice axq_0 xq.2.2.1.length cxq_0), (41, .int .i64 (xq.2.2.1.length : Int)), (42, .int .i64 x42l21), (51, .bool (rlrV2 xq e7 yown3_0l21 ybs3_0l21))] (by kernel_rfl) (Ok.boolAt 51 ((rlrV2 xq e7 yown3_0l21 ybs3_0l21)) rfl (fun hc11 => ?_) (fun hc11 => ?_)))))))))
         ·replace hF := hF.1 hc11
          refine Ok.bat 1 [1, 3, 5, 7, 40, 41, 42] [(51, .bool true), (52, pv bs7 1)] ?_
          refine Ok.opYes (j := 1) (d := 51) (want := true) (b := true) rfl (by kernel_rfl) (by kernel_rfl) rfl (OpOk.step (v := .int .i64 e7.2.1) (Yields.load 1 rfl rfl Try.underlying3 rfl (by kernel_rfl)) rfl rfl (Ok.opYes (j := 1) (d := 51) (want := true) (b := true) rfl (by kernel_rfl) (by kernel_rfl) rfl (OpOk.callG (v := .bool (rbtM e7.2.1 1 4)) enr (fun W hW => rbt_c e7.2.1 1 4) rfl ?_)))
          refine Ok.bat 2 [1, 3, 5, 7, 40, 41, 42] [(56, .bool (rbtM e7.2.1 1 4))] ?_
          refine Ok.boolAt 56 ((rbtM e7.2.1 1 4)) rfl (fun hc12 => ?_) (fun hc12 => ?_)
          ·replace hF := hF.1 hc12
           refine Ok.bat 1 [1, 3, 5, 40, 41, 42] [(56, .bool true), (57, pv bs7 2)] ?_
           refine Ok.opYes (j := 6) (d := 56) (want := true) (b := true) rfl (by kernel_rfl) (by kernel_rfl) rfl (OpOk.step (v := .bool e7.2.2.1) (Yields.load 1 rfl rfl Try.underlying4 rfl (by kernel_rfl)) rfl rfl (Ok.bat 2 [1, 3, 5, 40, 41, 42] [(60, .bool (!e7.2.2.1))] ?_))
           refine Ok.op rfl (OpOk.sto (k := 1) (v := .bool (!e7.2.2.1)) 4 #[.bool (!e7.2.2.1)] rfl rfl rfl ?_)
           refine Ok.nil (Ok.blockN (Ok.thenN ?_))
           subst hg7
           refine Ok.entEq 4 (e' := .blk bs3 (.cells #[.bool (rlrV16 xq x42l21 yown3_0l21 ybs3_0l21)] 4)) rfl (congrArg (fun l : List Value => Ent.blk bs3 (.cells ⟨l⟩ 4)) (lcons (congrArg (Value.bool) ((Eq.trans (mand_t hc12) (mand_t hc11)))) rfl)) ?_
           exact fun a W hA hW => ⟨gj1i49, hxj1i49, a10, c10, xs10, hL10, hA.sub (by kernel_rfl), hW.sub (.cons _ (.cons _ (.cons_cons _ (.cons_cons _ (.cons_cons _ (.cons_cons _ .slnil)))))), hF⟩
          ·replace hF := hF.2 hc12
           refine Ok.bat 4 [1, 3, 5, 40, 41, 42] [(60, .bool false)] ?_
           refine Ok.op rfl (OpOk.sto (k := 1) (v := .bool false) 4 #[.bool false] rfl rfl rfl ?_)
           refine Ok.nil (Ok.blockN (Ok.thenN ?_))
           subst hg7
           refine Ok.entEq 4 (e' := .blk bs3 (.cells #[.bool (rlrV16 xq x42l21 yown3_0l21 ybs3_0l21)] 4)) rfl (congrArg (fun l : List Value => Ent.blk bs3 (.cells ⟨l⟩ 4)) (lcons (congrArg (Value.bool) ((Eq.trans (mand_f hc12) (mand_t hc11)))) rfl)) ?_
           exact fun a W hA hW => ⟨gj1i49, hxj1i49, a10, c10, xs10, hL10, hA.sub (by kernel_rfl), hW.sub (.cons _ (.cons _ (.cons_cons _ (.cons_cons _ (.cons_cons _ (.cons_cons _ .slnil)))))), hF⟩
         ·replace hF := hF.2 hc11
          refine Ok.bat 9 [1, 3, 5, 40, 41, 42] [(60, .bool false)] ?_
          refine Ok.op rfl (OpOk.sto (k := 1) (v := .bool false) 4 #[.bool false] rfl rfl rfl ?_)
          refine Ok.nil (Ok.blockN (Ok.thenN ?_))
          subst hg7
          refine Ok.entEq 4 (e' := .blk bs3 (.cells #[.bool (rlrV16 xq x42l21 yown3_0l21 ybs3_0l21)] 4)) rfl (congrArg (fun l : List Value => Ent.blk bs3 (.cells ⟨l⟩ 4)) (lcons (congrArg (Value.bool) (mand_f hc11)) rfl)) ?_
          exact fun a W hA hW => ⟨gj1i49, hxj1i49, a10, c10, xs10, hL10, hA.sub (by kernel_rfl), hW.sub (.cons _ (.cons _ (.cons_cons _ (.cons_cons _ (.cons_cons _ (.cons_cons _ .slnil)))))), hF⟩
       ·
        clear hF
        rintro a W ⟨gj28, hxj28, ayown3_0j28, cyown3_0j28, xsyown3_0j28, hLyown3_0j28, hA, hW, hF⟩
        refine (?_ : Ok _ _ _ _ _ _) a W hA hW
        clear hA hW
        replace hRxq_0 := hRxq_0.mono hxj28.1
        replace hRxq_1 := hRxq_1.mono hxj28.1
        replace hRxq_2 := hRxq_2.mono hxj28.1
        refine Ok.region (Ok.bat 2 [1, 3, 5, 40, 41] [(42, .int .i64 (w6 (x42l21 + 1)))] ?_)
        refine Ok.nil (Ok.thenN ?_)
        exact fun a W hA hW => ⟨k21, Nat.lt_succ_self _, gj28, (hxl21.trans hxj28), w6 (x42l21 + 1), ayown3_0j28, cyown3_0j28, (rlrV15 xq x42l21 yown3_0l21), xsyown3_0j28, (rlrV16 xq x42l21 yown3_0l21 ybs3_0l21), hLyown3_0j28, hA.sub (by kernel_rfl), hW, hF⟩
      ·replace hF := hF.2 hc5
       refine Ok.exit (Ok.thenE (Ok.thenE (Ok.blockHit (Ok.thenN (Ok.seq (Ok.seq (Ok.region (Ok.bat 1 [1, 3, 5] [(62, pv bs1 3)] ?_))))))))
       refine Ok.op rfl (OpOk.step (v := .slice axq_1 xq.2.2.2.1.length cxq_1) (Yields.load 3 rfl rfl Try.underlying34 rfl (by kernel_rfl)) rfl rfl (Ok.bat 2 [1, 3, 5] [(63, .slice axq_1 xq.2.2.2.1.length cxq_1), (64, .int .i64 (xq.2.2.2.1.length : Int)), (65, .int .i64 0)] ?_))
       refine Ok.nil (Ok.thenN (Ok.block ?_))
       obtain ⟨k, hF⟩ := hF
       refine Ok.loop (fun k a W => ∃ gl40 : Ghost, Gext w0 gl21 gl40 ∧ ∃ (x65l40 : Int) (ayown3_0l40 : Option Addr) (cyown3_0l40 : Nat) (yown3_0l40 : List (Int)) (xsyown3_0l40 : List Value) (ybs3_0l40 : Bool), RepL gl40 (.int .i64) xsyown3_0l40 yown3_0l40 ∧ StA 154 [(1, pv bs1 0), (3, pv bs3 0), (5, .func (.func 44) #[] #[pv bs3 0, pv bs1 0, pv bs4 0]), (63, .slice axq_1 xq.2.2.2.1.length cxq_1), (64, .int .i64 (xq.2.2.2.1.length : Int)), (65, .int .i64 x65l40)] a ∧ StW w0 [.blk bs4 (.cells #[.slice ayown3_0l40 yown3_0l40.length cyown3_0l40] 61), .own (.slice ayown3_0l40 yown3_0l40.length cyown3_0l40) 3 1 yown3_0l40.length xsyown3_0l40, .blk bs3 (.cells #[.bool ybs3_0l40] 4), .blk bs1 (.cells #[.int .i64 xq.1, .int .i64 xq.2.1, .slice axq_0 xq.2.2.1.length cxq_0, .slice axq_1 xq.2.2.2.1.length cxq_1, .slice axq_2 xq.2.2.2.2.length cxq_2] 37)] gl40 W ∧ rlrl40 xq K k x65l40 yown3_0l40 ybs3_0l40) k ?_ ?_
       ·
        exact fun a W hA hW => ⟨gl21, (Gext.refl w0 gl21), 0, ayown3_0l21, cyown3_0l21, yown3_0l21, xsyown3_0l21, ybs3_0l21, hLyown3_0l21, hA.sub (by kernel_rfl), hW, hF⟩
       ·
        clear hF
        rintro k40 a W ⟨gl40, hxl40, x65l40, ayown3_0l40, cyown3_0l40, yown3_0l40, xsyown3_0l40, ybs3_0l40, hLyown3_0l40, hA, hW, hF⟩
        cases k40 with
        | zero => exact (hF : False).elim
        | succ k40 =>
         refine (?_ : Ok _ _ _ _ _ _) a W hA hW
         clear hA hW
         replace hRxq_1 := hRxq_1.mono hxl40.1
         replace hRxq_0 := hRxq_0.mono hxl40.1
         replace hRxq_2 := hRxq_2.mono hxl40.1
         refine Ok.seq (Ok.region (Ok.bat 1 [1, 3, 5, 63, 64, 65] [(66, .bool (decide (x65l40 < (xq.2.2.2.1.length : Int))))] ?_))
         refine Ok.nil (Ok.thenN (Ok.seq (Ok.cond (b := decide (x65l40 < (xq.2.2.2.1.length : Int))) rfl (fun hc18 => ?_) (fun hc18 => ?_))))
         ·replace hF := hF.1 hc18
          refine Ok.skip (Ok.thenN (Ok.cut (fun a W => ∃ gj47 : Ghost, Gext w0 gl40 gj47 ∧ ∃ (ayown3_0j47 : Option Addr) (cyown3_0j47 : Nat) (xsyown3_0j47 : List Value), RepL gj47 (.int .i64) xsyown3_0j47 (rlrV21 xq x65l40 yown3_0l40) ∧ StA 154 [(1, pv bs1 0), (3, pv bs3 0), (5, .func (.func 44) #[] #[pv bs3 0, pv bs1 0, pv bs4 0]), (63, .slice axq_1 xq.2.2.2.1.length cxq_1), (64, .int .i64 (xq.2.2.2.1.length : Int)), (65, .int .i64 x65l40)] a ∧ StW w0 [.blk bs4 (.cells #[.slice ayown3_0j47 (rlrV21 xq x65l40 yown3_0l40).length cyown3_0j47] 61), .own (.slice ayown3_0j47 (rlrV21 xq x65l40 yown3_0l40).length cyown3_0j47) 3 1 (rlrV21 xq x65l40 yown3_0l40).length xsyown3_0j47, .blk bs3 (.cells #[.bool (rlrV22 xq x65l40 yown3_0l40 ybs3_0l40)] 4), .blk bs1 (.cells #[.int .i64 xq.1, .int .i64 xq.2.1, .slice axq_0 xq.2.2.1.length cxq_0, .slice axq_1 xq.2.2.2.1.length cxq_1, .slice axq_2 xq.2.2.2.2.length cxq_2] 37)] gj47 W ∧ rlrj47 xq x65l40 yown3_0l40 ybs3_0l40 (rlrl40 xq K k40)) ?_ ?_))
          ·
           refine Ok.block (Ok.seq (Ok.region ?_))
           obtain ⟨h020, h120, hF⟩ := hF
           have he20 := get_of (l := xq.2.2.2.1) (default : JJ) h120
           generalize hg20 : (xq.2.2.2.1.getD (Int.toNat x65l40) default) = e20 at he20 hF ⊢
           refine Ok.op rfl (OpOk.indexRo (e := .pair (.int .i64) (.pair (.int .i64) (.pair (.bool) (.pair (.str) (.pair (.int .i64) (.pair (.int .i64) (.str))))))) (i := x65l40) (el := e20) rfl rfl Try.underlying34 (by kernel_rfl) hRxq_1 h020 he20 rfl fun q19 o19 cs19 _ hat19 hr19 => ?_)
           obtain ⟨_, _, rfl, rfl, ⟨_, _, rfl, rfl, ⟨_, _, rfl, rfl, ⟨_, _, rfl, rfl, ⟨_, _, rfl, rfl, ⟨_, _, rfl, rfl, rfl⟩⟩⟩⟩⟩⟩ := hr19
           replace hat19 : At gl40 q19 o19 [.int .i64 e20.1, .int .i64 e20.2.1, .bool e20.2.2.1, sv e20.2.2.2.1, .int .i64 e20.2.2.2.2.1, .int .i64 e20.2.2.2.2.2.1, sv e20.2.2.2.2.2.2] := hat19
           refine Ok.op rfl (OpOk.step (v := .agg #[.int .i64 e20.1, .int .i64 e20.2.1, .bool e20.2.2.1, sv e20.2.2.2.1, .int .i64 e20.2.2.2.2.1, .int .i64 e20.2.2.2.2.2.1, sv e20.2.2.2.2.2.2]) (Yields.loadAggRo 0 7 #[.int .i64 e20.1, .int .i64 e20.2.1, .bool e20.2.2.1, sv e20.2.2.2.1, .int .i64 e20.2.2.2.2.1, .int .i64 e20.2.2.2.2.2.1, sv e20.2.2.2.2.2.2] hat19 (by kernel_rfl) Try.underlying43 rfl (by kernel_rfl) (by kernel_rfl) (by kernel_rfl)) rfl rfl (Ok.op rfl (OpOk.alloc (z := .agg #[.int .i64 0, .int .i64 0, .bool false, sv ([] : Bs), .int .i64 0, .int .i64 0, sv ([] : Bs)]) (cs := #[.int .i64 0, .int .i64 0, .bool false, sv ([] : Bs), .int .i64 0, .int .i64 0, sv ([] : Bs)]) (by kernel_rfl) (by kernel_rfl) rfl fun bs9 => ?_)))
           refine Ok.op rfl (OpOk.sto (k := 7) (v := .agg #[.int .i64 e20.1, .int .i64 e20.2.1, .bool e20.2.2.1, sv e20.2.2.2.1, .int .i64 e20.2.2.2.2.1, .int .i64 e20.2.2.2.2.2.1, sv e20.2.2.2.2.2.2]) 0 #[.int .i64 e20.1, .int .i64 e20.2.1, .bool e20.2.2.1, sv e20.2.2.2.1, .int .i64 e20.2.2.2.2.1, .int .i64 e20.2.2.2.2.2.1, sv e20.2.2.2.2.2.2] rfl rfl rfl ?_)
           refine Ok.nil (Ok.thenN (Ok.seq (Ok.region (Ok.bat 2 [1, 3, 5, 63, 64, 65] [(9, pv bs9 0), (69, .func (.func 44) #[] #[pv bs3 0, pv bs1 0, pv bs4 0]), (70, pv bs9 0)] ?_))))
           refine Ok.op rfl (OpOk.step (v := .int .i64 e20.1) (Yields.load 0 rfl rfl Try.underlying3 rfl (by kernel_rfl)) rfl rfl (Ok.op rfl (OpOk.inline (args := #[.int .i64 e20.1, pv bs3 0, pv bs1 0, pv bs4 0]) 26 [(0, .int .i64 e20.1), (1, pv bs3 0), (2, pv bs1 0), (3, pv bs4 0)] enr Try.func44 rfl rfl rfl rfl (Ok.cut (fun a W => ∃ gj1i72 : Ghost, Gext w0 gl40 gj1i72 ∧ StA 26 [(0, .int .i64 e20.1), (3, pv bs4 0)] a ∧ StW w0 [.blk bs9 (.cells #[.int .i64 e20.1, .int .i64 e20.2.1, .bool e20.2.2.1, sv e20.2.2.2.1, .int .i64 e20.2.2.2.2.1, .int .i64 e20.2.2.2.2.2.1, sv e20.2.2.2.2.2.2] 43), .blk bs4 (.cells #[.slice ayown3_0l40 yown3_0l40.length cyown3_0l40] 61), .own (.slice ayown3_0l40 yown3_0l40.length cyown3_0l40) 3 1 yown3_0l40.length xsyown3_0l40, .blk bs3 (.cells #[.bool (rlrV19 xq yown3_0l40 ybs3_0l40 e20)] 4), .blk bs1 (.cells #[.int .i64 xq.1, .int .i64 xq.2.1, .slice axq_0 xq.2.2.1.length cxq_0, .slice axq_1 xq.2.2.2.1.length cxq_1, .slice axq_2 xq.2.2.2.2.length cxq_2] 37)] gj1i72 W ∧ rlrj1i72 xq x65l40 yown3_0l40 ybs3_0l40 e20 (rlrl40 xq K k40)) ?_ ?_))))
           ·
            refine Ok.region (Ok.op rfl (OpOk.step (v := .bool ybs3_0l40) (Yields.load 3 rfl rfl Try.underlying4 rfl (by kernel_rfl)) rfl rfl (Ok.batch 1 [(0, .int .i64 e20.1), (1, pv bs3 0), (2, pv bs1 0), (3, pv bs4 0), (6, .bool ybs3_0l40)] (by kernel_rfl) (Ok.midway 3 [(0, .int .i64 e20.1), (1, pv bs3 0), (2, pv bs1 0), (3, pv bs4 0), (9, .bool (ybs3_0l40 && (decide (e20.1 ≥ 0))))] (fun hR26 => ?_) ?_))))
            ·refine Ok.boolAt 6 (ybs3_0l40) rfl (fun hc27 => ?_) (fun hc27 => ?_)
             ·skip
              refine Ok.bat 3 [0, 1, 2, 3] [(9, .bool (decide (e20.1 ≥ 0)))] ?_
              refine Ok.reval 9 rfl (show (.bool (decide (e20.1 ≥ 0)) : Value) = .bool (ybs3_0l40 && (decide (e20.1 ≥ 0))) from congrArg Value.bool (mand_t hc27)) (Ok.bat 0 [0, 1, 2, 3] [(9, .bool (ybs3_0l40 && (decide (e20.1 ≥ 0))))] ?_)
              exact hR26
             ·skip
              refine Ok.bat 3 [0, 1, 2, 3] [(9, .bool false)] ?_
              refine Ok.reval 9 rfl (show (.bool false : Value) = .bool (ybs3_0l40 && (decide (e20.1 ≥ 0))) from congrArg Value.bool (mand_f hc27)) (Ok.bat 0 [0, 1, 2, 3] [(9, .bool (ybs3_0l40 && (decide (e20.1 ≥ 0))))] ?_)
              exact hR26
            refine Ok.bat 1 [0, 1, 2, 3] [(10, .bool (ybs3_0l40 && (decide (e20.1 ≥ 0))))] ?_
            refine Ok.boolAt 10 ((ybs3_0l40 && (decide (e20.1 ≥ 0)))) rfl (fun hc28 => ?_) (fun hc28 => ?_)
            ·replace hF := hF.1 hc28
             refine Ok.bat 2 [0, 1, 3] [(10, .bool true), (11, .int .i64 e20.1), (12, pv bs1 1)] ?_
             refine Ok.opYes (j := 5) (d := 10) (want := true) (b := true) rfl (by kernel_rfl) (by kernel_rfl) rfl (OpOk.step (v := .int .i64 xq.2.1) (Yields.load 4 rfl rfl Try.underlying3 rfl (by kernel_rfl)) rfl rfl (Ok.bat 3 [0, 1, 3] [(16, .bool (decide (e20.1 < xq.2.1)))] ?_))
             refine Ok.boolAt 16 (decide (e20.1 < xq.2.1)) rfl (fun hc29 => ?_) (fun hc29 => ?_)
             ·replace hF := hF.1 hc29
              refine Ok.opYes (j := 11) (d := 16) (want := true) (b := true) rfl (by kernel_rfl) (by kernel_rfl) rfl (OpOk.step (v := .slice ayown3_0l40 yown3_0l40.length cyown3_0l40) (Yields.load 1 rfl rfl Try.underlying61 rfl (by kernel_rfl)) rfl rfl (Ok.bat 1 [0, 1, 3] [(16, .bool true), (17, .slice ayown3_0l40 yown3_0l40.length cyown3_0l40), (18, .int .i64 e20.1)] ?_))
              obtain ⟨hp30, hF⟩ := hF
              refine Ok.opYes (j := 11) (d := 16) (want := true) (b := true) rfl (by kernel_rfl) (by kernel_rfl) rfl (OpOk.callG (v := .bool (icoS yown3_0l40 e20.1)) enr (fun W hW => ico_c yown3_0l40 e20.1 (hW.seeOwn 2 rfl hLyown3_0l40) hp30) rfl ?_)
              refine Ok.bat 2 [0, 1, 3] [(21, .bool (!(icoS yown3_0l40 e20.1)))] ?_
              refine Ok.op rfl (OpOk.sto (k := 1) (v := .bool (!(icoS yown3_0l40 e20.1))) 3 #[.bool (!(icoS yown3_0l40 e20.1))] rfl rfl rfl ?_)
              refine Ok.nil (Ok.thenN (Ok.entEq 3 (e' := .blk bs3 (.cells #[.bool (rlrV19 xq yown3_0l40 ybs3_0l40 e20)] 4)) rfl (congrArg (fun l : List Value => Ent.blk bs3 (.cells ⟨l⟩ 4)) (lcons (congrArg (Value.bool) ((Eq.trans (mand_t hc29) (mand_t hc28)))) rfl)) ?_))
              exact fun a W hA hW => ⟨gl40, (Gext.refl w0 gl40), hA.sub (by kernel_rfl), hW, hF⟩
             ·replace hF := hF.2 hc29
              refine Ok.bat 5 [0, 1, 3] [(21, .bool false)] ?_
              refine Ok.op rfl (OpOk.sto (k := 1) (v := .bool false) 3 #[.bool false] rfl rfl rfl ?_)
              refine Ok.nil (Ok.thenN (Ok.entEq 3 (e' := .blk bs3 (.cells #[.bool (rlrV19 xq yown3_0l40 ybs3_0l40 e20)] 4)) rfl (congrArg (fun l : List Value => Ent.blk bs3 (.cells ⟨l⟩ 4)) (lcons (congrArg (Value.bool) ((Eq.trans (mand_f hc29) (mand_t hc28)))) rfl)) ?_))
              exact fun a W hA hW => ⟨gl40, (Gext.refl w0 gl40), hA.sub (by kernel_rfl), hW, hF⟩
            ·replace hF := hF.2 hc28
             refine Ok.bat 11 [0, 1, 3] [(21, .bool false)] ?_
             refine Ok.op rfl (OpOk.sto (k := 1) (v := .bool false) 3 #[.bool false] rfl rfl rfl ?_)
             refine Ok.nil (Ok.thenN (Ok.entEq 3 (e' := .blk bs3 (.cells #[.bool (rlrV19 xq yown3_0l40 ybs3_0l40 e20)] 4)) rfl (congrArg (fun l : List Value => Ent.blk bs3 (.cells ⟨l⟩ 4)) (lcons (congrArg (Value.bool) (mand_f hc28)) rfl)) ?_))
             exact fun a W hA hW => ⟨gl40, (Gext.refl w0 gl40), hA.sub (by kernel_rfl), hW, hF⟩
           ·
            clear hF
            rintro a W ⟨gj1i72, hxj1i72, hA, hW, hF⟩
            refine (?_ : Ok _ _ _ _ _ _) a W hA hW
            clear hA hW
            replace hLyown3_0l40 := hLyown3_0l40.mono hxj1i72.1
            replace hRxq_0 := hRxq_0.mono hxj1i72.1
            replace hRxq_1 := hRxq_1.mono hxj1i72.1
            replace hRxq_2 := hRxq_2.mono hxj1i72.1
            refine Ok.region (Ok.op rfl (OpOk.step (v := .slice ayown3_0l40 yown3_0l40.length cyown3_0l40) (Yields.load 1 rfl rfl Try.underlying61 rfl (by kernel_rfl)) rfl rfl (Ok.bat 1 [3] [(22, .slice ayown3_0l40 yown3_0l40.length cyown3_0l40), (23, .int .i64 e20.1)] ?_)))
            have hL22 : RepL gj1i72 (.int .i64) ([.int .i64 e20.1] : List Value) ([e20.1] : List (Int)) := (RepL.consN (c := [.int .i64 e20.1]) rfl rfl)
            refine Ok.op rfl (OpOk.lit (E := 3) (.int .i64) ([e20.1] : List (Int)) ([.int .i64 e20.1] : List Value) (by kernel_rfl) (by kernel_rfl) rfl (by kernel_rfl) hL22 rfl fun b22 => ?_)
            obtain ⟨hb23, hF⟩ := hF
            refine Ok.op rfl (OpOk.append' (e := .int .i64) 8 17592186044416 3 0 rfl rfl rfl rfl hLyown3_0l40 hL22 Try.underlying61 (by kernel_rfl) (by kernel_rfl) (by kernel_rfl) hb23 rfl fun a23 c23 xs23 hL23 => ?_)
            refine Ok.op rfl (OpOk.sto (k := 1) (v := .slice a23 (yown3_0l40 ++ ([e20.1] : List (Int))).length c23) 2 #[.slice a23 (yown3_0l40 ++ ([e20.1] : List (Int))).length c23] rfl rfl rfl ?_)
            refine Ok.nil (Ok.back (vs := []) (.inr rfl) rfl .nil rfl (Ok.nil (Ok.thenN (Ok.region (Ok.op rfl (OpOk.step (v := .bool (rlrV19 xq yown3_0l40 ybs3_0l40 e20)) (Yields.load 4 rfl rfl Try.underlying4 rfl (by kernel_rfl)) rfl rfl (Ok.batch 1 [(1, pv bs1 0), (3, pv bs3 0), (5, .func (.func 44) #[] #[pv bs3 0, pv bs1 0, pv bs4 0]), (9, pv bs9 0), (63, .slice axq_1 xq.2.2.2.1.length cxq_1), (64, .int .i64 (xq.2.2.2.1.length : Int)), (65, .int .i64 x65l40), (74, .bool (rlrV19 xq yown3_0l40 ybs3_0l40 e20))] (by kernel_rfl) (Ok.boolAt 74 ((rlrV19 xq yown3_0l40 ybs3_0l40 e20)) rfl (fun hc24 => ?_) (fun hc24 => ?_)))))))))
            ·replace hF := hF.1 hc24
             refine Ok.bat 1 [1, 3, 5, 9, 63, 64, 65] [(74, .bool true), (75, pv bs9 1)] ?_
             refine Ok.opYes (j := 1) (d := 74) (want := true) (b := true) rfl (by kernel_rfl) (by kernel_rfl) rfl (OpOk.step (v := .int .i64 e20.2.1) (Yields.load 1 rfl rfl Try.underlying3 rfl (by kernel_rfl)) rfl rfl (Ok.bat 3 [1, 3, 5, 9, 63, 64, 65] [(79, .bool (e20.2.1 == 0))] ?_))
             refine Ok.boolAt 79 ((e20.2.1 == 0)) rfl (fun hc25 => ?_) (fun hc25 => ?_)
             ·replace hF := hF.1 hc25
              refine Ok.bat 1 [1, 3, 5, 63, 64, 65] [(79, .bool true), (80, pv bs9 2)] ?_
              refine Ok.opYes (j := 6) (d := 79) (want := true) (b := true) rfl (by kernel_rfl) (by kernel_rfl) rfl (OpOk.step (v := .bool e20.2.2.1) (Yields.load 1 rfl rfl Try.underlying4 rfl (by kernel_rfl)) rfl rfl (Ok.bat 1 [1, 3, 5, 63, 64, 65] [(82, .bool e20.2.2.1)] ?_))
              refine Ok.op rfl (OpOk.sto (k := 1) (v := .bool e20.2.2.1) 4 #[.bool e20.2.2.1] rfl rfl rfl ?_)
              refine Ok.nil (Ok.blockN (Ok.thenN ?_))
              subst hg20
              refine Ok.entEq 4 (e' := .blk bs3 (.cells #[.bool (rlrV22 xq x65l40 yown3_0l40 ybs3_0l40)] 4)) rfl (congrArg (fun l : List Value => Ent.blk bs3 (.cells ⟨l⟩ 4)) (lcons (congrArg (Value.bool) ((Eq.trans (mand_t hc25) (mand_t hc24)))) rfl)) ?_
              exact fun a W hA hW => ⟨gj1i72, hxj1i72, a23, c23, xs23, hL23, hA.sub (by kernel_rfl), hW.sub (.cons _ (.cons _ (.cons_cons _ (.cons_cons _ (.cons_cons _ (.cons_cons _ .slnil)))))), hF⟩
             ·replace hF := hF.2 hc25
              refine Ok.bat 3 [1, 3, 5, 63, 64, 65] [(82, .bool false)] ?_
              refine Ok.op rfl (OpOk.sto (k := 1) (v := .bool false) 4 #[.bool false] rfl rfl rfl ?_)
              refine Ok.nil (Ok.blockN (Ok.thenN ?_))
              subst hg20
              refine Ok.entEq 4 (e' := .blk bs3 (.cells #[.bool (rlrV22 xq x65l40 yown3_0l40 ybs3_0l40)] 4)) rfl (congrArg (fun l : List Value => Ent.blk bs3 (.cells ⟨l⟩ 4)) (lcons (congrArg (Value.bool) ((Eq.trans (mand_f hc25) (mand_t hc24)))) rfl)) ?_
              exact fun a W hA hW => ⟨gj1i72, hxj1i72, a23, c23, xs23, hL23, hA.sub (by kernel_rfl), hW.sub (.cons _ (.cons _ (.cons_cons _ (.cons_cons _ (.cons_cons _ (.cons_cons _ .slnil)))))), hF⟩
            ·replace hF := hF.2 hc24
             refine Ok.bat 8 [1, 3, 5, 63, 64, 65] [(82, .bool false)] ?_
             refine Ok.op rfl (OpOk.sto (k := 1) (v := .bool false) 4 #[.bool false] rfl rfl rfl ?_)
             refine Ok.nil (Ok.blockN (Ok.thenN ?_))
             subst hg20
             refine Ok.entEq 4 (e' := .blk bs3 (.cells #[.bool (rlrV22 xq x65l40 yown3_0l40 ybs3_0l40)] 4)) rfl (congrArg (fun l : List Value => Ent.blk bs3 (.cells ⟨l⟩ 4)) (lcons (congrArg (Value.bool) (mand_f hc24)) rfl)) ?_
             exact fun a W hA hW => ⟨gj1i72, hxj1i72, a23, c23, xs23, hL23, hA.sub (by kernel_rfl), hW.sub (.cons _ (.cons _ (.cons_cons _ (.cons_cons _ (.cons_cons _ (.cons_cons _ .slnil)))))), hF⟩
          ·
           clear hF
           rintro a W ⟨gj47, hxj47, ayown3_0j47, cyown3_0j47, xsyown3_0j47, hLyown3_0j47, hA, hW, hF⟩
           refine (?_ : Ok _ _ _ _ _ _) a W hA hW
           clear hA hW
           replace hRxq_1 := hRxq_1.mono hxj47.1
           replace hRxq_0 := hRxq_0.mono hxj47.1
           replace hRxq_2 := hRxq_2.mono hxj47.1
           refine Ok.region (Ok.bat 2 [1, 3, 5, 63, 64] [(65, .int .i64 (w6 (x65l40 + 1)))] ?_)
           refine Ok.nil (Ok.thenN ?_)
           exact fun a W hA hW => ⟨k40, Nat.lt_succ_self _, gj47, (hxl40.trans hxj47), w6 (x65l40 + 1), ayown3_0j47, cyown3_0j47, (rlrV21 xq x65l40 yown3_0l40), xsyown3_0j47, (rlrV22 xq x65l40 yown3_0l40 ybs3_0l40), hLyown3_0j47, hA.sub (by kernel_rfl), hW, hF⟩
         ·replace hF := hF.2 hc18
          refine Ok.exit (Ok.thenE (Ok.thenE (Ok.blockHit (Ok.thenN (Ok.seq (Ok.seq (Ok.region (Ok.bat 1 [1, 3, 5] [(84, pv bs1 4)] ?_))))))))
          refine Ok.op rfl (OpOk.step (v := .slice axq_2 xq.2.2.2.2.length cxq_2) (Yields.load 3 rfl rfl Try.underlying35 rfl (by kernel_rfl)) rfl rfl (Ok.bat 2 [1, 3, 5] [(85, .slice axq_2 xq.2.2.2.2.length cxq_2), (86, .int .i64 (xq.2.2.2.2.length : Int)), (87, .int .i64 0)] ?_))
          refine Ok.nil (Ok.thenN (Ok.block ?_))
          obtain ⟨k, hF⟩ := hF
          refine Ok.loop (fun k a W => ∃ gl59 : Ghost, Gext w0 gl40 gl59 ∧ ∃ (x87l59 : Int) (ayown3_0l59 : Option Addr) (cyown3_0l59 : Nat) (yown3_0l59 : List (Int)) (xsyown3_0l59 : List Value) (ybs3_0l59 : Bool), RepL gl59 (.int .i64) xsyown3_0l59 yown3_0l59 ∧ StA 154 [(1, pv bs1 0), (3, pv bs3 0), (5, .func (.func 44) #[] #[pv bs3 0, pv bs1 0, pv bs4 0]), (85, .slice axq_2 xq.2.2.2.2.length cxq_2), (86, .int .i64 (xq.2.2.2.2.length : Int)), (87, .int .i64 x87l59)] a ∧ StW w0 [.blk bs4 (.cells #[.slice ayown3_0l59 yown3_0l59.length cyown3_0l59] 61), .own (.slice ayown3_0l59 yown3_0l59.length cyown3_0l59) 3 1 yown3_0l59.length xsyown3_0l59, .blk bs3 (.cells #[.bool ybs3_0l59] 4), .blk bs1 (.cells #[.int .i64 xq.1, .int .i64 xq.2.1, .slice axq_0 xq.2.2.1.length cxq_0, .slice axq_1 xq.2.2.2.1.length cxq_1, .slice axq_2 xq.2.2.2.2.length cxq_2] 37)] gl59 W ∧ rlrl59 xq K k x87l59 yown3_0l59 ybs3_0l59) k ?_ ?_
          ·
           exact fun a W hA hW => ⟨gl40, (Gext.refl w0 gl40), 0, ayown3_0l40, cyown3_0l40, yown3_0l40, xsyown3_0l40, ybs3_0l40, hLyown3_0l40, hA.sub (by kernel_rfl), hW, hF⟩
          ·
           clear hF
           rintro k59 a W ⟨gl59, hxl59, x87l59, ayown3_0l59, cyown3_0l59, yown3_0l59, xsyown3_0l59, ybs3_0l59, hLyown3_0l59, hA, hW, hF⟩
           cases k59 with
           | zero => exact (hF : False).elim
           | succ k59 =>
            refine (?_ : Ok _ _ _ _ _ _) a W hA hW
            clear hA hW
            replace hRxq_2 := hRxq_2.mono hxl59.1
            replace hRxq_0 := hRxq_0.mono hxl59.1
            replace hRxq_1 := hRxq_1.mono hxl59.1
            refine Ok.seq (Ok.region (Ok.bat 1 [1, 3, 5, 85, 86, 87] [(88, .bool (decide (x87l59 < (xq.2.2.2.2.length : Int))))] ?_))
            refine Ok.nil (Ok.thenN (Ok.seq (Ok.cond (b := decide (x87l59 < (xq.2.2.2.2.length : Int))) rfl (fun hc31 => ?_) (fun hc31 => ?_))))
            ·replace hF := hF.1 hc31
             refine Ok.skip (Ok.thenN (Ok.seq (Ok.block (Ok.seq (Ok.region (Ok.bat 1 [1, 3, 5, 85, 86, 87] [(89, .int .i64 x87l59)] ?_))))))
             obtain ⟨h033, h133, hF⟩ := hF
             have he33 := get_of (l := xq.2.2.2.2) (default : JT) h133
             generalize hg33 : (xq.2.2.2.2.getD (Int.toNat x87l59) default) = e33 at he33 hF ⊢
             refine Ok.op rfl (OpOk.indexRo (e := .pair (.int .i64) (.pair (.int .i64) (.pair (.int .i64) (.pair (.int .i64) (.str))))) (i := x87l59) (el := e33) rfl rfl Try.underlying35 (by kernel_rfl) hRxq_2 h033 he33 rfl fun q32 o32 cs32 _ hat32 hr32 => ?_)
             obtain ⟨_, _, rfl, rfl, ⟨_, _, rfl, rfl, ⟨_, _, rfl, rfl, ⟨_, _, rfl, rfl, rfl⟩⟩⟩⟩ := hr32
             replace hat32 : At gl59 q32 o32 [.int .i64 e33.1, .int .i64 e33.2.1, .int .i64 e33.2.2.1, .int .i64 e33.2.2.2.1, sv e33.2.2.2.2] := hat32
             refine Ok.op rfl (OpOk.step (v := .agg #[.int .i64 e33.1, .int .i64 e33.2.1, .int .i64 e33.2.2.1, .int .i64 e33.2.2.2.1, sv e33.2.2.2.2]) (Yields.loadAggRo 0 5 #[.int .i64 e33.1, .int .i64 e33.2.1, .int .i64 e33.2.2.1, .int .i64 e33.2.2.2.1, sv e33.2.2.2.2] hat32 (by kernel_rfl) Try.underlying93 rfl (by kernel_rfl) (by kernel_rfl) (by kernel_rfl)) rfl rfl (Ok.op rfl (OpOk.alloc (z := .agg #[.int .i64 0, .int .i64 0, .int .i64 0, .int .i64 0, sv ([] : Bs)]) (cs := #[.int .i64 0, .int .i64 0, .int .i64 0, .int .i64 0, sv ([] : Bs)]) (by kernel_rfl) (by kernel_rfl) rfl fun bs11 => ?_)))
             refine Ok.bat 1 [1, 3, 5, 85, 86, 87] [(10, .int .i64 x87l59), (11, pv bs11 0), (91, .agg #[.int .i64 e33.1, .int .i64 e33.2.1, .int .i64 e33.2.2.1, .int .i64 e33.2.2.2.1, sv e33.2.2.2.2])] ?_
             refine Ok.op rfl (OpOk.sto (k := 5) (v := .agg #[.int .i64 e33.1, .int .i64 e33.2.1, .int .i64 e33.2.2.1, .int .i64 e33.2.2.2.1, sv e33.2.2.2.2]) 0 #[.int .i64 e33.1, .int .i64 e33.2.1, .int .i64 e33.2.2.1, .int .i64 e33.2.2.2.1, sv e33.2.2.2.2] rfl rfl rfl ?_)
             refine Ok.nil (Ok.thenN (Ok.seq (Ok.region (Ok.bat 2 [1, 3, 5, 10, 11, 85, 86, 87] [(92, .func (.func 44) #[] #[pv bs3 0, pv bs1 0, pv bs4 0]), (93, pv bs11 0)] ?_))))
             refine Ok.op rfl (OpOk.step (v := .int .i64 e33.1) (Yields.load 0 rfl rfl Try.underlying3 rfl (by kernel_rfl)) rfl rfl (Ok.op rfl (OpOk.inline (args := #[.int .i64 e33.1, pv bs3 0, pv bs1 0, pv bs4 0]) 26 [(0, .int .i64 e33.1), (1, pv bs3 0), (2, pv bs1 0), (3, pv bs4 0)] enr Try.func44 rfl rfl rfl rfl (Ok.cut (fun a W => ∃ gj1i95 : Ghost, Gext w0 gl59 gj1i95 ∧ StA 26 [(0, .int .i64 e33.1), (3, pv bs4 0)] a ∧ StW w0 [.blk bs11 (.cells #[.int .i64 e33.1, .int .i64 e33.2.1, .int .i64 e33.2.2.1, .int .i64 e33.2.2.2.1, sv e33.2.2.2.2] 93), .blk bs4 (.cells #[.slice ayown3_0l59 yown3_0l59.length cyown3_0l59] 61), .own (.slice ayown3_0l59 yown3_0l59.length cyown3_0l59) 3 1 yown3_0l59.length xsyown3_0l59, .blk bs3 (.cells #[.bool (rlrV27 xq yown3_0l59 ybs3_0l59 e33)] 4), .blk bs1 (.cells #[.int .i64 xq.1, .int .i64 xq.2.1, .slice axq_0 xq.2.2.1.length cxq_0, .slice axq_1 xq.2.2.2.1.length cxq_1, .slice axq_2 xq.2.2.2.2.length cxq_2] 37)] gj1i95 W ∧ rlrj1i95 xq x87l59 yown3_0l59 ybs3_0l59 e33 (rlrl59 xq K k59)) ?_ ?_))))
             ·
              refine Ok.region (Ok.op rfl (OpOk.step (v := .bool ybs3_0l59) (Yields.load 3 rfl rfl Try.underlying4 rfl (by kernel_rfl)) rfl rfl (Ok.batch 1 [(0, .int .i64 e33.1), (1, pv bs3 0), (2, pv bs1 0), (3, pv bs4 0), (6, .bool ybs3_0l59)] (by kernel_rfl) (Ok.midway 3 [(0, .int .i64 e33.1), (1, pv bs3 0), (2, pv bs1 0), (3, pv bs4 0), (9, .bool (ybs3_0l59 && (decide (e33.1 ≥ 0))))] (fun hR49 => ?_) ?_))))
              ·refine Ok.boolAt 6 (ybs3_0l59) rfl (fun hc50 => ?_) (fun hc50 => ?_)
               ·skip
                refine Ok.bat 3 [0, 1, 2, 3] [(9, .bool (decide (e33.1 ≥ 0)))] ?_
                refine Ok.reval 9 rfl (show (.bool (decide (e33.1 ≥ 0)) : Value) = .bool (ybs3_0l59 && (decide (e33.1 ≥ 0))) from congrArg Value.bool (mand_t hc50)) (Ok.bat 0 [0, 1, 2, 3] [(9, .bool (ybs3_0l59 && (decide (e33.1 ≥ 0))))] ?_)
                exact hR49
               ·skip
                refine Ok.bat 3 [0, 1, 2, 3] [(9, .bool false)] ?_
                refine Ok.reval 9 rfl (show (.bool false : Value) = .bool (ybs3_0l59 && (decide (e33.1 ≥ 0))) from congrArg Value.bool (mand_f hc50)) (Ok.bat 0 [0, 1, 2, 3] [(9, .bool (ybs3_0l59 && (decide (e33.1 ≥ 0))))] ?_)
                exact hR49
              refine Ok.bat 1 [0, 1, 2, 3] [(10, .bool (ybs3_0l59 && (decide (e33.1 ≥ 0))))] ?_
              refine Ok.boolAt 10 ((ybs3_0l59 && (decide (e33.1 ≥ 0)))) rfl (fun hc51 => ?_) (fun hc51 => ?_)
              ·replace hF := hF.1 hc51
               refine Ok.bat 2 [0, 1, 3] [(10, .bool true), (11, .int .i64 e33.1), (12, pv bs1 1)] ?_
               refine Ok.opYes (j := 5) (d := 10) (want := true) (b := true) rfl (by kernel_rfl) (by kernel_rfl) rfl (OpOk.step (v := .int .i64 xq.2.1) (Yields.load 4 rfl rfl Try.underlying3 rfl (by kernel_rfl)) rfl rfl (Ok.bat 3 [0, 1, 3] [(16, .bool (decide (e33.1 < xq.2.1)))] ?_))
               refine Ok.boolAt 16 (decide (e33.1 < xq.2.1)) rfl (fun hc52 => ?_) (fun hc52 => ?_)
               ·replace hF := hF.1 hc52
                refine Ok.opYes (j := 11) (d := 16) (want := true) (b := true) rfl (by kernel_rfl) (by kernel_rfl) rfl (OpOk.step (v := .slice ayown3_0l59 yown3_0l59.length cyown3_0l59) (Yields.load 1 rfl rfl Try.underlying61 rfl (by kernel_rfl)) rfl rfl (Ok.bat 1 [0, 1, 3] [(16, .bool true), (17, .slice ayown3_0l59 yown3_0l59.length cyown3_0l59), (18, .int .i64 e33.1)] ?_))
                obtain ⟨hp53, hF⟩ := hF
                refine Ok.opYes (j := 11) (d := 16) (want := true) (b := true) rfl (by kernel_rfl) (by kernel_rfl) rfl (OpOk.callG (v := .bool (icoS yown3_0l59 e33.1)) enr (fun W hW => ico_c yown3_0l59 e33.1 (hW.seeOwn 2 rfl hLyown3_0l59) hp53) rfl ?_)
                refine Ok.bat 2 [0, 1, 3] [(21, .bool (!(icoS yown3_0l59 e33.1)))] ?_
                refine Ok.op rfl (OpOk.sto (k := 1) (v := .bool (!(icoS yown3_0l59 e33.1))) 3 #[.bool (!(icoS yown3_0l59 e33.1))] rfl rfl rfl ?_)
                refine Ok.nil (Ok.thenN (Ok.entEq 3 (e' := .blk bs3 (.cells #[.bool (rlrV27 xq yown3_0l59 ybs3_0l59 e33)] 4)) rfl (congrArg (fun l : List Value => Ent.blk bs3 (.cells ⟨l⟩ 4)) (lcons (congrArg (Value.bool) ((Eq.trans (mand_t hc52) (mand_t hc51)))) rfl)) ?_))
                exact fun a W hA hW => ⟨gl59, (Gext.refl w0 gl59), hA.sub (by kernel_rfl), hW, hF⟩
               ·replace hF := hF.2 hc52
                refine Ok.bat 5 [0, 1, 3] [(21, .bool false)] ?_
                refine Ok.op rfl (OpOk.sto (k := 1) (v := .bool false) 3 #[.bool false] rfl rfl rfl ?_)
                refine Ok.nil (Ok.thenN (Ok.entEq 3 (e' := .blk bs3 (.cells #[.bool (rlrV27 xq yown3_0l59 ybs3_0l59 e33)] 4)) rfl (congrArg (fun l : List Value => Ent.blk bs3 (.cells ⟨l⟩ 4)) (lcons (congrArg (Value.bool) ((Eq.trans (mand_f hc52) (mand_t hc51)))) rfl)) ?_))
                exact fun a W hA hW => ⟨gl59, (Gext.refl w0 gl59), hA.sub (by kernel_rfl), hW, hF⟩
              ·replace hF := hF.2 hc51
               refine Ok.bat 11 [0, 1, 3] [(21, .bool false)] ?_
               refine Ok.op rfl (OpOk.sto (k := 1) (v := .bool false) 3 #[.bool false] rfl rfl rfl ?_)
               refine Ok.nil (Ok.thenN (Ok.entEq 3 (e' := .blk bs3 (.cells #[.bool (rlrV27 xq yown3_0l59 ybs3_0l59 e33)] 4)) rfl (congrArg (fun l : List Value => Ent.blk bs3 (.cells ⟨l⟩ 4)) (lcons (congrArg (Value.bool) (mand_f hc51)) rfl)) ?_))
               exact fun a W hA hW => ⟨gl59, (Gext.refl w0 gl59), hA.sub (by kernel_rfl), hW, hF⟩
             ·
              clear hF
              rintro a W ⟨gj1i95, hxj1i95, hA, hW, hF⟩
              refine (?_ : Ok _ _ _ _ _ _) a W hA hW
              clear hA hW
              replace hLyown3_0l59 := hLyown3_0l59.mono hxj1i95.1
              replace hRxq_0 := hRxq_0.mono hxj1i95.1
              replace hRxq_1 := hRxq_1.mono hxj1i95.1
              replace hRxq_2 := hRxq_2.mono hxj1i95.1
              refine Ok.region (Ok.op rfl (OpOk.step (v := .slice ayown3_0l59 yown3_0l59.length cyown3_0l59) (Yields.load 1 rfl rfl Try.underlying61 rfl (by kernel_rfl)) rfl rfl (Ok.bat 1 [3] [(22, .slice ayown3_0l59 yown3_0l59.length cyown3_0l59), (23, .int .i64 e33.1)] ?_)))
              have hL35 : RepL gj1i95 (.int .i64) ([.int .i64 e33.1] : List Value) ([e33.1] : List (Int)) := (RepL.consN (c := [.int .i64 e33.1]) rfl rfl)
              refine Ok.op rfl (OpOk.lit (E := 3) (.int .i64) ([e33.1] : List (Int)) ([.int .i64 e33.1] : List Value) (by kernel_rfl) (by kernel_rfl) rfl (by kernel_rfl) hL35 rfl fun b35 => ?_)
              obtain ⟨hb36, hF⟩ := hF
              refine Ok.op rfl (OpOk.append' (e := .int .i64) 8 17592186044416 3 0 rfl rfl rfl rfl hLyown3_0l59 hL35 Try.underlying61 (by kernel_rfl) (by kernel_rfl) (by kernel_rfl) hb36 rfl fun a36 c36 xs36 hL36 => ?_)
              refine Ok.op rfl (OpOk.sto (k := 1) (v := .slice a36 (yown3_0l59 ++ ([e33.1] : List (Int))).length c36) 2 #[.slice a36 (yown3_0l59 ++ ([e33.1] : List (Int))).length c36] rfl rfl rfl ?_)
              refine Ok.nil (Ok.back (vs := []) (.inr rfl) rfl .nil rfl (Ok.nil (Ok.thenN (Ok.cut (fun a W => ∃ gj72 : Ghost, Gext w0 gj1i95 gj72 ∧ StA 154 [(1, pv bs1 0), (3, pv bs3 0), (5, .func (.func 44) #[] #[pv bs3 0, pv bs1 0, pv bs4 0]), (10, .int .i64 x87l59), (11, pv bs11 0), (85, .slice axq_2 xq.2.2.2.2.length cxq_2), (86, .int .i64 (xq.2.2.2.2.length : Int)), (87, .int .i64 x87l59)] a ∧ StW w0 [.blk bs11 (.cells #[.int .i64 e33.1, .int .i64 e33.2.1, .int .i64 e33.2.2.1, .int .i64 e33.2.2.2.1, sv e33.2.2.2.2] 93), .blk bs4 (.cells #[.slice a36 (yown3_0l59 ++ ([e33.1] : List (Int))).length c36] 61), .own (.slice a36 (yown3_0l59 ++ ([e33.1] : List (Int))).length c36) 3 1 (yown3_0l59 ++ ([e33.1] : List (Int))).length xs36, .blk bs3 (.cells #[.bool (rlrV28 xq yown3_0l59 ybs3_0l59 e33)] 4), .blk bs1 (.cells #[.int .i64 xq.1, .int .i64 xq.2.1, .slice axq_0 xq.2.2.1.length cxq_0, .slice axq_1 xq.2.2.2.1.length cxq_1, .slice axq_2 xq.2.2.2.2.length cxq_2] 37)] gj72 W ∧ rlrj72 xq x87l59 yown3_0l59 ybs3_0l59 e33 (rlrl59 xq K k59)) ?_ ?_))))
              ·
               refine Ok.region (Ok.op rfl (OpOk.step (v := .bool (rlrV27 xq yown3_0l59 ybs3_0l59 e33)) (Yields.load 4 rfl rfl Try.underlying4 rfl (by kernel_rfl)) rfl rfl (Ok.batch 1 [(1, pv bs1 0), (3, pv bs3 0), (5, .func (.func 44) #[] #[pv bs3 0, pv bs1 0, pv bs4 0]), (10, .int .i64 x87l59), (11, pv bs11 0), (85, .slice axq_2 xq.2.2.2.2.length cxq_2), (86, .int .i64 (xq.2.2.2.2.length : Int)), (87, .int .i64 x87l59), (97, .bool (rlrV27 xq yown3_0l59 ybs3_0l59 e33))] (by kernel_rfl) (Ok.boolAt 97 ((rlrV27 xq yown3_0l59 ybs3_0l59 e33)) rfl (fun hc45 => ?_) (fun hc45 => ?_)))))
               ·replace hF := hF.1 hc45
                refine Ok.bat 1 [1, 3, 5, 10, 11, 85, 86, 87] [(97, .bool true), (98, pv bs11 1)] ?_
                refine Ok.opYes (j := 1) (d := 97) (want := true) (b := true) rfl (by kernel_rfl) (by kernel_rfl) rfl (OpOk.step (v := .int .i64 e33.2.1) (Yields.load 1 rfl rfl Try.underlying3 rfl (by kernel_rfl)) rfl rfl (Ok.bat 1 [1, 3, 5, 10, 11, 85, 86, 87, 97] [(99, .int .i64 e33.2.1), (100, pv bs1 0)] ?_))
                refine Ok.opYes (j := 1) (d := 97) (want := true) (b := true) rfl (by kernel_rfl) (by kernel_rfl) rfl (OpOk.step (v := .int .i64 xq.1) (Yields.load 5 rfl rfl Try.underlying3 rfl (by kernel_rfl)) rfl rfl (Ok.bat 3 [1, 3, 5, 10, 11, 85, 86, 87] [(104, .bool (decide (e33.2.1 ≥ xq.1)))] ?_))
                refine Ok.boolAt 104 (decide (e33.2.1 ≥ xq.1)) rfl (fun hc46 => ?_) (fun hc46 => ?_)
                ·replace hF := hF.1 hc46
                 refine Ok.bat 1 [1, 3, 5, 10, 11, 85, 86, 87] [(104, .bool true), (105, pv bs11 1)] ?_
                 refine Ok.opYes (j := 8) (d := 104) (want := true) (b := true) rfl (by kernel_rfl) (by kernel_rfl) rfl (OpOk.step (v := .int .i64 e33.2.1) (Yields.load 1 rfl rfl Try.underlying3 rfl (by kernel_rfl)) rfl rfl (Ok.bat 3 [1, 3, 5, 10, 11, 85, 86, 87] [(109, .bool (decide (e33.2.1 ≤ 1000000000)))] ?_))
                 refine Ok.boolAt 109 (decide (e33.2.1 ≤ 1000000000)) rfl (fun hc47 => ?_) (fun hc47 => ?_)
                 ·replace hF := hF.1 hc47
                  refine Ok.bat 1 [1, 3, 5, 10, 11, 85, 86, 87] [(109, .bool true), (110, pv bs11 2)] ?_
                  refine Ok.opYes (j := 13) (d := 109) (want := true) (b := true) rfl (by kernel_rfl) (by kernel_rfl) rfl (OpOk.step (v := .int .i64 e33.2.2.1) (Yields.load 1 rfl rfl Try.underlying3 rfl (by kernel_rfl)) rfl rfl (Ok.opYes (j := 13) (d := 109) (want := true) (b := true) rfl (by kernel_rfl) (by kernel_rfl) rfl (OpOk.callG (v := .bool (rbtM e33.2.2.1 0 1000000000)) enr (fun W hW => rbt_c e33.2.2.1 0 1000000000) rfl ?_)))
                  refine Ok.bat 2 [1, 3, 5, 10, 11, 85, 86, 87] [(114, .bool (rbtM e33.2.2.1 0 1000000000))] ?_
                  refine Ok.boolAt 114 ((rbtM e33.2.2.1 0 1000000000)) rfl (fun hc48 => ?_) (fun hc48 => ?_)
                  ·replace hF := hF.1 hc48
                   refine Ok.bat 1 [1, 3, 5, 10, 11, 85, 86, 87] [(114, .bool true), (115, pv bs11 3)] ?_
                   refine Ok.opYes (j := 18) (d := 114) (want := true) (b := true) rfl (by kernel_rfl) (by kernel_rfl) rfl (OpOk.step (v := .int .i64 e33.2.2.2.1) (Yields.load 1 rfl rfl Try.underlying3 rfl (by kernel_rfl)) rfl rfl (Ok.opYes (j := 18) (d := 114) (want := true) (b := true) rfl (by kernel_rfl) (by kernel_rfl) rfl (OpOk.callG (v := .bool (rbtM e33.2.2.2.1 0 1000000000)) enr (fun W hW => rbt_c e33.2.2.2.1 0 1000000000) rfl ?_)))
                   refine Ok.bat 1 [1, 3, 5, 10, 11, 85, 86, 87] [(118, .bool (rbtM e33.2.2.2.1 0 1000000000))] ?_
                   refine Ok.op rfl (OpOk.sto (k := 1) (v := .bool (rbtM e33.2.2.2.1 0 1000000000)) 4 #[.bool (rbtM e33.2.2.2.1 0 1000000000)] rfl rfl rfl ?_)
                   refine Ok.nil (Ok.thenN (Ok.entEq 4 (e' := .blk bs3 (.cells #[.bool (rlrV28 xq yown3_0l59 ybs3_0l59 e33)] 4)) rfl (congrArg (fun l : List Value => Ent.blk bs3 (.cells ⟨l⟩ 4)) (lcons (congrArg (Value.bool) ((Eq.trans ((Eq.trans ((Eq.trans (mand_t hc48) (mand_t hc47))) (mand_t hc46))) (mand_t hc45)))) rfl)) ?_))
                   exact fun a W hA hW => ⟨gj1i95, (Gext.refl w0 gj1i95), hA.sub (by kernel_rfl), hW.sub (.cons _ (.cons_cons _ (.cons_cons _ (.cons_cons _ (.cons_cons _ (.cons_cons _ .slnil)))))), hF⟩
                  ·replace hF := hF.2 hc48
                   refine Ok.bat 4 [1, 3, 5, 10, 11, 85, 86, 87] [(118, .bool false)] ?_
                   refine Ok.op rfl (OpOk.sto (k := 1) (v := .bool false) 4 #[.bool false] rfl rfl rfl ?_)
                   refine Ok.nil (Ok.thenN (Ok.entEq 4 (e' := .blk bs3 (.cells #[.bool (rlrV28 xq yown3_0l59 ybs3_0l59 e33)] 4)) rfl (congrArg (fun l : List Value => Ent.blk bs3 (.cells ⟨l⟩ 4)) (lcons (congrArg (Value.bool) ((Eq.trans ((Eq.trans ((Eq.trans (mand_f hc48) (mand_t hc47))) (mand_t hc46))) (mand_t hc45)))) rfl)) ?_))
                   exact fun a W hA hW => ⟨gj1i95, (Gext.refl w0 gj1i95), hA.sub (by kernel_rfl), hW.sub (.cons _ (.cons_cons _ (.cons_cons _ (.cons_cons _ (.cons_cons _ (.cons_cons _ .slnil)))))), hF⟩
                 ·replace hF := hF.2 hc47
                  refine Ok.bat 9 [1, 3, 5, 10, 11, 85, 86, 87] [(118, .bool false)] ?_
                  refine Ok.op rfl (OpOk.sto (k := 1) (v := .bool false) 4 #[.bool false] rfl rfl rfl ?_)
                  refine Ok.nil (Ok.thenN (Ok.entEq 4 (e' := .blk bs3 (.cells #[.bool (rlrV28 xq yown3_0l59 ybs3_0l59 e33)] 4)) rfl (congrArg (fun l : List Value => Ent.blk bs3 (.cells ⟨l⟩ 4)) (lcons (congrArg (Value.bool) ((Eq.trans ((Eq.trans (mand_f hc47) (mand_t hc46))) (mand_t hc45)))) rfl)) ?_))
                  exact fun a W hA hW => ⟨gj1i95, (Gext.refl w0 gj1i95), hA.sub (by kernel_rfl), hW.sub (.cons _ (.cons_cons _ (.cons_cons _ (.cons_cons _ (.cons_cons _ (.cons_cons _ .slnil)))))), hF⟩
                ·replace hF := hF.2 hc46
                 refine Ok.bat 14 [1, 3, 5, 10, 11, 85, 86, 87] [(118, .bool false)] ?_
                 refine Ok.op rfl (OpOk.sto (k := 1) (v := .bool false) 4 #[.bool false] rfl rfl rfl ?_)
                 refine Ok.nil (Ok.thenN (Ok.entEq 4 (e' := .blk bs3 (.cells #[.bool (rlrV28 xq yown3_0l59 ybs3_0l59 e33)] 4)) rfl (congrArg (fun l : List Value => Ent.blk bs3 (.cells ⟨l⟩ 4)) (lcons (congrArg (Value.bool) ((Eq.trans (mand_f hc46) (mand_t hc45)))) rfl)) ?_))
                 exact fun a W hA hW => ⟨gj1i95, (Gext.refl w0 gj1i95), hA.sub (by kernel_rfl), hW.sub (.cons _ (.cons_cons _ (.cons_cons _ (.cons_cons _ (.cons_cons _ (.cons_cons _ .slnil)))))), hF⟩
               ·replace hF := hF.2 hc45
                refine Ok.bat 21 [1, 3, 5, 10, 11, 85, 86, 87] [(118, .bool false)] ?_
                refine Ok.op rfl (OpOk.sto (k := 1) (v := .bool false) 4 #[.bool false] rfl rfl rfl ?_)
                refine Ok.nil (Ok.thenN (Ok.entEq 4 (e' := .blk bs3 (.cells #[.bool (rlrV28 xq yown3_0l59 ybs3_0l59 e33)] 4)) rfl (congrArg (fun l : List Value => Ent.blk bs3 (.cells ⟨l⟩ 4)) (lcons (congrArg (Value.bool) (mand_f hc45)) rfl)) ?_))
                exact fun a W hA hW => ⟨gj1i95, (Gext.refl w0 gj1i95), hA.sub (by kernel_rfl), hW.sub (.cons _ (.cons_cons _ (.cons_cons _ (.cons_cons _ (.cons_cons _ (.cons_cons _ .slnil)))))), hF⟩
              ·
               clear hF
               rintro a W ⟨gj72, hxj72, hA, hW, hF⟩
               refine (?_ : Ok _ _ _ _ _ _) a W hA hW
               clear hA hW
               replace hRxq_2 := hRxq_2.mono hxj72.1
               replace hL36 := hL36.mono hxj72.1
               replace hRxq_0 := hRxq_0.mono hxj72.1
               replace hRxq_1 := hRxq_1.mono hxj72.1
               refine Ok.seq (Ok.region (Ok.bat 1 [1, 3, 5, 10, 11, 85, 86, 87] [(119, pv bs1 4)] ?_))
               refine Ok.op rfl (OpOk.step (v := .slice axq_2 xq.2.2.2.2.length cxq_2) (Yields.load 4 rfl rfl Try.underlying35 rfl (by kernel_rfl)) rfl rfl (Ok.bat 1 [1, 3, 5, 11, 85, 86, 87] [(120, .slice axq_2 xq.2.2.2.2.length cxq_2), (121, .int .i64 x87l59)] ?_))
               obtain ⟨h037, h137, h237, hF⟩ := hF
               refine Ok.op rfl (OpOk.sliceRo (e := .pair (.int .i64) (.pair (.int .i64) (.pair (.int .i64) (.pair (.int .i64) (.str))))) (l := 0) (h := x87l59) rfl Try.underlying35 (by kernel_rfl) (.inr ⟨rfl, rfl⟩) (.inl ⟨_, _, rfl, rfl⟩) hRxq_2 h037 h137 h237 rfl (xq.2.2.2.2.take (Int.toNat x87l59)) (by simp) fun a37 c37 hR37 => ?_)
               refine Ok.bat 2 [1, 3, 5, 11, 85, 86, 87] [(122, .slice a37 (xq.2.2.2.2.take (Int.toNat x87l59)).length c37), (123, .int .i64 ((xq.2.2.2.2.take (Int.toNat x87l59)).length : Int)), (124, .int .i64 0)] ?_
               refine Ok.nil (Ok.thenN (Ok.block ?_))
               obtain ⟨k, hF⟩ := hF
               refine Ok.loop (fun k a W => ∃ gl77 : Ghost, Gext w0 gj72 gl77 ∧ ∃ (x124l77 : Int) (ybs3_0l77 : Bool), StA 154 [(1, pv bs1 0), (3, pv bs3 0), (5, .func (.func 44) #[] #[pv bs3 0, pv bs1 0, pv bs4 0]), (11, pv bs11 0), (85, .slice axq_2 xq.2.2.2.2.length cxq_2), (86, .int .i64 (xq.2.2.2.2.length : Int)), (87, .int .i64 x87l59), (122, .slice a37 (xq.2.2.2.2.take (Int.toNat x87l59)).length c37), (123, .int .i64 ((xq.2.2.2.2.take (Int.toNat x87l59)).length : Int)), (124, .int .i64 x124l77)] a ∧ StW w0 [.blk bs11 (.cells #[.int .i64 e33.1, .int .i64 e33.2.1, .int .i64 e33.2.2.1, .int .i64 e33.2.2.2.1, sv e33.2.2.2.2] 93), .blk bs4 (.cells #[.slice a36 (yown3_0l59 ++ ([e33.1] : List (Int))).length c36] 61), .own (.slice a36 (yown3_0l59 ++ ([e33.1] : List (Int))).length c36) 3 1 (yown3_0l59 ++ ([e33.1] : List (Int))).length xs36, .blk bs3 (.cells #[.bool ybs3_0l77] 4), .blk bs1 (.cells #[.int .i64 xq.1, .int .i64 xq.2.1, .slice axq_0 xq.2.2.1.length cxq_0, .slice axq_1 xq.2.2.2.1.length cxq_1, .slice axq_2 xq.2.2.2.2.length cxq_2] 37)] gl77 W ∧ rlrl77 xq x87l59 yown3_0l59 e33 (rlrl59 xq K k59) k x124l77 ybs3_0l77) k ?_ ?_
               ·
                exact fun a W hA hW => ⟨gj72, (Gext.refl w0 gj72), 0, (rlrV28 xq yown3_0l59 ybs3_0l59 e33), hA.sub (by kernel_rfl), hW, hF⟩
               ·
                clear hF
                rintro k77 a W ⟨gl77, hxl77, x124l77, ybs3_0l77, hA, hW, hF⟩
                cases k77 with
                | zero => exact (hF : False).elim
                | succ k77 =>
                 refine (?_ : Ok _ _ _ _ _ _) a W hA hW
                 clear hA hW
                 replace hRxq_2 := hRxq_2.mono hxl77.1
                 replace hR37 := hR37.mono hxl77.1
                 replace hL36 := hL36.mono hxl77.1
                 replace hRxq_0 := hRxq_0.mono hxl77.1
                 replace hRxq_1 := hRxq_1.mono hxl77.1
                 refine Ok.seq (Ok.region (Ok.bat 1 [1, 3, 5, 11, 85, 86, 87, 122, 123, 124] [(125, .bool (decide (x124l77 < ((xq.2.2.2.2.take (Int.toNat x87l59)).length : Int))))] ?_))
                 refine Ok.nil (Ok.thenN (Ok.seq (Ok.cond (b := decide (x124l77 < ((xq.2.2.2.2.take (Int.toNat x87l59)).length : Int))) rfl (fun hc38 => ?_) (fun hc38 => ?_))))
                 ·replace hF := hF.1 hc38
                  refine Ok.skip (Ok.thenN (Ok.cut (fun a W => ∃ gj84 : Ghost, Gext w0 gl77 gj84 ∧ StA 154 [(1, pv bs1 0), (3, pv bs3 0), (5, .func (.func 44) #[] #[pv bs3 0, pv bs1 0, pv bs4 0]), (11, pv bs11 0), (85, .slice axq_2 xq.2.2.2.2.length cxq_2), (86, .int .i64 (xq.2.2.2.2.length : Int)), (87, .int .i64 x87l59), (122, .slice a37 (xq.2.2.2.2.take (Int.toNat x87l59)).length c37), (123, .int .i64 ((xq.2.2.2.2.take (Int.toNat x87l59)).length : Int)), (124, .int .i64 x124l77)] a ∧ StW w0 [.blk bs11 (.cells #[.int .i64 e33.1, .int .i64 e33.2.1, .int .i64 e33.2.2.1, .int .i64 e33.2.2.2.1, sv e33.2.2.2.2] 93), .blk bs4 (.cells #[.slice a36 (yown3_0l59 ++ ([e33.1] : List (Int))).length c36] 61), .own (.slice a36 (yown3_0l59 ++ ([e33.1] : List (Int))).length c36) 3 1 (yown3_0l59 ++ ([e33.1] : List (Int))).length xs36, .blk bs3 (.cells #[.bool (rlrV32 xq x124l77 ybs3_0l77 x87l59 e33)] 4), .blk bs1 (.cells #[.int .i64 xq.1, .int .i64 xq.2.1, .slice axq_0 xq.2.2.1.length cxq_0, .slice axq_1 xq.2.2.2.1.length cxq_1, .slice axq_2 xq.2.2.2.2.length cxq_2] 37)] gj84 W ∧ rlrj84 xq x124l77 ybs3_0l77 x87l59 e33 (rlrl77 xq x87l59 yown3_0l59 e33 (rlrl59 xq K k59) k77)) ?_ ?_))
                  ·
                   refine Ok.block (Ok.seq (Ok.region ?_))
                   obtain ⟨h040, h140, hF⟩ := hF
                   have he40 := get_of (l := (xq.2.2.2.2.take (Int.toNat x87l59))) (default : JT) h140
                   generalize hg40 : ((xq.2.2.2.2.take (Int.toNat x87l59)).getD (Int.toNat x124l77) default) = e40 at he40 hF ⊢
                   refine Ok.op rfl (OpOk.indexRo (e := .pair (.int .i64) (.pair (.int .i64) (.pair (.int .i64) (.pair (.int .i64) (.str))))) (i := x124l77) (el := e40) rfl rfl Try.underlying35 (by kernel_rfl) hR37 h040 he40 rfl fun q39 o39 cs39 _ hat39 hr39 => ?_)
                   obtain ⟨_, _, rfl, rfl, ⟨_, _, rfl, rfl, ⟨_, _, rfl, rfl, ⟨_, _, rfl, rfl, rfl⟩⟩⟩⟩ := hr39
                   replace hat39 : At gl77 q39 o39 [.int .i64 e40.1, .int .i64 e40.2.1, .int .i64 e40.2.2.1, .int .i64 e40.2.2.2.1, sv e40.2.2.2.2] := hat39
                   refine Ok.op rfl (OpOk.step (v := .agg #[.int .i64 e40.1, .int .i64 e40.2.1, .int .i64 e40.2.2.1, .int .i64 e40.2.2.2.1, sv e40.2.2.2.2]) (Yields.loadAggRo 0 5 #[.int .i64 e40.1, .int .i64 e40.2.1, .int .i64 e40.2.2.1, .int .i64 e40.2.2.2.1, sv e40.2.2.2.2] hat39 (by kernel_rfl) Try.underlying93 rfl (by kernel_rfl) (by kernel_rfl) (by kernel_rfl)) rfl rfl (Ok.op rfl (OpOk.alloc (z := .agg #[.int .i64 0, .int .i64 0, .int .i64 0, .int .i64 0, sv ([] : Bs)]) (cs := #[.int .i64 0, .int .i64 0, .int .i64 0, .int .i64 0, sv ([] : Bs)]) (by kernel_rfl) (by kernel_rfl) rfl fun bs13 => ?_)))
                   refine Ok.op rfl (OpOk.sto (k := 5) (v := .agg #[.int .i64 e40.1, .int .i64 e40.2.1, .int .i64 e40.2.2.1, .int .i64 e40.2.2.2.1, sv e40.2.2.2.2]) 0 #[.int .i64 e40.1, .int .i64 e40.2.1, .int .i64 e40.2.2.1, .int .i64 e40.2.2.2.1, sv e40.2.2.2.2] rfl rfl rfl ?_)
                   refine Ok.nil (Ok.thenN (Ok.region (Ok.op rfl (OpOk.step (v := .bool ybs3_0l77) (Yields.load 4 rfl rfl Try.underlying4 rfl (by kernel_rfl)) rfl rfl (Ok.bat 1 [1, 3, 5, 11, 85, 86, 87, 122, 123, 124] [(13, pv bs13 0), (129, .bool ybs3_0l77)] ?_)))))
                   refine Ok.boolAt 129 (ybs3_0l77) rfl (fun hc42 => ?_) (fun hc42 => ?_)
                   ·replace hF := hF.1 hc42
                    refine Ok.bat 1 [1, 3, 5, 11, 13, 85, 86, 87, 122, 123, 124] [(129, .bool true), (130, pv bs13 1)] ?_
                    refine Ok.opYes (j := 1) (d := 129) (want := true) (b := true) rfl (by kernel_rfl) (by kernel_rfl) rfl (OpOk.step (v := .int .i64 e40.2.1) (Yields.load 0 rfl rfl Try.underlying3 rfl (by kernel_rfl)) rfl rfl (Ok.bat 1 [1, 3, 5, 11, 13, 85, 86, 87, 122, 123, 124, 129] [(131, .int .i64 e40.2.1), (132, pv bs11 1)] ?_))
                    refine Ok.opYes (j := 1) (d := 129) (want := true) (b := true) rfl (by kernel_rfl) (by kernel_rfl) rfl (OpOk.step (v := .int .i64 e33.2.1) (Yields.load 1 rfl rfl Try.underlying3 rfl (by kernel_rfl)) rfl rfl (Ok.bat 2 [1, 3, 5, 11, 13, 85, 86, 87, 122, 123, 124, 129] [(135, .bool (decide (e40.2.1 < e33.2.1)))] ?_))
                    refine Ok.boolAt 135 (decide (e40.2.1 < e33.2.1)) rfl (fun hc43 => ?_) (fun hc43 => ?_)
                    ·replace hF := hF.1 hc43
                     refine Ok.bat 14 [1, 3, 5, 11, 85, 86, 87, 122, 123, 124] [(149, .bool true)] ?_
                     refine Ok.op rfl (OpOk.sto (k := 1) (v := .bool true) 4 #[.bool true] rfl rfl rfl ?_)
                     refine Ok.nil (Ok.blockN (Ok.thenN ?_))
                     subst hg40
                     refine Ok.entEq 4 (e' := .blk bs3 (.cells #[.bool (rlrV32 xq x124l77 ybs3_0l77 x87l59 e33)] 4)) rfl (congrArg (fun l : List Value => Ent.blk bs3 (.cells ⟨l⟩ 4)) (lcons (congrArg (Value.bool) ((Eq.trans (mor_t hc43) (mand_t hc42)))) rfl)) ?_
                     exact fun a W hA hW => ⟨gl77, (Gext.refl w0 gl77), hA.sub (by kernel_rfl), hW.sub (.cons _ (.cons_cons _ (.cons_cons _ (.cons_cons _ (.cons_cons _ (.cons_cons _ .slnil)))))), hF⟩
                    ·replace hF := hF.2 hc43
                     refine Ok.bat 1 [1, 3, 5, 11, 13, 85, 86, 87, 122, 123, 124, 129] [(135, .bool false), (136, pv bs13 1)] ?_
                     refine Ok.opYes (j := 7) (d := 135) (want := false) (b := false) rfl (by kernel_rfl) (by kernel_rfl) rfl (OpOk.step (v := .int .i64 e40.2.1) (Yields.load 0 rfl rfl Try.underlying3 rfl (by kernel_rfl)) rfl rfl (Ok.bat 1 [1, 3, 5, 11, 13, 85, 86, 87, 122, 123, 124, 129, 135] [(137, .int .i64 e40.2.1), (138, pv bs11 1)] ?_))
                     refine Ok.opYes (j := 7) (d := 135) (want := false) (b := false) rfl (by kernel_rfl) (by kernel_rfl) rfl (OpOk.step (v := .int .i64 e33.2.1) (Yields.load 1 rfl rfl Try.underlying3 rfl (by kernel_rfl)) rfl rfl (Ok.bat 2 [1, 3, 5, 11, 13, 85, 86, 87, 122, 123, 124, 129, 135] [(141, .bool (e40.2.1 == e33.2.1))] ?_))
                     refine Ok.boolAt 141 ((e40.2.1 == e33.2.1)) rfl (fun hc44 => ?_) (fun hc44 => ?_)
                     ·replace hF := hF.1 hc44
                      refine Ok.bat 1 [1, 3, 5, 11, 85, 86, 87, 122, 123, 124, 129, 135] [(141, .bool true), (142, pv bs13 0)] ?_
                      refine Ok.opYes (j := 13) (d := 141) (want := true) (b := true) rfl (by kernel_rfl) (by kernel_rfl) rfl (OpOk.step (v := .int .i64 e40.1) (Yields.load 0 rfl rfl Try.underlying3 rfl (by kernel_rfl)) rfl rfl (Ok.bat 1 [1, 3, 5, 11, 85, 86, 87, 122, 123, 124, 129, 135, 141] [(143, .int .i64 e40.1), (144, pv bs11 0)] ?_))
                      refine Ok.opYes (j := 13) (d := 141) (want := true) (b := true) rfl (by kernel_rfl) (by kernel_rfl) rfl (OpOk.step (v := .int .i64 e33.1) (Yields.load 1 rfl rfl Try.underlying3 rfl (by kernel_rfl)) rfl rfl (Ok.bat 4 [1, 3, 5, 11, 85, 86, 87, 122, 123, 124] [(149, .bool (decide (e40.1 < e33.1)))] ?_))
                      refine Ok.op rfl (OpOk.sto (k := 1) (v := .bool (decide (e40.1 < e33.1))) 4 #[.bool (decide (e40.1 < e33.1))] rfl rfl rfl ?_)
                      refine Ok.nil (Ok.blockN (Ok.thenN ?_))
                      subst hg40
                      refine Ok.entEq 4 (e' := .blk bs3 (.cells #[.bool (rlrV32 xq x124l77 ybs3_0l77 x87l59 e33)] 4)) rfl (congrArg (fun l : List Value => Ent.blk bs3 (.cells ⟨l⟩ 4)) (lcons (congrArg (Value.bool) ((Eq.trans ((Eq.trans (mand_t hc44) (mor_f hc43))) (mand_t hc42)))) rfl)) ?_
                      exact fun a W hA hW => ⟨gl77, (Gext.refl w0 gl77), hA.sub (by kernel_rfl), hW.sub (.cons _ (.cons_cons _ (.cons_cons _ (.cons_cons _ (.cons_cons _ (.cons_cons _ .slnil)))))), hF⟩
                     ·replace hF := hF.2 hc44
                      refine Ok.bat 8 [1, 3, 5, 11, 85, 86, 87, 122, 123, 124] [(149, .bool false)] ?_
                      refine Ok.op rfl (OpOk.sto (k := 1) (v := .bool false) 4 #[.bool false] rfl rfl rfl ?_)
                      refine Ok.nil (Ok.blockN (Ok.thenN ?_))
                      subst hg40
                      refine Ok.entEq 4 (e' := .blk bs3 (.cells #[.bool (rlrV32 xq x124l77 ybs3_0l77 x87l59 e33)] 4)) rfl (congrArg (fun l : List Value => Ent.blk bs3 (.cells ⟨l⟩ 4)) (lcons (congrArg (Value.bool) ((Eq.trans ((Eq.trans (mand_f hc44) (mor_f hc43))) (mand_t hc42)))) rfl)) ?_
                      exact fun a W hA hW => ⟨gl77, (Gext.refl w0 gl77), hA.sub (by kernel_rfl), hW.sub (.cons _ (.cons_cons _ (.cons_cons _ (.cons_cons _ (.cons_cons _ (.cons_cons _ .slnil)))))), hF⟩
                   ·replace hF := hF.2 hc42
                    refine Ok.bat 20 [1, 3, 5, 11, 85, 86, 87, 122, 123, 124] [(149, .bool false)] ?_
                    refine Ok.op rfl (OpOk.sto (k := 1) (v := .bool false) 4 #[.bool false] rfl rfl rfl ?_)
                    refine Ok.nil (Ok.blockN (Ok.thenN ?_))
                    subst hg40
                    refine Ok.entEq 4 (e' := .blk bs3 (.cells #[.bool (rlrV32 xq x124l77 ybs3_0l77 x87l59 e33)] 4)) rfl (congrArg (fun l : List Value => Ent.blk bs3 (.cells ⟨l⟩ 4)) (lcons (congrArg (Value.bool) (mand_f hc42)) rfl)) ?_
                    exact fun a W hA hW => ⟨gl77, (Gext.refl w0 gl77), hA.sub (by kernel_rfl), hW.sub (.cons _ (.cons_cons _ (.cons_cons _ (.cons_cons _ (.cons_cons _ (.cons_cons _ .slnil)))))), hF⟩
                  ·
                   clear hF
                   rintro a W ⟨gj84, hxj84, hA, hW, hF⟩
                   refine (?_ : Ok _ _ _ _ _ _) a W hA hW
                   clear hA hW
                   replace hRxq_2 := hRxq_2.mono hxj84.1
                   replace hR37 := hR37.mono hxj84.1
                   replace hL36 := hL36.mono hxj84.1
                   replace hRxq_0 := hRxq_0.mono hxj84.1
                   replace hRxq_1 := hRxq_1.mono hxj84.1
                   refine Ok.region (Ok.bat 2 [1, 3, 5, 11, 85, 86, 87, 122, 123] [(124, .int .i64 (w6 (x124l77 + 1)))] ?_)
                   refine Ok.nil (Ok.thenN ?_)
                   exact fun a W hA hW => ⟨k77, Nat.lt_succ_self _, gj84, (hxl77.trans hxj84), w6 (x124l77 + 1), (rlrV32 xq x124l77 ybs3_0l77 x87l59 e33), hA.sub (by kernel_rfl), hW, hF⟩
                 ·replace hF := hF.2 hc38
                  refine Ok.exit (Ok.thenE (Ok.thenE (Ok.blockHit (Ok.blockN (Ok.thenN (Ok.region (Ok.bat 2 [1, 3, 5, 85, 86] [(87, .int .i64 (w6 (x87l59 + 1)))] ?_)))))))
                  refine Ok.nil (Ok.thenN ?_)
                  subst hg33
                  exact fun a W hA hW => ⟨k59, Nat.lt_succ_self _, gl77, (((hxl59.trans hxj1i95).trans hxj72).trans hxl77), w6 (x87l59 + 1), a36, c36, (yown3_0l59 ++ ([(xq.2.2.2.2.getD (Int.toNat x87l59) default).1] : List (Int))), xs36, ybs3_0l77, hL36, hA.sub (by kernel_rfl), hW.sub (.cons _ (.cons_cons _ (.cons_cons _ (.cons_cons _ (.cons_cons _ .slnil))))), hF⟩
            ·replace hF := hF.2 hc31
             refine Ok.exit (Ok.thenE (Ok.thenE (Ok.blockHit (Ok.thenN (Ok.seq (Ok.seq (Ok.region (Ok.op rfl (OpOk.step (v := .bool ybs3_0l59) (Yields.load 2 rfl rfl Try.underlying4 rfl (by kernel_rfl)) rfl rfl (Ok.batch 1 [(153, .bool (!ybs3_0l59))] (by kernel_rfl) (Ok.nil (Ok.thenN (Ok.cond (b := !ybs3_0l59) rfl (fun hc54 => ?_) (fun hc54 => ?_))))))))))))))
             ·replace hF := hF.1 hc54
              refine Ok.seq (Ok.region (Ok.batch 1 [(2, .int .i64 3)] (by kernel_rfl) (Ok.nil (Ok.thenN (Ok.ret (Ok.thenR ?_))))))
              exact Ok.resP (vs := [.int .i64 3]) [] [] (by decide) rfl (.inl rfl) rfl (.cons (.tmp rfl) .nil) ((((hxj4.trans hxj11).trans hxl21).trans hxl40).trans hxl59) ⟨3, rfl, rfl, hF⟩
             ·replace hF := hF.2 hc54
              refine Ok.skip (Ok.thenN (Ok.seq (Ok.region (Ok.batch 1 [(2, .int .i64 0)] (by kernel_rfl) (Ok.nil (Ok.thenN (Ok.ret ?_)))))))
              exact Ok.resP (vs := [.int .i64 0]) [] [] (by decide) rfl (.inl rfl) rfl (.cons (.tmp rfl) .nil) ((((hxj4.trans hxj11).trans hxl21).trans hxl40).trans hxl59) ⟨0, rfl, rfl, hF⟩
def idsok (q : JL) (s : List Int) : Prop := (∀ x ∈ s, 0 ≤ x ∧ x < q.2.1) ∧ s.Nodup
theorem ids_snoc (q : JL) (s : List Int) (x : Int) : idsok q (s ++ [x]) ↔ idsok q s ∧ (0 ≤ x ∧ x < q.2.1) ∧ x ∉ s := by
 unfold idsok
 rw [List.nodup_append]
 constructor
 ·rintro ⟨h1, h2, -, h3⟩
  exact ⟨⟨fun y hy => h1 y (List.mem_append.2 (.inl hy)), h2⟩, h1 x (List.mem_append.2 (.inr (List.mem_singleton.2 rfl))), fun hx => h3 x hx x (List.mem_singleton.2 rfl) rfl⟩
 ·rintro ⟨⟨h1, h2⟩, h3, h4⟩
  refine ⟨fun y hy => ?_, h2, by simp, fun a ha b hb he => ?_⟩
  ·rcases List.mem_append.1 hy with hy | hy
   ·exact h1 y hy
   ·rw [List.mem_singleton] at hy; subst hy; exact h3
  ·rw [List.mem_singleton] at hb; subst hb; subst he; exact h4 ha
theorem all_snoc {α : Type} {p : α → Prop} (l : List α) (x : α) : (∀ y ∈ l ++ [x], p y) ↔ (∀ y ∈ l, p y) ∧ p x := by
 constructor
 ·intro h
  exact ⟨fun y hy => h y (List.mem_append.2 (.inl hy)), h x (List.mem_append.2 (.inr (List.mem_singleton.2 rfl)))⟩
 ·rintro ⟨h1, h2⟩ y hy
  rcases List.mem_append.1 hy with hy | hy
  ·exact h1 y hy
  ·rw [List.mem_singleton] at hy; subst hy; exact h2
theorem rbt_iff (x a b : Int) : rbtM x a b = true ↔ a ≤ x ∧ x ≤ b := by
 unfold rbtM
 rw [Bool.and_eq_true, decide_eq_true_eq, decide_eq_true_eq]
theorem ico_no (l : List Int) (x : Int) : (!(icoS l x)) = true ↔ x ∉ l := by
 rw [← ico_iff]; simp
def okT (j : JJ) : Prop := (1 ≤ j.2.1 ∧ j.2.1 ≤ 4) ∧ j.2.2.1 = false
def okS (j : JJ) : Prop := j.2.1 = 0 ∧ j.2.2.1 = true
def okM (q : JL) (t : JT) : Prop := (q.1 ≤ t.2.1 ∧ t.2.1 ≤ 1000000000) ∧ (0 ≤ t.2.2.1 ∧ t.2.2.1 ≤ 1000000000) ∧ 0 ≤ t.2.2.2.1 ∧ t.2.2.2.1 ≤ 1000000000
def base (q : JL) : Prop := (0 ≤ q.1 ∧ q.1 ≤ 1000000000) ∧ 0 ≤ q.2.1 ∧ q.2.1 ≤ 1000000000
def ltB (s t : JT) : Bool := decide (s.2.1 < t.2.1) || ((s.2.1 == t.2.1) && decide (s.1 < t.1))
theorem ltB_iff (s t : JT) : ltB s t = true ↔ ltT s t := by
 unfold ltB ltT
 rw [Bool.or_eq_true, Bool.and_eq_true, decide_eq_true_eq, decide_eq_true_eq, beq_iff_eq]
theorem rlr_F (q : JL) (hp : lchP q) : rlrF q (fun r => r = lchS q) := by
 obtain ⟨hp1, hp2, hp3⟩ := hp
 have j4 : rlrj4 q (fun r => r = lchS q) := by
  refine ⟨fun h => ?_, fun h => ?_⟩
  ·refine (lch_big ?_).symm
   unfold rlrV0 at h
   rw [Bool.or_eq_true, Bool.or_eq_true, decide_eq_true_eq, decide_eq_true_eq, decide_eq_true_eq] at h
   unfold big; omega
  have hb : ¬ big q := by
   unfold rlrV0 at h
   rw [Bool.or_eq_false_iff, Bool.or_eq_false_iff, decide_eq_false_iff_not, decide_eq_false_iff_not, decide_eq_false_iff_not] at h
   unfold big; omega
  have hs : q.2.2.1.length ≤ 100 ∧ q.2.2.2.1.length ≤ 100 ∧ q.2.2.2.2.length ≤ 100 := by unfold big at hb; omega
  -- timers
  have tims : ∀ (k i : Nat) (b : Bool), i + k = q.2.2.2.2.length → (b = true ↔ base q ∧ idsok q (q.2.2.1.map (·.1) ++ q.2.2.2.1.map (·.1) ++ (q.2.2.2.2.take i).map (·.1)) ∧ (∀ j ∈ q.2.2.1, okT j) ∧ (∀ j ∈ q.2.2.2.1, okS j) ∧ (∀ t ∈ q.2.2.2.2.take i, okM q t) ∧ (q.2.2.2.2.take i).Pairwise ltT) → rlrl59 q (fun r => r = lchS q) (k + 1) (i : Int) (q.2.2.1.map (·.1) ++ q.2.2.2.1.map (·.1) ++ (q.2.2.2.2.take i).map (·.1)) b := by
   intro k
   induction k with
   | zero =>
    intro i b hi hbb
    rw [List.take_of_length_le (by omega)] at hbb ⊢
    refine ⟨fun h => by have := of_decide_eq_true h; omega, fun _ => ⟨fun h => (lch_nay hb fun g => ?_).symm, fun h => (lch_ryt hb ?_).symm⟩⟩
    ·have : b = true := hbb.2 ⟨⟨g.now, g.next⟩, ⟨g.ids, g.once⟩, g.tasks, g.smalls, g.timers, g.order⟩
     rw [this] at h; cases h
    ·obtain ⟨h1, h2, h3, h4, h5, h6⟩ := hbb.1 (by simpa using h)
     exact ⟨h1.1, h1.2, h2.1, h2.2, h3, h4, h5, h6⟩
   | succ k ih =>
    intro i b hi hbb
    have hil : i < q.2.2.2.2.length := by omega
    have hsl : (q.2.2.1.map (·.1) ++ q.2.2.2.1.map (·.1) ++ (q.2.2.2.2.take i).map (·.1)).length ≤ 300 := by
     simp only [List.length_append, List.length_map, List.length_take]; omega
    have hsnoc : q.2.2.1.map (·.1) ++ q.2.2.2.1.map (·.1) ++ (q.2.2.2.2.take (i + 1)).map (·.1) = (q.2.2.1.map (·.1) ++ q.2.2.2.1.map (·.1) ++ (q.2.2.2.2.take i).map (·.1)) ++ [(q.2.2.2.2.getD i default).1] := by
     rw [take_get default hil, List.map_append, List.append_assoc _ _ [_]]; rfl
    have ih := ih (i + 1)
    rw [hsnoc] at ih
    generalize hseen : q.2.2.1.map (·.1) ++ q.2.2.2.1.map (·.1) ++ (q.2.2.2.2.take i).map (·.1) = seen at hbb hsl ih
    generalize htt : q.2.2.2.2.getD i default = t at ih
    have htk : q.2.2.2.2.take (i + 1) = q.2.2.2.2.take i ++ [t] := by rw [take_get default hil, htt]
    have inner : ∀ (k2 j : Nat) (b2 : Bool), j + k2 = i → rlrl59 q (fun r => r = lchS q) (k + 1) ((i + 1 : Nat) : Int) (seen ++ [t.1]) (b2 && ((q.2.2.2.2.take i).drop j).all (fun s => ltB s t)) → rlrl77 q (i : Int) seen t (rlrl59 q (fun r => r = lchS q) (k + 1)) (k2 + 1) (j : Int) b2 := by
     intro k2
     induction k2 with
     | zero =>
      intro j b2 hj hC
      rw [List.drop_of_length_le (by rw [List.length_take]; omega), List.all_nil, Bool.and_true] at hC
      refine ⟨fun h => by have h := of_decide_eq_true h; rw [Int.toNat_natCast, List.length_take] at h; omega, fun _ => ?_⟩
      rw [w64 (by omega), Int.toNat_natCast, htt]
      exact hC
     | succ k2 ih2 =>
      intro j b2 hj hC
      have hjl : j < (q.2.2.2.2.take i).length := by rw [List.length_take]; omega
      rw [drop_get default hjl, List.all_cons] at hC
      have j84 : rlrj84 q (j : Int) b2 (i : Int) t (rlrl77 q (i : Int) seen t (rlrl59 q (fun r => r = lchS q) (k + 1)) (k2 + 1)) := by
       unfold rlrj84 rlrV32
       rw [w64 (by omega), Int.toNat_natCast, Int.toNat_natCast]
       exact ih2 (j + 1) _ (by omega) (by rw [Bool.and_assoc]; exact hC)
      refine ⟨fun _ => ⟨by omega, by rw [Int.toNat_natCast, Int.toNat_natCast]; exact hjl, fun _ => ⟨fun _ => j84, fun _ => two j84⟩, fun _ => j84⟩, fun h => by have h := of_decide_eq_false h; rw [Int.toNat_natCast] at h; omega⟩
    have hV : rlrV28 q seen b t = true ↔ b = true ∧ (0 ≤ t.1 ∧ t.1 < q.2.1) ∧ t.1 ∉ seen ∧ okM q t := by
     unfold rlrV28 rlrV27 okM
     simp only [Bool.and_eq_true, decide_eq_true_eq, rbt_iff, ico_no]
     exact ⟨fun ⟨⟨⟨h1, h2⟩, h3, h4⟩, h5, h6, h7, h8⟩ => ⟨h1, ⟨h2, h3⟩, h4, ⟨h5, h6⟩, h7, h8⟩, fun ⟨h1, ⟨h2, h3⟩, h4, ⟨h5, h6⟩, h7, h8⟩ => ⟨⟨⟨h1, h2⟩, h3, h4⟩, h5, h6, h7, h8⟩⟩
    have j72 : rlrj72 q (i : Int) seen b t (rlrl59 q (fun r => r = lchS q) (k + 1)) := by
     refine ⟨Int.le_refl _, by omega, by omega, i + 1, inner i 0 _ (by omega) (ih _ (by omega) ?_)⟩
     rw [Bool.and_eq_true, hV, hbb, ids_snoc, htk, all_snoc, List.pairwise_append, List.drop_zero, List.all_eq_true]
     constructor
     ·rintro ⟨⟨⟨h1, h2, h3, h4, h5, h6⟩, h7, h8, h9⟩, h10⟩
      exact ⟨h1, ⟨h2, h7, h8⟩, h3, h4, ⟨h5, h9⟩, h6, List.pairwise_singleton _ _, fun s hs t' ht' => by rw [List.mem_singleton] at ht'; subst ht'; exact (ltB_iff _ _).1 (h10 s hs)⟩
     ·rintro ⟨h1, ⟨h2, h7, h8⟩, h3, h4, ⟨h5, h9⟩, h6, -, h10⟩
      exact ⟨⟨⟨h1, h2, h3, h4, h5, h6⟩, h7, h8, h9⟩, fun s hs => (ltB_iff _ _).2 (h10 s hs t (List.mem_singleton.2 rfl))⟩
    have j1 : rlrj1i95 q (i : Int) seen b t (rlrl59 q (fun r => r = lchS q) (k + 1)) := ⟨by rw [List.length_append, List.length_singleton]; omega, fun _ => ⟨fun _ => ⟨fun _ => two j72, fun _ => j72⟩, fun _ => j72⟩, fun _ => j72⟩
    refine ⟨fun _ => ⟨by omega, by omega, ?_⟩, fun h => by have := of_decide_eq_false h; omega⟩
    rw [Int.toNat_natCast, htt]
    exact ⟨fun _ => ⟨fun _ => ⟨by unfold icoP; omega, j1⟩, fun _ => j1⟩, fun _ => j1⟩
  -- small ones
  have smls : ∀ (k i : Nat) (b : Bool), i + k = q.2.2.2.1.length → (b = true ↔ base q ∧ idsok q (q.2.2.1.map (·.1) ++ (q.2.2.2.1.take i).map (·.1)) ∧ (∀ j ∈ q.2.2.1, okT j) ∧ (∀ j ∈ q.2.2.2.1.take i, okS j)) → rlrl40 q (fun r => r = lchS q) (k + 1) (i : Int) (q.2.2.1.map (·.1) ++ (q.2.2.2.1.take i).map (·.1)) b := by
   intro k
   induction k with
   | zero =>
    intro i b hi hbb
    rw [List.take_of_length_le (by omega)] at hbb ⊢
    refine ⟨fun h => by have := of_decide_eq_true h; omega, fun _ => ⟨q.2.2.2.2.length + 1, ?_⟩⟩
    have := tims q.2.2.2.2.length 0 b (by omega) (by
     rw [List.take_zero, List.map_nil, List.append_nil, hbb]
     exact ⟨fun h => ⟨h.1, h.2.1, h.2.2.1, h.2.2.2, by simp, List.Pairwise.nil⟩, fun h => ⟨h.1, h.2.1, h.2.2.1, h.2.2.2.1⟩⟩)
    rw [List.take_zero, List.map_nil, List.append_nil] at this
    exact this
   | succ k ih =>
    intro i b hi hbb
    have hil : i < q.2.2.2.1.length := by omega
    have hsl : (q.2.2.1.map (·.1) ++ (q.2.2.2.1.take i).map (·.1)).length ≤ 300 := by
     simp only [List.length_append, List.length_map, List.length_take]; omega
    have hsnoc : q.2.2.1.map (·.1) ++ (q.2.2.2.1.take (i + 1)).map (·.1) = (q.2.2.1.map (·.1) ++ (q.2.2.2.1.take i).map (·.1)) ++ [(q.2.2.2.1.getD i default).1] := by
     rw [take_get default hil, List.map_append, List.append_assoc]; rfl
    have ih := ih (i + 1)
    rw [hsnoc, take_get default hil] at ih
    generalize hseen : q.2.2.1.map (·.1) ++ (q.2.2.2.1.take i).map (·.1) = seen at hbb hsl ih
    have j47 : rlrj47 q (i : Int) seen b (rlrl40 q (fun r => r = lchS q) (k + 1)) := by
     unfold rlrj47 rlrV21
     rw [w64 (by omega), Int.toNat_natCast]
     refine ih _ (by omega) ?_
     unfold rlrV22 rlrV19
     rw [Int.toNat_natCast, ids_snoc, all_snoc]
     unfold okS
     simp only [Bool.and_eq_true, decide_eq_true_eq, rbt_iff, ico_no, beq_iff_eq]
     rw [hbb]
     unfold okS
     constructor
     ·rintro ⟨⟨⟨⟨h1, h2, h3, h4⟩, h5⟩, h6, h7⟩, h8, h9⟩
      exact ⟨h1, ⟨h2, ⟨h5, h6⟩, h7⟩, h3, h4, h8, h9⟩
     ·rintro ⟨h1, ⟨h2, ⟨h5, h6⟩, h7⟩, h3, h4, h8, h9⟩
      exact ⟨⟨⟨⟨h1, h2, h3, h4⟩, h5⟩, h6, h7⟩, h8, h9⟩
    have j1 : rlrj1i72 q (i : Int) seen b (q.2.2.2.1.getD (Int.toNat (i : Int)) default) (rlrl40 q (fun r => r = lchS q) (k + 1)) := ⟨by rw [List.length_append, List.length_singleton]; omega, fun _ => two j47, fun _ => j47⟩
    exact ⟨fun _ => ⟨by omega, by omega, fun _ => ⟨fun _ => ⟨by unfold icoP; omega, j1⟩, fun _ => j1⟩, fun _ => j1⟩, fun h => by have := of_decide_eq_false h; omega⟩
  -- tasks
  have tsks : ∀ (k i : Nat) (b : Bool), i + k = q.2.2.1.length → (b = true ↔ base q ∧ idsok q ((q.2.2.1.take i).map (·.1)) ∧ (∀ j ∈ q.2.2.1.take i, okT j)) → rlrl21 q (fun r => r = lchS q) (k + 1) (i : Int) ((q.2.2.1.take i).map (·.1)) b := by
   intro k
   induction k with
   | zero =>
    intro i b hi hbb
    rw [List.take_of_length_le (by omega)] at hbb ⊢
    refine ⟨fun h => by have := of_decide_eq_true h; omega, fun _ => ⟨q.2.2.2.1.length + 1, ?_⟩⟩
    have := smls q.2.2.2.1.length 0 b (by omega) (by
     rw [List.take_zero, List.map_nil, List.append_nil, hbb]
     exact ⟨fun h => ⟨h.1, h.2.1, h.2.2, by simp⟩, fun h => ⟨h.1, h.2.1, h.2.2.1⟩⟩)
    rw [List.take_zero, List.map_nil, List.append_nil] at this
    exact this
   | succ k ih =>
    intro i b hi hbb
    have hil : i < q.2.2.1.length := by omega
    have hsl : ((q.2.2.1.take i).map (·.1)).length ≤ 300 := by
     simp only [List.length_map, List.length_take]; omega
    have ih := ih (i + 1)
    rw [take_get default hil, List.map_append] at ih
    generalize hseen : (q.2.2.1.take i).map (·.1) = seen at hbb hsl ih
    have j28 : rlrj28 q (i : Int) seen b (rlrl21 q (fun r => r = lchS q) (k + 1)) := by
     unfold rlrj28 rlrV15
     rw [w64 (by omega), Int.toNat_natCast]
     refine ih _ (by omega) ?_
     unfold rlrV16 rlrV2
     rw [Int.toNat_natCast, all_snoc]
     show _ ↔ base q ∧ idsok q (seen ++ [(q.2.2.1.getD i default).1]) ∧ _
     rw [ids_snoc]
     simp only [Bool.and_eq_true, decide_eq_true_eq, rbt_iff, ico_no, Bool.not_eq_true']
     rw [hbb]
     unfold okT
     constructor
     ·rintro ⟨⟨⟨⟨h1, h2, h3⟩, h5⟩, h6, h7⟩, h8, h9⟩
      exact ⟨h1, ⟨h2, ⟨h5, h6⟩, by rw [← ico_no]; simpa using h7⟩, h3, h8, h9⟩
     ·rintro ⟨h1, ⟨h2, ⟨h5, h6⟩, h7⟩, h3, h8, h9⟩
      exact ⟨⟨⟨⟨h1, h2, h3⟩, h5⟩, h6, by rw [← ico_no] at h7; simpa using h7⟩, h8, h9⟩
    have j1 : rlrj1i49 q (q.2.2.1.getD (Int.toNat (i : Int)) default) (i : Int) seen b (rlrl21 q (fun r => r = lchS q) (k + 1)) := ⟨by rw [List.length_append, List.length_singleton]; omega, fun _ => two j28, fun _ => j28⟩
    exact ⟨fun _ => ⟨by omega, by omega, fun _ => ⟨fun _ => ⟨by unfold icoP; omega, j1⟩, fun _ => j1⟩, fun _ => j1⟩, fun h => by have := of_decide_eq_false h; omega⟩
  have j11 : rlrj11 q (fun r => r = lchS q) := by
   refine ⟨q.2.2.1.length + 1, tsks q.2.2.1.length 0 _ (by omega) ?_⟩
   rw [Bool.and_eq_true, rbt_iff, rbt_iff]
   exact ⟨fun h => ⟨⟨h.1, h.2⟩, ⟨by simp, by simp⟩, by simp⟩, fun h => h.1⟩
  exact two j11
 exact ⟨fun _ => j4, fun _ => two j4⟩
theorem rlr_c {g : Ghost} {axq_0 : Option Addr} {cxq_0 : Nat} {axq_1 : Option Addr} {cxq_1 : Nat} {axq_2 : Option Addr} {cxq_2 : Nat} (xq : Int × Int × (List (Int × Int × Bool × Bs × Int × Int × Bs)) × (List (Int × Int × Bool × Bs × Int × Int × Bs)) × List (Int × Int × Int × Int × Bs)) (hRxq_0 : Rep g (.slice (.pair (.int .i64) (.pair (.int .i64) (.pair (.bool) (.pair (.str) (.pair (.int .i64) (.pair (.int .i64) (.str)))))))) [.slice axq_0 xq.2.2.1.length cxq_0] xq.2.2.1) (hRxq_1 : Rep g (.slice (.pair (.int .i64) (.pair (.int .i64) (.pair (.bool) (.pair (.str) (.pair (.int .i64) (.pair (.int .i64) (.str)))))))) [.slice axq_1 xq.2.2.2.1.length cxq_1] xq.2.2.2.1) (hRxq_2 : Rep g (.slice (.pair (.int .i64) (.pair (.int .i64) (.pair (.int .i64) (.pair (.int .i64) (.str)))))) [.slice axq_2 xq.2.2.2.2.length cxq_2] xq.2.2.2.2)  (hp : lchP xq) : CallsG Try.prog 13 #[.agg #[.int .i64 xq.1, .int .i64 xq.2.1, .slice axq_0 xq.2.2.1.length cxq_0, .slice axq_1 xq.2.2.2.1.length cxq_1, .slice axq_2 xq.2.2.2.2.length cxq_2]] g (.int .i64 (lchS xq)) :=
 (rlr_ok xq hRxq_0 hRxq_1 hRxq_2 _ (rlr_F xq hp)).gives (by rintro g' H' v _ ⟨r0, rfl, rfl, hK⟩; subst hK; rfl)
end Go.Proofs.Ytbifbljdmndjbaa.Lo
