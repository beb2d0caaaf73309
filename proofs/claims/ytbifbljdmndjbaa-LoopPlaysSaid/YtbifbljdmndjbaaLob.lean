/- Loops: the program. -/
import Derived.Test.YtbifbljdmndjbaaLoa
namespace Go.Proofs.Ytbifbljdmndjbaa.Lo
open Go Go.Eng Go.RowKit
set_option maxHeartbeats 4000000
set_option maxRecDepth 100000
set_option linter.unusedSimpArgs false
set_option linter.unusedVariables false
def lwiF (xn : Int) (xlow : Int) (xhigh : Int) (K : Bool → Prop) : Prop :=
 K ((decide (xn ≥ xlow)) && (decide (xn ≤ xhigh)))
theorem lwi_ok {g : Ghost} (xn : Int) (xlow : Int) (xhigh : Int) (K : Bool → Prop)
  (hF : lwiF xn xlow xhigh K) : CallsH Try.prog 40 #[.int .i64 xn, .int .i64 xlow, .int .i64 xhigh] g [] (fun g' H' v => ∃ (r0 : Bool), v = .bool r0 ∧ H' = [] ∧ K r0) := by
 refine CallsH.enter 15 [(0, .int .i64 xn), (1, .int .i64 xlow), (2, .int .i64 xhigh)] Try.func40 rfl (by kernel_rfl) (by kernel_rfl) (by kernel_rfl) fun w0 => ?_
 refine Ok.seq (Ok.region (Ok.batch 1 [(0, .int .i64 xn), (1, .int .i64 xlow), (2, .int .i64 xhigh)] (by kernel_rfl) (Ok.nil (Ok.thenN (Ok.seq (Ok.region (Ok.bat 4 [0, 2] [(10, .bool (decide (xn ≥ xlow)))] ?_)))))))
 refine Ok.midway 4 [(14, .bool ((decide (xn ≥ xlow)) && (decide (xn ≤ xhigh))))] (fun hR1 => ?_) ?_
 ·refine Ok.boolAt 10 (decide (xn ≥ xlow)) rfl (fun hc2 => ?_) (fun hc2 => ?_)
  ·skip
   refine Ok.batch 4 [(14, .bool (decide (xn ≤ xhigh)))] (by kernel_rfl) (Ok.reval 14 rfl (show (.bool (decide (xn ≤ xhigh)) : Value) = .bool ((decide (xn ≥ xlow)) && (decide (xn ≤ xhigh))) from congrArg Value.bool (mand_t hc2)) (Ok.batch 0 [(14, .bool ((decide (xn ≥ xlow)) && (decide (xn ≤ xhigh))))] (by kernel_rfl) ?_))
   exact hR1
  ·skip
   refine Ok.batch 4 [(14, .bool false)] (by kernel_rfl) (Ok.reval 14 rfl (show (.bool false : Value) = .bool ((decide (xn ≥ xlow)) && (decide (xn ≤ xhigh))) from congrArg Value.bool (mand_f hc2)) (Ok.batch 0 [(14, .bool ((decide (xn ≥ xlow)) && (decide (xn ≤ xhigh))))] (by kernel_rfl) ?_))
   exact hR1
 refine Ok.batch 1 [(6, .bool ((decide (xn ≥ xlow)) && (decide (xn ≤ xhigh))))] (by kernel_rfl) (Ok.nil (Ok.thenN (Ok.ret ?_)))
 exact Ok.resH (vs := [.bool ((decide (xn ≥ xlow)) && (decide (xn ≤ xhigh)))]) (.inl rfl) rfl (.cons (.tmp rfl) .nil) (Gext.refl w0 g) ⟨((decide (xn ≥ xlow)) && (decide (xn ≤ xhigh))), rfl, rfl, hF⟩
def lwiM (xn : Int) (xlow : Int) (xhigh : Int) : Bool := ((decide (xn ≥ xlow)) && (decide (xn ≤ xhigh)))
theorem lwiF_A (xn : Int) (xlow : Int) (xhigh : Int) (P : Bool → Prop) (h : P (lwiM xn xlow xhigh)) : lwiF xn xlow xhigh (fun k0 => P k0) := by
 unfold lwiM at h
 unfold lwiF
 exact h
theorem lwi_F (xn : Int) (xlow : Int) (xhigh : Int) : lwiF xn xlow xhigh (fun k0 => k0 = lwiM xn xlow xhigh) :=
 lwiF_A xn xlow xhigh (fun z => z = lwiM xn xlow xhigh) rfl
theorem lwi_c {g : Ghost} (xn : Int) (xlow : Int) (xhigh : Int)  : CallsG Try.prog 40 #[.int .i64 xn, .int .i64 xlow, .int .i64 xhigh] g (.bool (lwiM xn xlow xhigh)) :=
 (lwi_ok xn xlow xhigh _ (lwi_F xn xlow xhigh)).gives (by rintro g' H' v _ ⟨r0, rfl, rfl, hK⟩; subst hK; rfl)
theorem two {p : Prop} {a : Bool} (h : p) : (a = true → p) ∧ (a = false → p) := ⟨fun _ => h, fun _ => h⟩
theorem wu64 {n : Nat} (h : n < 18446744073709551616) : IntKind.wrap .u64 (n : Int) = (n : Int) := by
 unfold IntKind.wrap; simp [IntKind.bits, IntKind.signed]; omega
def cnaF (xx : Int) (K : Bool → Prop) : Prop :=
 K (xx != xx)
theorem cna_ok {g : Ghost} (xx : Int) (K : Bool → Prop)
  (hF : cnaF xx K) : CallsH Try.prog 92 #[.int .i64 xx] g [] (fun g' H' v => ∃ (r0 : Bool), v = .bool r0 ∧ H' = [] ∧ K r0) := by
 refine CallsH.enter 6 [(0, .int .i64 xx)] Try.func92 rfl (by kernel_rfl) (by kernel_rfl) (by kernel_rfl) fun w0 => ?_
 refine Ok.seq (Ok.region (Ok.batch 1 [(0, .int .i64 xx)] (by kernel_rfl) (Ok.nil (Ok.thenN (Ok.seq (Ok.region (Ok.batch 4 [(2, .bool (xx != xx))] (by kernel_rfl) (Ok.nil (Ok.thenN (Ok.ret ?_))))))))))
 exact Ok.resH (vs := [.bool (xx != xx)]) (.inl rfl) rfl (.cons (.tmp rfl) .nil) (Gext.refl w0 g) ⟨(xx != xx), rfl, rfl, hF⟩
def cnaM (xx : Int) : Bool := (xx != xx)
theorem cnaF_A (xx : Int) (P : Bool → Prop) (h : P (cnaM xx)) : cnaF xx (fun k0 => P k0) := by
 unfold cnaM at h
 unfold cnaF
 exact h
theorem cna_F (xx : Int) : cnaF xx (fun k0 => k0 = cnaM xx) :=
 cnaF_A xx (fun z => z = cnaM xx) rfl
theorem cna_c {g : Ghost} (xx : Int)  : CallsG Try.prog 92 #[.int .i64 xx] g (.bool (cnaM xx)) :=
 (cna_ok xx _ (cna_F xx)).gives (by rintro g' H' v _ ⟨r0, rfl, rfl, hK⟩; subst hK; rfl)
def ccoF (xx : Int) (xy : Int) (K : Int → Prop) : Prop :=
 (((cnaM xx)) = true → (((cnaM xy)) = true → K 0) ∧ (((cnaM xy)) = false → K (-1))) ∧ (((cnaM xx)) = false → (((cnaM xy)) = true → K 1) ∧ (((cnaM xy)) = false → ((decide (xx < xy)) = true → K (-1)) ∧ ((decide (xx < xy)) = false → ((decide (xx > xy)) = true → K 1) ∧ ((decide (xx > xy)) = false → K 0))))
theorem cco_ok {g : Ghost} (xx : Int) (xy : Int) (K : Int → Prop)
  (hF : ccoF xx xy K) : CallsH Try.prog 79 #[.int .i64 xx, .int .i64 xy] g [] (fun g' H' v => ∃ (r0 : Int), v = .int .i64 r0 ∧ H' = [] ∧ K r0) := by
 refine CallsH.enter 20 [(0, .int .i64 xx), (1, .int .i64 xy)] Try.func79 rfl (by kernel_rfl) (by kernel_rfl) (by kernel_rfl) fun w0 => ?_
 refine Ok.seq (Ok.region (Ok.batch 1 [(0, .int .i64 xx), (1, .int .i64 xy)] (by kernel_rfl) (Ok.nil (Ok.thenN (Ok.seq (Ok.region (Ok.bat 1 [0, 1] [(7, .int .i64 xx)] ?_)))))))
 refine Ok.op rfl (OpOk.callG (v := .bool (cnaM xx)) enr (fun W hW => cna_c xx) rfl ?_)
 refine Ok.bat 1 [0, 1] [(5, .bool (cnaM xx))] ?_
 refine Ok.nil (Ok.thenN (Ok.seq (Ok.region (Ok.bat 1 [0, 1, 5] [(9, .int .i64 xy)] ?_))))
 refine Ok.op rfl (OpOk.callG (v := .bool (cnaM xy)) enr (fun W hW => cna_c xy) rfl ?_)
 refine Ok.bat 1 [0, 1, 5] [(6, .bool (cnaM xy))] ?_
 refine Ok.nil (Ok.thenN (Ok.seq (Ok.seq (Ok.region (Ok.bat 1 [0, 1, 6] [(11, .bool (cnaM xx))] ?_)))))
 refine Ok.nil (Ok.thenN (Ok.cond (b := (cnaM xx)) rfl (fun hc1 => ?_) (fun hc1 => ?_)))
 ·replace hF := hF.1 hc1
  refine Ok.seq (Ok.seq (Ok.region (Ok.batch 1 [(12, .bool (cnaM xy))] (by kernel_rfl) (Ok.nil (Ok.thenN (Ok.cond (b := (cnaM xy)) rfl (fun hc2 => ?_) (fun hc2 => ?_)))))))
  ·replace hF := hF.1 hc2
   refine Ok.seq (Ok.region (Ok.batch 1 [(4, .int .i64 0)] (by kernel_rfl) (Ok.nil (Ok.thenN (Ok.ret (Ok.thenR (Ok.thenR ?_)))))))
   exact Ok.resH (vs := [.int .i64 0]) (.inl rfl) rfl (.cons (.tmp rfl) .nil) (Gext.refl w0 g) ⟨0, rfl, rfl, hF⟩
  ·replace hF := hF.2 hc2
   refine Ok.skip (Ok.thenN (Ok.seq (Ok.region (Ok.batch 1 [(4, .int .i64 (-1))] (by kernel_rfl) (Ok.nil (Ok.thenN (Ok.ret (Ok.thenR ?_))))))))
   exact Ok.resH (vs := [.int .i64 (-1)]) (.inl rfl) rfl (.cons (.tmp rfl) .nil) (Gext.refl w0 g) ⟨(-1), rfl, rfl, hF⟩
 ·replace hF := hF.2 hc1
  refine Ok.skip (Ok.thenN (Ok.seq (Ok.seq (Ok.region (Ok.bat 1 [0, 1] [(13, .bool (cnaM xy))] ?_)))))
  refine Ok.nil (Ok.thenN (Ok.cond (b := (cnaM xy)) rfl (fun hc3 => ?_) (fun hc3 => ?_)))
  ·replace hF := hF.1 hc3
   refine Ok.seq (Ok.region (Ok.batch 1 [(4, .int .i64 1)] (by kernel_rfl) (Ok.nil (Ok.thenN (Ok.ret (Ok.thenR ?_))))))
   exact Ok.resH (vs := [.int .i64 1]) (.inl rfl) rfl (.cons (.tmp rfl) .nil) (Gext.refl w0 g) ⟨1, rfl, rfl, hF⟩
  ·replace hF := hF.2 hc3
   refine Ok.skip (Ok.thenN (Ok.seq (Ok.seq (Ok.region (Ok.bat 3 [0, 1] [(16, .bool (decide (xx < xy)))] ?_)))))
   refine Ok.nil (Ok.thenN (Ok.cond (b := decide (xx < xy)) rfl (fun hc4 => ?_) (fun hc4 => ?_)))
   ·replace hF := hF.1 hc4
    refine Ok.seq (Ok.region (Ok.batch 1 [(4, .int .i64 (-1))] (by kernel_rfl) (Ok.nil (Ok.thenN (Ok.ret (Ok.thenR ?_))))))
    exact Ok.resH (vs := [.int .i64 (-1)]) (.inl rfl) rfl (.cons (.tmp rfl) .nil) (Gext.refl w0 g) ⟨(-1), rfl, rfl, hF⟩
   ·replace hF := hF.2 hc4
    refine Ok.skip (Ok.thenN (Ok.seq (Ok.seq (Ok.region (Ok.batch 3 [(19, .bool (decide (xx > xy)))] (by kernel_rfl) (Ok.nil (Ok.thenN (Ok.cond (b := decide (xx > xy)) rfl (fun hc5 => ?_) (fun hc5 => ?_)))))))))
    ·replace hF := hF.1 hc5
     refine Ok.seq (Ok.region (Ok.batch 1 [(4, .int .i64 1)] (by kernel_rfl) (Ok.nil (Ok.thenN (Ok.ret (Ok.thenR ?_))))))
     exact Ok.resH (vs := [.int .i64 1]) (.inl rfl) rfl (.cons (.tmp rfl) .nil) (Gext.refl w0 g) ⟨1, rfl, rfl, hF⟩
    ·replace hF := hF.2 hc5
     refine Ok.skip (Ok.thenN (Ok.seq (Ok.region (Ok.batch 1 [(4, .int .i64 0)] (by kernel_rfl) (Ok.nil (Ok.thenN (Ok.ret ?_)))))))
     exact Ok.resH (vs := [.int .i64 0]) (.inl rfl) rfl (.cons (.tmp rfl) .nil) (Gext.refl w0 g) ⟨0, rfl, rfl, hF⟩
def ccoM (xx : Int) (xy : Int) : Int := (if (cnaM xx) = true then (if (cnaM xy) = true then 0 else (-1)) else (if (cnaM xy) = true then 1 else (if (decide (xx < xy)) = true then (-1) else (if (decide (xx > xy)) = true then 1 else 0))))
theorem ccoF_A (xx : Int) (xy : Int) (P : Int → Prop) (h : P (ccoM xx xy)) : ccoF xx xy (fun k0 => P k0) := by
 unfold ccoM at h
 unfold ccoF
 refine ⟨fun hc0 => ?_, fun hc0 => ?_⟩
 ·rw [if_t hc0] at h
  refine ⟨fun hc1 => ?_, fun hc1 => ?_⟩
  ·rw [if_t hc1] at h
   exact h
  ·rw [if_f hc1] at h
   exact h
 ·rw [if_f hc0] at h
  refine ⟨fun hc1 => ?_, fun hc1 => ?_⟩
  ·rw [if_t hc1] at h
   exact h
  ·rw [if_f hc1] at h
   refine ⟨fun hc2 => ?_, fun hc2 => ?_⟩
   ·rw [if_t hc2] at h
    have hd2 := of_decide_eq_true hc2
    exact h
   ·rw [if_f hc2] at h
    have hd2 := of_decide_eq_false hc2
    refine ⟨fun hc3 => ?_, fun hc3 => ?_⟩
    ·rw [if_t hc3] at h
     have hd3 := of_decide_eq_true hc3
     exact h
    ·rw [if_f hc3] at h
     have hd3 := of_decide_eq_false hc3
     exact h
theorem cco_F (xx : Int) (xy : Int) : ccoF xx xy (fun k0 => k0 = ccoM xx xy) :=
 ccoF_A xx xy (fun z => z = ccoM xx xy) rfl
theorem cco_c {g : Ghost} (xx : Int) (xy : Int)  : CallsG Try.prog 79 #[.int .i64 xx, .int .i64 xy] g (.int .i64 (ccoM xx xy)) :=
 (cco_ok xx xy _ (cco_F xx xy)).gives (by rintro g' H' v _ ⟨r0, rfl, rfl, hK⟩; subst hK; rfl)
def corl9b (xvals : List (Int)) (K : Int → Prop) (x8l9 : Int) (C9 : Int → Prop) : Prop :=
 ((decide (x8l9 < (xvals.length : Int))) = true → (0 : Int) ≤ x8l9 ∧ Int.toNat x8l9 < xvals.length ∧ ((((xvals.getD (Int.toNat x8l9) default) != 0)) = true → K (xvals.getD (Int.toNat x8l9) default)) ∧ ((((xvals.getD (Int.toNat x8l9) default) != 0)) = false → C9 (w6 (x8l9 + 1)))) ∧ ((decide (x8l9 < (xvals.length : Int))) = false → K 0)
def corl9 (xvals : List (Int)) (K : Int → Prop) : Nat → Int → Prop
 | 0, _ => False
 | k + 1, x8l9 => corl9b xvals K x8l9 (corl9 xvals K k)
def corF (xvals : List (Int)) (K : Int → Prop) : Prop :=
 ∃ k, corl9 xvals K k 0
theorem cor_ok {g : Ghost} {axvals_0 : Option Addr} {cxvals_0 : Nat} (xvals : List (Int)) (hRxvals_0 : Rep g (.slice (.int .i64)) [.slice axvals_0 xvals.length cxvals_0] xvals) (K : Int → Prop)
  (hF : corF xvals K) : CallsH Try.prog 78 #[.slice axvals_0 xvals.length cxvals_0] g [] (fun g' H' v => ∃ (r0 : Int), v = .int .i64 r0 ∧ H' = [] ∧ K r0) := by
 refine CallsH.enter 18 [(0, .slice axvals_0 xvals.length cxvals_0)] Try.func78 rfl (by kernel_rfl) (by kernel_rfl) (by kernel_rfl) fun w0 => ?_
 refine Ok.seq (Ok.region (Ok.batch 1 [(0, .slice axvals_0 xvals.length cxvals_0)] (by kernel_rfl) (Ok.nil (Ok.thenN (Ok.seq (Ok.region (Ok.bat 1 [0] [(3, .int .i64 0)] ?_)))))))
 refine Ok.nil (Ok.thenN (Ok.seq (Ok.seq (Ok.region (Ok.bat 3 [3] [(6, .slice axvals_0 xvals.length cxvals_0), (7, .int .i64 (xvals.length : Int)), (8, .int .i64 0)] ?_)))))
 refine Ok.nil (Ok.thenN (Ok.block ?_))
 obtain ⟨k, hF⟩ := hF
 refine Ok.loop (fun k a W => ∃ (x8l9 : Int), StA 18 [(3, .int .i64 0), (6, .slice axvals_0 xvals.length cxvals_0), (7, .int .i64 (xvals.length : Int)), (8, .int .i64 x8l9)] a ∧ StW w0 [] g W ∧ corl9 xvals K k x8l9) k ?_ ?_
 ·
  exact fun a W hA hW => ⟨0, hA.sub (by kernel_rfl), hW, hF⟩
 ·
  clear hF
  rintro k9 a W ⟨x8l9, hA, hW, hF⟩
  cases k9 with
  | zero => exact (hF : False).elim
  | succ k9 =>
   refine (?_ : Ok _ _ _ _ _ _) a W hA hW
   clear hA hW
   refine Ok.seq (Ok.region (Ok.bat 1 [3, 6, 7, 8] [(9, .bool (decide (x8l9 < (xvals.length : Int))))] ?_))
   refine Ok.nil (Ok.thenN (Ok.seq (Ok.cond (b := decide (x8l9 < (xvals.length : Int))) rfl (fun hc1 => ?_) (fun hc1 => ?_))))
   ·replace hF := hF.1 hc1
    refine Ok.skip (Ok.thenN (Ok.seq (Ok.block (Ok.seq (Ok.region ?_)))))
    obtain ⟨h03, h13, hF⟩ := hF
    have he3 := get_of (l := xvals) (default : Int) h13
    generalize hg3 : (xvals.getD (Int.toNat x8l9) default) = e3 at he3 hF ⊢
    refine Ok.op rfl (OpOk.indexRo (e := .int .i64) (i := x8l9) (el := e3) rfl rfl Try.underlying61 (by kernel_rfl) hRxvals_0 h03 he3 rfl fun q2 o2 cs2 _ hat2 hr2 => ?_)
    obtain rfl := hr2
    replace hat2 : At g q2 o2 [.int .i64 e3] := hat2
    refine Ok.op rfl (OpOk.step (v := .int .i64 e3) (Yields.loadRo 0 hat2 (by kernel_rfl) Try.underlying3 rfl (by kernel_rfl)) rfl rfl (Ok.bat 1 [3, 6, 7, 8] [(5, .int .i64 e3)] ?_))
    refine Ok.nil (Ok.thenN (Ok.seq (Ok.region (Ok.bat 3 [3, 5, 6, 7, 8] [(14, .bool (e3 != 0))] ?_))))
    refine Ok.nil (Ok.thenN (Ok.cond (b := (e3 != 0)) rfl (fun hc4 => ?_) (fun hc4 => ?_)))
    ·replace hF := hF.1 hc4
     refine Ok.seq (Ok.region (Ok.batch 2 [(2, .int .i64 e3)] (by kernel_rfl) (Ok.nil (Ok.thenN (Ok.ret (Ok.blockR (Ok.thenR (Ok.thenR (Ok.blockR (Ok.thenR ?_))))))))))
     exact Ok.resH (vs := [.int .i64 e3]) (.inl rfl) rfl (.cons (.tmp rfl) .nil) (Gext.refl w0 g) ⟨e3, rfl, rfl, hF⟩
    ·replace hF := hF.2 hc4
     refine Ok.skip (Ok.blockN (Ok.thenN (Ok.region (Ok.bat 2 [3, 6, 7] [(8, .int .i64 (w6 (x8l9 + 1)))] ?_))))
     refine Ok.nil (Ok.thenN ?_)
     subst hg3
     exact fun a W hA hW => ⟨k9, Nat.lt_succ_self _, w6 (x8l9 + 1), hA.sub (by kernel_rfl), hW, hF⟩
   ·replace hF := hF.2 hc1
    refine Ok.exit (Ok.thenE (Ok.thenE (Ok.blockHit (Ok.thenN (Ok.seq (Ok.region (Ok.batch 2 [(2, .int .i64 0)] (by kernel_rfl) (Ok.nil (Ok.thenN (Ok.ret ?_))))))))))
    exact Ok.resH (vs := [.int .i64 0]) (.inl rfl) rfl (.cons (.tmp rfl) .nil) (Gext.refl w0 g) ⟨0, rfl, rfl, hF⟩
def corS (l : List Int) : Int := (l.find? (fun x => x != 0)).getD 0
def corP (l : List Int) : Prop := l.length ≤ 1000
theorem cor_F (l : List Int) (hp : corP l) : corF l (fun r => r = corS l) := by
 unfold corP at hp
 have loop : ∀ (k i : Nat), i + k = l.length → corS l = corS (l.drop i) → corl9 l (fun r => r = corS l) (k + 1) (i : Int) := by
  intro k
  induction k with
  | zero =>
   intro i h he
   rw [List.drop_of_length_le (by omega)] at he
   exact ⟨fun h => by have := of_decide_eq_true h; omega, fun _ => he.symm⟩
  | succ k ih =>
   intro i h he
   rw [drop_get (l := l) default (by omega)] at he
   refine ⟨fun _ => ⟨by omega, by omega, fun hc => ?_, fun hc => ?_⟩, fun h => by have := of_decide_eq_false h; omega⟩
   ·rw [Int.toNat_natCast] at hc ⊢
    rw [he]; unfold corS; rw [List.find?_cons, hc]; rfl
   ·rw [Int.toNat_natCast] at hc
    rw [w64 (by omega)]
    refine ih (i + 1) (by omega) ?_
    rw [he]; unfold corS; rw [List.find?_cons, hc]
 exact ⟨_, loop l.length 0 (by omega) rfl⟩
theorem cor_c {g : Ghost} {axvals_0 : Option Addr} {cxvals_0 : Nat} (xvals : List (Int)) (hRxvals_0 : Rep g (.slice (.int .i64)) [.slice axvals_0 xvals.length cxvals_0] xvals)  (hp : corP xvals) : CallsG Try.prog 78 #[.slice axvals_0 xvals.length cxvals_0] g (.int .i64 (corS xvals)) :=
 (cor_ok xvals hRxvals_0 _ (cor_F xvals hp)).gives (by rintro g' H' v _ ⟨r0, rfl, rfl, hK⟩; subst hK; rfl)
def lnul23b (xq : JL) (x15l9 : Int) (C9 : Int → (List (Int)) → Prop) (x20l23 : Int) (yown2_0l23 : List (Int)) (C23 : Int → (List (Int)) → Prop) : Prop :=
 ((decide (x20l23 < ((([xq.2.2.1, xq.2.2.2.1] : List (List (JJ))).getD (Int.toNat x15l9) []).length : Int))) = true → (0 : Int) ≤ x20l23 ∧ Int.toNat x20l23 < (([xq.2.2.1, xq.2.2.2.1] : List (List (JJ))).getD (Int.toNat x15l9) []).length ∧ (yown2_0l23 ++ ([((([xq.2.2.1, xq.2.2.2.1] : List (List (JJ))).getD (Int.toNat x15l9) []).getD (Int.toNat x20l23) default).1] : List (Int))).length ≤ 17592186044416 ∧ C23 (w6 (x20l23 + 1)) (yown2_0l23 ++ ([((([xq.2.2.1, xq.2.2.2.1] : List (List (JJ))).getD (Int.toNat x15l9) []).getD (Int.toNat x20l23) default).1] : List (Int)))) ∧ ((decide (x20l23 < ((([xq.2.2.1, xq.2.2.2.1] : List (List (JJ))).getD (Int.toNat x15l9) []).length : Int))) = false → C9 (w6 (x15l9 + 1)) yown2_0l23)
def lnul23 (xq : JL) (x15l9 : Int) (C9 : Int → (List (Int)) → Prop) : Nat → Int → (List (Int)) → Prop
 | 0, _, _ => False
 | k + 1, x20l23, yown2_0l23 => lnul23b xq x15l9 C9 x20l23 yown2_0l23 (lnul23 xq x15l9 C9 k)
def lnul41b (xq : JL) (K : (List (Int)) → Prop) (x34l41 : Int) (yown2_0l41 : List (Int)) (C41 : Int → (List (Int)) → Prop) : Prop :=
 ((decide (x34l41 < (xq.2.2.2.2.length : Int))) = true → (0 : Int) ≤ x34l41 ∧ Int.toNat x34l41 < xq.2.2.2.2.length ∧ (yown2_0l41 ++ ([(xq.2.2.2.2.getD (Int.toNat x34l41) default).1] : List (Int))).length ≤ 17592186044416 ∧ C41 (w6 (x34l41 + 1)) (yown2_0l41 ++ ([(xq.2.2.2.2.getD (Int.toNat x34l41) default).1] : List (Int)))) ∧ ((decide (x34l41 < (xq.2.2.2.2.length : Int))) = false → K yown2_0l41)
def lnul41 (xq : JL) (K : (List (Int)) → Prop) : Nat → Int → (List (Int)) → Prop
 | 0, _, _ => False
 | k + 1, x34l41, yown2_0l41 => lnul41b xq K x34l41 yown2_0l41 (lnul41 xq K k)
def lnul9b (xq : JL) (K : (List (Int)) → Prop) (x15l9 : Int) (yown2_0l9 : List (Int)) (C9 : Int → (List (Int)) → Prop) : Prop :=
 ((decide (x15l9 < 2)) = true → (0 : Int) ≤ x15l9 ∧ x15l9 < 2 ∧ ∃ k, lnul23 xq x15l9 C9 k 0 yown2_0l9) ∧ ((decide (x15l9 < 2)) = false → ∃ k, lnul41 xq K k 0 yown2_0l9)
def lnul9 (xq : JL) (K : (List (Int)) → Prop) : Nat → Int → (List (Int)) → Prop
 | 0, _, _ => False
 | k + 1, x15l9, yown2_0l9 => lnul9b xq K x15l9 yown2_0l9 (lnul9 xq K k)
def lnuF (xq : JL) (K : (List (Int)) → Prop) : Prop :=
 ∃ k, lnul9 xq K k 0 ([] : List (Int))
theorem lnu_ok {g : Ghost} {axq_0 : Option Addr} {cxq_0 : Nat} {axq_1 : Option Addr} {cxq_1 : Nat} {axq_2 : Option Addr} {cxq_2 : Nat} (xq : JL) (hRxq_0 : Rep g (.slice (.pair (.int .i64) (.pair (.int .i64) (.pair (.bool) (.pair (.str) (.pair (.int .i64) (.pair (.int .i64) (.str)))))))) [.slice axq_0 xq.2.2.1.length cxq_0] xq.2.2.1) (hRxq_1 : Rep g (.slice (.pair (.int .i64) (.pair (.int .i64) (.pair (.bool) (.pair (.str) (.pair (.int .i64) (.pair (.int .i64) (.str)))))))) [.slice axq_1 xq.2.2.2.1.length cxq_1] xq.2.2.2.1) (hRxq_2 : Rep g (.slice (.pair (.int .i64) (.pair (.int .i64) (.pair (.int .i64) (.pair (.int .i64) (.str)))))) [.slice axq_2 xq.2.2.2.2.length cxq_2] xq.2.2.2.2) (K : (List (Int)) → Prop)
  (hF : lnuF xq K) : CallsH Try.prog 46 #[.agg #[.int .i64 xq.1, .int .i64 xq.2.1, .slice axq_0 xq.2.2.1.length cxq_0, .slice axq_1 xq.2.2.2.1.length cxq_1, .slice axq_2 xq.2.2.2.2.length cxq_2]] g [] (fun g' H' v => ∃ (r0 : List (Int)), ∃ (ar0_0 : Option Addr) (cr0_0 : Nat), v = .slice ar0_0 r0.length cr0_0 ∧ Rep g' (.slice (.int .i64)) [.slice ar0_0 r0.length cr0_0] r0 ∧ H' = [] ∧ K r0) := by
 refine CallsH.enter 45 [(0, .agg #[.int .i64 xq.1, .int .i64 xq.2.1, .slice axq_0 xq.2.2.1.length cxq_0, .slice axq_1 xq.2.2.2.1.length cxq_1, .slice axq_2 xq.2.2.2.2.length cxq_2])] Try.func46 rfl (by kernel_rfl) (by kernel_rfl) (by kernel_rfl) fun w0 => ?_
 refine Ok.seq (Ok.region (Ok.op rfl (OpOk.box (v := .agg #[.int .i64 xq.1, .int .i64 xq.2.1, .slice axq_0 xq.2.2.1.length cxq_0, .slice axq_1 xq.2.2.2.1.length cxq_1, .slice axq_2 xq.2.2.2.2.length cxq_2]) (cs := #[.int .i64 xq.1, .int .i64 xq.2.1, .slice axq_0 xq.2.2.1.length cxq_0, .slice axq_1 xq.2.2.2.1.length cxq_1, .slice axq_2 xq.2.2.2.2.length cxq_2]) rfl (by kernel_rfl) rfl fun bs1 => ?_)))
 refine Ok.batch 1 [(1, pv bs1 0)] (by kernel_rfl) (Ok.nil (Ok.thenN (Ok.seq (Ok.region (Ok.bat 1 [1] [(3, .slice none 0 0)] ?_)))))
 have hL2 : RepL g (.int .i64) [] [] := rfl
 refine Ok.ownNil 3 1 (Ok.nil (Ok.thenN (Ok.seq (Ok.seq (Ok.region (Ok.bat 1 [1] [(3, .slice none ([] : List (Int)).length 0), (10, pv bs1 2)] ?_))))))
 refine Ok.op rfl (OpOk.step (v := .slice axq_0 xq.2.2.1.length cxq_0) (Yields.load 1 rfl rfl Try.underlying34 rfl (by kernel_rfl)) rfl rfl (Ok.bat 1 [1, 3] [(11, .slice axq_0 xq.2.2.1.length cxq_0), (12, pv bs1 3)] ?_))
 refine Ok.op rfl (OpOk.step (v := .slice axq_1 xq.2.2.2.1.length cxq_1) (Yields.load 1 rfl rfl Try.underlying34 rfl (by kernel_rfl)) rfl rfl (Ok.bat 2 [1, 3] [(14, .agg #[.slice axq_0 xq.2.2.1.length cxq_0, .slice axq_1 xq.2.2.2.1.length cxq_1]), (15, .int .i64 0)] ?_))
 refine Ok.nil (Ok.thenN (Ok.block ?_))
 obtain ⟨k, hF⟩ := hF
 refine Ok.loop (fun k a W => ∃ gl9 : Ghost, Gext w0 g gl9 ∧ ∃ (x15l9 : Int) (ayown2_0l9 : Option Addr) (cyown2_0l9 : Nat) (yown2_0l9 : List (Int)) (xsyown2_0l9 : List Value), RepL gl9 (.int .i64) xsyown2_0l9 yown2_0l9 ∧ StA 45 [(1, pv bs1 0), (3, .slice ayown2_0l9 yown2_0l9.length cyown2_0l9), (14, .agg #[.slice axq_0 xq.2.2.1.length cxq_0, .slice axq_1 xq.2.2.2.1.length cxq_1]), (15, .int .i64 x15l9)] a ∧ StW w0 [.own (.slice ayown2_0l9 yown2_0l9.length cyown2_0l9) 3 1 yown2_0l9.length xsyown2_0l9, .blk bs1 (.cells #[.int .i64 xq.1, .int .i64 xq.2.1, .slice axq_0 xq.2.2.1.length cxq_0, .slice axq_1 xq.2.2.2.1.length cxq_1, .slice axq_2 xq.2.2.2.2.length cxq_2] 37)] gl9 W ∧ lnul9 xq K k x15l9 yown2_0l9) k ?_ ?_
 ·
  exact fun a W hA hW => ⟨g, (Gext.refl w0 g), 0, none, 0, ([] : List (Int)), [], hL2, hA.sub (by kernel_rfl), hW, hF⟩
 ·
  clear hF
  rintro k9 a W ⟨gl9, hxl9, x15l9, ayown2_0l9, cyown2_0l9, yown2_0l9, xsyown2_0l9, hLyown2_0l9, hA, hW, hF⟩
  cases k9 with
  | zero => exact (hF : False).elim
  | succ k9 =>
   refine (?_ : Ok _ _ _ _ _ _) a W hA hW
   clear hA hW
   replace hRxq_0 := hRxq_0.mono hxl9.1
   replace hRxq_1 := hRxq_1.mono hxl9.1
   replace hRxq_2 := hRxq_2.mono hxl9.1
   refine Ok.seq (Ok.region (Ok.bat 1 [1, 3, 14, 15] [(16, .bool (decide (x15l9 < 2)))] ?_))
   refine Ok.nil (Ok.thenN (Ok.seq (Ok.cond (b := decide (x15l9 < 2)) rfl (fun hc3 => ?_) (fun hc3 => ?_))))
   ·replace hF := hF.1 hc3
    refine Ok.skip (Ok.thenN (Ok.seq (Ok.block (Ok.seq (Ok.region ?_)))))
    obtain ⟨h04, h14, hF⟩ := hF
    obtain ⟨a4, c4, he4, hR4⟩ := pick2 (e := .pair (.int .i64) (.pair (.int .i64) (.pair (.bool) (.pair (.str) (.pair (.int .i64) (.pair (.int .i64) (.str))))))) hRxq_0 hRxq_1 x15l9 h04 h14
    refine Ok.op rfl (OpOk.step (v := .slice a4 (([xq.2.2.1, xq.2.2.2.1] : List (List (JJ))).getD (Int.toNat x15l9) []).length c4) (Yields.indexAgg (i := x15l9) rfl rfl Try.underlying125 Try.underlying34 rfl (by kernel_rfl) h04 h14 he4) rfl rfl (Ok.bat 1 [1, 3, 14, 15] [(5, .slice a4 (([xq.2.2.1, xq.2.2.2.1] : List (List (JJ))).getD (Int.toNat x15l9) []).length c4)] ?_))
    refine Ok.nil (Ok.thenN (Ok.seq (Ok.region (Ok.bat 3 [1, 3, 14, 15] [(18, .slice a4 (([xq.2.2.1, xq.2.2.2.1] : List (List (JJ))).getD (Int.toNat x15l9) []).length c4), (19, .int .i64 ((([xq.2.2.1, xq.2.2.2.1] : List (List (JJ))).getD (Int.toNat x15l9) []).length : Int)), (20, .int .i64 0)] ?_))))
    refine Ok.nil (Ok.thenN (Ok.block ?_))
    obtain ⟨k, hF⟩ := hF
    refine Ok.loop (fun k a W => ∃ gl23 : Ghost, Gext w0 gl9 gl23 ∧ ∃ (x20l23 : Int) (ayown2_0l23 : Option Addr) (cyown2_0l23 : Nat) (yown2_0l23 : List (Int)) (xsyown2_0l23 : List Value), RepL gl23 (.int .i64) xsyown2_0l23 yown2_0l23 ∧ StA 45 [(1, pv bs1 0), (3, .slice ayown2_0l23 yown2_0l23.length cyown2_0l23), (14, .agg #[.slice axq_0 xq.2.2.1.length cxq_0, .slice axq_1 xq.2.2.2.1.length cxq_1]), (15, .int .i64 x15l9), (18, .slice a4 (([xq.2.2.1, xq.2.2.2.1] : List (List (JJ))).getD (Int.toNat x15l9) []).length c4), (19, .int .i64 ((([xq.2.2.1, xq.2.2.2.1] : List (List (JJ))).getD (Int.toNat x15l9) []).length : Int)), (20, .int .i64 x20l23)] a ∧ StW w0 [.own (.slice ayown2_0l23 yown2_0l23.length cyown2_0l23) 3 1 yown2_0l23.length xsyown2_0l23, .blk bs1 (.cells #[.int .i64 xq.1, .int .i64 xq.2.1, .slice axq_0 xq.2.2.1.length cxq_0, .slice axq_1 xq.2.2.2.1.length cxq_1, .slice axq_2 xq.2.2.2.2.length cxq_2] 37)] gl23 W ∧ lnul23 xq x15l9 (lnul9 xq K k9) k x20l23 yown2_0l23) k ?_ ?_
    ·
     exact fun a W hA hW => ⟨gl9, (Gext.refl w0 gl9), 0, ayown2_0l9, cyown2_0l9, yown2_0l9, xsyown2_0l9, hLyown2_0l9, hA.sub (by kernel_rfl), hW, hF⟩
    ·
     clear hF
     rintro k23 a W ⟨gl23, hxl23, x20l23, ayown2_0l23, cyown2_0l23, yown2_0l23, xsyown2_0l23, hLyown2_0l23, hA, hW, hF⟩
     cases k23 with
     | zero => exact (hF : False).elim
     | succ k23 =>
      refine (?_ : Ok _ _ _ _ _ _) a W hA hW
      clear hA hW
      replace hRxq_0 := hRxq_0.mono hxl23.1
      replace hRxq_1 := hRxq_1.mono hxl23.1
      replace hR4 := hR4.mono hxl23.1
      replace hRxq_2 := hRxq_2.mono hxl23.1
      refine Ok.seq (Ok.region (Ok.bat 1 [1, 3, 14, 15, 18, 19, 20] [(21, .bool (decide (x20l23 < ((([xq.2.2.1, xq.2.2.2.1] : List (List (JJ))).getD (Int.toNat x15l9) []).length : Int))))] ?_))
      refine Ok.nil (Ok.thenN (Ok.seq (Ok.cond (b := decide (x20l23 < ((([xq.2.2.1, xq.2.2.2.1] : List (List (JJ))).getD (Int.toNat x15l9) []).length : Int))) rfl (fun hc5 => ?_) (fun hc5 => ?_))))
      ·replace hF := hF.1 hc5
       refine Ok.skip (Ok.thenN (Ok.seq (Ok.block (Ok.seq (Ok.region ?_)))))
       obtain ⟨h07, h17, hF⟩ := hF
       have he7 := get_of (l := (([xq.2.2.1, xq.2.2.2.1] : List (List (JJ))).getD (Int.toNat x15l9) [])) (default : JJ) h17
       generalize hg7 : ((([xq.2.2.1, xq.2.2.2.1] : List (List (JJ))).getD (Int.toNat x15l9) []).getD (Int.toNat x20l23) default) = e7 at he7 hF ⊢
       refine Ok.op rfl (OpOk.indexRo (e := .pair (.int .i64) (.pair (.int .i64) (.pair (.bool) (.pair (.str) (.pair (.int .i64) (.pair (.int .i64) (.str))))))) (i := x20l23) (el := e7) rfl rfl Try.underlying34 (by kernel_rfl) hR4 h07 he7 rfl fun q6 o6 cs6 _ hat6 hr6 => ?_)
       obtain ⟨_, _, rfl, rfl, ⟨_, _, rfl, rfl, ⟨_, _, rfl, rfl, ⟨_, _, rfl, rfl, ⟨_, _, rfl, rfl, ⟨_, _, rfl, rfl, rfl⟩⟩⟩⟩⟩⟩ := hr6
       replace hat6 : At gl23 q6 o6 [.int .i64 e7.1, .int .i64 e7.2.1, .bool e7.2.2.1, sv e7.2.2.2.1, .int .i64 e7.2.2.2.2.1, .int .i64 e7.2.2.2.2.2.1, sv e7.2.2.2.2.2.2] := hat6
       refine Ok.op rfl (OpOk.step (v := .agg #[.int .i64 e7.1, .int .i64 e7.2.1, .bool e7.2.2.1, sv e7.2.2.2.1, .int .i64 e7.2.2.2.2.1, .int .i64 e7.2.2.2.2.2.1, sv e7.2.2.2.2.2.2]) (Yields.loadAggRo 0 7 #[.int .i64 e7.1, .int .i64 e7.2.1, .bool e7.2.2.1, sv e7.2.2.2.1, .int .i64 e7.2.2.2.2.1, .int .i64 e7.2.2.2.2.2.1, sv e7.2.2.2.2.2.2] hat6 (by kernel_rfl) Try.underlying43 rfl (by kernel_rfl) (by kernel_rfl) (by kernel_rfl)) rfl rfl (Ok.op rfl (OpOk.alloc (z := .agg #[.int .i64 0, .int .i64 0, .bool false, sv ([] : Bs), .int .i64 0, .int .i64 0, sv ([] : Bs)]) (cs := #[.int .i64 0, .int .i64 0, .bool false, sv ([] : Bs), .int .i64 0, .int .i64 0, sv ([] : Bs)]) (by kernel_rfl) (by kernel_rfl) rfl fun bs7 => ?_)))
       refine Ok.op rfl (OpOk.sto (k := 7) (v := .agg #[.int .i64 e7.1, .int .i64 e7.2.1, .bool e7.2.2.1, sv e7.2.2.2.1, .int .i64 e7.2.2.2.2.1, .int .i64 e7.2.2.2.2.2.1, sv e7.2.2.2.2.2.2]) 0 #[.int .i64 e7.1, .int .i64 e7.2.1, .bool e7.2.2.1, sv e7.2.2.2.1, .int .i64 e7.2.2.2.2.1, .int .i64 e7.2.2.2.2.2.1, sv e7.2.2.2.2.2.2] rfl rfl rfl ?_)
       refine Ok.nil (Ok.thenN (Ok.region (Ok.bat 2 [1, 14, 15, 18, 19, 20] [(24, .slice ayown2_0l23 yown2_0l23.length cyown2_0l23), (25, pv bs7 0)] ?_)))
       refine Ok.op rfl (OpOk.step (v := .int .i64 e7.1) (Yields.load 0 rfl rfl Try.underlying3 rfl (by kernel_rfl)) rfl rfl ?_)
       have hL9 : RepL gl23 (.int .i64) ([.int .i64 e7.1] : List Value) ([e7.1] : List (Int)) := (RepL.consN (c := [.int .i64 e7.1]) rfl rfl)
       refine Ok.op rfl (OpOk.lit (E := 3) (.int .i64) ([e7.1] : List (Int)) ([.int .i64 e7.1] : List Value) (by kernel_rfl) (by kernel_rfl) rfl (by kernel_rfl) hL9 rfl fun b9 => ?_)
       obtain ⟨hb10, hF⟩ := hF
       refine Ok.op rfl (OpOk.append' (e := .int .i64) 8 17592186044416 2 0 rfl rfl rfl rfl hLyown2_0l23 hL9 Try.underlying61 (by kernel_rfl) (by kernel_rfl) (by kernel_rfl) hb10 rfl fun a10 c10 xs10 hL10 => ?_)
       refine Ok.bat 1 [1, 14, 15, 18, 19, 20] [(3, .slice a10 (yown2_0l23 ++ ([e7.1] : List (Int))).length c10)] ?_
       refine Ok.nil (Ok.blockN (Ok.thenN (Ok.region (Ok.bat 2 [1, 3, 14, 15, 18, 19] [(20, .int .i64 (w6 (x20l23 + 1)))] ?_))))
       refine Ok.nil (Ok.thenN ?_)
       subst hg7
       exact fun a W hA hW => ⟨k23, Nat.lt_succ_self _, gl23, hxl23, w6 (x20l23 + 1), a10, c10, (yown2_0l23 ++ ([((([xq.2.2.1, xq.2.2.2.1] : List (List (JJ))).getD (Int.toNat x15l9) []).getD (Int.toNat x20l23) default).1] : List (Int))), xs10, hL10, hA.sub (by kernel_rfl), hW.sub (.cons _ (.cons _ (.cons_cons _ (.cons_cons _ .slnil)))), hF⟩
      ·replace hF := hF.2 hc5
       refine Ok.exit (Ok.thenE (Ok.thenE (Ok.blockHit (Ok.blockN (Ok.thenN (Ok.region (Ok.bat 2 [1, 3, 14] [(15, .int .i64 (w6 (x15l9 + 1)))] ?_)))))))
       refine Ok.nil (Ok.thenN ?_)
       exact fun a W hA hW => ⟨k9, Nat.lt_succ_self _, gl23, (hxl9.trans hxl23), w6 (x15l9 + 1), ayown2_0l23, cyown2_0l23, yown2_0l23, xsyown2_0l23, hLyown2_0l23, hA.sub (by kernel_rfl), hW, hF⟩
   ·replace hF := hF.2 hc3
    refine Ok.exit (Ok.thenE (Ok.thenE (Ok.blockHit (Ok.thenN (Ok.seq (Ok.seq (Ok.region (Ok.bat 1 [3] [(31, pv bs1 4)] ?_))))))))
    refine Ok.op rfl (OpOk.step (v := .slice axq_2 xq.2.2.2.2.length cxq_2) (Yields.load 1 rfl rfl Try.underlying35 rfl (by kernel_rfl)) rfl rfl (Ok.bat 2 [3] [(32, .slice axq_2 xq.2.2.2.2.length cxq_2), (33, .int .i64 (xq.2.2.2.2.length : Int)), (34, .int .i64 0)] ?_))
    refine Ok.nil (Ok.thenN (Ok.block ?_))
    obtain ⟨k, hF⟩ := hF
    refine Ok.loop (fun k a W => ∃ gl41 : Ghost, Gext w0 gl9 gl41 ∧ ∃ (x34l41 : Int) (ayown2_0l41 : Option Addr) (cyown2_0l41 : Nat) (yown2_0l41 : List (Int)) (xsyown2_0l41 : List Value), RepL gl41 (.int .i64) xsyown2_0l41 yown2_0l41 ∧ StA 45 [(3, .slice ayown2_0l41 yown2_0l41.length cyown2_0l41), (32, .slice axq_2 xq.2.2.2.2.length cxq_2), (33, .int .i64 (xq.2.2.2.2.length : Int)), (34, .int .i64 x34l41)] a ∧ StW w0 [.own (.slice ayown2_0l41 yown2_0l41.length cyown2_0l41) 3 1 yown2_0l41.length xsyown2_0l41] gl41 W ∧ lnul41 xq K k x34l41 yown2_0l41) k ?_ ?_
    ·
     exact fun a W hA hW => ⟨gl9, (Gext.refl w0 gl9), 0, ayown2_0l9, cyown2_0l9, yown2_0l9, xsyown2_0l9, hLyown2_0l9, hA.sub (by kernel_rfl), hW.sub (.cons_cons _ (.cons _ .slnil)), hF⟩
    ·
     clear hF
     rintro k41 a W ⟨gl41, hxl41, x34l41, ayown2_0l41, cyown2_0l41, yown2_0l41, xsyown2_0l41, hLyown2_0l41, hA, hW, hF⟩
     cases k41 with
     | zero => exact (hF : False).elim
     | succ k41 =>
      refine (?_ : Ok _ _ _ _ _ _) a W hA hW
      clear hA hW
      replace hRxq_2 := hRxq_2.mono hxl41.1
      refine Ok.seq (Ok.region (Ok.bat 1 [3, 32, 33, 34] [(35, .bool (decide (x34l41 < (xq.2.2.2.2.length : Int))))] ?_))
      refine Ok.nil (Ok.thenN (Ok.seq (Ok.cond (b := decide (x34l41 < (xq.2.2.2.2.length : Int))) rfl (fun hc11 => ?_) (fun hc11 => ?_))))
      ·replace hF := hF.1 hc11
       refine Ok.skip (Ok.thenN (Ok.seq (Ok.block (Ok.seq (Ok.region ?_)))))
       obtain ⟨h013, h113, hF⟩ := hF
       have he13 := get_of (l := xq.2.2.2.2) (default : JT) h113
       generalize hg13 : (xq.2.2.2.2.getD (Int.toNat x34l41) default) = e13 at he13 hF ⊢
       refine Ok.op rfl (OpOk.indexRo (e := .pair (.int .i64) (.pair (.int .i64) (.pair (.int .i64) (.pair (.int .i64) (.str))))) (i := x34l41) (el := e13) rfl rfl Try.underlying35 (by kernel_rfl) hRxq_2 h013 he13 rfl fun q12 o12 cs12 _ hat12 hr12 => ?_)
       obtain ⟨_, _, rfl, rfl, ⟨_, _, rfl, rfl, ⟨_, _, rfl, rfl, ⟨_, _, rfl, rfl, rfl⟩⟩⟩⟩ := hr12
       replace hat12 : At gl41 q12 o12 [.int .i64 e13.1, .int .i64 e13.2.1, .int .i64 e13.2.2.1, .int .i64 e13.2.2.2.1, sv e13.2.2.2.2] := hat12
       refine Ok.op rfl (OpOk.step (v := .agg #[.int .i64 e13.1, .int .i64 e13.2.1, .int .i64 e13.2.2.1, .int .i64 e13.2.2.2.1, sv e13.2.2.2.2]) (Yields.loadAggRo 0 5 #[.int .i64 e13.1, .int .i64 e13.2.1, .int .i64 e13.2.2.1, .int .i64 e13.2.2.2.1, sv e13.2.2.2.2] hat12 (by kernel_rfl) Try.underlying93 rfl (by kernel_rfl) (by kernel_rfl) (by kernel_rfl)) rfl rfl (Ok.op rfl (OpOk.alloc (z := .agg #[.int .i64 0, .int .i64 0, .int .i64 0, .int .i64 0, sv ([] : Bs)]) (cs := #[.int .i64 0, .int .i64 0, .int .i64 0, .int .i64 0, sv ([] : Bs)]) (by kernel_rfl) (by kernel_rfl) rfl fun bs9 => ?_)))
       refine Ok.op rfl (OpOk.sto (k := 5) (v := .agg #[.int .i64 e13.1, .int .i64 e13.2.1, .int .i64 e13.2.2.1, .int .i64 e13.2.2.2.1, sv e13.2.2.2.2]) 0 #[.int .i64 e13.1, .int .i64 e13.2.1, .int .i64 e13.2.2.1, .int .i64 e13.2.2.2.1, sv e13.2.2.2.2] rfl rfl rfl ?_)
       refine Ok.nil (Ok.thenN (Ok.region (Ok.bat 2 [32, 33, 34] [(38, .slice ayown2_0l41 yown2_0l41.length cyown2_0l41), (39, pv bs9 0)] ?_)))
       refine Ok.op rfl (OpOk.step (v := .int .i64 e13.1) (Yields.load 0 rfl rfl Try.underlying3 rfl (by kernel_rfl)) rfl rfl ?_)
       have hL15 : RepL gl41 (.int .i64) ([.int .i64 e13.1] : List Value) ([e13.1] : List (Int)) := (RepL.consN (c := [.int .i64 e13.1]) rfl rfl)
       refine Ok.op rfl (OpOk.lit (E := 3) (.int .i64) ([e13.1] : List (Int)) ([.int .i64 e13.1] : List Value) (by kernel_rfl) (by kernel_rfl) rfl (by kernel_rfl) hL15 rfl fun b15 => ?_)
       obtain ⟨hb16, hF⟩ := hF
       refine Ok.op rfl (OpOk.append' (e := .int .i64) 8 17592186044416 2 0 rfl rfl rfl rfl hLyown2_0l41 hL15 Try.underlying61 (by kernel_rfl) (by kernel_rfl) (by kernel_rfl) hb16 rfl fun a16 c16 xs16 hL16 => ?_)
       refine Ok.bat 1 [32, 33, 34] [(3, .slice a16 (yown2_0l41 ++ ([e13.1] : List (Int))).length c16)] ?_
       refine Ok.nil (Ok.blockN (Ok.thenN (Ok.region (Ok.bat 2 [3, 32, 33] [(34, .int .i64 (w6 (x34l41 + 1)))] ?_))))
       refine Ok.nil (Ok.thenN ?_)
       subst hg13
       exact fun a W hA hW => ⟨k41, Nat.lt_succ_self _, gl41, hxl41, w6 (x34l41 + 1), a16, c16, (yown2_0l41 ++ ([(xq.2.2.2.2.getD (Int.toNat x34l41) default).1] : List (Int))), xs16, hL16, hA.sub (by kernel_rfl), hW.sub (.cons _ (.cons _ (.cons_cons _ .slnil))), hF⟩
      ·replace hF := hF.2 hc11
       refine Ok.exit (Ok.thenE (Ok.thenE (Ok.blockHit (Ok.thenN (Ok.seq (Ok.region (Ok.batch 2 [(2, .slice ayown2_0l41 yown2_0l41.length cyown2_0l41)] (by kernel_rfl) (Ok.nil (Ok.thenN (Ok.ret (Ok.frz 0 rfl hLyown2_0l41 fun g17 hx17 hRf17 => ?_)))))))))))
       exact Ok.resH (vs := [.slice ayown2_0l41 yown2_0l41.length cyown2_0l41]) (.inl rfl) rfl (.cons (.tmp rfl) .nil) ((hxl9.trans hxl41).trans hx17) ⟨yown2_0l41, ayown2_0l41, cyown2_0l41, rfl, hRf17, rfl, hF⟩
def lnuS (q : JL) : List Int := q.2.2.1.map (·.1) ++ q.2.2.2.1.map (·.1) ++ q.2.2.2.2.map (·.1)
def lnuP (q : JL) : Prop := q.2.2.1.length ≤ 1000 ∧ q.2.2.2.1.length ≤ 1000 ∧ q.2.2.2.2.length ≤ 1000
theorem map_get {α β : Type} [Inhabited α] {f : α → β} {l : List α} {i : Nat} (h : i < l.length) : (l.drop i).map f = f (l.getD i default) :: (l.drop (i + 1)).map f := by
 rw [drop_get default h, List.map_cons]
theorem lnu_F (q : JL) (hp : lnuP q) : lnuF q (fun r => r = lnuS q) := by
 obtain ⟨h1, h2, h3⟩ := hp
 have last : ∀ (k i : Nat) (acc : List Int), i + k = q.2.2.2.2.length → acc.length + k ≤ 5000 → lnuS q = acc ++ (q.2.2.2.2.drop i).map (·.1) → lnul41 q (fun r => r = lnuS q) (k + 1) (i : Int) acc := by
  intro k
  induction k with
  | zero =>
   intro i acc h hl he
   rw [List.drop_of_length_le (by omega), List.map_nil, List.append_nil] at he
   exact ⟨fun h => by have := of_decide_eq_true h; omega, fun _ => he.symm⟩
  | succ k ih =>
   intro i acc h hl he
   rw [map_get (by omega)] at he
   refine ⟨fun _ => ⟨by omega, by omega, by rw [List.length_append, List.length_singleton]; omega, ?_⟩, fun h => by have := of_decide_eq_false h; omega⟩
   rw [w64 (by omega), Int.toNat_natCast]
   exact ih (i + 1) _ (by omega) (by rw [List.length_append, List.length_singleton]; omega) (by rw [he, List.append_assoc]; rfl)
 have inner : ∀ (j : Nat) (C : Int → List Int → Prop) (hj : (([q.2.2.1, q.2.2.2.1] : List (List JJ)).getD (Int.toNat (j : Int)) []).length ≤ 1000) (R : List Int) , C (w6 ((j : Int) + 1)) R → ∀ (k i : Nat) (acc : List Int), i + k = (([q.2.2.1, q.2.2.2.1] : List (List JJ)).getD (Int.toNat (j : Int)) []).length → acc.length + k ≤ 5000 → R = acc ++ ((([q.2.2.1, q.2.2.2.1] : List (List JJ)).getD (Int.toNat (j : Int)) []).drop i).map (·.1) → lnul23 q (j : Int) C (k + 1) (i : Int) acc := by
  intro j C hj R hC k
  induction k with
  | zero =>
   intro i acc h hl he
   rw [List.drop_of_length_le (by omega), List.map_nil, List.append_nil] at he
   subst he
   exact ⟨fun h => by have := of_decide_eq_true h; omega, fun _ => hC⟩
  | succ k ih =>
   intro i acc h hl he
   rw [map_get (by omega)] at he
   refine ⟨fun _ => ⟨by omega, by omega, by rw [List.length_append, List.length_singleton]; omega, ?_⟩, fun h => by have := of_decide_eq_false h; omega⟩
   rw [w64 (by omega), Int.toNat_natCast (n := i)]
   exact ih (i + 1) _ (by omega) (by rw [List.length_append, List.length_singleton]; omega) (by rw [he, List.append_assoc]; rfl)
 refine ⟨3, (fun _ => ⟨by omega, by omega, _, inner 0 _ h1 _ ?_ q.2.2.1.length 0 [] (by rw [Nat.zero_add]; rfl) (by rw [List.length_nil]; omega) rfl⟩), (fun h => by cases h)⟩
 refine ⟨fun _ => ⟨by decide, by decide, _, inner 1 _ h2 _ ?_ q.2.2.2.1.length 0 _ (by rw [Nat.zero_add]; rfl) (by rw [List.nil_append, List.length_map, List.length_drop]; show q.2.2.1.length - 0 + _ ≤ 5000; omega) rfl⟩, (fun h => by cases h)⟩
 refine ⟨(fun h => by cases h), fun _ => ⟨_, last q.2.2.2.2.length 0 _ (by omega) ?_ ?_⟩⟩
 ·rw [List.nil_append, List.length_append, List.length_map, List.length_map, List.length_drop, List.length_drop]
  show q.2.2.1.length - 0 + (q.2.2.2.1.length - 0) + _ ≤ 5000
  omega
 ·rfl
theorem lnu_c {g : Ghost} {axq_0 : Option Addr} {cxq_0 : Nat} {axq_1 : Option Addr} {cxq_1 : Nat} {axq_2 : Option Addr} {cxq_2 : Nat} (xq : Int × Int × (List (Int × Int × Bool × Bs × Int × Int × Bs)) × (List (Int × Int × Bool × Bs × Int × Int × Bs)) × List (Int × Int × Int × Int × Bs)) (hRxq_0 : Rep g (.slice (.pair (.int .i64) (.pair (.int .i64) (.pair (.bool) (.pair (.str) (.pair (.int .i64) (.pair (.int .i64) (.str)))))))) [.slice axq_0 xq.2.2.1.length cxq_0] xq.2.2.1) (hRxq_1 : Rep g (.slice (.pair (.int .i64) (.pair (.int .i64) (.pair (.bool) (.pair (.str) (.pair (.int .i64) (.pair (.int .i64) (.str)))))))) [.slice axq_1 xq.2.2.2.1.length cxq_1] xq.2.2.2.1) (hRxq_2 : Rep g (.slice (.pair (.int .i64) (.pair (.int .i64) (.pair (.int .i64) (.pair (.int .i64) (.str)))))) [.slice axq_2 xq.2.2.2.2.length cxq_2] xq.2.2.2.2)  (hp : lnuP xq) : CallsH Try.prog 46 #[.agg #[.int .i64 xq.1, .int .i64 xq.2.1, .slice axq_0 xq.2.2.1.length cxq_0, .slice axq_1 xq.2.2.2.1.length cxq_1, .slice axq_2 xq.2.2.2.2.length cxq_2]] g [] (fun g' H' v => ∃ (ar0_0 : Option Addr) (cr0_0 : Nat), v = .slice ar0_0 (lnuS xq).length cr0_0 ∧ Rep g' (.slice (.int .i64)) [.slice ar0_0 (lnuS xq).length cr0_0] (lnuS xq) ∧ H' = []) :=
 (lnu_ok xq hRxq_0 hRxq_1 hRxq_2 _ (lnu_F xq hp)).mono (by rintro g' H' v _ ⟨r0, ar0_0, cr0_0, rfl, hRr0_0, rfl, hK⟩; subst hK; exact ⟨ar0_0, cr0_0, rfl, hRr0_0, rfl⟩)
def lbeF (xa : JT) (xb : JT) (K : Int → Prop) : Prop :=
 corP ([(ccoM xa.2.1 xb.2.1), (ccoM xa.1 xb.1)] : List (Int)) ∧ K (corS ([(ccoM xa.2.1 xb.2.1), (ccoM xa.1 xb.1)] : List (Int)))
theorem lbe_ok {g : Ghost} (xa : JT) (xb : JT) (K : Int → Prop)
  (hF : lbeF xa xb K) : CallsH Try.prog 50 #[.agg #[.int .i64 xa.1, .int .i64 xa.2.1, .int .i64 xa.2.2.1, .int .i64 xa.2.2.2.1, sv xa.2.2.2.2], .agg #[.int .i64 xb.1, .int .i64 xb.2.1, .int .i64 xb.2.2.1, .int .i64 xb.2.2.2.1, sv xb.2.2.2.2]] g [] (fun g' H' v => ∃ (r0 : Int), v = .int .i64 r0 ∧ H' = [] ∧ K r0) := by
 refine CallsH.enter 17 [(0, .agg #[.int .i64 xa.1, .int .i64 xa.2.1, .int .i64 xa.2.2.1, .int .i64 xa.2.2.2.1, sv xa.2.2.2.2]), (1, .agg #[.int .i64 xb.1, .int .i64 xb.2.1, .int .i64 xb.2.2.1, .int .i64 xb.2.2.2.1, sv xb.2.2.2.2])] Try.func50 rfl (by kernel_rfl) (by kernel_rfl) (by kernel_rfl) fun w0 => ?_
 refine Ok.seq (Ok.region (Ok.op rfl (OpOk.box (v := .agg #[.int .i64 xa.1, .int .i64 xa.2.1, .int .i64 xa.2.2.1, .int .i64 xa.2.2.2.1, sv xa.2.2.2.2]) (cs := #[.int .i64 xa.1, .int .i64 xa.2.1, .int .i64 xa.2.2.1, .int .i64 xa.2.2.2.1, sv xa.2.2.2.2]) rfl (by kernel_rfl) rfl fun bs2 => ?_)))
 refine Ok.op rfl (OpOk.box (v := .agg #[.int .i64 xb.1, .int .i64 xb.2.1, .int .i64 xb.2.2.1, .int .i64 xb.2.2.2.1, sv xb.2.2.2.2]) (cs := #[.int .i64 xb.1, .int .i64 xb.2.1, .int .i64 xb.2.2.1, .int .i64 xb.2.2.2.1, sv xb.2.2.2.2]) rfl (by kernel_rfl) rfl fun bs3 => ?_)
 refine Ok.batch 1 [(2, pv bs2 0), (3, pv bs3 0)] (by kernel_rfl) (Ok.nil (Ok.thenN (Ok.seq (Ok.mix [] [] [.blk bs3 (.cells #[.int .i64 xb.1, .int .i64 xb.2.1, .int .i64 xb.2.2.1, .int .i64 xb.2.2.2.1, sv xb.2.2.2.2] 93), .blk bs2 (.cells #[.int .i64 xa.1, .int .i64 xa.2.1, .int .i64 xa.2.2.1, .int .i64 xa.2.2.2.1, sv xa.2.2.2.2] 93)] [(0, true), (1, true), (2, true), (3, true), (4, true), (5, true), (6, true), (7, true), (8, true), (9, true), (10, false), (11, false), (12, true)] (by kernel_rfl) (by kernel_rfl) (.cons_cons _ (.cons_cons _ .slnil)) (OkM.bat 1 [2, 3] [(5, pv bs2 1)] ?_)))))
 refine OkM.head rfl rfl (show _ = [.blk bs3 (.cells #[.int .i64 xb.1, .int .i64 xb.2.1, .int .i64 xb.2.2.1, .int .i64 xb.2.2.2.1, sv xb.2.2.2.2] 93), .blk bs2 (.cells #[.int .i64 xa.1, .int .i64 xa.2.1, .int .i64 xa.2.2.1, .int .i64 xa.2.2.2.1, sv xa.2.2.2.2] 93)] from rfl) (OpQ.step (v := .int .i64 xa.2.1) (Yields.load 1 rfl rfl Try.underlying3 rfl (by kernel_rfl)) rfl rfl (OkM.bat 1 [2, 3] [(6, .int .i64 xa.2.1), (7, pv bs3 1)] ?_))
 refine OkM.head rfl rfl (show _ = [.blk bs3 (.cells #[.int .i64 xb.1, .int .i64 xb.2.1, .int .i64 xb.2.2.1, .int .i64 xb.2.2.2.1, sv xb.2.2.2.2] 93), .blk bs2 (.cells #[.int .i64 xa.1, .int .i64 xa.2.1, .int .i64 xa.2.2.1, .int .i64 xa.2.2.2.1, sv xa.2.2.2.2] 93)] from rfl) (OpQ.step (v := .int .i64 xb.2.1) (Yields.load 0 rfl rfl Try.underlying3 rfl (by kernel_rfl)) rfl rfl (OkM.head rfl rfl (show _ = [.blk bs3 (.cells #[.int .i64 xb.1, .int .i64 xb.2.1, .int .i64 xb.2.2.1, .int .i64 xb.2.2.2.1, sv xb.2.2.2.2] 93), .blk bs2 (.cells #[.int .i64 xa.1, .int .i64 xa.2.1, .int .i64 xa.2.2.1, .int .i64 xa.2.2.2.1, sv xa.2.2.2.2] 93)] from rfl) (OpQ.callG (v := .int .i64 (ccoM xa.2.1 xb.2.1)) enr (fun W hW => cco_c xa.2.1 xb.2.1) rfl ?_)))
 refine OkM.bat 1 [3] [(9, .int .i64 (ccoM xa.2.1 xb.2.1)), (10, pv bs2 0)] ?_
 refine OkM.head rfl rfl (show _ = [.blk bs3 (.cells #[.int .i64 xb.1, .int .i64 xb.2.1, .int .i64 xb.2.2.1, .int .i64 xb.2.2.2.1, sv xb.2.2.2.2] 93), .blk bs2 (.cells #[.int .i64 xa.1, .int .i64 xa.2.1, .int .i64 xa.2.2.1, .int .i64 xa.2.2.2.1, sv xa.2.2.2.2] 93)] from rfl) (OpQ.step (v := .int .i64 xa.1) (Yields.load 1 rfl rfl Try.underlying3 rfl (by kernel_rfl)) rfl rfl (OkM.bat 1 [9] [(11, .int .i64 xa.1), (12, pv bs3 0)] ?_))
 refine OkM.head rfl rfl (show _ = [.blk bs3 (.cells #[.int .i64 xb.1, .int .i64 xb.2.1, .int .i64 xb.2.2.1, .int .i64 xb.2.2.2.1, sv xb.2.2.2.2] 93), .blk bs2 (.cells #[.int .i64 xa.1, .int .i64 xa.2.1, .int .i64 xa.2.2.1, .int .i64 xa.2.2.2.1, sv xa.2.2.2.2] 93)] from rfl) (OpQ.step (v := .int .i64 xb.1) (Yields.load 0 rfl rfl Try.underlying3 rfl (by kernel_rfl)) rfl rfl (OkM.head rfl rfl (show _ = [.blk bs3 (.cells #[.int .i64 xb.1, .int .i64 xb.2.1, .int .i64 xb.2.2.1, .int .i64 xb.2.2.2.1, sv xb.2.2.2.2] 93), .blk bs2 (.cells #[.int .i64 xa.1, .int .i64 xa.2.1, .int .i64 xa.2.2.1, .int .i64 xa.2.2.2.1, sv xa.2.2.2.2] 93)] from rfl) (OpQ.callG (v := .int .i64 (ccoM xa.1 xb.1)) enr (fun W hW => cco_c xa.1 xb.1) rfl ?_)))
 have hL3 : RepL g (.int .i64) ([.int .i64 (ccoM xa.2.1 xb.2.1), .int .i64 (ccoM xa.1 xb.1)] : List Value) ([(ccoM xa.2.1 xb.2.1), (ccoM xa.1 xb.1)] : List (Int)) := (RepL.consN (c := [.int .i64 (ccoM xa.2.1 xb.2.1)]) rfl (RepL.consN (c := [.int .i64 (ccoM xa.1 xb.1)]) rfl rfl))
 refine OkM.tail rfl rfl (OpOk.lit (E := 3) (.int .i64) ([(ccoM xa.2.1 xb.2.1), (ccoM xa.1 xb.1)] : List (Int)) ([.int .i64 (ccoM xa.2.1 xb.2.1), .int .i64 (ccoM xa.1 xb.1)] : List Value) (by kernel_rfl) (by kernel_rfl) rfl (by kernel_rfl) hL3 rfl fun b3 => ?_)
 refine OkM.leaf (i := 10) (show _ = [.blk bs3 (.cells #[.int .i64 xb.1, .int .i64 xb.2.1, .int .i64 xb.2.2.1, .int .i64 xb.2.2.2.1, sv xb.2.2.2.2] 93), .blk bs2 (.cells #[.int .i64 xa.1, .int .i64 xa.2.1, .int .i64 xa.2.2.1, .int .i64 xa.2.2.2.1, sv xa.2.2.2.2] 93)] from rfl) (Gle.refl _) (.cons _ (.cons_cons _ (.cons_cons _ .slnil))) ?_
 obtain ⟨hp4, hF⟩ := hF
 refine OkM.tail rfl rfl (OpOk.callG (v := .int .i64 (corS ([(ccoM xa.2.1 xb.2.1), (ccoM xa.1 xb.1)] : List (Int)))) enr (fun W hW => cor_c ([(ccoM xa.2.1 xb.2.1), (ccoM xa.1 xb.1)] : List (Int)) (hW.seeOwn 0 rfl hL3) hp4) rfl ?_)
 refine OkM.leaf (i := 11) (show _ = [.blk bs3 (.cells #[.int .i64 xb.1, .int .i64 xb.2.1, .int .i64 xb.2.2.1, .int .i64 xb.2.2.2.1, sv xb.2.2.2.2] 93), .blk bs2 (.cells #[.int .i64 xa.1, .int .i64 xa.2.1, .int .i64 xa.2.2.1, .int .i64 xa.2.2.2.1, sv xa.2.2.2.2] 93)] from rfl) (Gle.refl _) (.cons _ (.cons_cons _ (.cons_cons _ .slnil))) (OkM.batch 1 [(4, .int .i64 (corS ([(ccoM xa.2.1 xb.2.1), (ccoM xa.1 xb.1)] : List (Int))))] (by kernel_rfl) (OkM.nil (Ok.thenN (Ok.ret ?_))))
 exact Ok.resP (vs := [.int .i64 (corS ([(ccoM xa.2.1 xb.2.1), (ccoM xa.1 xb.1)] : List (Int)))]) [] [] (by decide) rfl (.inl rfl) rfl (.cons (.tmp rfl) .nil) (Gext.refl w0 g) ⟨(corS ([(ccoM xa.2.1 xb.2.1), (ccoM xa.1 xb.1)] : List (Int))), rfl, rfl, hF⟩
def lbeS (a b : JT) : Int := corS [ccoM a.2.1 b.2.1, ccoM a.1 b.1]
theorem lbe_F (a b : JT) : lbeF a b (fun r => r = lbeS a b) := ⟨by unfold corP; simp, rfl⟩
theorem lbe_c {g : Ghost} (xa : Int × Int × Int × Int × Bs) (xb : Int × Int × Int × Int × Bs)  : CallsG Try.prog 50 #[.agg #[.int .i64 xa.1, .int .i64 xa.2.1, .int .i64 xa.2.2.1, .int .i64 xa.2.2.2.1, sv xa.2.2.2.2], .agg #[.int .i64 xb.1, .int .i64 xb.2.1, .int .i64 xb.2.2.1, .int .i64 xb.2.2.2.1, sv xb.2.2.2.2]] g (.int .i64 (lbeS xa xb)) :=
 (lbe_ok xa xb _ (lbe_F xa xb)).gives (by rintro g' H' v _ ⟨r0, rfl, rfl, hK⟩; subst hK; rfl)
/-! the order of timers -/
def ltT (a b : JT) : Prop := a.2.1 < b.2.1 ∨ a.2.1 = b.2.1 ∧ a.1 < b.1
theorem ltT_trans {a b c : JT} (h1 : ltT a b) (h2 : ltT b c) : ltT a c := by unfold ltT at *; omega
theorem cco_eq (x y : Int) : ccoM x y = if x < y then -1 else if x > y then 1 else 0 := by
 have hn : ∀ z : Int, cnaM z = false := fun z => by unfold cnaM; simp
 unfold ccoM
 rw [if_f (hn x), if_f (hn y)]
 by_cases h1 : x < y
 ·rw [if_t (decide_eq_true h1), if_pos h1]
 ·rw [if_f (decide_eq_false h1), if_neg h1]
  by_cases h2 : x > y
  ·rw [if_t (decide_eq_true h2), if_pos h2]
  ·rw [if_f (decide_eq_false h2), if_neg h2]
theorem lbe_lt (a b : JT) : lbeS a b < 0 ↔ ltT a b := by
 unfold lbeS corS ltT
 rw [cco_eq, cco_eq]
 simp only [List.find?_cons, List.find?_nil]
 split <;> rename_i h1
 ·simp at h1
  split at h1
  ·rename_i h; rw [if_pos h]; simp; omega
  ·rename_i h
   split at h1
   ·rename_i h2; rw [if_neg h, if_pos h2]; simp; omega
   ·cases h1 rfl
 ·split <;> rename_i h2
  ·split at h1
   ·cases h1
   ·rename_i h
    split at h1
    ·cases h1
    ·split at h2
     ·rename_i h3; rw [if_pos h3]; simp; omega
     ·rename_i h3
      split at h2
      ·rename_i h4; rw [if_neg h3, if_pos h4]; simp; omega
      ·cases h2
  ·split at h1
   ·cases h1
   ·rename_i h
    split at h1
    ·cases h1
    ·split at h2
     ·cases h2
     ·split at h2
      ·cases h2
      ·simp; omega
/-! what a right loop is -/
structure GQ (q : JL) : Prop where
 now : 0 ≤ q.1 ∧ q.1 ≤ 1000000000
 next : 0 ≤ q.2.1 ∧ q.2.1 ≤ 1000000000
 ids : ∀ x ∈ lnuS q, 0 ≤ x ∧ x < q.2.1
 once : (lnuS q).Nodup
 tasks : ∀ j ∈ q.2.2.1, (1 ≤ j.2.1 ∧ j.2.1 ≤ 4) ∧ j.2.2.1 = false
 smalls : ∀ j ∈ q.2.2.2.1, j.2.1 = 0 ∧ j.2.2.1 = true
 timers : ∀ t ∈ q.2.2.2.2, (q.1 ≤ t.2.1 ∧ t.2.1 ≤ 1000000000) ∧ (0 ≤ t.2.2.1 ∧ t.2.2.1 ≤ 1000000000) ∧ 0 ≤ t.2.2.2.1 ∧ t.2.2.2.1 ≤ 1000000000
 order : q.2.2.2.2.Pairwise ltT
def big (q : JL) : Prop := 100 < q.2.2.1.length ∨ 100 < q.2.2.2.1.length ∨ 100 < q.2.2.2.2.length
noncomputable def lchS (q : JL) : Int := by
 classical
 exact if big q then 2 else if GQ q then 0 else 3
theorem lch_big {q : JL} (h : big q) : lchS q = 2 := by unfold lchS; rw [if_pos h]
theorem lch_ryt {q : JL} (h : ¬ big q) (hg : GQ q) : lchS q = 0 := by unfold lchS; rw [if_neg h, if_pos hg]
theorem lch_nay {q : JL} (h : ¬ big q) (hg : ¬ GQ q) : lchS q = 3 := by unfold lchS; rw [if_neg h, if_neg hg]
theorem lch_zero {q : JL} (h : lchS q = 0) : ¬ big q ∧ GQ q := by
 by_cases h1 : big q
 ·rw [lch_big h1] at h; cases h
 ·by_cases h2 : GQ q
  ·exact ⟨h1, h2⟩
  ·rw [lch_nay h1 h2] at h; cases h
theorem assoc_put {κ V : Type} [BEq κ] [LawfulBEq κ] (k k' : κ) (v : V) : ∀ m : List (κ × V), assocK k' (putK k v m) = if (k' == k) = true then some v else assocK k' m
 | [] => by
  rw [putK, assocK, assocK]; rfl
 | x :: m => by
  rw [putK]
  by_cases h : (k == x.1) = true
  ·rw [if_pos h, assocK, assocK]
   have := eq_of_beq h
   subst this
   split <;> rfl
  ·rw [if_neg h, assocK, assoc_put k k' v m, assocK]
   by_cases h2 : (k' == x.1) = true
   ·rw [if_pos h2, if_pos h2]
    have := eq_of_beq h2
    subst this
    rw [if_neg (fun h3 => h (by rw [← eq_of_beq h3]; exact beq_self_eq_true _))]
   ·rw [if_neg h2, if_neg h2]
theorem lwi_iff (x a b : Int) : lwiM x a b = true ↔ a ≤ x ∧ x ≤ b := by
 unfold lwiM
 rw [Bool.and_eq_true, decide_eq_true_eq, decide_eq_true_eq]
theorem nlwi_iff (x a b : Int) : (!(lwiM x a b)) = true ↔ ¬ (a ≤ x ∧ x ≤ b) := by
 rw [← lwi_iff]; simp
theorem nlwi_no {x a b : Int} (h : (!(lwiM x a b)) = false) : a ≤ x ∧ x ≤ b := by
 rw [← lwi_iff]; simpa using h
theorem nodup_snoc {α : Type} {l : List α} {x : α} (h : l.Nodup) (hx : x ∉ l) : (l ++ [x]).Nodup := by
 rw [List.nodup_append]
 refine ⟨h, by simp, fun a ha b hb => ?_⟩
 rw [List.mem_singleton] at hb
 subst hb
 intro e
 subst e
 exact hx ha
theorem not_nodup {α : Type} [Inhabited α] {l : List α} {i : Nat} (hi : i < l.length) (h : l.getD i default ∈ l.take i) : ¬ l.Nodup := fun hn => by
 have h2 : (l.take (i + 1)).Nodup := hn.sublist (List.take_sublist _ _)
 rw [take_get default hi, List.nodup_append] at h2
 exact h2.2.2 _ h _ (List.mem_singleton.2 rfl) rfl
theorem pair_snoc {l : List JT} {k : Nat} (hk : k < l.length) (hp : (l.take k).Pairwise ltT) (h : 0 < k → ltT (l.getD (k - 1) default) (l.getD k default)) : (l.take (k + 1)).Pairwise ltT := by
 rw [take_get default hk, List.pairwise_append]
 refine ⟨hp, List.pairwise_singleton _ _, fun s hs t ht => ?_⟩
 rw [List.mem_singleton] at ht
 subst ht
 cases k with
 | zero => simp at hs
 | succ k =>
  have h1 := h (by omega)
  rw [Nat.add_sub_cancel] at h1
  rw [take_get default (show k < l.length by omega)] at hs hp
  rcases List.mem_append.1 hs with hs | hs
  ·rw [List.pairwise_append] at hp
   exact ltT_trans (hp.2.2 s hs _ (List.mem_singleton.2 rfl)) h1
  ·rw [List.mem_singleton] at hs
   subst hs; exact h1
theorem pair_get {l : List JT} (hp : l.Pairwise ltT) {i j : Nat} (hij : i < j) (hj : j < l.length) : ltT (l.getD i default) (l.getD j default) := by
 rw [List.pairwise_iff_getElem] at hp
 rw [List.getD_eq_getElem?_getD, List.getD_eq_getElem?_getD, List.getElem?_eq_getElem (by omega), List.getElem?_eq_getElem hj]
 exact hp i j (by omega) hj hij
def lc1j3 (xj : JJ) (K : Bool → Prop) : Prop :=
 K (xj.2.2.1 || (!(lwiM xj.2.1 1 4)))
def lc1F (xj : JJ) (K : Bool → Prop) : Prop :=
 ((xj.2.2.1) = true → lc1j3 xj K) ∧ ((xj.2.2.1) = false → lc1j3 xj K)
theorem lc1_ok {g : Ghost} (xj : JJ) (K : Bool → Prop)
  (hF : lc1F xj K) : CallsH Try.prog 48 #[.agg #[.int .i64 xj.1, .int .i64 xj.2.1, .bool xj.2.2.1, sv xj.2.2.2.1, .int .i64 xj.2.2.2.2.1, .int .i64 xj.2.2.2.2.2.1, sv xj.2.2.2.2.2.2]] g [] (fun g' H' v => ∃ (r0 : Bool), v = .bool r0 ∧ H' = [] ∧ K r0) := by
 refine CallsH.enter 11 [(0, .agg #[.int .i64 xj.1, .int .i64 xj.2.1, .bool xj.2.2.1, sv xj.2.2.2.1, .int .i64 xj.2.2.2.2.1, .int .i64 xj.2.2.2.2.2.1, sv xj.2.2.2.2.2.2])] Try.func48 rfl (by kernel_rfl) (by kernel_rfl) (by kernel_rfl) fun w0 => ?_
 refine Ok.seq (Ok.region (Ok.op rfl (OpOk.box (v := .agg #[.int .i64 xj.1, .int .i64 xj.2.1, .bool xj.2.2.1, sv xj.2.2.2.1, .int .i64 xj.2.2.2.2.1, .int .i64 xj.2.2.2.2.2.1, sv xj.2.2.2.2.2.2]) (cs := #[.int .i64 xj.1, .int .i64 xj.2.1, .bool xj.2.2.1, sv xj.2.2.2.1, .int .i64 xj.2.2.2.2.1, .int .i64 xj.2.2.2.2.2.1, sv xj.2.2.2.2.2.2]) rfl (by kernel_rfl) rfl fun bs1 => ?_)))
 refine Ok.batch 1 [(1, pv bs1 0)] (by kernel_rfl) (Ok.nil (Ok.thenN (Ok.cut (fun a W => StA 11 [(2, .bool (xj.2.2.1 || (!(lwiM xj.2.1 1 4))))] a ∧ StW w0 [] g W ∧ lc1j3 xj K) ?_ ?_)))
 ·
  refine Ok.region (Ok.bat 1 [1] [(3, pv bs1 2)] ?_)
  refine Ok.op rfl (OpOk.step (v := .bool xj.2.2.1) (Yields.load 0 rfl rfl Try.underlying4 rfl (by kernel_rfl)) rfl rfl (Ok.bat 1 [1] [(5, .bool xj.2.2.1)] ?_))
  refine Ok.boolAt 5 (xj.2.2.1) rfl (fun hc2 => ?_) (fun hc2 => ?_)
  ·replace hF := hF.1 hc2
   refine Ok.batch 6 [(2, .bool true)] (by kernel_rfl) (Ok.nil (Ok.thenN (Ok.reval 2 rfl (show (.bool true : Value) = .bool (xj.2.2.1 || (!(lwiM xj.2.1 1 4))) from congrArg (Value.bool) (mor_t hc2)) ?_)))
   exact fun a W hA hW => ⟨hA.sub (by kernel_rfl), hW.sub (.cons _ .slnil), hF⟩
  ·replace hF := hF.2 hc2
   refine Ok.batch 1 [(5, .bool false), (6, pv bs1 1)] (by kernel_rfl) (Ok.opYes (j := 2) (d := 5) (want := false) (b := false) rfl (by kernel_rfl) (by kernel_rfl) rfl (OpOk.step (v := .int .i64 xj.2.1) (Yields.load 0 rfl rfl Try.underlying3 rfl (by kernel_rfl)) rfl rfl (Ok.opYes (j := 2) (d := 5) (want := false) (b := false) rfl (by kernel_rfl) (by kernel_rfl) rfl (OpOk.callG (v := .bool (lwiM xj.2.1 1 4)) enr (fun W hW => lwi_c xj.2.1 1 4) rfl ?_))))
   refine Ok.batch 3 [(2, .bool (!(lwiM xj.2.1 1 4)))] (by kernel_rfl) (Ok.nil (Ok.thenN (Ok.reval 2 rfl (show (.bool (!(lwiM xj.2.1 1 4)) : Value) = .bool (xj.2.2.1 || (!(lwiM xj.2.1 1 4))) from congrArg (Value.bool) (mor_f hc2)) ?_)))
   exact fun a W hA hW => ⟨hA.sub (by kernel_rfl), hW.sub (.cons _ .slnil), hF⟩
 ·
  clear hF
  rintro a W ⟨hA, hW, hF⟩
  refine (?_ : Ok _ _ _ _ _ _) a W hA hW
  clear hA hW
  refine Ok.ret ?_
  exact Ok.resH (vs := [.bool (xj.2.2.1 || (!(lwiM xj.2.1 1 4)))]) (.inl rfl) rfl (.cons (.tmp rfl) .nil) (Gext.refl w0 g) ⟨(xj.2.2.1 || (!(lwiM xj.2.1 1 4))), rfl, rfl, hF⟩
def lc1j3M (xj : Int × Int × Bool × Bs × Int × Int × Bs) : Bool := (xj.2.2.1 || (!(lwiM xj.2.1 1 4)))
theorem lc1j3_A (xj : Int × Int × Bool × Bs × Int × Int × Bs) (P : Bool → Prop) (h : P (lc1j3M xj)) : lc1j3 xj (fun k0 => P k0) := by
 unfold lc1j3M at h
 unfold lc1j3
 exact h
def lc1M (xj : Int × Int × Bool × Bs × Int × Int × Bs) : Bool := (lc1j3M xj)
theorem lc1F_A (xj : Int × Int × Bool × Bs × Int × Int × Bs) (P : Bool → Prop) (h : P (lc1M xj)) : lc1F xj (fun k0 => P k0) := by
 unfold lc1M at h
 unfold lc1F
 refine ⟨fun hc0 => ?_, fun hc0 => ?_⟩
 ·skip
  exact lc1j3_A xj _ h
 ·skip
  exact lc1j3_A xj _ h
theorem lc1_F (xj : Int × Int × Bool × Bs × Int × Int × Bs) : lc1F xj (fun k0 => k0 = lc1M xj) :=
 lc1F_A xj (fun z => z = lc1M xj) rfl
theorem lc1_c {g : Ghost} (xj : Int × Int × Bool × Bs × Int × Int × Bs)  : CallsG Try.prog 48 #[.agg #[.int .i64 xj.1, .int .i64 xj.2.1, .bool xj.2.2.1, sv xj.2.2.2.1, .int .i64 xj.2.2.2.2.1, .int .i64 xj.2.2.2.2.2.1, sv xj.2.2.2.2.2.2]] g (.bool (lc1M xj)) :=
 (lc1_ok xj _ (lc1_F xj)).gives (by rintro g' H' v _ ⟨r0, rfl, rfl, hK⟩; subst hK; rfl)
def lc2j3 (xj : JJ) (K : Bool → Prop) : Prop :=
 K ((!xj.2.2.1) || (xj.2.1 != 0))
def lc2F (xj : JJ) (K : Bool → Prop) : Prop :=
 ((!xj.2.2.1) = true → lc2j3 xj K) ∧ ((!xj.2.2.1) = false → lc2j3 xj K)
theorem lc2_ok {g : Ghost} (xj : JJ) (K : Bool → Prop)
  (hF : lc2F xj K) : CallsH Try.prog 49 #[.agg #[.int .i64 xj.1, .int .i64 xj.2.1, .bool xj.2.2.1, sv xj.2.2.2.1, .int .i64 xj.2.2.2.2.1, .int .i64 xj.2.2.2.2.2.1, sv xj.2.2.2.2.2.2]] g [] (fun g' H' v => ∃ (r0 : Bool), v = .bool r0 ∧ H' = [] ∧ K r0) := by
 refine CallsH.enter 11 [(0, .agg #[.int .i64 xj.1, .int .i64 xj.2.1, .bool xj.2.2.1, sv xj.2.2.2.1, .int .i64 xj.2.2.2.2.1, .int .i64 xj.2.2.2.2.2.1, sv xj.2.2.2.2.2.2])] Try.func49 rfl (by kernel_rfl) (by kernel_rfl) (by kernel_rfl) fun w0 => ?_
 refine Ok.seq (Ok.region (Ok.op rfl (OpOk.box (v := .agg #[.int .i64 xj.1, .int .i64 xj.2.1, .bool xj.2.2.1, sv xj.2.2.2.1, .int .i64 xj.2.2.2.2.1, .int .i64 xj.2.2.2.2.2.1, sv xj.2.2.2.2.2.2]) (cs := #[.int .i64 xj.1, .int .i64 xj.2.1, .bool xj.2.2.1, sv xj.2.2.2.1, .int .i64 xj.2.2.2.2.1, .int .i64 xj.2.2.2.2.2.1, sv xj.2.2.2.2.2.2]) rfl (by kernel_rfl) rfl fun bs1 => ?_)))
 refine Ok.batch 1 [(1, pv bs1 0)] (by kernel_rfl) (Ok.nil (Ok.thenN (Ok.cut (fun a W => StA 11 [(2, .bool ((!xj.2.2.1) || (xj.2.1 != 0)))] a ∧ StW w0 [] g W ∧ lc2j3 xj K) ?_ ?_)))
 ·
  refine Ok.region (Ok.bat 1 [1] [(3, pv bs1 2)] ?_)
  refine Ok.op rfl (OpOk.step (v := .bool xj.2.2.1) (Yields.load 0 rfl rfl Try.underlying4 rfl (by kernel_rfl)) rfl rfl (Ok.bat 2 [1] [(6, .bool (!xj.2.2.1))] ?_))
  refine Ok.boolAt 6 (!xj.2.2.1) rfl (fun hc2 => ?_) (fun hc2 => ?_)
  ·replace hF := hF.1 hc2
   refine Ok.batch 5 [(2, .bool true)] (by kernel_rfl) (Ok.nil (Ok.thenN (Ok.reval 2 rfl (show (.bool true : Value) = .bool ((!xj.2.2.1) || (xj.2.1 != 0)) from congrArg (Value.bool) (mor_t hc2)) ?_)))
   exact fun a W hA hW => ⟨hA.sub (by kernel_rfl), hW.sub (.cons _ .slnil), hF⟩
  ·replace hF := hF.2 hc2
   refine Ok.batch 1 [(6, .bool false), (7, pv bs1 1)] (by kernel_rfl) (Ok.opYes (j := 3) (d := 6) (want := false) (b := false) rfl (by kernel_rfl) (by kernel_rfl) rfl (OpOk.step (v := .int .i64 xj.2.1) (Yields.load 0 rfl rfl Try.underlying3 rfl (by kernel_rfl)) rfl rfl (Ok.batch 3 [(2, .bool (xj.2.1 != 0))] (by kernel_rfl) (Ok.nil (Ok.thenN (Ok.reval 2 rfl (show (.bool (xj.2.1 != 0) : Value) = .bool ((!xj.2.2.1) || (xj.2.1 != 0)) from congrArg (Value.bool) (mor_f hc2)) ?_))))))
   exact fun a W hA hW => ⟨hA.sub (by kernel_rfl), hW.sub (.cons _ .slnil), hF⟩
 ·
  clear hF
  rintro a W ⟨hA, hW, hF⟩
  refine (?_ : Ok _ _ _ _ _ _) a W hA hW
  clear hA hW
  refine Ok.ret ?_
  exact Ok.resH (vs := [.bool ((!xj.2.2.1) || (xj.2.1 != 0))]) (.inl rfl) rfl (.cons (.tmp rfl) .nil) (Gext.refl w0 g) ⟨((!xj.2.2.1) || (xj.2.1 != 0)), rfl, rfl, hF⟩
def lc2j3M (xj : Int × Int × Bool × Bs × Int × Int × Bs) : Bool := ((!xj.2.2.1) || (xj.2.1 != 0))
theorem lc2j3_A (xj : Int × Int × Bool × Bs × Int × Int × Bs) (P : Bool → Prop) (h : P (lc2j3M xj)) : lc2j3 xj (fun k0 => P k0) := by
 unfold lc2j3M at h
 unfold lc2j3
 exact h
def lc2M (xj : Int × Int × Bool × Bs × Int × Int × Bs) : Bool := (lc2j3M xj)
theorem lc2F_A (xj : Int × Int × Bool × Bs × Int × Int × Bs) (P : Bool → Prop) (h : P (lc2M xj)) : lc2F xj (fun k0 => P k0) := by
 unfold lc2M at h
 unfold lc2F
 refine ⟨fun hc0 => ?_, fun hc0 => ?_⟩
 ·skip
  exact lc2j3_A xj _ h
 ·skip
  exact lc2j3_A xj _ h
theorem lc2_F (xj : Int × Int × Bool × Bs × Int × Int × Bs) : lc2F xj (fun k0 => k0 = lc2M xj) :=
 lc2F_A xj (fun z => z = lc2M xj) rfl
theorem lc2_c {g : Ghost} (xj : Int × Int × Bool × Bs × Int × Int × Bs)  : CallsG Try.prog 49 #[.agg #[.int .i64 xj.1, .int .i64 xj.2.1, .bool xj.2.2.1, sv xj.2.2.2.1, .int .i64 xj.2.2.2.2.1, .int .i64 xj.2.2.2.2.2.1, sv xj.2.2.2.2.2.2]] g (.bool (lc2M xj)) :=
 (lc2_ok xj _ (lc2_F xj)).gives (by rintro g' H' v _ ⟨r0, rfl, rfl, hK⟩; subst hK; rfl)
def lchV0 (xq : JL) : Bool :=
 ((!(lwiM xq.1 0 1000000000)) || (!(lwiM xq.2.1 0 1000000000)))
def lchV4 (xq : JL) (x61l66 : Int) (e20 : JT) : Bool :=
 ((!(lwiM e20.2.1 xq.1 1000000000)) || ((!(lwiM e20.2.2.1 0 1000000000)) || ((!(lwiM e20.2.2.2.1 0 1000000000)) || ((decide (x61l66 > 0)) && (decide ((lbeS (xq.2.2.2.2.getD (Int.toNat (w6 (x61l66 - 1))) default) e20) ≥ 0))))))
def lchj37 (xq : JL) (K : Int → Prop) (x48j37 : Bool) (x33l25 : Int) (yb4_0l25 : List ((Int) × (Int))) (C25 : Int → (List ((Int) × (Int))) → Prop) : Prop :=
 ((x48j37) = true → K 3) ∧ ((x48j37) = false → C25 (w6 (x33l25 + 1)) (putK ((lnuS xq).getD (Int.toNat x33l25) default) 1 yb4_0l25))
def lchj77 (xq : JL) (K : Int → Prop) (x61l66 : Int) (e20 : JT) (C66 : Int → Prop) : Prop :=
 (((lchV4 xq x61l66 e20)) = true → K 3) ∧ (((lchV4 xq x61l66 e20)) = false → C66 (w6 (x61l66 + 1)))
def lchl66b (xq : JL) (K : Int → Prop) (x61l66 : Int) (C66 : Int → Prop) : Prop :=
 ((decide (x61l66 < (xq.2.2.2.2.length : Int))) = true → (0 : Int) ≤ x61l66 ∧ Int.toNat x61l66 < xq.2.2.2.2.length ∧ ((!(lwiM (xq.2.2.2.2.getD (Int.toNat x61l66) default).2.1 xq.1 1000000000)) = true → lchj77 xq K x61l66 (xq.2.2.2.2.getD (Int.toNat x61l66) default) C66) ∧ ((!(lwiM (xq.2.2.2.2.getD (Int.toNat x61l66) default).2.1 xq.1 1000000000)) = false → ((!(lwiM (xq.2.2.2.2.getD (Int.toNat x61l66) default).2.2.1 0 1000000000)) = true → lchj77 xq K x61l66 (xq.2.2.2.2.getD (Int.toNat x61l66) default) C66) ∧ ((!(lwiM (xq.2.2.2.2.getD (Int.toNat x61l66) default).2.2.1 0 1000000000)) = false → ((!(lwiM (xq.2.2.2.2.getD (Int.toNat x61l66) default).2.2.2.1 0 1000000000)) = true → lchj77 xq K x61l66 (xq.2.2.2.2.getD (Int.toNat x61l66) default) C66) ∧ ((!(lwiM (xq.2.2.2.2.getD (Int.toNat x61l66) default).2.2.2.1 0 1000000000)) = false → ((decide (x61l66 > 0)) = true → (0 : Int) ≤ (w6 (x61l66 - 1)) ∧ Int.toNat (w6 (x61l66 - 1)) < xq.2.2.2.2.length ∧ lchj77 xq K x61l66 (xq.2.2.2.2.getD (Int.toNat x61l66) default) C66) ∧ ((decide (x61l66 > 0)) = false → lchj77 xq K x61l66 (xq.2.2.2.2.getD (Int.toNat x61l66) default) C66))))) ∧ ((decide (x61l66 < (xq.2.2.2.2.length : Int))) = false → K 0)
def lchl66 (xq : JL) (K : Int → Prop) : Nat → Int → Prop
 | 0, _ => False
 | k + 1, x61l66 => lchl66b xq K x61l66 (lchl66 xq K k)
def lchl25b (xq : JL) (K : Int → Prop) (x33l25 : Int) (yb4_0l25 : List ((Int) × (Int))) (C25 : Int → (List ((Int) × (Int))) → Prop) : Prop :=
 ((decide (x33l25 < ((lnuS xq).length : Int))) = true → (0 : Int) ≤ x33l25 ∧ Int.toNat x33l25 < (lnuS xq).length ∧ ((!(lwiM ((lnuS xq).getD (Int.toNat x33l25) default) 0 (w6 (xq.2.1 - 1)))) = true → lchj37 xq K true x33l25 yb4_0l25 C25) ∧ ((!(lwiM ((lnuS xq).getD (Int.toNat x33l25) default) 0 (w6 (xq.2.1 - 1)))) = false → (∀ e13 : Int, assocK ((lnuS xq).getD (Int.toNat x33l25) default) yb4_0l25 = some e13 → lchj37 xq K (e13 == 1) x33l25 yb4_0l25 C25) ∧ (assocK ((lnuS xq).getD (Int.toNat x33l25) default) yb4_0l25 = none → lchj37 xq K false x33l25 yb4_0l25 C25))) ∧ ((decide (x33l25 < ((lnuS xq).length : Int))) = false → jcoP xq.2.2.1 (fun y0 => lc1M y0) (fun _ => True) ∧ (((jcoS xq.2.2.1 (fun y0 => lc1M y0))) = true → K 3) ∧ (((jcoS xq.2.2.1 (fun y0 => lc1M y0))) = false → jcoP xq.2.2.2.1 (fun y0 => lc2M y0) (fun _ => True) ∧ (((jcoS xq.2.2.2.1 (fun y0 => lc2M y0))) = true → K 3) ∧ (((jcoS xq.2.2.2.1 (fun y0 => lc2M y0))) = false → ∃ k, lchl66 xq K k 0)))
def lchl25 (xq : JL) (K : Int → Prop) : Nat → Int → (List ((Int) × (Int))) → Prop
 | 0, _, _ => False
 | k + 1, x33l25, yb4_0l25 => lchl25b xq K x33l25 yb4_0l25 (lchl25 xq K k)
def lchj12 (xq : JL) (K : Int → Prop) : Prop :=
 (((lchV0 xq)) = true → K 3) ∧ (((lchV0 xq)) = false → lnuP xq ∧ ∃ k, lchl25 xq K k 0 ([] : List ((Int) × (Int))))
def lchF (xq : JL) (K : Int → Prop) : Prop :=
 ((decide ((if (if (xq.2.2.1.length : Int) < (xq.2.2.2.1.length : Int) then (xq.2.2.2.1.length : Int) else (xq.2.2.1.length : Int)) < (xq.2.2.2.2.length : Int) then (xq.2.2.2.2.length : Int) else (if (xq.2.2.1.length : Int) < (xq.2.2.2.1.length : Int) then (xq.2.2.2.1.length : Int) else (xq.2.2.1.length : Int))) > 100)) = true → K 2) ∧ ((decide ((if (if (xq.2.2.1.length : Int) < (xq.2.2.2.1.length : Int) then (xq.2.2.2.1.length : Int) else (xq.2.2.1.length : Int)) < (xq.2.2.2.2.length : Int) then (xq.2.2.2.2.length : Int) else (if (xq.2.2.1.length : Int) < (xq.2.2.2.1.length : Int) then (xq.2.2.2.1.length : Int) else (xq.2.2.1.length : Int))) > 100)) = false → ((!(lwiM xq.1 0 1000000000)) = true → lchj12 xq K) ∧ ((!(lwiM xq.1 0 1000000000)) = false → lchj12 xq K))
theorem lch_ok {g : Ghost} {axq_0 : Option Addr} {cxq_0 : Nat} {axq_1 : Option Addr} {cxq_1 : Nat} {axq_2 : Option Addr} {cxq_2 : Nat} (xq : JL) (hRxq_0 : Rep g (.slice (.pair (.int .i64) (.pair (.int .i64) (.pair (.bool) (.pair (.str) (.pair (.int .i64) (.pair (.int .i64) (.str)))))))) [.slice axq_0 xq.2.2.1.length cxq_0] xq.2.2.1) (hRxq_1 : Rep g (.slice (.pair (.int .i64) (.pair (.int .i64) (.pair (.bool) (.pair (.str) (.pair (.int .i64) (.pair (.int .i64) (.str)))))))) [.slice axq_1 xq.2.2.2.1.length cxq_1] xq.2.2.2.1) (hRxq_2 : Rep g (.slice (.pair (.int .i64) (.pair (.int .i64) (.pair (.int .i64) (.pair (.int .i64) (.str)))))) [.slice axq_2 xq.2.2.2.2.length cxq_2] xq.2.2.2.2) (K : Int → Prop)
  (hF : lchF xq K) : CallsH Try.prog 14 #[.agg #[.int .i64 xq.1, .int .i64 xq.2.1, .slice axq_0 xq.2.2.1.length cxq_0, .slice axq_1 xq.2.2.2.1.length cxq_1, .slice axq_2 xq.2.2.2.2.length cxq_2]] g [] (fun g' H' v => ∃ (r0 : Int), v = .int .i64 r0 ∧ H' = [] ∧ K r0) := by
 refine CallsH.enter 100 [(0, .agg #[.int .i64 xq.1, .int .i64 xq.2.1, .slice axq_0 xq.2.2.1.length cxq_0, .slice axq_1 xq.2.2.2.1.length cxq_1, .slice axq_2 xq.2.2.2.2.length cxq_2])] Try.func14 rfl (by kernel_rfl) (by kernel_rfl) (by kernel_rfl) fun w0 => ?_
 refine Ok.seq (Ok.region (Ok.op rfl (OpOk.box (v := .agg #[.int .i64 xq.1, .int .i64 xq.2.1, .slice axq_0 xq.2.2.1.length cxq_0, .slice axq_1 xq.2.2.2.1.length cxq_1, .slice axq_2 xq.2.2.2.2.length cxq_2]) (cs := #[.int .i64 xq.1, .int .i64 xq.2.1, .slice axq_0 xq.2.2.1.length cxq_0, .slice axq_1 xq.2.2.2.1.length cxq_1, .slice axq_2 xq.2.2.2.2.length cxq_2]) rfl (by kernel_rfl) rfl fun bs1 => ?_)))
 refine Ok.batch 1 [(1, pv bs1 0)] (by kernel_rfl) (Ok.nil (Ok.thenN (Ok.seq (Ok.seq (Ok.region (Ok.bat 1 [1] [(8, pv bs1 2)] ?_))))))
 refine Ok.op rfl (OpOk.step (v := .slice axq_0 xq.2.2.1.length cxq_0) (Yields.load 0 rfl rfl Try.underlying34 rfl (by kernel_rfl)) rfl rfl (Ok.bat 2 [1] [(10, .int .i64 (xq.2.2.1.length : Int)), (11, pv bs1 3)] ?_))
 refine Ok.op rfl (OpOk.step (v := .slice axq_1 xq.2.2.2.1.length cxq_1) (Yields.load 0 rfl rfl Try.underlying34 rfl (by kernel_rfl)) rfl rfl (Ok.bat 2 [1, 10] [(13, .int .i64 (xq.2.2.2.1.length : Int)), (14, pv bs1 4)] ?_))
 refine Ok.op rfl (OpOk.step (v := .slice axq_2 xq.2.2.2.2.length cxq_2) (Yields.load 0 rfl rfl Try.underlying35 rfl (by kernel_rfl)) rfl rfl (Ok.bat 3 [1] [(18, .bool (decide ((if (if (xq.2.2.1.length : Int) < (xq.2.2.2.1.length : Int) then (xq.2.2.2.1.length : Int) else (xq.2.2.1.length : Int)) < (xq.2.2.2.2.length : Int) then (xq.2.2.2.2.length : Int) else (if (xq.2.2.1.length : Int) < (xq.2.2.2.1.length : Int) then (xq.2.2.2.1.length : Int) else (xq.2.2.1.length : Int))) > 100)))] ?_))
 refine Ok.nil (Ok.thenN (Ok.cond (b := decide ((if (if (xq.2.2.1.length : Int) < (xq.2.2.2.1.length : Int) then (xq.2.2.2.1.length : Int) else (xq.2.2.1.length : Int)) < (xq.2.2.2.2.length : Int) then (xq.2.2.2.2.length : Int) else (if (xq.2.2.1.length : Int) < (xq.2.2.2.1.length : Int) then (xq.2.2.2.1.length : Int) else (xq.2.2.1.length : Int))) > 100)) rfl (fun hc2 => ?_) (fun hc2 => ?_)))
 ·replace hF := hF.1 hc2
  refine Ok.seq (Ok.region (Ok.batch 1 [(2, .int .i64 2)] (by kernel_rfl) (Ok.nil (Ok.thenN (Ok.ret (Ok.thenR ?_))))))
  exact Ok.resP (vs := [.int .i64 2]) [] [] (by decide) rfl (.inl rfl) rfl (.cons (.tmp rfl) .nil) (Gext.refl w0 g) ⟨2, rfl, rfl, hF⟩
 ·replace hF := hF.2 hc2
  refine Ok.skip (Ok.thenN (Ok.seq (Ok.cut (fun a W => ∃ gj12 : Ghost, Gext w0 g gj12 ∧ StA 100 [(1, pv bs1 0), (28, .bool (lchV0 xq))] a ∧ StW w0 [.blk bs1 (.cells #[.int .i64 xq.1, .int .i64 xq.2.1, .slice axq_0 xq.2.2.1.length cxq_0, .slice axq_1 xq.2.2.2.1.length cxq_1, .slice axq_2 xq.2.2.2.2.length cxq_2] 37)] gj12 W ∧ lchj12 xq K) ?_ ?_)))
  ·
   refine Ok.region (Ok.bat 1 [1] [(19, pv bs1 0)] ?_)
   refine Ok.op rfl (OpOk.step (v := .int .i64 xq.1) (Yields.load 0 rfl rfl Try.underlying3 rfl (by kernel_rfl)) rfl rfl (Ok.op rfl (OpOk.callG (v := .bool (lwiM xq.1 0 1000000000)) enr (fun W hW => lwi_c xq.1 0 1000000000) rfl ?_)))
   refine Ok.bat 2 [1] [(23, .bool (!(lwiM xq.1 0 1000000000)))] ?_
   refine Ok.boolAt 23 (!(lwiM xq.1 0 1000000000)) rfl (fun hc29 => ?_) (fun hc29 => ?_)
   ·replace hF := hF.1 hc29
    refine Ok.bat 5 [1] [(28, .bool true)] ?_
    refine Ok.nil (Ok.thenN (Ok.reval 28 rfl (show (.bool true : Value) = .bool (lchV0 xq) from congrArg (Value.bool) (mor_t hc29)) ?_))
    exact fun a W hA hW => ⟨g, (Gext.refl w0 g), hA.sub (by kernel_rfl), hW, hF⟩
   ·replace hF := hF.2 hc29
    refine Ok.bat 1 [1] [(23, .bool false), (24, pv bs1 1)] ?_
    refine Ok.opYes (j := 4) (d := 23) (want := false) (b := false) rfl (by kernel_rfl) (by kernel_rfl) rfl (OpOk.step (v := .int .i64 xq.2.1) (Yields.load 0 rfl rfl Try.underlying3 rfl (by kernel_rfl)) rfl rfl (Ok.opYes (j := 4) (d := 23) (want := false) (b := false) rfl (by kernel_rfl) (by kernel_rfl) rfl (OpOk.callG (v := .bool (lwiM xq.2.1 0 1000000000)) enr (fun W hW => lwi_c xq.2.1 0 1000000000) rfl ?_)))
    refine Ok.bat 2 [1] [(28, .bool (!(lwiM xq.2.1 0 1000000000)))] ?_
    refine Ok.nil (Ok.thenN (Ok.reval 28 rfl (show (.bool (!(lwiM xq.2.1 0 1000000000)) : Value) = .bool (lchV0 xq) from congrArg (Value.bool) (mor_f hc29)) ?_))
    exact fun a W hA hW => ⟨g, (Gext.refl w0 g), hA.sub (by kernel_rfl), hW, hF⟩
  ·
   clear hF
   rintro a W ⟨gj12, hxj12, hA, hW, hF⟩
   refine (?_ : Ok _ _ _ _ _ _) a W hA hW
   clear hA hW
   replace hRxq_0 := hRxq_0.mono hxj12.1
   replace hRxq_1 := hRxq_1.mono hxj12.1
   replace hRxq_2 := hRxq_2.mono hxj12.1
   refine Ok.cond (b := (lchV0 xq)) rfl (fun hc3 => ?_) (fun hc3 => ?_)
   ·replace hF := hF.1 hc3
    refine Ok.seq (Ok.region (Ok.batch 1 [(2, .int .i64 3)] (by kernel_rfl) (Ok.nil (Ok.thenN (Ok.ret (Ok.thenR ?_))))))
    exact Ok.resP (vs := [.int .i64 3]) [] [] (by decide) rfl (.inl rfl) rfl (.cons (.tmp rfl) .nil) hxj12 ⟨3, rfl, rfl, hF⟩
   ·replace hF := hF.2 hc3
    refine Ok.skip (Ok.thenN (Ok.seq (Ok.region (Ok.op rfl (OpOk.makeMap (.int .i64) false (kt := (Value.int .i64)) rfl fun b4 hM4 => ?_)))))
    refine Ok.bat 1 [1] [(3, .map (some b4))] ?_
    refine Ok.nil (Ok.thenN (Ok.seq (Ok.seq (Ok.region (Ok.op rfl (OpOk.step (v := .agg #[.int .i64 xq.1, .int .i64 xq.2.1, .slice axq_0 xq.2.2.1.length cxq_0, .slice axq_1 xq.2.2.2.1.length cxq_1, .slice axq_2 xq.2.2.2.2.length cxq_2]) (Yields.loadAgg 1 5 #[.int .i64 xq.1, .int .i64 xq.2.1, .slice axq_0 xq.2.2.1.length cxq_0, .slice axq_1 xq.2.2.2.1.length cxq_1, .slice axq_2 xq.2.2.2.2.length cxq_2] rfl rfl Try.underlying37 rfl (by kernel_rfl) (by kernel_rfl) (by kernel_rfl)) rfl rfl ?_))))))
    obtain ⟨hp5, hF⟩ := hF
    refine Ok.op rfl (OpOk.callH [] _ enr rfl (lnu_c xq hRxq_0 hRxq_1 hRxq_2 hp5) rfl fun g6 _ _ hx6 hV6 => ?_)
    obtain ⟨a6_0, c6_0, rfl, hR6_0, rfl⟩ := hV6
    replace hRxq_0 := hRxq_0.mono hx6.1
    replace hRxq_1 := hRxq_1.mono hx6.1
    replace hRxq_2 := hRxq_2.mono hx6.1
    replace hM4 := hM4.mono hx6.1
    refine Ok.bat 2 [1, 3] [(31, .slice a6_0 (lnuS xq).length c6_0), (32, .int .i64 ((lnuS xq).length : Int)), (33, .int .i64 0)] ?_
    refine Ok.nil (Ok.thenN (Ok.block ?_))
    obtain ⟨k, hF⟩ := hF
    refine Ok.loop (fun k a W => ∃ gl25 : Ghost, Gext w0 g6 gl25 ∧ ∃ (x33l25 : Int) (esyb4_0l25 : Array MapEntry) (ckyb4_0l25 : Nat) (yb4_0l25 : List ((Int) × (Int))), RepMap gl25 (.int .i64) false (Value.int .i64) esyb4_0l25.toList yb4_0l25 ∧ StA 100 [(1, pv bs1 0), (3, .map (some b4)), (31, .slice a6_0 (lnuS xq).length c6_0), (32, .int .i64 ((lnuS xq).length : Int)), (33, .int .i64 x33l25)] a ∧ StW w0 [.blk b4 (.map esyb4_0l25 ckyb4_0l25), .blk bs1 (.cells #[.int .i64 xq.1, .int .i64 xq.2.1, .slice axq_0 xq.2.2.1.length cxq_0, .slice axq_1 xq.2.2.2.1.length cxq_1, .slice axq_2 xq.2.2.2.2.length cxq_2] 37)] gl25 W ∧ lchl25 xq K k x33l25 yb4_0l25) k ?_ ?_
    ·
     exact fun a W hA hW => ⟨g6, (Gext.refl w0 g6), 0, (#[] : Array MapEntry), 0, ([] : List ((Int) × (Int))), hM4, hA.sub (by kernel_rfl), hW, hF⟩
    ·
     clear hF
     rintro k25 a W ⟨gl25, hxl25, x33l25, esyb4_0l25, ckyb4_0l25, yb4_0l25, hMyb4_0l25, hA, hW, hF⟩
     cases k25 with
     | zero => exact (hF : False).elim
     | succ k25 =>
      refine (?_ : Ok _ _ _ _ _ _) a W hA hW
      clear hA hW
      replace hR6_0 := hR6_0.mono hxl25.1
      replace hRxq_0 := hRxq_0.mono hxl25.1
      replace hRxq_1 := hRxq_1.mono hxl25.1
      replace hRxq_2 := hRxq_2.mono hxl25.1
      refine Ok.seq (Ok.region (Ok.bat 1 [1, 3, 31, 32, 33] [(34, .bool (decide (x33l25 < ((lnuS xq).length : Int))))] ?_))
      refine Ok.nil (Ok.thenN (Ok.seq (Ok.cond (b := decide (x33l25 < ((lnuS xq).length : Int))) rfl (fun hc7 => ?_) (fun hc7 => ?_))))
      ·replace hF := hF.1 hc7
       refine Ok.skip (Ok.thenN (Ok.seq (Ok.block (Ok.seq (Ok.region ?_)))))
       obtain ⟨h09, h19, hF⟩ := hF
       have he9 := get_of (l := (lnuS xq)) (default : Int) h19
       generalize hg9 : ((lnuS xq).getD (Int.toNat x33l25) default) = e9 at he9 hF ⊢
       refine Ok.op rfl (OpOk.indexRo (e := .int .i64) (i := x33l25) (el := e9) rfl rfl Try.underlying61 (by kernel_rfl) hR6_0 h09 he9 rfl fun q8 o8 cs8 _ hat8 hr8 => ?_)
       obtain rfl := hr8
       replace hat8 : At gl25 q8 o8 [.int .i64 e9] := hat8
       refine Ok.op rfl (OpOk.step (v := .int .i64 e9) (Yields.loadRo 0 hat8 (by kernel_rfl) Try.underlying3 rfl (by kernel_rfl)) rfl rfl (Ok.bat 1 [1, 3, 31, 32, 33] [(5, .int .i64 e9)] ?_))
       refine Ok.nil (Ok.thenN (Ok.seq (Ok.cut (fun a W => ∃ gj37 : Ghost, Gext w0 gl25 gj37 ∧ ∃ (x48j37 : Bool), StA 100 [(1, pv bs1 0), (3, .map (some b4)), (5, .int .i64 e9), (31, .slice a6_0 (lnuS xq).length c6_0), (32, .int .i64 ((lnuS xq).length : Int)), (33, .int .i64 x33l25), (48, .bool x48j37)] a ∧ StW w0 [.blk b4 (.map esyb4_0l25 ckyb4_0l25), .blk bs1 (.cells #[.int .i64 xq.1, .int .i64 xq.2.1, .slice axq_0 xq.2.2.1.length cxq_0, .slice axq_1 xq.2.2.2.1.length cxq_1, .slice axq_2 xq.2.2.2.2.length cxq_2] 37)] gj37 W ∧ lchj37 xq K x48j37 x33l25 yb4_0l25 (lchl25 xq K k25)) ?_ ?_)))
       ·
        refine Ok.region (Ok.bat 2 [1, 3, 5, 31, 32, 33] [(37, .int .i64 e9), (38, pv bs1 1)] ?_)
        refine Ok.op rfl (OpOk.step (v := .int .i64 xq.2.1) (Yields.load 1 rfl rfl Try.underlying3 rfl (by kernel_rfl)) rfl rfl (Ok.bat 1 [1, 3, 5, 31, 32, 33, 37] [(40, .int .i64 (w6 (xq.2.1 - 1)))] ?_))
        refine Ok.op rfl (OpOk.callG (v := .bool (lwiM e9 0 (w6 (xq.2.1 - 1)))) enr (fun W hW => lwi_c e9 0 (w6 (xq.2.1 - 1))) rfl ?_)
        refine Ok.bat 2 [1, 3, 5, 31, 32, 33] [(43, .bool (!(lwiM e9 0 (w6 (xq.2.1 - 1)))))] ?_
        refine Ok.boolAt 43 (!(lwiM e9 0 (w6 (xq.2.1 - 1)))) rfl (fun hc12 => ?_) (fun hc12 => ?_)
        ·replace hF := hF.1 hc12
         refine Ok.bat 5 [1, 3, 5, 31, 32, 33] [(48, .bool true)] ?_
         refine Ok.nil (Ok.thenN ?_)
         exact fun a W hA hW => ⟨gl25, (Gext.refl w0 gl25), true, hA.sub (by kernel_rfl), hW, hF⟩
        ·replace hF := hF.2 hc12
         refine Ok.bat 2 [1, 3, 5, 31, 32, 33] [(43, .bool false), (44, .map (some b4)), (45, .int .i64 e9)] ?_
         cases hce13 : assocK e9 yb4_0l25 with
         | some e13 =>
          replace hF := hF.1 e13 hce13
          refine Ok.opYes (j := 6) (d := 43) (want := false) (b := false) rfl (by kernel_rfl) (by kernel_rfl) rfl (OpOk.lookupSome (vt := .int .i64) (row := false) keyInt 0 rfl hMyb4_0l25 rfl rfl Try.underlying94 Try.underlying3 hce13 rfl fun v13 cs13 hvi13 hr13 u13 hu13 => ?_)
          obtain rfl := hr13
          have hvi13 : ([.int .i64 e13] : List Value) = [v13] := hvi13
          injection hvi13 with hvi13
          subst hvi13
          have hu13 : u13 = .int .i64 e13 := hu13
          subst hu13
          refine Ok.bat 2 [1, 3, 5, 31, 32, 33] [(48, .bool (e13 == 1))] ?_
          refine Ok.nil (Ok.thenN ?_)
          exact fun a W hA hW => ⟨gl25, (Gext.refl w0 gl25), (e13 == 1), hA.sub (by kernel_rfl), hW, hF⟩
         | none =>
          replace hF := hF.2 hce13
          refine Ok.opYes (j := 6) (d := 43) (want := false) (b := false) rfl (by kernel_rfl) (by kernel_rfl) rfl (OpOk.lookupNone (vt := .int .i64) (row := false) (z := .int .i64 0) (u := .int .i64 0) keyInt 0 rfl hMyb4_0l25 rfl rfl Try.underlying94 Try.underlying3 (by kernel_rfl) hce13 rfl rfl (Ok.bat 2 [1, 3, 5, 31, 32, 33] [(48, .bool false)] ?_))
          refine Ok.nil (Ok.thenN ?_)
          exact fun a W hA hW => ⟨gl25, (Gext.refl w0 gl25), false, hA.sub (by kernel_rfl), hW, hF⟩
       ·
        clear hF
        rintro a W ⟨gj37, hxj37, x48j37, hA, hW, hF⟩
        refine (?_ : Ok _ _ _ _ _ _) a W hA hW
        clear hA hW
        replace hR6_0 := hR6_0.mono hxj37.1
        replace hMyb4_0l25 := hMyb4_0l25.mono hxj37.1
        replace hRxq_0 := hRxq_0.mono hxj37.1
        replace hRxq_1 := hRxq_1.mono hxj37.1
        replace hRxq_2 := hRxq_2.mono hxj37.1
        refine Ok.cond (b := x48j37) rfl (fun hc10 => ?_) (fun hc10 => ?_)
        ·replace hF := hF.1 hc10
         refine Ok.seq (Ok.region (Ok.batch 1 [(2, .int .i64 3)] (by kernel_rfl) (Ok.nil (Ok.thenN (Ok.ret (Ok.thenR (Ok.blockR (Ok.thenR (Ok.thenR (Ok.blockR (Ok.thenR ?_)))))))))))
         exact Ok.resP (vs := [.int .i64 3]) [] [] (by decide) rfl (.inl rfl) rfl (.cons (.tmp rfl) .nil) (((hxj12.trans hx6).trans hxl25).trans hxj37) ⟨3, rfl, rfl, hF⟩
        ·replace hF := hF.2 hc10
         refine Ok.skip (Ok.thenN (Ok.region (Ok.bat 2 [1, 3, 31, 32, 33] [(49, .map (some b4)), (50, .int .i64 e9)] ?_)))
         refine Ok.op rfl (OpOk.mapUpdate (vt := .int .i64) (row := false) (cells := [.int .i64 1]) (y := 1) keyInt 0 rfl hMyb4_0l25 rfl rfl rfl Try.underlying94 Try.underlying3 rfl rfl fun es11 ck11 hM11 => ?_)
         refine Ok.nil (Ok.blockN (Ok.thenN (Ok.region (Ok.bat 2 [1, 3, 31, 32] [(33, .int .i64 (w6 (x33l25 + 1)))] ?_))))
         refine Ok.nil (Ok.thenN ?_)
         subst hg9
         exact fun a W hA hW => ⟨k25, Nat.lt_succ_self _, gj37, (hxl25.trans hxj37), w6 (x33l25 + 1), es11, ck11, (putK ((lnuS xq).getD (Int.toNat x33l25) default) 1 yb4_0l25), hM11, hA.sub (by kernel_rfl), hW, hF⟩
      ·replace hF := hF.2 hc7
       refine Ok.exit (Ok.thenE (Ok.thenE (Ok.blockHit (Ok.thenN (Ok.seq (Ok.seq (Ok.region (Ok.bat 1 [1] [(52, pv bs1 2)] ?_))))))))
       refine Ok.op rfl (OpOk.step (v := .slice axq_0 xq.2.2.1.length cxq_0) (Yields.load 1 rfl rfl Try.underlying34 rfl (by kernel_rfl)) rfl rfl ?_)
       obtain ⟨hp14, hF⟩ := hF
       refine Ok.op rfl (OpOk.callG (v := .bool (jcoS xq.2.2.1 (fun y0 => lc1M y0))) enr (fun W hW => jco_c (vxf := .func (.func 48) #[] #[]) xq.2.2.1 (fun y0 => lc1M y0) (fun _ => True) (hRxq_0.mono hW.sees) (fun y0 hq => ⟨48, _, fun _ => by kernel_rfl, lc1_c y0⟩) hp14) rfl ?_)
       refine Ok.nil (Ok.thenN (Ok.cond (b := (jcoS xq.2.2.1 (fun y0 => lc1M y0))) rfl (fun hc15 => ?_) (fun hc15 => ?_)))
       ·replace hF := hF.1 hc15
        refine Ok.seq (Ok.region (Ok.batch 1 [(2, .int .i64 3)] (by kernel_rfl) (Ok.nil (Ok.thenN (Ok.ret (Ok.thenR ?_))))))
        exact Ok.resP (vs := [.int .i64 3]) [] [] (by decide) rfl (.inl rfl) rfl (.cons (.tmp rfl) .nil) ((hxj12.trans hx6).trans hxl25) ⟨3, rfl, rfl, hF⟩
       ·replace hF := hF.2 hc15
        refine Ok.skip (Ok.thenN (Ok.seq (Ok.seq (Ok.region (Ok.bat 1 [1] [(55, pv bs1 3)] ?_)))))
        refine Ok.op rfl (OpOk.step (v := .slice axq_1 xq.2.2.2.1.length cxq_1) (Yields.load 1 rfl rfl Try.underlying34 rfl (by kernel_rfl)) rfl rfl ?_)
        obtain ⟨hp16, hF⟩ := hF
        refine Ok.op rfl (OpOk.callG (v := .bool (jcoS xq.2.2.2.1 (fun y0 => lc2M y0))) enr (fun W hW => jco_c (vxf := .func (.func 49) #[] #[]) xq.2.2.2.1 (fun y0 => lc2M y0) (fun _ => True) (hRxq_1.mono hW.sees) (fun y0 hq => ⟨49, _, fun _ => by kernel_rfl, lc2_c y0⟩) hp16) rfl ?_)
        refine Ok.nil (Ok.thenN (Ok.cond (b := (jcoS xq.2.2.2.1 (fun y0 => lc2M y0))) rfl (fun hc17 => ?_) (fun hc17 => ?_)))
        ·replace hF := hF.1 hc17
         refine Ok.seq (Ok.region (Ok.batch 1 [(2, .int .i64 3)] (by kernel_rfl) (Ok.nil (Ok.thenN (Ok.ret (Ok.thenR ?_))))))
         exact Ok.resP (vs := [.int .i64 3]) [] [] (by decide) rfl (.inl rfl) rfl (.cons (.tmp rfl) .nil) ((hxj12.trans hx6).trans hxl25) ⟨3, rfl, rfl, hF⟩
        ·replace hF := hF.2 hc17
         refine Ok.skip (Ok.thenN (Ok.seq (Ok.seq (Ok.region (Ok.bat 1 [1] [(58, pv bs1 4)] ?_)))))
         refine Ok.op rfl (OpOk.step (v := .slice axq_2 xq.2.2.2.2.length cxq_2) (Yields.load 1 rfl rfl Try.underlying35 rfl (by kernel_rfl)) rfl rfl (Ok.bat 2 [1] [(59, .slice axq_2 xq.2.2.2.2.length cxq_2), (60, .int .i64 (xq.2.2.2.2.length : Int)), (61, .int .i64 0)] ?_))
         refine Ok.nil (Ok.thenN (Ok.block ?_))
         obtain ⟨k, hF⟩ := hF
         refine Ok.loop (fun k a W => ∃ gl66 : Ghost, Gext w0 gl25 gl66 ∧ ∃ (x61l66 : Int), StA 100 [(1, pv bs1 0), (59, .slice axq_2 xq.2.2.2.2.length cxq_2), (60, .int .i64 (xq.2.2.2.2.length : Int)), (61, .int .i64 x61l66)] a ∧ StW w0 [.blk bs1 (.cells #[.int .i64 xq.1, .int .i64 xq.2.1, .slice axq_0 xq.2.2.1.length cxq_0, .slice axq_1 xq.2.2.2.1.length cxq_1, .slice axq_2 xq.2.2.2.2.length cxq_2] 37)] gl66 W ∧ lchl66 xq K k x61l66) k ?_ ?_
         ·
          exact fun a W hA hW => ⟨gl25, (Gext.refl w0 gl25), 0, hA.sub (by kernel_rfl), hW.sub (.cons _ (.cons_cons _ .slnil)), hF⟩
         ·
          clear hF
          rintro k66 a W ⟨gl66, hxl66, x61l66, hA, hW, hF⟩
          cases k66 with
          | zero => exact (hF : False).elim
          | succ k66 =>
           refine (?_ : Ok _ _ _ _ _ _) a W hA hW
           clear hA hW
           replace hRxq_2 := hRxq_2.mono hxl66.1
           replace hRxq_0 := hRxq_0.mono hxl66.1
           replace hRxq_1 := hRxq_1.mono hxl66.1
           refine Ok.seq (Ok.region (Ok.bat 1 [1, 59, 60, 61] [(62, .bool (decide (x61l66 < (xq.2.2.2.2.length : Int))))] ?_))
           refine Ok.nil (Ok.thenN (Ok.seq (Ok.cond (b := decide (x61l66 < (xq.2.2.2.2.length : Int))) rfl (fun hc18 => ?_) (fun hc18 => ?_))))
           ·replace hF := hF.1 hc18
            refine Ok.skip (Ok.thenN (Ok.seq (Ok.block (Ok.seq (Ok.region (Ok.bat 1 [1, 59, 60, 61] [(63, .int .i64 x61l66)] ?_))))))
            obtain ⟨h020, h120, hF⟩ := hF
            have he20 := get_of (l := xq.2.2.2.2) (default : JT) h120
            generalize hg20 : (xq.2.2.2.2.getD (Int.toNat x61l66) default) = e20 at he20 hF ⊢
            refine Ok.op rfl (OpOk.indexRo (e := .pair (.int .i64) (.pair (.int .i64) (.pair (.int .i64) (.pair (.int .i64) (.str))))) (i := x61l66) (el := e20) rfl rfl Try.underlying35 (by kernel_rfl) hRxq_2 h020 he20 rfl fun q19 o19 cs19 _ hat19 hr19 => ?_)
            obtain ⟨_, _, rfl, rfl, ⟨_, _, rfl, rfl, ⟨_, _, rfl, rfl, ⟨_, _, rfl, rfl, rfl⟩⟩⟩⟩ := hr19
            replace hat19 : At gl66 q19 o19 [.int .i64 e20.1, .int .i64 e20.2.1, .int .i64 e20.2.2.1, .int .i64 e20.2.2.2.1, sv e20.2.2.2.2] := hat19
            refine Ok.op rfl (OpOk.step (v := .agg #[.int .i64 e20.1, .int .i64 e20.2.1, .int .i64 e20.2.2.1, .int .i64 e20.2.2.2.1, sv e20.2.2.2.2]) (Yields.loadAggRo 0 5 #[.int .i64 e20.1, .int .i64 e20.2.1, .int .i64 e20.2.2.1, .int .i64 e20.2.2.2.1, sv e20.2.2.2.2] hat19 (by kernel_rfl) Try.underlying93 rfl (by kernel_rfl) (by kernel_rfl) (by kernel_rfl)) rfl rfl (Ok.op rfl (OpOk.alloc (z := .agg #[.int .i64 0, .int .i64 0, .int .i64 0, .int .i64 0, sv ([] : Bs)]) (cs := #[.int .i64 0, .int .i64 0, .int .i64 0, .int .i64 0, sv ([] : Bs)]) (by kernel_rfl) (by kernel_rfl) rfl fun bs7 => ?_)))
            refine Ok.bat 1 [1, 59, 60, 61] [(6, .int .i64 x61l66), (7, pv bs7 0), (65, .agg #[.int .i64 e20.1, .int .i64 e20.2.1, .int .i64 e20.2.2.1, .int .i64 e20.2.2.2.1, sv e20.2.2.2.2])] ?_
            refine Ok.op rfl (OpOk.sto (k := 5) (v := .agg #[.int .i64 e20.1, .int .i64 e20.2.1, .int .i64 e20.2.2.1, .int .i64 e20.2.2.2.1, sv e20.2.2.2.2]) 0 #[.int .i64 e20.1, .int .i64 e20.2.1, .int .i64 e20.2.2.1, .int .i64 e20.2.2.2.1, sv e20.2.2.2.2] rfl rfl rfl ?_)
            refine Ok.nil (Ok.thenN (Ok.cut (fun a W => ∃ gj77 : Ghost, Gext w0 gl66 gj77 ∧ StA 100 [(1, pv bs1 0), (59, .slice axq_2 xq.2.2.2.2.length cxq_2), (60, .int .i64 (xq.2.2.2.2.length : Int)), (61, .int .i64 x61l66), (98, .bool (lchV4 xq x61l66 e20))] a ∧ StW w0 [.blk bs1 (.cells #[.int .i64 xq.1, .int .i64 xq.2.1, .slice axq_0 xq.2.2.1.length cxq_0, .slice axq_1 xq.2.2.2.1.length cxq_1, .slice axq_2 xq.2.2.2.2.length cxq_2] 37)] gj77 W ∧ lchj77 xq K x61l66 e20 (lchl66 xq K k66)) ?_ ?_))
            ·
             refine Ok.quiet' (by kernel_rfl) (by kernel_rfl) (OkQ.bat 1 [1, 6, 7, 59, 60, 61] [(66, pv bs7 1)] ?_)
             refine OkQ.op rfl (OpQ.step (v := .int .i64 e20.2.1) (Yields.load 0 rfl rfl Try.underlying3 rfl (by kernel_rfl)) rfl rfl (OkQ.bat 1 [1, 6, 7, 59, 60, 61] [(67, .int .i64 e20.2.1), (68, pv bs1 0)] ?_))
             refine OkQ.op rfl (OpQ.step (v := .int .i64 xq.1) (Yields.load 1 rfl rfl Try.underlying3 rfl (by kernel_rfl)) rfl rfl (OkQ.op rfl (OpQ.callG (v := .bool (lwiM e20.2.1 xq.1 1000000000)) enr (fun W hW => lwi_c e20.2.1 xq.1 1000000000) rfl ?_)))
             refine OkQ.bat 2 [1, 6, 7, 59, 60, 61] [(72, .bool (!(lwiM e20.2.1 xq.1 1000000000)))] ?_
             refine OkQ.boolAt 72 (!(lwiM e20.2.1 xq.1 1000000000)) rfl (fun hc23 => ?_) (fun hc23 => ?_)
             ·replace hF := hF.1 hc23
              refine OkQ.bat 26 [1, 59, 60, 61] [(98, .bool true)] ?_
              refine OkQ.nil (Ok.thenN (Ok.reval 98 rfl (show (.bool true : Value) = .bool (lchV4 xq x61l66 e20) from congrArg (Value.bool) (mor_t hc23)) ?_))
              exact fun a W hA hW => ⟨gl66, (Gext.refl w0 gl66), hA.sub (by kernel_rfl), hW.sub (.cons _ (.cons_cons _ .slnil)), hF⟩
             ·replace hF := hF.2 hc23
              refine OkQ.bat 1 [1, 6, 7, 59, 60, 61] [(72, .bool false), (73, pv bs7 2)] ?_
              refine OkQ.opYes (j := 6) (d := 72) (want := false) (b := false) rfl (by kernel_rfl) (by kernel_rfl) rfl (OpQ.step (v := .int .i64 e20.2.2.1) (Yields.load 0 rfl rfl Try.underlying3 rfl (by kernel_rfl)) rfl rfl (OkQ.opYes (j := 6) (d := 72) (want := false) (b := false) rfl (by kernel_rfl) (by kernel_rfl) rfl (OpQ.callG (v := .bool (lwiM e20.2.2.1 0 1000000000)) enr (fun W hW => lwi_c e20.2.2.1 0 1000000000) rfl ?_)))
              refine OkQ.bat 3 [1, 6, 7, 59, 60, 61] [(78, .bool (!(lwiM e20.2.2.1 0 1000000000)))] ?_
              refine OkQ.boolAt 78 (!(lwiM e20.2.2.1 0 1000000000)) rfl (fun hc24 => ?_) (fun hc24 => ?_)
              ·replace hF := hF.1 hc24
               refine OkQ.bat 20 [1, 59, 60, 61] [(98, .bool true)] ?_
               refine OkQ.nil (Ok.thenN (Ok.reval 98 rfl (show (.bool true : Value) = .bool (lchV4 xq x61l66 e20) from congrArg (Value.bool) ((Eq.trans (mor_t hc24) (mor_f hc23)))) ?_))
               exact fun a W hA hW => ⟨gl66, (Gext.refl w0 gl66), hA.sub (by kernel_rfl), hW.sub (.cons _ (.cons_cons _ .slnil)), hF⟩
              ·replace hF := hF.2 hc24
               refine OkQ.bat 1 [1, 6, 7, 59, 60, 61] [(78, .bool false), (79, pv bs7 3)] ?_
               refine OkQ.opYes (j := 12) (d := 78) (want := false) (b := false) rfl (by kernel_rfl) (by kernel_rfl) rfl (OpQ.step (v := .int .i64 e20.2.2.2.1) (Yields.load 0 rfl rfl Try.underlying3 rfl (by kernel_rfl)) rfl rfl (OkQ.opYes (j := 12) (d := 78) (want := false) (b := false) rfl (by kernel_rfl) (by kernel_rfl) rfl (OpQ.callG (v := .bool (lwiM e20.2.2.2.1 0 1000000000)) enr (fun W hW => lwi_c e20.2.2.2.1 0 1000000000) rfl ?_)))
               refine OkQ.bat 3 [1, 6, 7, 59, 60, 61] [(84, .bool (!(lwiM e20.2.2.2.1 0 1000000000)))] ?_
               refine OkQ.boolAt 84 (!(lwiM e20.2.2.2.1 0 1000000000)) rfl (fun hc25 => ?_) (fun hc25 => ?_)
               ·replace hF := hF.1 hc25
                refine OkQ.bat 14 [1, 59, 60, 61] [(98, .bool true)] ?_
                refine OkQ.nil (Ok.thenN (Ok.reval 98 rfl (show (.bool true : Value) = .bool (lchV4 xq x61l66 e20) from congrArg (Value.bool) ((Eq.trans ((Eq.trans (mor_t hc25) (mor_f hc24))) (mor_f hc23)))) ?_))
                exact fun a W hA hW => ⟨gl66, (Gext.refl w0 gl66), hA.sub (by kernel_rfl), hW.sub (.cons _ (.cons_cons _ .slnil)), hF⟩
               ·replace hF := hF.2 hc25
                refine OkQ.bat 3 [1, 6, 7, 59, 60, 61] [(84, .bool false), (87, .bool (decide (x61l66 > 0)))] ?_
                refine OkQ.boolAt 87 (decide (x61l66 > 0)) rfl (fun hc26 => ?_) (fun hc26 => ?_)
                ·replace hF := hF.1 hc26
                 refine OkQ.bat 1 [1, 6, 7, 59, 60, 61, 84] [(87, .bool true), (88, pv bs1 4)] ?_
                 refine OkQ.opYes (j := 21) (d := 87) (want := true) (b := true) rfl (by kernel_rfl) (by kernel_rfl) rfl (OpQ.step (v := .slice axq_2 xq.2.2.2.2.length cxq_2) (Yields.load 1 rfl rfl Try.underlying35 rfl (by kernel_rfl)) rfl rfl (OkQ.bat 2 [1, 7, 59, 60, 61, 84, 87] [(89, .slice axq_2 xq.2.2.2.2.length cxq_2), (91, .int .i64 (w6 (x61l66 - 1)))] ?_))
                 obtain ⟨h028, h128, hF⟩ := hF
                 have he28 := get_of (l := xq.2.2.2.2) (default : JT) h128
                 generalize hg28 : (xq.2.2.2.2.getD (Int.toNat (w6 (x61l66 - 1))) default) = e28 at he28 hF ⊢
                 refine OkQ.opYes (j := 21) (d := 87) (want := true) (b := true) rfl (by kernel_rfl) (by kernel_rfl) rfl (OpQ.indexRo (e := .pair (.int .i64) (.pair (.int .i64) (.pair (.int .i64) (.pair (.int .i64) (.str))))) (i := w6 (x61l66 - 1)) (el := e28) rfl rfl Try.underlying35 (by kernel_rfl) hRxq_2 h028 he28 rfl fun q27 o27 cs27 _ hat27 hr27 => ?_)
                 obtain ⟨_, _, rfl, rfl, ⟨_, _, rfl, rfl, ⟨_, _, rfl, rfl, ⟨_, _, rfl, rfl, rfl⟩⟩⟩⟩ := hr27
                 replace hat27 : At gl66 q27 o27 [.int .i64 e28.1, .int .i64 e28.2.1, .int .i64 e28.2.2.1, .int .i64 e28.2.2.2.1, sv e28.2.2.2.2] := hat27
                 refine OkQ.opYes (j := 21) (d := 87) (want := true) (b := true) rfl (by kernel_rfl) (by kernel_rfl) rfl (OpQ.step (v := .agg #[.int .i64 e28.1, .int .i64 e28.2.1, .int .i64 e28.2.2.1, .int .i64 e28.2.2.2.1, sv e28.2.2.2.2]) (Yields.loadAggRo 0 5 #[.int .i64 e28.1, .int .i64 e28.2.1, .int .i64 e28.2.2.1, .int .i64 e28.2.2.2.1, sv e28.2.2.2.2] hat27 (by kernel_rfl) Try.underlying93 rfl (by kernel_rfl) (by kernel_rfl) (by kernel_rfl)) rfl rfl (OkQ.opYes (j := 21) (d := 87) (want := true) (b := true) rfl (by kernel_rfl) (by kernel_rfl) rfl (OpQ.step (v := .agg #[.int .i64 e20.1, .int .i64 e20.2.1, .int .i64 e20.2.2.1, .int .i64 e20.2.2.2.1, sv e20.2.2.2.2]) (Yields.loadAgg 0 5 #[.int .i64 e20.1, .int .i64 e20.2.1, .int .i64 e20.2.2.1, .int .i64 e20.2.2.2.1, sv e20.2.2.2.2] rfl rfl Try.underlying93 rfl (by kernel_rfl) (by kernel_rfl) (by kernel_rfl)) rfl rfl (OkQ.opYes (j := 21) (d := 87) (want := true) (b := true) rfl (by kernel_rfl) (by kernel_rfl) rfl (OpQ.callG (v := .int .i64 (lbeS e28 e20)) enr (fun W hW => lbe_c e28 e20) rfl ?_)))))
                 refine OkQ.bat 3 [1, 59, 60, 61] [(98, .bool (decide ((lbeS e28 e20) ≥ 0)))] ?_
                 refine OkQ.nil (Ok.thenN ?_)
                 subst hg28
                 refine Ok.reval 98 rfl (show (.bool (decide ((lbeS (xq.2.2.2.2.getD (Int.toNat (w6 (x61l66 - 1))) default) e20) ≥ 0)) : Value) = .bool (lchV4 xq x61l66 e20) from congrArg (Value.bool) ((Eq.trans ((Eq.trans ((Eq.trans (mand_t hc26) (mor_f hc25))) (mor_f hc24))) (mor_f hc23)))) ?_
                 exact fun a W hA hW => ⟨gl66, (Gext.refl w0 gl66), hA.sub (by kernel_rfl), hW.sub (.cons _ (.cons_cons _ .slnil)), hF⟩
                ·replace hF := hF.2 hc26
                 refine OkQ.bat 11 [1, 59, 60, 61] [(98, .bool false)] ?_
                 refine OkQ.nil (Ok.thenN (Ok.reval 98 rfl (show (.bool false : Value) = .bool (lchV4 xq x61l66 e20) from congrArg (Value.bool) ((Eq.trans ((Eq.trans ((Eq.trans (mand_f hc26) (mor_f hc25))) (mor_f hc24))) (mor_f hc23)))) ?_))
                 exact fun a W hA hW => ⟨gl66, (Gext.refl w0 gl66), hA.sub (by kernel_rfl), hW.sub (.cons _ (.cons_cons _ .slnil)), hF⟩
            ·
             clear hF
             rintro a W ⟨gj77, hxj77, hA, hW, hF⟩
             refine (?_ : Ok _ _ _ _ _ _) a W hA hW
             clear hA hW
             replace hRxq_2 := hRxq_2.mono hxj77.1
             replace hRxq_0 := hRxq_0.mono hxj77.1
             replace hRxq_1 := hRxq_1.mono hxj77.1
             refine Ok.cond (b := (lchV4 xq x61l66 e20)) rfl (fun hc22 => ?_) (fun hc22 => ?_)
             ·replace hF := hF.1 hc22
              refine Ok.seq (Ok.region (Ok.batch 1 [(2, .int .i64 3)] (by kernel_rfl) (Ok.nil (Ok.thenN (Ok.ret (Ok.blockR (Ok.thenR (Ok.thenR (Ok.blockR (Ok.thenR ?_))))))))))
              exact Ok.resP (vs := [.int .i64 3]) [] [] (by decide) rfl (.inl rfl) rfl (.cons (.tmp rfl) .nil) ((((hxj12.trans hx6).trans hxl25).trans hxl66).trans hxj77) ⟨3, rfl, rfl, hF⟩
             ·replace hF := hF.2 hc22
              refine Ok.skip (Ok.blockN (Ok.thenN (Ok.region (Ok.bat 2 [1, 59, 60] [(61, .int .i64 (w6 (x61l66 + 1)))] ?_))))
              refine Ok.nil (Ok.thenN ?_)
              subst hg20
              exact fun a W hA hW => ⟨k66, Nat.lt_succ_self _, gj77, (hxl66.trans hxj77), w6 (x61l66 + 1), hA.sub (by kernel_rfl), hW, hF⟩
           ·replace hF := hF.2 hc18
            refine Ok.exit (Ok.thenE (Ok.thenE (Ok.blockHit (Ok.thenN (Ok.seq (Ok.region (Ok.batch 1 [(2, .int .i64 0)] (by kernel_rfl) (Ok.nil (Ok.thenN (Ok.ret ?_))))))))))
            exact Ok.resP (vs := [.int .i64 0]) [] [] (by decide) rfl (.inl rfl) rfl (.cons (.tmp rfl) .nil) (((hxj12.trans hx6).trans hxl25).trans hxl66) ⟨0, rfl, rfl, hF⟩
def lchP (q : JL) : Prop := q.2.2.1.length ≤ 140737488355328 ∧ q.2.2.2.1.length ≤ 140737488355328 ∧ q.2.2.2.2.length ≤ 140737488355328
theorem lch_F (q : JL) (hp : lchP q) : lchF q (fun r => r = lchS q) := by
 obtain ⟨hp1, hp2, hp3⟩ := hp
 refine ⟨fun h => ?_, fun h => ?_⟩
 ·have h := of_decide_eq_true h
  refine (lch_big ?_).symm
  unfold big
  split at h <;> rename_i h1 <;> split at h <;> omega
 have hb : ¬ big q := by
  have h := of_decide_eq_false h
  unfold big
  split at h <;> rename_i h1 <;> split at h <;> rename_i h2 <;> (try split at h1) <;> omega
 have hs : q.2.2.1.length ≤ 100 ∧ q.2.2.2.1.length ≤ 100 ∧ q.2.2.2.2.length ≤ 100 := by unfold big at hb; omega
 have no : ¬ GQ q → (fun r => r = lchS q) 3 := fun h => (lch_nay hb h).symm
 have hlen : (lnuS q).length ≤ 300 := by unfold lnuS; simp only [List.length_append, List.length_map]; omega
 have j12 : lchj12 q (fun r => r = lchS q) := by
  refine ⟨fun h => no fun g => ?_, fun h => ⟨⟨by omega, by omega, by omega⟩, ?_⟩⟩
  ·unfold lchV0 at h
   rw [Bool.or_eq_true, nlwi_iff, nlwi_iff] at h
   have := g.now; have := g.next; omega
  unfold lchV0 at h
  rw [Bool.or_eq_false_iff] at h
  have hnow := nlwi_no h.1
  have hnext := nlwi_no h.2
  -- the timers
  have tims : (∀ x ∈ lnuS q, 0 ≤ x ∧ x < q.2.1) → (lnuS q).Nodup → (∀ j ∈ q.2.2.1, (1 ≤ j.2.1 ∧ j.2.1 ≤ 4) ∧ j.2.2.1 = false) → (∀ j ∈ q.2.2.2.1, j.2.1 = 0 ∧ j.2.2.1 = true) → ∀ (k i : Nat), i + k = q.2.2.2.2.length → (∀ t ∈ q.2.2.2.2.take i, (q.1 ≤ t.2.1 ∧ t.2.1 ≤ 1000000000) ∧ (0 ≤ t.2.2.1 ∧ t.2.2.1 ≤ 1000000000) ∧ 0 ≤ t.2.2.2.1 ∧ t.2.2.2.1 ≤ 1000000000) → (q.2.2.2.2.take i).Pairwise ltT → lchl66 q (fun r => r = lchS q) (k + 1) (i : Int) := by
   intro f1 f2 f3 f4 k
   induction k with
   | zero =>
    intro i hi ht hpw
    rw [List.take_of_length_le (by omega)] at ht hpw
    exact ⟨fun h => by have := of_decide_eq_true h; omega, fun _ => (lch_ryt hb ⟨hnow, hnext, f1, f2, f3, f4, ht, hpw⟩).symm⟩
   | succ k ih =>
    intro i hi ht hpw
    have hil : i < q.2.2.2.2.length := by omega
    have hmem := mem_getD (default : JT) hil
    have j77 : lchj77 q (fun r => r = lchS q) (i : Int) (q.2.2.2.2.getD (Int.toNat (i : Int)) default) (lchl66 q (fun r => r = lchS q) (k + 1)) := by
     rw [Int.toNat_natCast]
     refine ⟨fun h => no fun g => ?_, fun h => ?_⟩
     ·unfold lchV4 at h
      rw [Bool.or_eq_true, Bool.or_eq_true, Bool.or_eq_true, nlwi_iff, nlwi_iff, nlwi_iff, Bool.and_eq_true, decide_eq_true_eq, decide_eq_true_eq] at h
      have h1 := g.timers _ hmem
      rcases h with h | h | h | h
      ·omega
      ·omega
      ·omega
      ·rw [w64 (by omega), show Int.toNat ((i : Int) - 1) = i - 1 by omega] at h
       have h2 := (lbe_lt _ _).2 (pair_get g.order (show i - 1 < i by omega) hil)
       omega
     ·unfold lchV4 at h
      rw [Bool.or_eq_false_iff, Bool.or_eq_false_iff, Bool.or_eq_false_iff] at h
      obtain ⟨a1, a2, a3, a4⟩ := h
      rw [w64 (by omega)]
      refine ih (i + 1) (by omega) (fun t htm => ?_) (pair_snoc hil hpw fun h0 => ?_)
      ·rw [take_get default hil] at htm
       rcases List.mem_append.1 htm with htm | htm
       ·exact ht t htm
       ·rw [List.mem_singleton] at htm
        subst htm
        exact ⟨nlwi_no a1, nlwi_no a2, nlwi_no a3⟩
      ·rw [decide_eq_true (show (i : Int) > 0 by omega), Bool.true_and, w64 (by omega), show Int.toNat ((i : Int) - 1) = i - 1 by omega] at a4
       have := of_decide_eq_false a4
       exact (lbe_lt _ _).1 (by omega)
    refine ⟨fun _ => ⟨by omega, by omega, fun _ => j77, fun _ => ⟨fun _ => j77, fun _ => ⟨fun _ => j77, fun _ => ⟨fun h => ⟨?_, ?_, j77⟩, fun _ => j77⟩⟩⟩⟩, fun h => by have := of_decide_eq_false h; omega⟩
    ·have h := of_decide_eq_true h; rw [w64 (by omega)]; omega
    ·have h := of_decide_eq_true h; rw [w64 (by omega)]; omega
  -- the numbers
  have nums : ∀ (k i : Nat) (m : List (Int × Int)), i + k = (lnuS q).length → (∀ x ∈ (lnuS q).take i, 0 ≤ x ∧ x < q.2.1) → ((lnuS q).take i).Nodup → (∀ id, assocK id m = if id ∈ (lnuS q).take i then some 1 else none) → lchl25 q (fun r => r = lchS q) (k + 1) (i : Int) m := by
   intro k
   induction k with
   | zero =>
    intro i m hi hx hn hm
    rw [List.take_of_length_le (by omega)] at hx hn
    refine ⟨fun h => by have := of_decide_eq_true h; omega, fun _ => ⟨⟨by omega, fun _ _ => trivial⟩, fun h => no fun g => ?_, fun h => ⟨⟨by omega, fun _ _ => trivial⟩, fun h2 => no fun g => ?_, fun h2 => ⟨_, tims hx hn (fun j hj => ?_) (fun j hj => ?_) q.2.2.2.2.length 0 (by omega) (fun t ht => by simp at ht) (by simp)⟩⟩⟩⟩
    ·unfold jcoS at h
     obtain ⟨j, hj, hjb⟩ := List.any_eq_true.1 h
     have h1 := g.tasks j hj
     unfold lc1M lc1j3M at hjb
     rw [Bool.or_eq_true, nlwi_iff] at hjb
     rcases hjb with hjb | hjb
     ·rw [h1.2] at hjb; cases hjb
     ·omega
    ·unfold jcoS at h2
     obtain ⟨j, hj, hjb⟩ := List.any_eq_true.1 h2
     have h1 := g.smalls j hj
     unfold lc2M lc2j3M at hjb
     rw [h1.2, h1.1] at hjb; cases hjb
    ·unfold jcoS at h
     have hjb : lc1M j = false := by simpa using List.any_eq_false.1 h j hj
     unfold lc1M lc1j3M at hjb
     rw [Bool.or_eq_false_iff] at hjb
     exact ⟨nlwi_no hjb.2, hjb.1⟩
    ·unfold jcoS at h2
     have hjb : lc2M j = false := by simpa using List.any_eq_false.1 h2 j hj
     unfold lc2M lc2j3M at hjb
     rw [Bool.or_eq_false_iff] at hjb
     exact ⟨by simpa using hjb.2, by simpa using hjb.1⟩
   | succ k ih =>
    intro i m hi hx hn hm
    have hil : i < (lnuS q).length := by omega
    have hmem := mem_getD (default : Int) hil
    refine ⟨fun _ => ⟨by omega, by omega, ?_⟩, fun h => by have := of_decide_eq_false h; omega⟩
    rw [Int.toNat_natCast, w64 (show -9223372036854775808 ≤ q.2.1 - 1 ∧ q.2.1 - 1 ≤ 9223372036854775807 by omega)]
    refine ⟨fun h => ⟨fun _ => no fun g => ?_, (fun h => by cases h)⟩, fun h => ⟨fun v hv => ⟨fun h2 => no fun g => ?_, fun h2 => ?_⟩, fun hv => ⟨(fun h2 => by cases h2), fun h2 => ?_⟩⟩⟩
    ·rw [nlwi_iff] at h
     have := g.ids _ hmem; omega
    ·rw [hm] at hv
     by_cases hc : (lnuS q).getD i default ∈ (lnuS q).take i
     ·exact not_nodup hil hc g.once
     ·rw [if_neg hc] at hv; cases hv
    ·rw [hm] at hv
     by_cases hc : (lnuS q).getD i default ∈ (lnuS q).take i
     ·rw [if_pos hc] at hv
      obtain rfl : v = 1 := (Option.some.inj hv).symm
      cases h2
     ·rw [if_neg hc] at hv; cases hv
    ·have hr := nlwi_no h
     have hc : (lnuS q).getD i default ∉ (lnuS q).take i := fun hc => by rw [hm, if_pos hc] at hv; cases hv
     rw [Int.toNat_natCast, w64 (by omega)]
     refine ih (i + 1) _ (by omega) (fun x hxm => ?_) ?_ (fun id => ?_)
     ·rw [take_get default hil] at hxm
      rcases List.mem_append.1 hxm with hxm | hxm
      ·exact hx x hxm
      ·rw [List.mem_singleton] at hxm; subst hxm; omega
     ·rw [take_get default hil]; exact nodup_snoc hn hc
     ·rw [assoc_put, hm, take_get default hil]
      by_cases he : id = (lnuS q).getD i default
      ·rw [if_pos (by rw [he]; exact beq_self_eq_true _), if_pos (List.mem_append.2 (.inr (List.mem_singleton.2 he)))]
      ·rw [if_neg (by simpa using he)]
       by_cases hd : id ∈ (lnuS q).take i
       ·rw [if_pos hd, if_pos (List.mem_append.2 (.inl hd))]
       ·rw [if_neg hd, if_neg (fun hm2 => by
         rcases List.mem_append.1 hm2 with hm2 | hm2
         ·exact hd hm2
         ·exact he (List.mem_singleton.1 hm2))]
  exact ⟨_, nums (lnuS q).length 0 [] (by omega) (fun x hx => by simp at hx) (by simp) (fun id => by simp [assocK])⟩
 exact ⟨fun _ => j12, fun _ => j12⟩
theorem lch_c {g : Ghost} {axq_0 : Option Addr} {cxq_0 : Nat} {axq_1 : Option Addr} {cxq_1 : Nat} {axq_2 : Option Addr} {cxq_2 : Nat} (xq : Int × Int × (List (Int × Int × Bool × Bs × Int × Int × Bs)) × (List (Int × Int × Bool × Bs × Int × Int × Bs)) × List (Int × Int × Int × Int × Bs)) (hRxq_0 : Rep g (.slice (.pair (.int .i64) (.pair (.int .i64) (.pair (.bool) (.pair (.str) (.pair (.int .i64) (.pair (.int .i64) (.str)))))))) [.slice axq_0 xq.2.2.1.length cxq_0] xq.2.2.1) (hRxq_1 : Rep g (.slice (.pair (.int .i64) (.pair (.int .i64) (.pair (.bool) (.pair (.str) (.pair (.int .i64) (.pair (.int .i64) (.str)))))))) [.slice axq_1 xq.2.2.2.1.length cxq_1] xq.2.2.2.1) (hRxq_2 : Rep g (.slice (.pair (.int .i64) (.pair (.int .i64) (.pair (.int .i64) (.pair (.int .i64) (.str)))))) [.slice axq_2 xq.2.2.2.2.length cxq_2] xq.2.2.2.2)  (hp : lchP xq) : CallsG Try.prog 14 #[.agg #[.int .i64 xq.1, .int .i64 xq.2.1, .slice axq_0 xq.2.2.1.length cxq_0, .slice axq_1 xq.2.2.2.1.length cxq_1, .slice axq_2 xq.2.2.2.2.length cxq_2]] g (.int .i64 (lchS xq)) :=
 (lch_ok xq hRxq_0 hRxq_1 hRxq_2 _ (lch_F xq hp)).gives (by rintro g' H' v _ ⟨r0, rfl, rfl, hK⟩; subst hK; rfl)
def llaV0 (xl : List (JT)) (xt : JT) (x9l9i10 : Int) : Bool :=
 ((decide (x9l9i10 < (xl.length : Int))) && ((lbeS (xl.getD (Int.toNat x9l9i10) default) xt) == 0))
def llaj24i10 (xl : List (JT)) (xt : JT) (K : (List (JT)) → Prop) (x9l9i10 : Int) : Prop :=
 tinP xl x9l9i10 ([xt] : List (JT)) ∧ K (tinS xl x9l9i10 ([xt] : List (JT)))
def llal9x1b (xl : List (JT)) (xt : JT) (K : (List (JT)) → Prop) (x9l9i10 : Int) (x10l9i10 : Int) (C9x1 : Int → Int → Prop) : Prop :=
 ((decide (x9l9i10 < x10l9i10)) = true → (0 : Int) ≤ (w6 (Int.fdiv (IntKind.wrap .u64 (w6 (x9l9i10 + x10l9i10))) (2 ^ 1))) ∧ Int.toNat (w6 (Int.fdiv (IntKind.wrap .u64 (w6 (x9l9i10 + x10l9i10))) (2 ^ 1))) < xl.length ∧ ((decide ((lbeS (xl.getD (Int.toNat (w6 (Int.fdiv (IntKind.wrap .u64 (w6 (x9l9i10 + x10l9i10))) (2 ^ 1)))) default) xt) < 0)) = true → C9x1 (w6 ((w6 (Int.fdiv (IntKind.wrap .u64 (w6 (x9l9i10 + x10l9i10))) (2 ^ 1))) + 1)) x10l9i10) ∧ ((decide ((lbeS (xl.getD (Int.toNat (w6 (Int.fdiv (IntKind.wrap .u64 (w6 (x9l9i10 + x10l9i10))) (2 ^ 1)))) default) xt) < 0)) = false → C9x1 x9l9i10 (w6 (Int.fdiv (IntKind.wrap .u64 (w6 (x9l9i10 + x10l9i10))) (2 ^ 1))))) ∧ ((decide (x9l9i10 < x10l9i10)) = false → ((decide (x9l9i10 < (xl.length : Int))) = true → (0 : Int) ≤ x9l9i10 ∧ Int.toNat x9l9i10 < xl.length ∧ llaj24i10 xl xt K x9l9i10) ∧ ((decide (x9l9i10 < (xl.length : Int))) = false → llaj24i10 xl xt K x9l9i10))
def llal9x1 (xl : List (JT)) (xt : JT) (K : (List (JT)) → Prop) : Nat → Int → Int → Prop
 | 0, _, _ => False
 | k + 1, x9l9i10, x10l9i10 => llal9x1b xl xt K x9l9i10 x10l9i10 (llal9x1 xl xt K k)
def llaF (xl : List (JT)) (xt : JT) (K : (List (JT)) → Prop) : Prop :=
 ∃ k, llal9x1 xl xt K k 0 (xl.length : Int)
theorem lla_ok {g : Ghost} {axl : Option Addr} {cxl : Nat} {xsxl : List Value} (xl : List (JT)) (xt : JT) (hLxl : RepL g (.pair (.int .i64) (.pair (.int .i64) (.pair (.int .i64) (.pair (.int .i64) (.str))))) xsxl xl) (K : (List (JT)) → Prop)
  (hF : llaF xl xt K) : CallsH Try.prog 91 #[.slice axl xl.length cxl, .agg #[.int .i64 xt.1, .int .i64 xt.2.1, .int .i64 xt.2.2.1, .int .i64 xt.2.2.2.1, sv xt.2.2.2.2]] g [.own (.slice axl xl.length cxl) 93 5 xl.length xsxl] (fun g' H' v => ∃ (r0 : List (JT)), ∃ (ar0 : Option Addr) (cr0 : Nat) (xsr0 : List Value), v = .slice ar0 r0.length cr0 ∧ RepL g' (.pair (.int .i64) (.pair (.int .i64) (.pair (.int .i64) (.pair (.int .i64) (.str))))) xsr0 r0 ∧ H' = [.own (.slice ar0 r0.length cr0) 93 5 r0.length xsr0] ∧ K r0) := by
 refine CallsH.enter 18 [(0, .slice axl xl.length cxl), (1, .agg #[.int .i64 xt.1, .int .i64 xt.2.1, .int .i64 xt.2.2.1, .int .i64 xt.2.2.2.1, sv xt.2.2.2.2])] Try.func91 rfl (by kernel_rfl) (by kernel_rfl) (by kernel_rfl) fun w0 => ?_
 refine Ok.seq (Ok.region (Ok.op rfl (OpOk.box (v := .agg #[.int .i64 xt.1, .int .i64 xt.2.1, .int .i64 xt.2.2.1, .int .i64 xt.2.2.2.1, sv xt.2.2.2.2]) (cs := #[.int .i64 xt.1, .int .i64 xt.2.1, .int .i64 xt.2.2.1, .int .i64 xt.2.2.2.1, sv xt.2.2.2.2]) rfl (by kernel_rfl) rfl fun bs3 => ?_)))
 refine Ok.batch 1 [(0, .slice axl xl.length cxl), (3, pv bs3 0)] (by kernel_rfl) (Ok.nil (Ok.thenN (Ok.seq (Ok.region (Ok.bat 1 [0, 3] [(8, .slice axl xl.length cxl)] ?_)))))
 refine Ok.op rfl (OpOk.step (v := .agg #[.int .i64 xt.1, .int .i64 xt.2.1, .int .i64 xt.2.2.1, .int .i64 xt.2.2.2.1, sv xt.2.2.2.2]) (Yields.loadAgg 0 5 #[.int .i64 xt.1, .int .i64 xt.2.1, .int .i64 xt.2.2.1, .int .i64 xt.2.2.2.1, sv xt.2.2.2.2] rfl rfl Try.underlying93 rfl (by kernel_rfl) (by kernel_rfl) (by kernel_rfl)) rfl rfl (Ok.op rfl (OpOk.inline (args := #[.slice axl xl.length cxl, .agg #[.int .i64 xt.1, .int .i64 xt.2.1, .int .i64 xt.2.2.1, .int .i64 xt.2.2.2.1, sv xt.2.2.2.2], .func (.func 50) #[] #[]]) 49 [(0, .slice axl xl.length cxl), (1, .agg #[.int .i64 xt.1, .int .i64 xt.2.1, .int .i64 xt.2.2.1, .int .i64 xt.2.2.2.1, sv xt.2.2.2.2]), (2, .func (.func 50) #[] #[])] enr Try.func106 rfl rfl rfl rfl (Ok.seq (Ok.region (Ok.op rfl (OpOk.box (v := .agg #[.int .i64 xt.1, .int .i64 xt.2.1, .int .i64 xt.2.2.1, .int .i64 xt.2.2.2.1, sv xt.2.2.2.2]) (cs := #[.int .i64 xt.1, .int .i64 xt.2.1, .int .i64 xt.2.2.1, .int .i64 xt.2.2.2.1, sv xt.2.2.2.2]) rfl (by kernel_rfl) rfl fun bs4i10 => ?_)))))))
 refine Ok.bat 2 [0] [(2, .func (.func 50) #[] #[]), (4, pv bs4i10 0)] ?_
 refine Ok.nil (Ok.thenN (Ok.seq (Ok.region (Ok.bat 3 [0, 2, 4] [(8, .int .i64 (xl.length : Int))] ?_))))
 refine Ok.nil (Ok.thenN (Ok.seq (Ok.region (Ok.bat 3 [0, 2, 4, 8] [(9, .int .i64 0), (10, .int .i64 (xl.length : Int))] ?_))))
 refine Ok.nil (Ok.thenN (Ok.seq (Ok.block ?_)))
 obtain ⟨k, hF⟩ := hF
 refine Ok.loop (fun k a W => ∃ gl9i10 : Ghost, Gext w0 g gl9i10 ∧ ∃ (x9l9i10 : Int) (x10l9i10 : Int), StA 49 [(0, .slice axl xl.length cxl), (2, .func (.func 50) #[] #[]), (4, pv bs4i10 0), (8, .int .i64 (xl.length : Int)), (9, .int .i64 x9l9i10), (10, .int .i64 x10l9i10)] a ∧ StW w0 [.blk bs4i10 (.cells #[.int .i64 xt.1, .int .i64 xt.2.1, .int .i64 xt.2.2.1, .int .i64 xt.2.2.2.1, sv xt.2.2.2.2] 93), .blk bs3 (.cells #[.int .i64 xt.1, .int .i64 xt.2.1, .int .i64 xt.2.2.1, .int .i64 xt.2.2.2.1, sv xt.2.2.2.2] 93), .own (.slice axl xl.length cxl) 93 5 xl.length xsxl] gl9i10 W ∧ llal9x1 xl xt K k x9l9i10 x10l9i10) k ?_ ?_
 ·
  exact fun a W hA hW => ⟨g, (Gext.refl w0 g), 0, (xl.length : Int), hA.sub (by kernel_rfl), hW, hF⟩
 ·
  clear hF
  rintro k9x1 a W ⟨gl9i10, hxl9i10, x9l9i10, x10l9i10, hA, hW, hF⟩
  cases k9x1 with
  | zero => exact (hF : False).elim
  | succ k9x1 =>
   refine (?_ : Ok _ _ _ _ _ _) a W hA hW
   clear hA hW
   replace hLxl := hLxl.mono hxl9i10.1
   refine Ok.seq (Ok.seq (Ok.region (Ok.bat 3 [0, 2, 4, 8, 9, 10] [(17, .bool (decide (x9l9i10 < x10l9i10)))] ?_)))
   refine Ok.nil (Ok.thenN (Ok.cond (b := decide (x9l9i10 < x10l9i10)) rfl (fun hc3 => ?_) (fun hc3 => ?_)))
   ·replace hF := hF.1 hc3
    refine Ok.skip (Ok.thenN (Ok.block (Ok.seq (Ok.region (Ok.bat 7 [0, 2, 4, 8, 9, 10] [(11, .int .i64 (w6 (Int.fdiv (IntKind.wrap .u64 (w6 (x9l9i10 + x10l9i10))) (2 ^ 1))))] ?_)))))
    refine Ok.nil (Ok.thenN (Ok.seq (Ok.quiet' (by kernel_rfl) (by kernel_rfl) (OkQ.bat 3 [0, 2, 4, 8, 9, 10, 11] [(24, .func (.func 50) #[] #[]), (25, .slice axl xl.length cxl), (26, .int .i64 (w6 (Int.fdiv (IntKind.wrap .u64 (w6 (x9l9i10 + x10l9i10))) (2 ^ 1))))] ?_))))
    obtain ⟨h05, h15, hF⟩ := hF
    have he5 := get_of (l := xl) (default : JT) h15
    generalize hg5 : (xl.getD (Int.toNat (w6 (Int.fdiv (IntKind.wrap .u64 (w6 (x9l9i10 + x10l9i10))) (2 ^ 1)))) default) = e5 at he5 hF ⊢
    refine OkQ.op rfl (OpQ.indexOwn (e := .pair (.int .i64) (.pair (.int .i64) (.pair (.int .i64) (.pair (.int .i64) (.str))))) (q := w6 (Int.fdiv (IntKind.wrap .u64 (w6 (x9l9i10 + x10l9i10))) (2 ^ 1))) (el := e5) 2 rfl hLxl rfl rfl Try.underlying35 (by kernel_rfl) (by kernel_rfl) h05 he5 rfl fun cs4 _ hr4 hc4 => ?_)
    obtain ⟨_, _, rfl, rfl, ⟨_, _, rfl, rfl, ⟨_, _, rfl, rfl, ⟨_, _, rfl, rfl, rfl⟩⟩⟩⟩ := hr4
    replace hc4 : ∀ j v, ([.int .i64 e5.1, .int .i64 e5.2.1, .int .i64 e5.2.2.1, .int .i64 e5.2.2.2.1, sv e5.2.2.2.2] : List Value)[j]? = some v → xsxl[Int.toNat (w6 (Int.fdiv (IntKind.wrap .u64 (w6 (x9l9i10 + x10l9i10))) (2 ^ 1))) * 5 + j]? = some v := hc4
    refine OkQ.op rfl (OpQ.step (v := .agg #[.int .i64 e5.1, .int .i64 e5.2.1, .int .i64 e5.2.2.1, .int .i64 e5.2.2.2.1, sv e5.2.2.2.2]) (Yields.loadAggOwn 2 0 5 #[.int .i64 e5.1, .int .i64 e5.2.1, .int .i64 e5.2.2.1, .int .i64 e5.2.2.2.1, sv e5.2.2.2.2] rfl hc4 rfl Try.underlying93 rfl (by kernel_rfl) (by kernel_rfl) (by kernel_rfl)) rfl rfl (OkQ.op rfl (OpQ.step (v := .agg #[.int .i64 xt.1, .int .i64 xt.2.1, .int .i64 xt.2.2.1, .int .i64 xt.2.2.2.1, sv xt.2.2.2.2]) (Yields.loadAgg 0 5 #[.int .i64 xt.1, .int .i64 xt.2.1, .int .i64 xt.2.2.1, .int .i64 xt.2.2.2.1, sv xt.2.2.2.2] rfl rfl Try.underlying93 rfl (by kernel_rfl) (by kernel_rfl) (by kernel_rfl)) rfl rfl (OkQ.op rfl (OpQ.callG (v := .int .i64 (lbeS e5 xt)) enr (fun W hW => lbe_c e5 xt) rfl ?_)))))
    refine OkQ.bat 1 [0, 2, 4, 8, 9, 10, 11] [(31, .bool (decide ((lbeS e5 xt) < 0)))] ?_
    refine OkQ.nil (Ok.thenN (Ok.cond (b := decide ((lbeS e5 xt) < 0)) rfl (fun hc6 => ?_) (fun hc6 => ?_)))
    ·replace hF := hF.1 hc6
     refine Ok.region (Ok.bat 3 [0, 2, 4, 8, 10] [(9, .int .i64 (w6 ((w6 (Int.fdiv (IntKind.wrap .u64 (w6 (x9l9i10 + x10l9i10))) (2 ^ 1))) + 1)))] ?_)
     refine Ok.nil (Ok.blockN (Ok.thenN ?_))
     subst hg5
     exact fun a W hA hW => ⟨k9x1, Nat.lt_succ_self _, gl9i10, hxl9i10, w6 ((w6 (Int.fdiv (IntKind.wrap .u64 (w6 (x9l9i10 + x10l9i10))) (2 ^ 1))) + 1), x10l9i10, hA.sub (by kernel_rfl), hW, hF⟩
    ·replace hF := hF.2 hc6
     refine Ok.region (Ok.bat 2 [0, 2, 4, 8, 9] [(10, .int .i64 (w6 (Int.fdiv (IntKind.wrap .u64 (w6 (x9l9i10 + x10l9i10))) (2 ^ 1))))] ?_)
     refine Ok.nil (Ok.blockN (Ok.thenN ?_))
     subst hg5
     exact fun a W hA hW => ⟨k9x1, Nat.lt_succ_self _, gl9i10, hxl9i10, x9l9i10, w6 (Int.fdiv (IntKind.wrap .u64 (w6 (x9l9i10 + x10l9i10))) (2 ^ 1)), hA.sub (by kernel_rfl), hW, hF⟩
   ·replace hF := hF.2 hc3
    refine Ok.exit (Ok.thenE (Ok.thenE (Ok.blockHit (Ok.thenN (Ok.cut (fun a W => ∃ gj24i10 : Ghost, Gext w0 gl9i10 gj24i10 ∧ StA 49 [(6, .int .i64 x9l9i10), (7, .bool (llaV0 xl xt x9l9i10))] a ∧ StW w0 [.blk bs3 (.cells #[.int .i64 xt.1, .int .i64 xt.2.1, .int .i64 xt.2.2.1, .int .i64 xt.2.2.2.1, sv xt.2.2.2.2] 93), .own (.slice axl xl.length cxl) 93 5 xl.length xsxl] gj24i10 W ∧ llaj24i10 xl xt K x9l9i10) ?_ ?_)))))
    ·
     refine Ok.quiet' (by kernel_rfl) (by kernel_rfl) (OkQ.bat 5 [0, 2, 4, 9] [(35, .int .i64 x9l9i10), (39, .bool (decide (x9l9i10 < (xl.length : Int))))] ?_)
     refine OkQ.boolAt 39 (decide (x9l9i10 < (xl.length : Int))) rfl (fun hc10 => ?_) (fun hc10 => ?_)
     ·replace hF := hF.1 hc10
      refine OkQ.bat 3 [4, 35] [(39, .bool true), (40, .func (.func 50) #[] #[]), (41, .slice axl xl.length cxl), (42, .int .i64 x9l9i10)] ?_
      obtain ⟨h012, h112, hF⟩ := hF
      have he12 := get_of (l := xl) (default : JT) h112
      generalize hg12 : (xl.getD (Int.toNat x9l9i10) default) = e12 at he12 hF ⊢
      refine OkQ.opYes (j := 4) (d := 39) (want := true) (b := true) rfl (by kernel_rfl) (by kernel_rfl) rfl (OpQ.indexOwn (e := .pair (.int .i64) (.pair (.int .i64) (.pair (.int .i64) (.pair (.int .i64) (.str))))) (q := x9l9i10) (el := e12) 2 rfl hLxl rfl rfl Try.underlying35 (by kernel_rfl) (by kernel_rfl) h012 he12 rfl fun cs11 _ hr11 hc11 => ?_)
      obtain ⟨_, _, rfl, rfl, ⟨_, _, rfl, rfl, ⟨_, _, rfl, rfl, ⟨_, _, rfl, rfl, rfl⟩⟩⟩⟩ := hr11
      replace hc11 : ∀ j v, ([.int .i64 e12.1, .int .i64 e12.2.1, .int .i64 e12.2.2.1, .int .i64 e12.2.2.2.1, sv e12.2.2.2.2] : List Value)[j]? = some v → xsxl[Int.toNat x9l9i10 * 5 + j]? = some v := hc11
      refine OkQ.opYes (j := 4) (d := 39) (want := true) (b := true) rfl (by kernel_rfl) (by kernel_rfl) rfl (OpQ.step (v := .agg #[.int .i64 e12.1, .int .i64 e12.2.1, .int .i64 e12.2.2.1, .int .i64 e12.2.2.2.1, sv e12.2.2.2.2]) (Yields.loadAggOwn 2 0 5 #[.int .i64 e12.1, .int .i64 e12.2.1, .int .i64 e12.2.2.1, .int .i64 e12.2.2.2.1, sv e12.2.2.2.2] rfl hc11 rfl Try.underlying93 rfl (by kernel_rfl) (by kernel_rfl) (by kernel_rfl)) rfl rfl (OkQ.opYes (j := 4) (d := 39) (want := true) (b := true) rfl (by kernel_rfl) (by kernel_rfl) rfl (OpQ.step (v := .agg #[.int .i64 xt.1, .int .i64 xt.2.1, .int .i64 xt.2.2.1, .int .i64 xt.2.2.2.1, sv xt.2.2.2.2]) (Yields.loadAgg 0 5 #[.int .i64 xt.1, .int .i64 xt.2.1, .int .i64 xt.2.2.1, .int .i64 xt.2.2.2.1, sv xt.2.2.2.2] rfl rfl Try.underlying93 rfl (by kernel_rfl) (by kernel_rfl) (by kernel_rfl)) rfl rfl (OkQ.opYes (j := 4) (d := 39) (want := true) (b := true) rfl (by kernel_rfl) (by kernel_rfl) rfl (OpQ.callG (v := .int .i64 (lbeS e12 xt)) enr (fun W hW => lbe_c e12 xt) rfl ?_)))))
      refine OkQ.batch 4 [(6, .int .i64 x9l9i10), (7, .bool ((lbeS e12 xt) == 0))] (by kernel_rfl) (OkQ.nil (Ok.thenN ?_))
      subst hg12
      refine Ok.reval 7 rfl (show (.bool ((lbeS (xl.getD (Int.toNat x9l9i10) default) xt) == 0) : Value) = .bool (llaV0 xl xt x9l9i10) from congrArg (Value.bool) (mand_t hc10)) ?_
      exact fun a W hA hW => ⟨gl9i10, (Gext.refl w0 gl9i10), hA.sub (by kernel_rfl), hW.sub (.cons _ (.cons_cons _ (.cons_cons _ .slnil))), hF⟩
     ·replace hF := hF.2 hc10
      refine OkQ.batch 11 [(6, .int .i64 x9l9i10), (7, .bool false)] (by kernel_rfl) (OkQ.nil (Ok.thenN (Ok.reval 7 rfl (show (.bool false : Value) = .bool (llaV0 xl xt x9l9i10) from congrArg (Value.bool) (mand_f hc10)) ?_)))
      exact fun a W hA hW => ⟨gl9i10, (Gext.refl w0 gl9i10), hA.sub (by kernel_rfl), hW.sub (.cons _ (.cons_cons _ (.cons_cons _ .slnil))), hF⟩
    ·
     clear hF
     rintro a W ⟨gj24i10, hxj24i10, hA, hW, hF⟩
     refine (?_ : Ok _ _ _ _ _ _) a W hA hW
     clear hA hW
     replace hLxl := hLxl.mono hxj24i10.1
     refine Ok.ret (Ok.back (vs := [.int .i64 x9l9i10, .bool (llaV0 xl xt x9l9i10)]) (.inl rfl) rfl (.cons (.tmp rfl) (.cons (.tmp rfl) .nil)) rfl (Ok.batch 5 [(0, .slice axl xl.length cxl), (3, pv bs3 0), (5, .int .i64 x9l9i10)] (by kernel_rfl) (Ok.nil (Ok.thenN (Ok.seq (Ok.region (Ok.bat 2 [3] [(13, .slice axl xl.length cxl), (14, .int .i64 x9l9i10)] ?_)))))))
     refine Ok.op rfl (OpOk.step (v := .agg #[.int .i64 xt.1, .int .i64 xt.2.1, .int .i64 xt.2.2.1, .int .i64 xt.2.2.2.1, sv xt.2.2.2.2]) (Yields.loadAgg 0 5 #[.int .i64 xt.1, .int .i64 xt.2.1, .int .i64 xt.2.2.1, .int .i64 xt.2.2.2.1, sv xt.2.2.2.2] rfl rfl Try.underlying93 rfl (by kernel_rfl) (by kernel_rfl) (by kernel_rfl)) rfl rfl ?_)
     have hL7 : RepL gj24i10 (.pair (.int .i64) (.pair (.int .i64) (.pair (.int .i64) (.pair (.int .i64) (.str))))) ([.int .i64 xt.1, .int .i64 xt.2.1, .int .i64 xt.2.2.1, .int .i64 xt.2.2.2.1, sv xt.2.2.2.2] : List Value) ([xt] : List (JT)) := (RepL.consN (c := [.int .i64 xt.1, .int .i64 xt.2.1, .int .i64 xt.2.2.1, .int .i64 xt.2.2.2.1, sv xt.2.2.2.2]) ⟨[.int .i64 xt.1], [.int .i64 xt.2.1, .int .i64 xt.2.2.1, .int .i64 xt.2.2.2.1, sv xt.2.2.2.2], rfl, rfl, ⟨[.int .i64 xt.2.1], [.int .i64 xt.2.2.1, .int .i64 xt.2.2.2.1, sv xt.2.2.2.2], rfl, rfl, ⟨[.int .i64 xt.2.2.1], [.int .i64 xt.2.2.2.1, sv xt.2.2.2.2], rfl, rfl, ⟨[.int .i64 xt.2.2.2.1], [sv xt.2.2.2.2], rfl, rfl, rfl⟩⟩⟩⟩ rfl)
     refine Ok.op rfl (OpOk.lit (E := 93) (.pair (.int .i64) (.pair (.int .i64) (.pair (.int .i64) (.pair (.int .i64) (.str))))) ([xt] : List (JT)) ([.int .i64 xt.1, .int .i64 xt.2.1, .int .i64 xt.2.2.1, .int .i64 xt.2.2.2.1, sv xt.2.2.2.2] : List Value) (by kernel_rfl) (by kernel_rfl) rfl (by kernel_rfl) hL7 rfl fun b7 => ?_)
     obtain ⟨hp8, hF⟩ := hF
     refine Ok.entries [2, 0, 1] [.own (.slice axl xl.length cxl) 93 5 xl.length xsxl, .own (.slice (some ⟨b7, 0, none⟩) ([xt] : List (JT)).length 1) 93 5 ([xt] : List (JT)).length ([.int .i64 xt.1, .int .i64 xt.2.1, .int .i64 xt.2.2.1, .int .i64 xt.2.2.2.1, sv xt.2.2.2.2] : List Value), .blk bs3 (.cells #[.int .i64 xt.1, .int .i64 xt.2.1, .int .i64 xt.2.2.1, .int .i64 xt.2.2.2.1, sv xt.2.2.2.2] 93)] (by decide) rfl (Ok.op rfl (OpOk.callH [_, _] _ enr rfl (tin_c xl x9l9i10 ([xt] : List (JT)) hLxl hL7 hp8) rfl fun g9 _ _ hx9 hV9 => ?_))
     obtain ⟨a9_0, c9_0, xs9_0, rfl, hL9_0, rfl⟩ := hV9
     replace hLxl := hLxl.mono hx9.1
     replace hL7 := hL7.mono hx9.1
     refine Ok.batch 1 [(4, .slice a9_0 (tinS xl x9l9i10 ([xt] : List (JT))).length c9_0)] (by kernel_rfl) (Ok.nil (Ok.thenN (Ok.ret ?_)))
     exact Ok.resP (vs := [.slice a9_0 (tinS xl x9l9i10 ([xt] : List (JT))).length c9_0]) [0] [.own (.slice a9_0 (tinS xl x9l9i10 ([xt] : List (JT))).length c9_0) 93 5 (tinS xl x9l9i10 ([xt] : List (JT))).length xs9_0] (by decide) rfl (.inl rfl) rfl (.cons (.tmp rfl) .nil) ((hxl9i10.trans hxj24i10).trans hx9) ⟨(tinS xl x9l9i10 ([xt] : List (JT))), a9_0, c9_0, xs9_0, rfl, hL9_0, rfl, hF⟩
/-- one timer among the others -/
def aft (s t : JT) : Bool := decide (s.2.1 > t.2.1) || ((s.2.1 == t.2.1) && decide (s.1 > t.1))
def llaS : List JT → JT → List JT
 | [], t => [t]
 | s :: l, t => if aft s t = true then t :: s :: l else s :: llaS l t
def llaP (l : List JT) (t : JT) : Prop := l.Pairwise ltT ∧ (∀ x ∈ l, x.1 ≠ t.1) ∧ l.length ≤ 1000
theorem aft_iff (s t : JT) : aft s t = true ↔ ltT t s := by
 unfold aft ltT
 rw [Bool.or_eq_true, Bool.and_eq_true, decide_eq_true_eq, decide_eq_true_eq, beq_iff_eq]
 omega
theorem lla_at : ∀ (l : List JT) (t : JT) (i : Nat), i ≤ l.length → (∀ k, k < i → ltT (l.getD k default) t) → (∀ k, i ≤ k → k < l.length → ltT t (l.getD k default)) → llaS l t = l.take i ++ [t] ++ l.drop i
 | [], t, i, h, _, _ => by
  have : i = 0 := by simpa using h
  subst this; rfl
 | s :: l, t, 0, _, _, h2 => by
  have := h2 0 (Nat.le_refl _) (by simp)
  rw [llaS, if_pos ((aft_iff s t).2 this)]; rfl
 | s :: l, t, i + 1, h, h1, h2 => by
  have h0 : ltT s t := h1 0 (by omega)
  have hn : ¬ aft s t = true := fun hc => by
   have := (aft_iff s t).1 hc
   unfold ltT at this h0; omega
  rw [llaS, if_neg hn, lla_at l t i (by simpa using h) (fun k hk => h1 (k + 1) (by omega)) (fun k hk hk2 => h2 (k + 1) (by omega) (by simpa using hk2))]
  rfl
theorem half (a b : Nat) (h : a + b ≤ 10000) : w6 (Int.fdiv (IntKind.wrap .u64 (w6 ((a : Int) + (b : Int)))) (2 ^ 1)) = ((((a + b) / 2 : Nat)) : Int) := by
 have h1 : w6 ((a : Int) + (b : Int)) = (a : Int) + (b : Int) := w64 (by omega)
 have h2 : IntKind.wrap .u64 ((a : Int) + (b : Int)) = (a : Int) + (b : Int) := by
  rw [show ((a : Int) + (b : Int)) = ((a + b : Nat) : Int) by omega]
  exact wu64 (by omega)
 rw [h1, h2, Int.fdiv_eq_ediv_of_nonneg _ (by decide), show ((2 : Int) ^ 1) = 2 from rfl, w64 (by omega)]
 omega
theorem lla_F (l : List JT) (t : JT) (hp : llaP l t) : llaF l t (fun r => r = llaS l t) := by
 obtain ⟨hs, hd, hl⟩ := hp
 have done : ∀ (i : Nat), i ≤ l.length → (∀ k, k < i → ltT (l.getD k default) t) → (∀ k, i ≤ k → k < l.length → ¬ ltT (l.getD k default) t) → llaj24i10 l t (fun r => r = llaS l t) (i : Int) := by
  intro i hi h1 h2
  refine ⟨⟨by omega, by omega, by omega, rfl⟩, ?_⟩
  unfold tinS
  rw [Int.toNat_natCast, lla_at l t i hi h1 fun k hk hk2 => ?_]
  have h3 := h2 k hk hk2
  have h4 := hd _ (mem_getD default hk2)
  unfold ltT at h3 ⊢
  omega
 have loop : ∀ (q i j : Nat), i ≤ j → j ≤ l.length → j - i ≤ q → (∀ k, k < i → ltT (l.getD k default) t) → (∀ k, j ≤ k → k < l.length → ¬ ltT (l.getD k default) t) → llal9x1 l t (fun r => r = llaS l t) (q + 1) (i : Int) (j : Int) := by
  intro q
  induction q with
  | zero =>
   intro i j hij hj hq h1 h2
   have hj2 := done i (by omega) h1 fun k hk hk2 => h2 k (by omega) hk2
   exact ⟨fun h => by have := of_decide_eq_true h; omega, fun _ => ⟨fun h => ⟨by omega, by have := of_decide_eq_true h; omega, hj2⟩, fun _ => hj2⟩⟩
  | succ q ih =>
   intro i j hij hj hq h1 h2
   by_cases hlt : i < j
   ·have hh := half i j (by omega)
    have e : (i + j) / 2 < j := by omega
    refine ⟨fun _ => ?_, fun h => by have := of_decide_eq_false h; omega⟩
    rw [hh, Int.toNat_natCast]
    refine ⟨by omega, by omega, fun h => ?_, fun h => ?_⟩
    ·have h3 := (lbe_lt _ _).1 (of_decide_eq_true h)
     rw [w64 (by omega)]
     have := ih ((i + j) / 2 + 1) j (by omega) hj (by omega) (fun k hk => ?_) h2
     ·exact this
     ·by_cases hk2 : k = (i + j) / 2
      ·subst hk2; exact h3
      ·exact ltT_trans (pair_get hs (show k < (i + j) / 2 by omega) (by omega)) h3
    ·have h3 : ¬ ltT (l.getD ((i + j) / 2) default) t := fun hc => of_decide_eq_false h ((lbe_lt _ _).2 hc)
     refine ih i ((i + j) / 2) (by omega) (by omega) (by omega) h1 fun k hk hk2 hc => ?_
     by_cases hk3 : k = (i + j) / 2
     ·subst hk3; exact h3 hc
     ·exact h3 (ltT_trans (pair_get hs (show (i + j) / 2 < k by omega) hk2) hc)
   ·have hj2 := done i (by omega) h1 fun k hk hk2 => h2 k (by omega) hk2
    exact ⟨fun h => by have := of_decide_eq_true h; omega, fun _ => ⟨fun h => ⟨by omega, by have := of_decide_eq_true h; omega, hj2⟩, fun _ => hj2⟩⟩
 exact ⟨l.length + 1, loop l.length 0 l.length (by omega) (Nat.le_refl _) (by omega) (fun k hk => by omega) (fun k hk hk2 => by omega)⟩
theorem lla_c {g : Ghost} {axl : Option Addr} {cxl : Nat} {xsxl : List Value} (xl : List (Int × Int × Int × Int × Bs)) (xt : Int × Int × Int × Int × Bs) (hLxl : RepL g (.pair (.int .i64) (.pair (.int .i64) (.pair (.int .i64) (.pair (.int .i64) (.str))))) xsxl xl)  (hp : llaP xl xt) : CallsH Try.prog 91 #[.slice axl xl.length cxl, .agg #[.int .i64 xt.1, .int .i64 xt.2.1, .int .i64 xt.2.2.1, .int .i64 xt.2.2.2.1, sv xt.2.2.2.2]] g [.own (.slice axl xl.length cxl) 93 5 xl.length xsxl] (fun g' H' v => ∃ (ar0 : Option Addr) (cr0 : Nat) (xsr0 : List Value), v = .slice ar0 (llaS xl xt).length cr0 ∧ RepL g' (.pair (.int .i64) (.pair (.int .i64) (.pair (.int .i64) (.pair (.int .i64) (.str))))) xsr0 (llaS xl xt) ∧ H' = [.own (.slice ar0 (llaS xl xt).length cr0) 93 5 (llaS xl xt).length xsr0]) :=
 (lla_ok xl xt hLxl _ (lla_F xl xt hp)).mono (by rintro g' H' v _ ⟨r0, ar0, cr0, xsr0, rfl, hLr0, rfl, hK⟩; subst hK; exact ⟨ar0, cr0, xsr0, rfl, hLr0, rfl⟩)
end Go.Proofs.Ytbifbljdmndjbaa.Lo
