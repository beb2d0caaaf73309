/- Properties: the program's answer is the reference's. -/
import Derived.Test.YteocjdpjpkjlaaaDoorPrc
namespace Go.Proofs.YteocjdpjpkjlaaaDoor.Pf
open Go Go.Eng Go.RowKit Sp
set_option linter.unusedVariables false
def LT : List UInt8 := [107, 108, 112, 110, 99, 97]
def kindHas (p : Int) (c : UInt8) : Bool := rhbS (rpkM.getD (Int.toNat p) default) (c.toNat : Int)
def kOk (k : Int) (p : Int) : Bool := scontS (patM p).2.1 (pletM k) == rhbS (rpkM.getD (Int.toNat p) default) ((LT.getD (Int.toNat (IntKind.wrap .i64 (k - 1))) 0).toNat : Int)
theorem k1_all : (List.range 59).all (fun n => kOk 1 (n : Int) && kOk 2 (n : Int) && kOk 3 (n : Int) && kOk 4 (n : Int) && kOk 5 (n : Int) && kOk 6 (n : Int) && !scontS (patM (n : Int)).2.1 [63]) = true := by decide +kernel
theorem k_ok {p : Int} (hp : p59 p) (k : Int) (h : k = 1 ∨ k = 2 ∨ k = 3 ∨ k = 4 ∨ k = 5 ∨ k = 6) : scontS (patM p).2.1 (pletM k) = rhbS (rpkM.getD (Int.toNat p) default) ((LT.getD (Int.toNat (IntKind.wrap .i64 (k - 1))) 0).toNat : Int) := by
  have := p59_all (P := fun p => kOk 1 p && kOk 2 p && kOk 3 p && kOk 4 p && kOk 5 p && kOk 6 p && !scontS (patM p).2.1 [63]) k1_all hp
  simp only [Bool.and_eq_true] at this
  obtain ⟨⟨⟨⟨⟨⟨h1, h2⟩, h3⟩, h4⟩, h5⟩, h6⟩, _⟩ := this
  rcases h with rfl | rfl | rfl | rfl | rfl | rfl
  · exact beq_iff_eq.1 h1
  · exact beq_iff_eq.1 h2
  · exact beq_iff_eq.1 h3
  · exact beq_iff_eq.1 h4
  · exact beq_iff_eq.1 h5
  · exact beq_iff_eq.1 h6
theorem q_no {p : Int} (hp : p59 p) : scontS (patM p).2.1 [63] = false := by
  have := p59_all (P := fun p => kOk 1 p && kOk 2 p && kOk 3 p && kOk 4 p && kOk 5 p && kOk 6 p && !scontS (patM p).2.1 [63]) k1_all hp
  simp only [Bool.and_eq_true] at this
  simpa using this.2
def keyMap (w : List UInt8) : List UInt8 := if (w == [45]) = true then [] else w
def keysOk (p : Int) : Bool := !(rhbS (rpkM.getD (Int.toNat p) default) 107) || ((splS (patM p).2.2.1 [32]).map keyMap == rpyM p)
theorem keys_eq {p : Int} (hp : p59 p) (hk : rhbS (rpkM.getD (Int.toNat p) default) 107 = true) : (splS (patM p).2.2.1 [32]).map keyMap = rpyM p := by
  have := p59_all (P := keysOk) (by decide +kernel) hp
  unfold keysOk at this
  rw [hk, Bool.not_true, Bool.false_or] at this
  exact beq_iff_eq.1 this
theorem getD_map {α β : Type} (f : α → β) (d : α) (e : β) (h : f d = e) : ∀ (l : List α) (i : Nat), (l.map f).getD i e = f (l.getD i d)
  | [], i => by simp [h]
  | a :: l, 0 => by simp
  | a :: l, i + 1 => by simpa using getD_map f d e h l i
theorem key_eq {p : Int} (hp : p59 p) (hk : rhbS (rpkM.getD (Int.toNat p) default) 107 = true) (n : Int) : (!(pkeyM (patM p) n == [])) = (decide (n ≥ 0) && (decide (n < ((rpyM p).length : Int)) && !((rpyM p).getD n.toNat default == []))) := by
  have he := keys_eq hp hk
  have hl : (splS (patM p).2.2.1 [32]).length = (rpyM p).length := by rw [← he, List.length_map]
  have hg : (rpyM p).getD n.toNat default = keyMap ((splS (patM p).2.2.1 [32]).getD n.toNat default) := by
    rw [← he]; exact getD_map keyMap default default rfl _ _
  show (!(pkeyj6M (patM p) n == [])) = _
  unfold pkeyj6M
  rw [hg, hl]
  unfold keyMap
  by_cases h1 : n < 0
  · rw [decide_eq_true h1, decide_eq_false (show ¬ n ≥ 0 by omega)]; rfl
  · by_cases h2 : n < ((rpyM p).length : Int)
    · rw [decide_eq_false h1, decide_eq_true (show n ≥ 0 by omega), decide_eq_true h2, decide_eq_false (show ¬ n ≥ ((rpyM p).length : Int) by omega)]
      cases ((splS (patM p).2.2.1 [32]).getD n.toNat default == [45]) <;> rfl
    · rw [decide_eq_false h1, decide_eq_true (show n ≥ 0 by omega), decide_eq_false h2, decide_eq_true (show n ≥ ((rpyM p).length : Int) by omega)]; rfl
def aboveOk (p : Int) : Bool := (!(rhbS (rpkM.getD (Int.toNat p) default) 108 || rhbS (rpkM.getD (Int.toNat p) default) 112 || rhbS (rpkM.getD (Int.toNat p) default) 110)) || ((patM p).2.2.2.2 == rhbS (rpkM.getD (Int.toNat p) default) 48)
theorem above_eq {p : Int} (hp : p59 p) (h : (rhbS (rpkM.getD (Int.toNat p) default) 108 || rhbS (rpkM.getD (Int.toNat p) default) 112 || rhbS (rpkM.getD (Int.toNat p) default) 110) = true) : (patM p).2.2.2.2 = rhbS (rpkM.getD (Int.toNat p) default) 48 := by
  have := p59_all (P := aboveOk) (by decide +kernel) hp
  unfold aboveOk at this
  rw [h, Bool.not_true, Bool.false_or] at this
  exact beq_iff_eq.1 this
def specOk (p : Int) : Bool := (!(p == 37) || (patM p).2.2.2.2) && (!(p == 34) || (patM p).2.2.2.2) && (!(p == 31 || p == 53) || !(patM p).2.2.2.2)
theorem range_eq {p : Int} (hp : p59 p) (v : Int × Int) (h : (rhbS (rpkM.getD (Int.toNat p) default) 108 || rhbS (rpkM.getD (Int.toNat p) default) 112 || rhbS (rpkM.getD (Int.toNat p) default) 110) = true) : pfitj38M p v = rvmj48M p v (rpkM.getD (Int.toNat p) default) := by
  have ha := above_eq hp h
  have hs := p59_all (P := specOk) (by decide +kernel) hp
  unfold specOk at hs
  unfold pfitj38M pfitj56M pfitj44M pfitj71M rvmj48M rvmj56M rvmj63M
  rw [← ha]
  rw [ha] at hs
  rw [ha]
  generalize rhbS (rpkM.getD (Int.toNat p) default) 48 = a at hs
  generalize v.2 = n
  generalize Int.tmod n 1000 = q
  have e37 : (p == 37) = decide (p = 37) := rfl
  have e34 : (p == 34) = decide (p = 34) := rfl
  have e31 : (p == 31) = decide (p = 31) := rfl
  have e53 : (p == 53) = decide (p = 53) := rfl
  have eq0 : (q != 0) = !decide (q = 0) := rfl
  rw [e37, e34, e31, e53] at hs ⊢
  rw [eq0]
  by_cases h37 : p = 37
  · subst h37
    cases a
    · simp at hs
    · by_cases h64 : n < 64
      · first | (simp [h64]; done) | (rw [Bool.eq_iff_iff]; simp [h64]; omega)
      · first | (simp [h64]; done) | (rw [Bool.eq_iff_iff]; simp [h64]; omega)
  · by_cases h34 : p = 34
    · subst h34
      cases a
      · simp at hs
      · by_cases hn : n < 0
        · first | (simp [hn]; done) | (rw [Bool.eq_iff_iff]; simp [hn]; omega)
        · by_cases h1000 : n > 1000
          · first | (simp [hn, h1000]; done) | (rw [Bool.eq_iff_iff]; simp [hn, h1000]; omega)
          · first | (simp [hn, h1000]; done) | (rw [Bool.eq_iff_iff]; simp [hn, h1000]; omega)
    · by_cases hz : p = 31 ∨ p = 53
      · have hz' : (decide (p = 31) || decide (p = 53)) = true := by simpa using hz
        rw [hz'] at hs ⊢
        cases a
        · simp only [h37, h34]
          by_cases hq : q = 0 <;> first | (simp [hq]; done) | (rw [Bool.eq_iff_iff]; simp [hq]; omega)
        · simp [h37, h34] at hs
      · have hz' : (decide (p = 31) || decide (p = 53)) = false := by simpa using hz
        rw [hz']
        simp only [h37, h34, decide_false, Bool.false_eq_true, if_false]
        cases a
        · simp
        · by_cases hn : n < 0
          · first | (simp [hn]; done) | (rw [Bool.eq_iff_iff]; simp [hn]; omega)
          · first | (simp [hn]; done) | (rw [Bool.eq_iff_iff]; simp [hn]; omega)
theorem fits_eq (p : Int) (v : Int × Int) : pfitM p v = rvmM p v := by
  show pfitj4M p v = rvmj4M p v
  unfold pfitj4M rvmj4M
  by_cases hp : p59 p
  · have hin : pinM p = true := by unfold pinM; rw [decide_eq_true hp.1, decide_eq_true hp.2]; rfl
    rw [hin, decide_eq_false (show ¬ p < 0 by have := hp.1; omega), decide_eq_false (show ¬ p ≥ 59 by have := hp.2; omega)]
    simp only [Bool.not_true, Bool.false_or]
    by_cases hk : v.1 < 1 ∨ v.1 > 6
    · have hq : (decide (v.1 < 1) || decide (v.1 > 6)) = true := by simpa using hk
      have hl : pletM v.1 = [63] := by unfold pletM; rw [if_t hq]
      rw [hl, q_no hp, if_t hq]; rfl
    · have hq : (decide (v.1 < 1) || decide (v.1 > 6)) = false := by simpa using hk
      have h6 : v.1 = 1 ∨ v.1 = 2 ∨ v.1 = 3 ∨ v.1 = 4 ∨ v.1 = 5 ∨ v.1 = 6 := by omega
      rw [k_ok hp _ h6, if_f hq]
      change (if (!rhbS (rpkM.getD (Int.toNat p) default) ((LT.getD (Int.toNat (IntKind.wrap .i64 (v.1 - 1))) 0).toNat : Int)) = true then false else _) = (if (!rhbS (rpkM.getD (Int.toNat p) default) ((LT.getD (Int.toNat (IntKind.wrap .i64 (v.1 - 1))) 0).toNat : Int)) = true then false else _)
      cases hb : rhbS (rpkM.getD (Int.toNat p) default) ((LT.getD (Int.toNat (IntKind.wrap .i64 (v.1 - 1))) 0).toNat : Int)
      · rfl
      · simp only [Bool.not_true, Bool.false_eq_true, if_false]
        obtain ⟨k, n⟩ := v
        simp only at h6 hb ⊢
        rcases h6 with rfl | rfl | rfl | rfl | rfl | rfl
        · exact key_eq hp hb n
        · exact range_eq hp (2, n) (by rw [show rhbS (rpkM.getD (Int.toNat p) default) 108 = true from hb]; rfl)
        · exact range_eq hp (3, n) (by rw [show rhbS (rpkM.getD (Int.toNat p) default) 112 = true from hb]; simp)
        · exact range_eq hp (4, n) (by rw [show rhbS (rpkM.getD (Int.toNat p) default) 110 = true from hb]; simp)
        · show pfitj32M (5, n) = rvmj43M (5, n)
          unfold pfitj32M rvmj43M
          rw [Bool.eq_iff_iff]
          simp only [Bool.and_eq_true, decide_eq_true_eq]
          omega
        · rfl
  · have hin : pinM p = false := by
      unfold pinM
      rw [Bool.eq_false_iff]
      intro h
      rw [Bool.and_eq_true, decide_eq_true_eq, decide_eq_true_eq] at h
      exact hp h
    have hq : (decide (p < 0) || decide (p ≥ 59)) = true := by
      rw [Bool.or_eq_true, decide_eq_true_eq, decide_eq_true_eq]
      unfold p59 at hp
      omega
    rw [hin, hq]; rfl
def lprfj5 (xp : Int) (xv : Int × Int) (K : Bool → Prop) : Prop :=
  K ((pfitM 35 (5, 255)) && ((pfitM xp xv) == (rvmM xp xv)))
def lprfF (xp : Int) (xv : Int × Int) (K : Bool → Prop) : Prop :=
  (((pfitM 35 (5, 255))) = true → lprfj5 xp xv K) ∧ (((pfitM 35 (5, 255))) = false → lprfj5 xp xv K)
set_option maxHeartbeats 4000000 in
set_option maxRecDepth 100000 in
set_option linter.unusedVariables false in
theorem lprf_ok {g : Ghost} (xp : Int) (xv : Int × Int) (hG1 : SomeInt g 1) (K : Bool → Prop)
    (hF : lprfF xp xv K) : CallsH Tryd.prog 3 #[.int .i64 xp, .agg #[.int .i64 xv.1, .int .i64 xv.2]] g [] (fun g' H' v => ∃ (r0 : Bool), v = .bool r0 ∧ H' = [] ∧ K r0) := by
  refine CallsH.enter 18 [(0, .int .i64 xp), (1, .agg #[.int .i64 xv.1, .int .i64 xv.2])] Tryd.func3 rfl (by kernel_rfl) (by kernel_rfl) (by kernel_rfl) fun w0 => ?_
  refine Ok.seq ?_
  refine Ok.region ?_
  refine Ok.op rfl (OpOk.box (v := .agg #[.int .i64 xv.1, .int .i64 xv.2]) (cs := #[.int .i64 xv.1, .int .i64 xv.2]) rfl (by kernel_rfl) rfl fun b1 => ?_)
  refine Ok.batch 1 [(0, .int .i64 xp), (3, .pointer (some ⟨b1, 0, none⟩))] (by kernel_rfl) ?_
  refine Ok.nil ?_
  refine Ok.thenN ?_
  refine Ok.seq ?_
  refine Ok.region ?_
  refine Ok.batch 1 [(0, .int .i64 xp), (3, .pointer (some ⟨b1, 0, none⟩)), (6, .agg #[.int .i64 5, .int .i64 255])] (by kernel_rfl) ?_
  refine Ok.op rfl (OpOk.callG (v := .bool (pfitM 35 (5, 255))) (enters (by kernel_rfl) (fun _ => by kernel_rfl)) (fun W hW => pfit_c 35 (5, 255) (hG1.mono hW.sees)) rfl ?_)
  refine Ok.batch 1 [(0, .int .i64 xp), (3, .pointer (some ⟨b1, 0, none⟩)), (5, .bool (pfitM 35 (5, 255)))] (by kernel_rfl) ?_
  refine Ok.nil ?_
  refine Ok.thenN ?_
  refine Ok.cut (fun a W => StA 18 [(4, .bool ((pfitM 35 (5, 255)) && ((pfitM xp xv) == (rvmM xp xv))))] a ∧ StW w0 [] g W ∧ lprfj5 xp xv K) ?_ ?_
  ·
    refine Ok.quiet' (by kernel_rfl) (by kernel_rfl) ?_
    refine OkQ.batch 2 [(0, .int .i64 xp), (3, .pointer (some ⟨b1, 0, none⟩)), (9, .bool (pfitM 35 (5, 255)))] (by kernel_rfl) ?_
    refine OkQ.boolAt 9 ((pfitM 35 (5, 255))) rfl (fun hc2 => ?_) (fun hc2 => ?_)
    · replace hF := hF.1 hc2
      refine OkQ.batch 1 [(0, .int .i64 xp), (3, .pointer (some ⟨b1, 0, none⟩)), (9, .bool true), (10, .int .i64 xp)] (by kernel_rfl) ?_
      refine OkQ.opYes (j := 1) (d := 9) (want := true) (b := true) rfl (by kernel_rfl) (by kernel_rfl) rfl (OpQ.step (v := .agg #[.int .i64 xv.1, .int .i64 xv.2]) (Yields.loadAgg 0 2 #[.int .i64 xv.1, .int .i64 xv.2] rfl rfl Tryd.underlying23 rfl (by kernel_rfl) (by kernel_rfl) (by kernel_rfl)) rfl rfl ?_)
      refine OkQ.opYes (j := 1) (d := 9) (want := true) (b := true) rfl (by kernel_rfl) (by kernel_rfl) rfl (OpQ.callG (v := .bool (pfitM xp xv)) (enters (by kernel_rfl) (fun _ => by kernel_rfl)) (fun W hW => pfit_c xp xv (hG1.mono hW.sees)) rfl ?_)
      refine OkQ.batch 1 [(3, .pointer (some ⟨b1, 0, none⟩)), (9, .bool true), (12, .bool (pfitM xp xv)), (13, .int .i64 xp)] (by kernel_rfl) ?_
      refine OkQ.opYes (j := 1) (d := 9) (want := true) (b := true) rfl (by kernel_rfl) (by kernel_rfl) rfl (OpQ.step (v := .agg #[.int .i64 xv.1, .int .i64 xv.2]) (Yields.loadAgg 0 2 #[.int .i64 xv.1, .int .i64 xv.2] rfl rfl Tryd.underlying23 rfl (by kernel_rfl) (by kernel_rfl) (by kernel_rfl)) rfl rfl ?_)
      refine OkQ.opYes (j := 1) (d := 9) (want := true) (b := true) rfl (by kernel_rfl) (by kernel_rfl) rfl (OpQ.callG (v := .bool (rvmM xp xv)) (enters (by kernel_rfl) (fun _ => by kernel_rfl)) (fun W hW => rvm_c xp xv) rfl ?_)
      refine OkQ.batch 3 [(4, .bool ((pfitM xp xv) == (rvmM xp xv)))] (by kernel_rfl) ?_
      refine OkQ.nil ?_
      refine Ok.thenN ?_
      refine Ok.reval 4 rfl (show (.bool ((pfitM xp xv) == (rvmM xp xv)) : Value) = .bool ((pfitM 35 (5, 255)) && ((pfitM xp xv) == (rvmM xp xv))) from congrArg (Value.bool) (mand_t hc2)) ?_
      exact fun a W hA hW => ⟨hA.sub (by kernel_rfl), hW.sub (.cons _ .slnil), hF⟩
    · replace hF := hF.2 hc2
      refine OkQ.batch 9 [(4, .bool false)] (by kernel_rfl) ?_
      refine OkQ.nil ?_
      refine Ok.thenN ?_
      refine Ok.reval 4 rfl (show (.bool false : Value) = .bool ((pfitM 35 (5, 255)) && ((pfitM xp xv) == (rvmM xp xv))) from congrArg (Value.bool) (mand_f hc2)) ?_
      exact fun a W hA hW => ⟨hA.sub (by kernel_rfl), hW.sub (.cons _ .slnil), hF⟩
  ·
    clear hF
    rintro a W ⟨hA, hW, hF⟩
    refine (?_ : Ok _ _ _ _ _ _) a W hA hW
    clear hA hW
    refine Ok.ret ?_
    exact Ok.resH (vs := [.bool ((pfitM 35 (5, 255)) && ((pfitM xp xv) == (rvmM xp xv)))]) (.inl rfl) rfl (.cons (.tmp rfl) .nil) (Gext.refl w0 g) ⟨((pfitM 35 (5, 255)) && ((pfitM xp xv) == (rvmM xp xv))), rfl, rfl, hF⟩
theorem lprf_F (p : Int) (v : Int × Int) : lprfF p v (fun r => r = true) := by
  have key : lprfj5 p v (fun r => r = true) := by
    unfold lprfj5
    rw [fits_eq p v, show pfitM 35 (5, 255) = true from by rw [fits_eq]; decide +kernel]
    simp
  exact ⟨fun _ => key, fun _ => key⟩
set_option linter.unusedVariables false in
theorem lprf_c {g : Ghost} (xp : Int) (xv : Int × Int) (hG1 : SomeInt g 1)  : CallsG Tryd.prog 3 #[.int .i64 xp, .agg #[.int .i64 xv.1, .int .i64 xv.2]] g (.bool ((fun _ _ => true) xp xv)) :=
  (lprf_ok xp xv hG1 _ (lprf_F xp xv)).gives (by rintro g' H' v _ ⟨r0, rfl, rfl, hK⟩; subst hK; rfl)
end Go.Proofs.YteocjdpjpkjlaaaDoor.Pf
