/- media: a query of tokens. -/
import Derived.Test.YtjehllphdpkjeaaGreatDoorMtc
namespace Go.Proofs.YtjehllphdpkjeaaGreatDoor.Me
open Go Go.Eng Go.RowKit Go.Shelf Go.Proofs Bld Trm Css Ti
set_option linter.unusedVariables false
theorem end_range : ∀ (l : List Tok) (i : Int) (w : List Int) (r : Int), endN i w l = some r → r = 0 ∨ i + 1 ≤ r ∧ r ≤ i + l.length
  | [], i, w, r, h => .inl (Option.some.inj h).symm
  | t :: l, i, w, r, h => by
    have ih := fun w => end_range l (i + 1) w r
    have fin : ∀ w, endN (i + 1) w l = some r → r = 0 ∨ i + 1 ≤ r ∧ r ≤ i + (t :: l).length := fun w hw => by
      rcases ih w hw with h | h
      · exact .inl h
      · refine .inr ⟨by omega, by rw [List.length_cons]; omega⟩
    have one : some (i + 1) = some r → r = 0 ∨ i + 1 ≤ r ∧ r ≤ i + (t :: l).length := fun h => by
      have := Option.some.inj h
      exact .inr ⟨by omega, by rw [List.length_cons]; omega⟩
    rw [endN] at h
    split at h
    · split at h
      · cases h
      · exact fin _ h
    · split at h
      · split at h
        · cases h
        · split at h
          · split at h
            · exact one h
            · exact fin _ h
          · exact fin _ h
      · split at h
        · exact one h
        · exact fin _ h
theorem end_some : ∀ (l : List Tok) (i : Int) (w : List Int), l.all tokOK = true → w.length ≠ 0 → (endN i w l).isSome = true
  | [], _, _, _, _ => rfl
  | t :: l, i, w, h, hw => by
    rw [List.all_cons, Bool.and_eq_true] at h
    have ht := tok_facts h.1
    have h1 := ht.raw1
    have h2 := ht.raw2
    have ih := fun w => end_some l (i + 1) w h.2
    rw [endN]
    split
    · rw [if_neg (by omega)]
      exact ih _ (by rw [List.length_append]; simp)
    · split
      · rw [if_neg (by omega)]
        split
        · split
          · rfl
          · exact ih _ (by rw [List.length_take]; omega)
        · exact ih _ hw
      · first
        | exact ih _ hw
        | (rw [if_neg hw]; exact ih _ hw)
/-- a block that begins with an opening token -/
theorem end_open {l : List Tok} (h : toksOK l) (hl : 0 < l.length) (ho : ((l.getD 0 default).1 == 10 || (l.getD 0 default).1 == 2) = true) : endP l ∧ (endS l = 0 ∨ 2 ≤ endS l ∧ endS l ≤ l.length) := by
  match l, h, hl, ho with
  | t :: r, h, hl, ho =>
    have ho : (t.1 == 10 || t.1 == 2) = true := ho
    have hb := h.1
    have ha := h.2
    rw [List.all_cons, Bool.and_eq_true] at ha
    have ht := tok_facts ha.1
    have h1 := ht.raw1
    have h2 := ht.raw2
    have e : endN 0 [] (t :: r) = endN (0 + 1) ([] ++ [closS ((t.2.1.getD (t.2.1.length - 1) 0).toNat : Int)]) r := by
      rw [endN, if_t ho, if_neg (by omega)]
    have hs := end_some r (0 + 1) ([] ++ [closS ((t.2.1.getD (t.2.1.length - 1) 0).toNat : Int)]) ha.2 (by simp)
    rw [← e] at hs
    refine ⟨⟨by omega, hs⟩, ?_⟩
    obtain ⟨q, hq⟩ := Option.isSome_iff_exists.1 hs
    have e2 : endS (t :: r) = q := by unfold endS; rw [hq]; rfl
    rw [e2]
    rw [e] at hq
    rcases end_range _ _ _ _ hq with h | h
    · exact .inl h
    · refine .inr ⟨by omega, by rw [List.length_cons]; omega⟩
def mquV0 (xl : List (Int × List UInt8 × List UInt8 × Int)) : Bool :=
  ((decide ((xl.length : Int) > 0)) && ((mwdM (xl.getD (Int.toNat 0) default)) == ([110, 111, 116] : List UInt8)))
def mquV4 (e7 : Int × List UInt8 × List UInt8 × Int) (x0l15 : List (Int × List UInt8 × List UInt8 × Int)) : Int :=
  (if (e7.2.1 == ([40] : List UInt8)) = true then (endS x0l15) else 1)
def mquV5 (e7 : Int × List UInt8 × List UInt8 × Int) (x0l15 : List (Int × List UInt8 × List UInt8 × Int)) : Int :=
  (if (e7.2.1 == ([40] : List UInt8)) = true then (featR ((x0l15.take (Int.toNat (IntKind.wrap .i64 ((endS x0l15) - 1)))).drop (Int.toNat 1))).1 else (kindS (mwdM e7)))
def mquV6 (e7 : Int × List UInt8 × List UInt8 × Int) (x0l15 : List (Int × List UInt8 × List UInt8 × Int)) : Int :=
  (if (e7.2.1 == ([40] : List UInt8)) = true then (featR ((x0l15.take (Int.toNat (IntKind.wrap .i64 ((endS x0l15) - 1)))).drop (Int.toNat 1))).2 else 0)
def mquj27 (xl : List (Int × List UInt8 × List UInt8 × Int)) (K : (Bool × List (Int × Int)) → Bool → Prop) (e7 : Int × List UInt8 × List UInt8 × Int) (x0l15 : List (Int × List UInt8 × List UInt8 × Int)) (yown3_0l15 : List (Int × Int)) (C15 : (List (Int × List UInt8 × List UInt8 × Int)) → (List (Int × Int)) → Prop) : Prop :=
  (yown3_0l15 ++ ([((mquV5 e7 x0l15), (mquV6 e7 x0l15))] : List (Int × Int))).length ≤ 8796093022208 ∧ (0 : Int) ≤ (mquV4 e7 x0l15) ∧ ((mquV4 e7 x0l15) : Int) ≤ (x0l15.length : Int) ∧ (x0l15.length : Int) ≤ (x0l15.length : Int) ∧ (((((x0l15.drop (Int.toNat (mquV4 e7 x0l15))).length : Int) == 0)) = true → K ((mquV0 xl), (yown3_0l15 ++ ([((mquV5 e7 x0l15), (mquV6 e7 x0l15))] : List (Int × Int)))) true) ∧ (((((x0l15.drop (Int.toNat (mquV4 e7 x0l15))).length : Int) == 0)) = false → (0 : Int) ≤ 0 ∧ Int.toNat 0 < (x0l15.drop (Int.toNat (mquV4 e7 x0l15))).length ∧ wordP ((x0l15.drop (Int.toNat (mquV4 e7 x0l15))).getD (Int.toNat 0) default) ∧ ((!((mwdM ((x0l15.drop (Int.toNat (mquV4 e7 x0l15))).getD (Int.toNat 0) default)) == ([97, 110, 100] : List UInt8))) = true → K ((mquV0 xl), (yown3_0l15 ++ ([((mquV5 e7 x0l15), (mquV6 e7 x0l15))] : List (Int × Int)))) false) ∧ ((!((mwdM ((x0l15.drop (Int.toNat (mquV4 e7 x0l15))).getD (Int.toNat 0) default)) == ([97, 110, 100] : List UInt8))) = false → (0 : Int) ≤ 1 ∧ (1 : Int) ≤ ((x0l15.drop (Int.toNat (mquV4 e7 x0l15))).length : Int) ∧ ((x0l15.drop (Int.toNat (mquV4 e7 x0l15))).length : Int) ≤ ((x0l15.drop (Int.toNat (mquV4 e7 x0l15))).length : Int) ∧ C15 ((x0l15.drop (Int.toNat (mquV4 (x0l15.getD (Int.toNat 0) default) x0l15))).drop (Int.toNat 1)) (yown3_0l15 ++ ([((mquV5 (x0l15.getD (Int.toNat 0) default) x0l15), (mquV6 (x0l15.getD (Int.toNat 0) default) x0l15))] : List (Int × Int)))))
def mqul15b (xl : List (Int × List UInt8 × List UInt8 × Int)) (K : (Bool × List (Int × Int)) → Bool → Prop) (x0l15 : List (Int × List UInt8 × List UInt8 × Int)) (yown3_0l15 : List (Int × Int)) (C15 : (List (Int × List UInt8 × List UInt8 × Int)) → (List (Int × Int)) → Prop) : Prop :=
  ((decide ((x0l15.length : Int) > 0)) = true → (0 : Int) ≤ 0 ∧ Int.toNat 0 < x0l15.length ∧ wordP (x0l15.getD (Int.toNat 0) default) ∧ ((((x0l15.getD (Int.toNat 0) default).2.1 == ([40] : List UInt8))) = true → endP x0l15 ∧ ((((endS x0l15) == 0)) = true → K ((mquV0 xl), yown3_0l15) false) ∧ ((((endS x0l15) == 0)) = false → (0 : Int) ≤ 1 ∧ (1 : Int) ≤ (IntKind.wrap .i64 ((endS x0l15) - 1)) ∧ (IntKind.wrap .i64 ((endS x0l15) - 1)) ≤ (x0l15.length : Int) ∧ toksOK ((x0l15.take (Int.toNat (IntKind.wrap .i64 ((endS x0l15) - 1)))).drop (Int.toNat 1)) ∧ mquj27 xl K (x0l15.getD (Int.toNat 0) default) x0l15 yown3_0l15 C15)) ∧ ((((x0l15.getD (Int.toNat 0) default).2.1 == ([40] : List UInt8))) = false → ((decide ((kindS (mwdM (x0l15.getD (Int.toNat 0) default))) > 3)) = true → K ((mquV0 xl), yown3_0l15) false) ∧ ((decide ((kindS (mwdM (x0l15.getD (Int.toNat 0) default))) > 3)) = false → mquj27 xl K (x0l15.getD (Int.toNat 0) default) x0l15 yown3_0l15 C15))) ∧ ((decide ((x0l15.length : Int) > 0)) = false → K ((mquV0 xl), yown3_0l15) false)
def mqul15 (xl : List (Int × List UInt8 × List UInt8 × Int)) (K : (Bool × List (Int × Int)) → Bool → Prop) : Nat → (List (Int × List UInt8 × List UInt8 × Int)) → (List (Int × Int)) → Prop
  | 0, _, _ => False
  | k + 1, x0l15, yown3_0l15 => mqul15b xl K x0l15 yown3_0l15 (mqul15 xl K k)
def mquj5 (xl : List (Int × List UInt8 × List UInt8 × Int)) (K : (Bool × List (Int × Int)) → Bool → Prop) : Prop :=
  ∃ k, mqul15 xl K k (if (mquV0 xl) = true then (xl.drop (Int.toNat 1)) else xl) ([] : List (Int × Int))
def mquj6 (xl : List (Int × List UInt8 × List UInt8 × Int)) (K : (Bool × List (Int × Int)) → Bool → Prop) : Prop :=
  (((mquV0 xl)) = true → (0 : Int) ≤ 1 ∧ (1 : Int) ≤ (xl.length : Int) ∧ (xl.length : Int) ≤ (xl.length : Int) ∧ mquj5 xl K) ∧ (((mquV0 xl)) = false → mquj5 xl K)
def mquF (xl : List (Int × List UInt8 × List UInt8 × Int)) (K : (Bool × List (Int × Int)) → Bool → Prop) : Prop :=
  ((decide ((xl.length : Int) > 0)) = true → (0 : Int) ≤ 0 ∧ Int.toNat 0 < xl.length ∧ wordP (xl.getD (Int.toNat 0) default) ∧ mquj6 xl K) ∧ ((decide ((xl.length : Int) > 0)) = false → mquj6 xl K)
set_option maxHeartbeats 4000000 in
set_option maxRecDepth 100000 in
set_option linter.unusedVariables false in
theorem mqu_ok {g : Ghost} {axl_0 : Option Addr} {cxl_0 : Nat} (xl : List (Int × List UInt8 × List UInt8 × Int)) (hRxl_0 : Rep g (.slice (.pair (.int .i64) (.pair (.str) (.pair (.str) (.int .i64))))) [.slice axl_0 xl.length cxl_0] xl) (hG0 : GlobL g 0 (.str) DWords) (hG2 : SomeIf g 2) (hG3 : SomeIf g 3) (K : (Bool × List (Int × Int)) → Bool → Prop)
    (hF : mquF xl K) : CallsH Tryz.prog 18 #[.slice axl_0 xl.length cxl_0] g [] (fun g' H' v => ∃ (r0 : Bool × List (Int × Int)), ∃ (r1 : Bool), ∃ (ar0_0 : Option Addr) (cr0_0 : Nat), v = .tuple #[.agg #[.bool r0.1, .slice ar0_0 r0.2.length cr0_0], .bool r1] ∧ Rep g' (.slice (.pair (.int .i64) (.int .i64))) [.slice ar0_0 r0.2.length cr0_0] r0.2 ∧ H' = [] ∧ K r0 r1) := by
  refine CallsH.enter 70 [(0, .slice axl_0 xl.length cxl_0)] Tryz.func18 rfl (by kernel_rfl) (by kernel_rfl) (by kernel_rfl) fun w0 => ?_
  refine Ok.seq ?_
  refine Ok.region ?_
  have hL1 : RepL g (.pair (.int .i64) (.int .i64)) [] [] := rfl
  refine Ok.ownNil 31 2 ?_
  refine Ok.op rfl (OpOk.alloc (z := .agg #[.bool false, .slice none ([] : List (Int × Int)).length 0]) (cs := #[.bool false, .slice none ([] : List (Int × Int)).length 0]) (by kernel_rfl) (by kernel_rfl) rfl fun bs2 => ?_)
  refine Ok.batch 1 [(0, .slice axl_0 xl.length cxl_0), (2, .pointer (some ⟨bs2, 0, none⟩))] (by kernel_rfl) ?_
  refine Ok.nil ?_
  refine Ok.thenN ?_
  refine Ok.seq ?_
  refine Ok.region ?_
  have hL3 : RepL g (.pair (.int .i64) (.int .i64)) [] [] := rfl
  refine Ok.ownNil 31 2 ?_
  refine Ok.op rfl (OpOk.alloc (z := .agg #[.bool false, .slice none ([] : List (Int × Int)).length 0]) (cs := #[.bool false, .slice none ([] : List (Int × Int)).length 0]) (by kernel_rfl) (by kernel_rfl) rfl fun bs4 => ?_)
  refine Ok.nil ?_
  refine Ok.thenN ?_
  refine Ok.cut (fun a W => ∃ gj5 : Ghost, Gext w0 g gj5 ∧ ∃ (ax0j5 : Option Addr) (cx0j5 : Nat), Rep gj5 (.slice (.pair (.int .i64) (.pair (.str) (.pair (.str) (.int .i64))))) [.slice ax0j5 (if (mquV0 xl) = true then (xl.drop (Int.toNat 1)) else xl).length cx0j5] (if (mquV0 xl) = true then (xl.drop (Int.toNat 1)) else xl) ∧ StA 70 [(0, .slice ax0j5 (if (mquV0 xl) = true then (xl.drop (Int.toNat 1)) else xl).length cx0j5), (2, .pointer (some ⟨bs2, 0, none⟩)), (4, .pointer (some ⟨bs4, 0, none⟩))] a ∧ StW w0 [.blk bs4 (.cells #[.bool (mquV0 xl), .slice none ([] : List (Int × Int)).length 0] 28), .own (.slice none ([] : List (Int × Int)).length 0) 31 2 ([] : List (Int × Int)).length ([]), .blk bs2 (.cells #[.bool false, .slice none ([] : List (Int × Int)).length 0] 28), .own (.slice none ([] : List (Int × Int)).length 0) 31 2 ([] : List (Int × Int)).length ([])] gj5 W ∧ mquj5 xl K) ?_ ?_
  ·
    refine Ok.cut (fun a W => ∃ gj6 : Ghost, Gext w0 g gj6 ∧ StA 70 [(0, .slice axl_0 xl.length cxl_0), (2, .pointer (some ⟨bs2, 0, none⟩)), (4, .pointer (some ⟨bs4, 0, none⟩)), (16, .bool (mquV0 xl))] a ∧ StW w0 [.blk bs4 (.cells #[.bool false, .slice none ([] : List (Int × Int)).length 0] 28), .own (.slice none ([] : List (Int × Int)).length 0) 31 2 ([] : List (Int × Int)).length ([]), .blk bs2 (.cells #[.bool false, .slice none ([] : List (Int × Int)).length 0] 28), .own (.slice none ([] : List (Int × Int)).length 0) 31 2 ([] : List (Int × Int)).length ([])] gj6 W ∧ mquj6 xl K) ?_ ?_
    ·
      refine Ok.region ?_
      refine Ok.batch 4 [(0, .slice axl_0 xl.length cxl_0), (2, .pointer (some ⟨bs2, 0, none⟩)), (4, .pointer (some ⟨bs4, 0, none⟩)), (10, .bool (decide ((xl.length : Int) > 0)))] (by kernel_rfl) ?_
      refine Ok.boolAt 10 (decide ((xl.length : Int) > 0)) rfl (fun hc33 => ?_) (fun hc33 => ?_)
      · replace hF := hF.1 hc33
        refine Ok.batch 1 [(0, .slice axl_0 xl.length cxl_0), (2, .pointer (some ⟨bs2, 0, none⟩)), (4, .pointer (some ⟨bs4, 0, none⟩)), (10, .bool true), (11, .slice axl_0 xl.length cxl_0)] (by kernel_rfl) ?_
        obtain ⟨h035, h135, hF⟩ := hF
        have he35 := get_of (l := xl) (default : Int × List UInt8 × List UInt8 × Int) h135
        generalize hg35 : (xl.getD (Int.toNat 0) default) = e35 at he35 hF ⊢
        refine Ok.opYes (j := 3) (d := 10) (want := true) (b := true) rfl (by kernel_rfl) (by kernel_rfl) rfl (OpOk.indexRo (e := .pair (.int .i64) (.pair (.str) (.pair (.str) (.int .i64)))) (i := 0) (el := e35) rfl rfl Tryz.underlying46 (by kernel_rfl) hRxl_0 h035 he35 rfl fun q34 o34 cs34 _ hat34 hr34 => ?_)
        obtain ⟨_, _, rfl, rfl, ⟨_, _, rfl, rfl, ⟨_, _, rfl, rfl, rfl⟩⟩⟩ := hr34
        replace hat34 : At g q34 o34 [.int .i64 e35.1, .string ⟨⟨e35.2.1⟩⟩, .string ⟨⟨e35.2.2.1⟩⟩, .int .i64 e35.2.2.2] := hat34
        refine Ok.opYes (j := 3) (d := 10) (want := true) (b := true) rfl (by kernel_rfl) (by kernel_rfl) rfl (OpOk.step (v := .agg #[.int .i64 e35.1, .string ⟨⟨e35.2.1⟩⟩, .string ⟨⟨e35.2.2.1⟩⟩, .int .i64 e35.2.2.2]) (Yields.loadAggRo 0 4 #[.int .i64 e35.1, .string ⟨⟨e35.2.1⟩⟩, .string ⟨⟨e35.2.2.1⟩⟩, .int .i64 e35.2.2.2] hat34 (by kernel_rfl) Tryz.underlying55 rfl (by kernel_rfl) (by kernel_rfl) (by kernel_rfl)) rfl rfl ?_)
        obtain ⟨hp36, hF⟩ := hF
        refine Ok.opYes (j := 3) (d := 10) (want := true) (b := true) rfl (by kernel_rfl) (by kernel_rfl) rfl (OpOk.callG (v := .string ⟨⟨(mwdM e35)⟩⟩) (enters (by kernel_rfl) (fun _ => by kernel_rfl)) (fun W hW => mwd_c e35 hp36) rfl ?_)
        refine Ok.opYes (j := 3) (d := 10) (want := true) (b := true) rfl (by kernel_rfl) (by kernel_rfl) rfl (OpOk.step (v := .bool ((mwdM e35) == ([110, 111, 116] : List UInt8))) (Yields.strCmp (f := .eql) (a := (mwdM e35)) (b := ([110, 111, 116] : List UInt8)) (by kernel_rfl) (by kernel_rfl) rfl) rfl rfl ?_)
        refine Ok.batch 1 [(0, .slice axl_0 xl.length cxl_0), (2, .pointer (some ⟨bs2, 0, none⟩)), (4, .pointer (some ⟨bs4, 0, none⟩)), (16, .bool ((mwdM e35) == ([110, 111, 116] : List UInt8)))] (by kernel_rfl) ?_
        refine Ok.nil ?_
        refine Ok.thenN ?_
        subst hg35
        refine Ok.reval 16 rfl (show (.bool ((mwdM (xl.getD (Int.toNat 0) default)) == ([110, 111, 116] : List UInt8)) : Value) = .bool (mquV0 xl) from congrArg (Value.bool) (mand_t hc33)) ?_
        exact fun a W hA hW => ⟨g, (Gext.refl w0 g), hA.sub (by kernel_rfl), hW, hF⟩
      · replace hF := hF.2 hc33
        refine Ok.batch 6 [(0, .slice axl_0 xl.length cxl_0), (2, .pointer (some ⟨bs2, 0, none⟩)), (4, .pointer (some ⟨bs4, 0, none⟩)), (16, .bool false)] (by kernel_rfl) ?_
        refine Ok.nil ?_
        refine Ok.thenN ?_
        refine Ok.reval 16 rfl (show (.bool false : Value) = .bool (mquV0 xl) from congrArg (Value.bool) (mand_f hc33)) ?_
        exact fun a W hA hW => ⟨g, (Gext.refl w0 g), hA.sub (by kernel_rfl), hW, hF⟩
    ·
      clear hF
      rintro a W ⟨gj6, hxj6, hA, hW, hF⟩
      refine (?_ : Ok _ _ _ _ _ _) a W hA hW
      clear hA hW
      replace hRxl_0 := hRxl_0.mono hxj6.1
      replace hL3 := hL3.mono hxj6.1
      replace hL1 := hL1.mono hxj6.1
      replace hG0 := hG0.mono hxj6.1
      replace hG2 := hG2.mono hxj6.1
      replace hG3 := hG3.mono hxj6.1
      refine Ok.cond (b := (mquV0 xl)) rfl (fun hc31 => ?_) (fun hc31 => ?_)
      · replace hF := hF.1 hc31
        refine Ok.seq ?_
        refine Ok.region ?_
        refine Ok.batch 1 [(0, .slice axl_0 xl.length cxl_0), (2, .pointer (some ⟨bs2, 0, none⟩)), (4, .pointer (some ⟨bs4, 0, none⟩)), (17, .pointer (some ⟨bs4, 0, none⟩))] (by kernel_rfl) ?_
        refine Ok.op rfl (OpOk.store (k := 1) (v := .bool true) (H' := [.blk bs4 (.cells #[.bool true, .slice none ([] : List (Int × Int)).length 0] 28), .own (.slice none ([] : List (Int × Int)).length 0) 31 2 ([] : List (Int × Int)).length ([]), .blk bs2 (.cells #[.bool false, .slice none ([] : List (Int × Int)).length 0] 28), .own (.slice none ([] : List (Int × Int)).length 0) 31 2 ([] : List (Int × Int)).length ([])]) 0 rfl rfl rfl (by kernel_rfl) (by kernel_rfl) (by kernel_rfl) (by kernel_rfl) (by kernel_rfl) ?_)
        refine Ok.nil ?_
        refine Ok.thenN ?_
        refine Ok.region ?_
        refine Ok.batch 1 [(2, .pointer (some ⟨bs2, 0, none⟩)), (4, .pointer (some ⟨bs4, 0, none⟩)), (18, .slice axl_0 xl.length cxl_0)] (by kernel_rfl) ?_
        obtain ⟨h032, h132, h232, hF⟩ := hF
        refine Ok.op rfl (OpOk.sliceRo (e := .pair (.int .i64) (.pair (.str) (.pair (.str) (.int .i64)))) (l := 1) (h := (xl.length : Int)) rfl Tryz.underlying46 (by kernel_rfl) (.inl ⟨_, _, rfl, rfl⟩) (.inr ⟨rfl, rfl⟩) hRxl_0 h032 h132 h232 rfl (xl.drop (Int.toNat 1)) (by rw [show ((xl.length : Int)).toNat = xl.length from Int.toNat_natCast _, List.take_length]) fun a32 c32 hR32 => ?_)
        refine Ok.batch 1 [(0, .slice a32 (xl.drop (Int.toNat 1)).length c32), (2, .pointer (some ⟨bs2, 0, none⟩)), (4, .pointer (some ⟨bs4, 0, none⟩))] (by kernel_rfl) ?_
        refine Ok.nil ?_
        refine Ok.thenN ?_
        refine Ok.reval 0 rfl (show (.slice a32 (xl.drop (Int.toNat 1)).length c32 : Value) = .slice a32 (if (mquV0 xl) = true then (xl.drop (Int.toNat 1)) else xl).length c32 from congrArg (fun l : List (Int × List UInt8 × List UInt8 × Int) => Value.slice a32 l.length c32) ((if_t hc31).symm)) ?_
        refine Ok.heapEq (H' := [.blk bs4 (.cells #[.bool (mquV0 xl), .slice none ([] : List (Int × Int)).length 0] 28), .own (.slice none ([] : List (Int × Int)).length 0) 31 2 ([] : List (Int × Int)).length ([]), .blk bs2 (.cells #[.bool false, .slice none ([] : List (Int × Int)).length 0] 28), .own (.slice none ([] : List (Int × Int)).length 0) 31 2 ([] : List (Int × Int)).length ([])]) (econs (congrArg (fun l : List Value => Ent.blk bs4 (.cells ⟨l⟩ 28)) (lcons (congrArg (Value.bool) (hc31.symm)) (lcons (rfl) rfl))) (econs (rfl) (econs (rfl) (econs (rfl) rfl)))) ?_
        exact fun a W hA hW => ⟨gj6, hxj6, a32, c32, (Eq.mp (congrArg (fun l : List (Int × List UInt8 × List UInt8 × Int) => Rep gj6 (.slice (.pair (.int .i64) (.pair (.str) (.pair (.str) (.int .i64))))) [.slice a32 l.length c32] l) ((if_t hc31).symm)) hR32), hA.sub (by kernel_rfl), hW, hF⟩
      · replace hF := hF.2 hc31
        refine Ok.skip ?_
        refine Ok.thenN ?_
        refine Ok.reval 0 rfl (show (.slice axl_0 xl.length cxl_0 : Value) = .slice axl_0 (if (mquV0 xl) = true then (xl.drop (Int.toNat 1)) else xl).length cxl_0 from congrArg (fun l : List (Int × List UInt8 × List UInt8 × Int) => Value.slice axl_0 l.length cxl_0) ((if_f hc31).symm)) ?_
        refine Ok.heapEq (H' := [.blk bs4 (.cells #[.bool (mquV0 xl), .slice none ([] : List (Int × Int)).length 0] 28), .own (.slice none ([] : List (Int × Int)).length 0) 31 2 ([] : List (Int × Int)).length ([]), .blk bs2 (.cells #[.bool false, .slice none ([] : List (Int × Int)).length 0] 28), .own (.slice none ([] : List (Int × Int)).length 0) 31 2 ([] : List (Int × Int)).length ([])]) (econs (congrArg (fun l : List Value => Ent.blk bs4 (.cells ⟨l⟩ 28)) (lcons (congrArg (Value.bool) (hc31.symm)) (lcons (rfl) rfl))) (econs (rfl) (econs (rfl) (econs (rfl) rfl)))) ?_
        exact fun a W hA hW => ⟨gj6, hxj6, axl_0, cxl_0, (Eq.mp (congrArg (fun l : List (Int × List UInt8 × List UInt8 × Int) => Rep gj6 (.slice (.pair (.int .i64) (.pair (.str) (.pair (.str) (.int .i64))))) [.slice axl_0 l.length cxl_0] l) ((if_f hc31).symm)) hRxl_0), hA.sub (by kernel_rfl), hW, hF⟩
  ·
    clear hF
    rintro a W ⟨gj5, hxj5, ax0j5, cx0j5, hRx0j5, hA, hW, hF⟩
    refine (?_ : Ok _ _ _ _ _ _) a W hA hW
    clear hA hW
    replace hL3 := hL3.mono hxj5.1
    replace hL1 := hL1.mono hxj5.1
    replace hG0 := hG0.mono hxj5.1
    replace hG2 := hG2.mono hxj5.1
    replace hG3 := hG3.mono hxj5.1
    refine Ok.seq ?_
    refine Ok.block ?_
    obtain ⟨k, hF⟩ := hF
    refine Ok.loop (fun k a W => ∃ gl15 : Ghost, Gext w0 gj5 gl15 ∧ ∃ (ax0l15 : Option Addr) (cx0l15 : Nat) (x0l15 : List (Int × List UInt8 × List UInt8 × Int)) (ayown3_0l15 : Option Addr) (cyown3_0l15 : Nat) (yown3_0l15 : List (Int × Int)) (xsyown3_0l15 : List Value), Rep gl15 (.slice (.pair (.int .i64) (.pair (.str) (.pair (.str) (.int .i64))))) [.slice ax0l15 x0l15.length cx0l15] x0l15 ∧ RepL gl15 (.pair (.int .i64) (.int .i64)) xsyown3_0l15 yown3_0l15 ∧ StA 70 [(0, .slice ax0l15 x0l15.length cx0l15), (2, .pointer (some ⟨bs2, 0, none⟩)), (4, .pointer (some ⟨bs4, 0, none⟩))] a ∧ StW w0 [.blk bs4 (.cells #[.bool (mquV0 xl), .slice ayown3_0l15 yown3_0l15.length cyown3_0l15] 28), .own (.slice ayown3_0l15 yown3_0l15.length cyown3_0l15) 31 2 yown3_0l15.length xsyown3_0l15, .blk bs2 (.cells #[.bool false, .slice none ([] : List (Int × Int)).length 0] 28), .own (.slice none ([] : List (Int × Int)).length 0) 31 2 ([] : List (Int × Int)).length ([])] gl15 W ∧ mqul15 xl K k x0l15 yown3_0l15) k ?_ ?_
    ·
      exact fun a W hA hW => ⟨gj5, (Gext.refl w0 gj5), ax0j5, cx0j5, (if (mquV0 xl) = true then (xl.drop (Int.toNat 1)) else xl), none, 0, ([] : List (Int × Int)), [], hRx0j5, hL3, hA.sub (by kernel_rfl), hW, hF⟩
    ·
      clear hF
      rintro k15 a W ⟨gl15, hxl15, ax0l15, cx0l15, x0l15, ayown3_0l15, cyown3_0l15, yown3_0l15, xsyown3_0l15, hRx0l15, hLyown3_0l15, hA, hW, hF⟩
      cases k15 with
      | zero => exact (hF : False).elim
      | succ k15 =>
        refine (?_ : Ok _ _ _ _ _ _) a W hA hW
        clear hA hW
        replace hL1 := hL1.mono hxl15.1
        replace hG0 := hG0.mono hxl15.1
        replace hG2 := hG2.mono hxl15.1
        replace hG3 := hG3.mono hxl15.1
        refine Ok.seq ?_
        refine Ok.seq ?_
        refine Ok.region ?_
        refine Ok.batch 3 [(0, .slice ax0l15 x0l15.length cx0l15), (2, .pointer (some ⟨bs2, 0, none⟩)), (4, .pointer (some ⟨bs4, 0, none⟩)), (22, .bool (decide ((x0l15.length : Int) > 0)))] (by kernel_rfl) ?_
        refine Ok.nil ?_
        refine Ok.thenN ?_
        refine Ok.cond (b := decide ((x0l15.length : Int) > 0)) rfl (fun hc5 => ?_) (fun hc5 => ?_)
        · replace hF := hF.1 hc5
          refine Ok.skip ?_
          refine Ok.thenN ?_
          refine Ok.block ?_
          refine Ok.seq ?_
          refine Ok.region ?_
          refine Ok.batch 1 [(0, .slice ax0l15 x0l15.length cx0l15), (2, .pointer (some ⟨bs2, 0, none⟩)), (4, .pointer (some ⟨bs4, 0, none⟩)), (5, .int .i64 1)] (by kernel_rfl) ?_
          refine Ok.nil ?_
          refine Ok.thenN ?_
          refine Ok.seq ?_
          refine Ok.region ?_
          refine Ok.batch 1 [(0, .slice ax0l15 x0l15.length cx0l15), (2, .pointer (some ⟨bs2, 0, none⟩)), (4, .pointer (some ⟨bs4, 0, none⟩)), (5, .int .i64 1), (23, .slice ax0l15 x0l15.length cx0l15)] (by kernel_rfl) ?_
          obtain ⟨h07, h17, hF⟩ := hF
          have he7 := get_of (l := x0l15) (default : Int × List UInt8 × List UInt8 × Int) h17
          generalize hg7 : (x0l15.getD (Int.toNat 0) default) = e7 at he7 hF ⊢
          refine Ok.op rfl (OpOk.indexRo (e := .pair (.int .i64) (.pair (.str) (.pair (.str) (.int .i64)))) (i := 0) (el := e7) rfl rfl Tryz.underlying46 (by kernel_rfl) hRx0l15 h07 he7 rfl fun q6 o6 cs6 _ hat6 hr6 => ?_)
          obtain ⟨_, _, rfl, rfl, ⟨_, _, rfl, rfl, ⟨_, _, rfl, rfl, rfl⟩⟩⟩ := hr6
          replace hat6 : At gl15 q6 o6 [.int .i64 e7.1, .string ⟨⟨e7.2.1⟩⟩, .string ⟨⟨e7.2.2.1⟩⟩, .int .i64 e7.2.2.2] := hat6
          refine Ok.op rfl (OpOk.step (v := .agg #[.int .i64 e7.1, .string ⟨⟨e7.2.1⟩⟩, .string ⟨⟨e7.2.2.1⟩⟩, .int .i64 e7.2.2.2]) (Yields.loadAggRo 0 4 #[.int .i64 e7.1, .string ⟨⟨e7.2.1⟩⟩, .string ⟨⟨e7.2.2.1⟩⟩, .int .i64 e7.2.2.2] hat6 (by kernel_rfl) Tryz.underlying55 rfl (by kernel_rfl) (by kernel_rfl) (by kernel_rfl)) rfl rfl ?_)
          obtain ⟨hp8, hF⟩ := hF
          refine Ok.op rfl (OpOk.callG (v := .string ⟨⟨(mwdM e7)⟩⟩) (enters (by kernel_rfl) (fun _ => by kernel_rfl)) (fun W hW => mwd_c e7 hp8) rfl ?_)
          refine Ok.op rfl (OpOk.callG (v := .int .i64 (kindS (mwdM e7))) (enters (by kernel_rfl) (fun _ => by kernel_rfl)) (fun W hW => mkd_c (mwdM e7) (hG0.mono hW.sees)) rfl ?_)
          refine Ok.batch 1 [(0, .slice ax0l15 x0l15.length cx0l15), (2, .pointer (some ⟨bs2, 0, none⟩)), (4, .pointer (some ⟨bs4, 0, none⟩)), (5, .int .i64 1), (28, .agg #[.int .i64 (kindS (mwdM e7)), .int .i64 0])] (by kernel_rfl) ?_
          refine Ok.op rfl (OpOk.alloc (z := .agg #[.int .i64 0, .int .i64 0]) (cs := #[.int .i64 0, .int .i64 0]) (by kernel_rfl) (by kernel_rfl) rfl fun bs6 => ?_)
          refine Ok.op rfl (OpOk.store (k := 2) (v := .agg #[.int .i64 (kindS (mwdM e7)), .int .i64 0]) (H' := [.blk bs6 (.cells #[.int .i64 (kindS (mwdM e7)), .int .i64 0] 31), .blk bs4 (.cells #[.bool (mquV0 xl), .slice ayown3_0l15 yown3_0l15.length cyown3_0l15] 28), .own (.slice ayown3_0l15 yown3_0l15.length cyown3_0l15) 31 2 yown3_0l15.length xsyown3_0l15, .blk bs2 (.cells #[.bool false, .slice none ([] : List (Int × Int)).length 0] 28), .own (.slice none ([] : List (Int × Int)).length 0) 31 2 ([] : List (Int × Int)).length ([])]) 0 rfl rfl rfl (by kernel_rfl) (by kernel_rfl) (by kernel_rfl) (by kernel_rfl) (by kernel_rfl) ?_)
          refine Ok.nil ?_
          refine Ok.thenN ?_
          refine Ok.cut (fun a W => ∃ gj27 : Ghost, Gext w0 gl15 gj27 ∧ StA 70 [(0, .slice ax0l15 x0l15.length cx0l15), (2, .pointer (some ⟨bs2, 0, none⟩)), (4, .pointer (some ⟨bs4, 0, none⟩)), (5, .int .i64 (mquV4 e7 x0l15)), (6, .pointer (some ⟨bs6, 0, none⟩))] a ∧ StW w0 [.blk bs6 (.cells #[.int .i64 (mquV5 e7 x0l15), .int .i64 (mquV6 e7 x0l15)] 31), .blk bs4 (.cells #[.bool (mquV0 xl), .slice ayown3_0l15 yown3_0l15.length cyown3_0l15] 28), .own (.slice ayown3_0l15 yown3_0l15.length cyown3_0l15) 31 2 yown3_0l15.length xsyown3_0l15, .blk bs2 (.cells #[.bool false, .slice none ([] : List (Int × Int)).length 0] 28), .own (.slice none ([] : List (Int × Int)).length 0) 31 2 ([] : List (Int × Int)).length ([])] gj27 W ∧ mquj27 xl K e7 x0l15 yown3_0l15 (mqul15 xl K k15)) ?_ ?_
          ·
            refine Ok.seq ?_
            refine Ok.region ?_
            refine Ok.batch 1 [(0, .slice ax0l15 x0l15.length cx0l15), (2, .pointer (some ⟨bs2, 0, none⟩)), (4, .pointer (some ⟨bs4, 0, none⟩)), (5, .int .i64 1), (6, .pointer (some ⟨bs6, 0, none⟩)), (29, .slice ax0l15 x0l15.length cx0l15)] (by kernel_rfl) ?_
            refine Ok.op rfl (OpOk.indexRo (e := .pair (.int .i64) (.pair (.str) (.pair (.str) (.int .i64)))) (i := 0) (el := e7) rfl rfl Tryz.underlying46 (by kernel_rfl) hRx0l15 h07 he7 rfl fun q21 o21 cs21 _ hat21 hr21 => ?_)
            obtain ⟨_, _, rfl, rfl, ⟨_, _, rfl, rfl, ⟨_, _, rfl, rfl, rfl⟩⟩⟩ := hr21
            replace hat21 : At gl15 q21 o21 [.int .i64 e7.1, .string ⟨⟨e7.2.1⟩⟩, .string ⟨⟨e7.2.2.1⟩⟩, .int .i64 e7.2.2.2] := hat21
            refine Ok.batch 1 [(0, .slice ax0l15 x0l15.length cx0l15), (2, .pointer (some ⟨bs2, 0, none⟩)), (4, .pointer (some ⟨bs4, 0, none⟩)), (5, .int .i64 1), (6, .pointer (some ⟨bs6, 0, none⟩)), (31, .pointer (some ⟨q21, o21 + 1, none⟩))] (by kernel_rfl) ?_
            refine Ok.op rfl (OpOk.step (v := .string ⟨⟨e7.2.1⟩⟩) (Yields.loadRo 1 hat21 (by kernel_rfl) Tryz.underlying9 rfl (by kernel_rfl)) rfl rfl ?_)
            refine Ok.op rfl (OpOk.step (v := .bool (e7.2.1 == ([40] : List UInt8))) (Yields.strCmp (f := .eql) (a := e7.2.1) (b := ([40] : List UInt8)) (by kernel_rfl) (by kernel_rfl) rfl) rfl rfl ?_)
            refine Ok.nil ?_
            refine Ok.thenN ?_
            refine Ok.cond (b := (e7.2.1 == ([40] : List UInt8))) rfl (fun hc22 => ?_) (fun hc22 => ?_)
            · replace hF := hF.1 hc22
              refine Ok.seq ?_
              refine Ok.seq ?_
              refine Ok.region ?_
              refine Ok.batch 1 [(0, .slice ax0l15 x0l15.length cx0l15), (2, .pointer (some ⟨bs2, 0, none⟩)), (4, .pointer (some ⟨bs4, 0, none⟩)), (6, .pointer (some ⟨bs6, 0, none⟩)), (34, .slice ax0l15 x0l15.length cx0l15)] (by kernel_rfl) ?_
              obtain ⟨hp23, hF⟩ := hF
              refine Ok.op rfl (OpOk.callG (v := .int .i64 (endS x0l15)) (enters (by kernel_rfl) (fun _ => by kernel_rfl)) (fun W hW => men_c x0l15 (hRx0l15.mono hW.sees) hp23) rfl ?_)
              refine Ok.batch 1 [(0, .slice ax0l15 x0l15.length cx0l15), (2, .pointer (some ⟨bs2, 0, none⟩)), (4, .pointer (some ⟨bs4, 0, none⟩)), (5, .int .i64 (endS x0l15)), (6, .pointer (some ⟨bs6, 0, none⟩))] (by kernel_rfl) ?_
              refine Ok.nil ?_
              refine Ok.thenN ?_
              refine Ok.seq ?_
              refine Ok.region ?_
              refine Ok.batch 2 [(0, .slice ax0l15 x0l15.length cx0l15), (2, .pointer (some ⟨bs2, 0, none⟩)), (4, .pointer (some ⟨bs4, 0, none⟩)), (5, .int .i64 (endS x0l15)), (6, .pointer (some ⟨bs6, 0, none⟩)), (37, .bool ((endS x0l15) == 0))] (by kernel_rfl) ?_
              refine Ok.nil ?_
              refine Ok.thenN ?_
              refine Ok.cond (b := ((endS x0l15) == 0)) rfl (fun hc24 => ?_) (fun hc24 => ?_)
              · replace hF := hF.1 hc24
                refine Ok.seq ?_
                refine Ok.region ?_
                refine Ok.op rfl (OpOk.step (v := .agg #[.bool (mquV0 xl), .slice ayown3_0l15 yown3_0l15.length cyown3_0l15]) (Yields.loadAgg 1 2 #[.bool (mquV0 xl), .slice ayown3_0l15 yown3_0l15.length cyown3_0l15] rfl rfl Tryz.underlying28 rfl (by kernel_rfl) (by kernel_rfl) (by kernel_rfl)) rfl rfl ?_)
                refine Ok.op rfl (OpOk.store (k := 2) (v := .agg #[.bool (mquV0 xl), .slice ayown3_0l15 yown3_0l15.length cyown3_0l15]) (H' := [.blk bs6 (.cells #[.int .i64 (kindS (mwdM e7)), .int .i64 0] 31), .blk bs4 (.cells #[.bool (mquV0 xl), .slice ayown3_0l15 yown3_0l15.length cyown3_0l15] 28), .own (.slice ayown3_0l15 yown3_0l15.length cyown3_0l15) 31 2 yown3_0l15.length xsyown3_0l15, .blk bs2 (.cells #[.bool (mquV0 xl), .slice ayown3_0l15 yown3_0l15.length cyown3_0l15] 28), .own (.slice none ([] : List (Int × Int)).length 0) 31 2 ([] : List (Int × Int)).length ([])]) 3 rfl rfl rfl (by kernel_rfl) (by kernel_rfl) (by kernel_rfl) (by kernel_rfl) (by kernel_rfl) ?_)
                refine Ok.batch 1 [(2, .pointer (some ⟨bs2, 0, none⟩)), (3, .bool false)] (by kernel_rfl) ?_
                refine Ok.nil ?_
                refine Ok.thenN ?_
                refine Ok.ret ?_
                refine Ok.thenR ?_
                refine Ok.thenR ?_
                refine Ok.blockR ?_
                refine Ok.thenR ?_
                refine Ok.blockR ?_
                refine Ok.thenR ?_
                refine Ok.freeze (H' := [.blk bs6 (.cells #[.int .i64 (kindS (mwdM e7)), .int .i64 0] 31), .blk bs4 (.cells #[.bool (mquV0 xl), .slice ayown3_0l15 yown3_0l15.length cyown3_0l15] 28), .blk bs2 (.cells #[.bool (mquV0 xl), .slice ayown3_0l15 yown3_0l15.length cyown3_0l15] 28), .own (.slice none ([] : List (Int × Int)).length 0) 31 2 ([] : List (Int × Int)).length ([])]) 2 rfl hLyown3_0l15 rfl fun g25 hx25 hRf25 => ?_
                replace hL1 := hL1.mono hx25.1
                replace hG0 := hG0.mono hx25.1
                replace hG2 := hG2.mono hx25.1
                replace hG3 := hG3.mono hx25.1
                exact Ok.resP (vs := [.agg #[.bool (mquV0 xl), .slice ayown3_0l15 yown3_0l15.length cyown3_0l15], .bool false]) [] [] (by decide) rfl (.inl rfl) rfl (.cons (.cellAgg 2 2 #[.bool (mquV0 xl), .slice ayown3_0l15 yown3_0l15.length cyown3_0l15] rfl rfl Tryz.underlying28 rfl (by kernel_rfl) (by kernel_rfl) (by kernel_rfl)) (.cons (.tmp rfl) .nil)) ((hxj5.trans hxl15).trans hx25) ⟨((mquV0 xl), yown3_0l15), false, ayown3_0l15, cyown3_0l15, rfl, hRf25, rfl, hF⟩
              · replace hF := hF.2 hc24
                refine Ok.skip ?_
                refine Ok.thenN ?_
                refine Ok.region ?_
                refine Ok.batch 3 [(0, .slice ax0l15 x0l15.length cx0l15), (2, .pointer (some ⟨bs2, 0, none⟩)), (4, .pointer (some ⟨bs4, 0, none⟩)), (5, .int .i64 (endS x0l15)), (6, .pointer (some ⟨bs6, 0, none⟩)), (39, .slice ax0l15 x0l15.length cx0l15), (41, .int .i64 (IntKind.wrap .i64 ((endS x0l15) - 1)))] (by kernel_rfl) ?_
                obtain ⟨h026, h126, h226, hF⟩ := hF
                refine Ok.op rfl (OpOk.sliceRo (e := .pair (.int .i64) (.pair (.str) (.pair (.str) (.int .i64)))) (l := 1) (h := (IntKind.wrap .i64 ((endS x0l15) - 1))) rfl Tryz.underlying46 (by kernel_rfl) (.inl ⟨_, _, rfl, rfl⟩) (.inl ⟨_, _, rfl, rfl⟩) hRx0l15 h026 h126 h226 rfl ((x0l15.take (Int.toNat (IntKind.wrap .i64 ((endS x0l15) - 1)))).drop (Int.toNat 1)) rfl fun a26 c26 hR26 => ?_)
                obtain ⟨hp27, hF⟩ := hF
                refine Ok.op rfl (OpOk.callG (v := .agg #[.int .i64 ((featR ((x0l15.take (Int.toNat (IntKind.wrap .i64 ((endS x0l15) - 1)))).drop (Int.toNat 1))).1), .int .i64 ((featR ((x0l15.take (Int.toNat (IntKind.wrap .i64 ((endS x0l15) - 1)))).drop (Int.toNat 1))).2)]) (enters (by kernel_rfl) (fun _ => by kernel_rfl)) (fun W hW => mfe_c ((x0l15.take (Int.toNat (IntKind.wrap .i64 ((endS x0l15) - 1)))).drop (Int.toNat 1)) (hR26.mono hW.sees) (hG0.mono hW.sees) (hG2.mono hW.sees) (hG3.mono hW.sees) hp27) rfl ?_)
                refine Ok.op rfl (OpOk.store (k := 2) (v := .agg #[.int .i64 ((featR ((x0l15.take (Int.toNat (IntKind.wrap .i64 ((endS x0l15) - 1)))).drop (Int.toNat 1))).1), .int .i64 ((featR ((x0l15.take (Int.toNat (IntKind.wrap .i64 ((endS x0l15) - 1)))).drop (Int.toNat 1))).2)]) (H' := [.blk bs6 (.cells #[.int .i64 ((featR ((x0l15.take (Int.toNat (IntKind.wrap .i64 ((endS x0l15) - 1)))).drop (Int.toNat 1))).1), .int .i64 ((featR ((x0l15.take (Int.toNat (IntKind.wrap .i64 ((endS x0l15) - 1)))).drop (Int.toNat 1))).2)] 31), .blk bs4 (.cells #[.bool (mquV0 xl), .slice ayown3_0l15 yown3_0l15.length cyown3_0l15] 28), .own (.slice ayown3_0l15 yown3_0l15.length cyown3_0l15) 31 2 yown3_0l15.length xsyown3_0l15, .blk bs2 (.cells #[.bool false, .slice none ([] : List (Int × Int)).length 0] 28), .own (.slice none ([] : List (Int × Int)).length 0) 31 2 ([] : List (Int × Int)).length ([])]) 0 rfl rfl rfl (by kernel_rfl) (by kernel_rfl) (by kernel_rfl) (by kernel_rfl) (by kernel_rfl) ?_)
                refine Ok.nil ?_
                refine Ok.thenN ?_
                refine Ok.reval 5 rfl (show (.int .i64 (endS x0l15) : Value) = .int .i64 (mquV4 e7 x0l15) from congrArg (Value.int .i64) ((if_t hc22).symm)) ?_
                refine Ok.heapEq (H' := [.blk bs6 (.cells #[.int .i64 (mquV5 e7 x0l15), .int .i64 (mquV6 e7 x0l15)] 31), .blk bs4 (.cells #[.bool (mquV0 xl), .slice ayown3_0l15 yown3_0l15.length cyown3_0l15] 28), .own (.slice ayown3_0l15 yown3_0l15.length cyown3_0l15) 31 2 yown3_0l15.length xsyown3_0l15, .blk bs2 (.cells #[.bool false, .slice none ([] : List (Int × Int)).length 0] 28), .own (.slice none ([] : List (Int × Int)).length 0) 31 2 ([] : List (Int × Int)).length ([])]) (econs (congrArg (fun l : List Value => Ent.blk bs6 (.cells ⟨l⟩ 31)) (lcons (congrArg (Value.int .i64) ((if_t hc22).symm)) (lcons (congrArg (Value.int .i64) ((if_t hc22).symm)) rfl))) (econs (rfl) (econs (rfl) (econs (rfl) (econs (rfl) rfl))))) ?_
                exact fun a W hA hW => ⟨gl15, (Gext.refl w0 gl15), hA.sub (by kernel_rfl), hW, hF⟩
            · replace hF := hF.2 hc22
              refine Ok.seq ?_
              refine Ok.region ?_
              refine Ok.batch 1 [(0, .slice ax0l15 x0l15.length cx0l15), (2, .pointer (some ⟨bs2, 0, none⟩)), (4, .pointer (some ⟨bs4, 0, none⟩)), (5, .int .i64 1), (6, .pointer (some ⟨bs6, 0, none⟩)), (44, .pointer (some ⟨bs6, 0, none⟩))] (by kernel_rfl) ?_
              refine Ok.op rfl (OpOk.step (v := .int .i64 (kindS (mwdM e7))) (Yields.load 0 rfl rfl Tryz.underlying3 rfl (by kernel_rfl)) rfl rfl ?_)
              refine Ok.batch 1 [(0, .slice ax0l15 x0l15.length cx0l15), (2, .pointer (some ⟨bs2, 0, none⟩)), (4, .pointer (some ⟨bs4, 0, none⟩)), (5, .int .i64 1), (6, .pointer (some ⟨bs6, 0, none⟩)), (46, .bool (decide ((kindS (mwdM e7)) > 3)))] (by kernel_rfl) ?_
              refine Ok.nil ?_
              refine Ok.thenN ?_
              refine Ok.cond (b := decide ((kindS (mwdM e7)) > 3)) rfl (fun hc28 => ?_) (fun hc28 => ?_)
              · replace hF := hF.1 hc28
                refine Ok.seq ?_
                refine Ok.region ?_
                refine Ok.op rfl (OpOk.step (v := .agg #[.bool (mquV0 xl), .slice ayown3_0l15 yown3_0l15.length cyown3_0l15]) (Yields.loadAgg 1 2 #[.bool (mquV0 xl), .slice ayown3_0l15 yown3_0l15.length cyown3_0l15] rfl rfl Tryz.underlying28 rfl (by kernel_rfl) (by kernel_rfl) (by kernel_rfl)) rfl rfl ?_)
                refine Ok.op rfl (OpOk.store (k := 2) (v := .agg #[.bool (mquV0 xl), .slice ayown3_0l15 yown3_0l15.length cyown3_0l15]) (H' := [.blk bs6 (.cells #[.int .i64 (kindS (mwdM e7)), .int .i64 0] 31), .blk bs4 (.cells #[.bool (mquV0 xl), .slice ayown3_0l15 yown3_0l15.length cyown3_0l15] 28), .own (.slice ayown3_0l15 yown3_0l15.length cyown3_0l15) 31 2 yown3_0l15.length xsyown3_0l15, .blk bs2 (.cells #[.bool (mquV0 xl), .slice ayown3_0l15 yown3_0l15.length cyown3_0l15] 28), .own (.slice none ([] : List (Int × Int)).length 0) 31 2 ([] : List (Int × Int)).length ([])]) 3 rfl rfl rfl (by kernel_rfl) (by kernel_rfl) (by kernel_rfl) (by kernel_rfl) (by kernel_rfl) ?_)
                refine Ok.batch 1 [(2, .pointer (some ⟨bs2, 0, none⟩)), (3, .bool false)] (by kernel_rfl) ?_
                refine Ok.nil ?_
                refine Ok.thenN ?_
                refine Ok.ret ?_
                refine Ok.thenR ?_
                refine Ok.blockR ?_
                refine Ok.thenR ?_
                refine Ok.blockR ?_
                refine Ok.thenR ?_
                refine Ok.freeze (H' := [.blk bs6 (.cells #[.int .i64 (kindS (mwdM e7)), .int .i64 0] 31), .blk bs4 (.cells #[.bool (mquV0 xl), .slice ayown3_0l15 yown3_0l15.length cyown3_0l15] 28), .blk bs2 (.cells #[.bool (mquV0 xl), .slice ayown3_0l15 yown3_0l15.length cyown3_0l15] 28), .own (.slice none ([] : List (Int × Int)).length 0) 31 2 ([] : List (Int × Int)).length ([])]) 2 rfl hLyown3_0l15 rfl fun g29 hx29 hRf29 => ?_
                replace hL1 := hL1.mono hx29.1
                replace hG0 := hG0.mono hx29.1
                replace hG2 := hG2.mono hx29.1
                replace hG3 := hG3.mono hx29.1
                exact Ok.resP (vs := [.agg #[.bool (mquV0 xl), .slice ayown3_0l15 yown3_0l15.length cyown3_0l15], .bool false]) [] [] (by decide) rfl (.inl rfl) rfl (.cons (.cellAgg 2 2 #[.bool (mquV0 xl), .slice ayown3_0l15 yown3_0l15.length cyown3_0l15] rfl rfl Tryz.underlying28 rfl (by kernel_rfl) (by kernel_rfl) (by kernel_rfl)) (.cons (.tmp rfl) .nil)) ((hxj5.trans hxl15).trans hx29) ⟨((mquV0 xl), yown3_0l15), false, ayown3_0l15, cyown3_0l15, rfl, hRf29, rfl, hF⟩
              · replace hF := hF.2 hc28
                refine Ok.skip ?_
                refine Ok.thenN ?_
                refine Ok.reval 5 rfl (show (.int .i64 1 : Value) = .int .i64 (mquV4 e7 x0l15) from congrArg (Value.int .i64) ((if_f hc22).symm)) ?_
                refine Ok.heapEq (H' := [.blk bs6 (.cells #[.int .i64 (mquV5 e7 x0l15), .int .i64 (mquV6 e7 x0l15)] 31), .blk bs4 (.cells #[.bool (mquV0 xl), .slice ayown3_0l15 yown3_0l15.length cyown3_0l15] 28), .own (.slice ayown3_0l15 yown3_0l15.length cyown3_0l15) 31 2 yown3_0l15.length xsyown3_0l15, .blk bs2 (.cells #[.bool false, .slice none ([] : List (Int × Int)).length 0] 28), .own (.slice none ([] : List (Int × Int)).length 0) 31 2 ([] : List (Int × Int)).length ([])]) (econs (congrArg (fun l : List Value => Ent.blk bs6 (.cells ⟨l⟩ 31)) (lcons (congrArg (Value.int .i64) ((if_f hc22).symm)) (lcons (congrArg (Value.int .i64) ((if_f hc22).symm)) rfl))) (econs (rfl) (econs (rfl) (econs (rfl) (econs (rfl) rfl))))) ?_
                exact fun a W hA hW => ⟨gl15, (Gext.refl w0 gl15), hA.sub (by kernel_rfl), hW, hF⟩
          ·
            clear hF
            rintro a W ⟨gj27, hxj27, hA, hW, hF⟩
            refine (?_ : Ok _ _ _ _ _ _) a W hA hW
            clear hA hW
            replace hRx0l15 := hRx0l15.mono hxj27.1
            replace hLyown3_0l15 := hLyown3_0l15.mono hxj27.1
            replace hL1 := hL1.mono hxj27.1
            replace hG0 := hG0.mono hxj27.1
            replace hG2 := hG2.mono hxj27.1
            replace hG3 := hG3.mono hxj27.1
            refine Ok.seq ?_
            refine Ok.region ?_
            refine Ok.batch 1 [(0, .slice ax0l15 x0l15.length cx0l15), (2, .pointer (some ⟨bs2, 0, none⟩)), (4, .pointer (some ⟨bs4, 0, none⟩)), (5, .int .i64 (mquV4 e7 x0l15)), (6, .pointer (some ⟨bs6, 0, none⟩)), (48, .pointer (some ⟨bs4, 1, none⟩))] (by kernel_rfl) ?_
            refine Ok.op rfl (OpOk.step (v := .slice ayown3_0l15 yown3_0l15.length cyown3_0l15) (Yields.load 1 rfl rfl Tryz.underlying26 rfl (by kernel_rfl)) rfl rfl ?_)
            refine Ok.op rfl (OpOk.step (v := .agg #[.int .i64 (mquV5 e7 x0l15), .int .i64 (mquV6 e7 x0l15)]) (Yields.loadAgg 0 2 #[.int .i64 (mquV5 e7 x0l15), .int .i64 (mquV6 e7 x0l15)] rfl rfl Tryz.underlying31 rfl (by kernel_rfl) (by kernel_rfl) (by kernel_rfl)) rfl rfl ?_)
            have hL10 : RepL gj27 (.pair (.int .i64) (.int .i64)) ([.int .i64 (mquV5 e7 x0l15), .int .i64 (mquV6 e7 x0l15)] : List Value) ([((mquV5 e7 x0l15), (mquV6 e7 x0l15))] : List (Int × Int)) := (RepL.consN (c := [.int .i64 (mquV5 e7 x0l15), .int .i64 (mquV6 e7 x0l15)]) ⟨[.int .i64 (mquV5 e7 x0l15)], [.int .i64 (mquV6 e7 x0l15)], rfl, rfl, rfl⟩ rfl)
            refine Ok.op rfl (OpOk.lit (E := 31) (.pair (.int .i64) (.int .i64)) ([((mquV5 e7 x0l15), (mquV6 e7 x0l15))] : List (Int × Int)) ([.int .i64 (mquV5 e7 x0l15), .int .i64 (mquV6 e7 x0l15)] : List Value) (by kernel_rfl) (by kernel_rfl) rfl (by kernel_rfl) hL10 rfl fun b10 => ?_)
            obtain ⟨hb11, hF⟩ := hF
            refine Ok.op rfl (OpOk.append' (e := .pair (.int .i64) (.int .i64)) 16 8796093022208 3 0 rfl rfl rfl rfl hLyown3_0l15 hL10 Tryz.underlying26 (by kernel_rfl) (by kernel_rfl) (by kernel_rfl) hb11 rfl fun a11 c11 xs11 hL11 => ?_)
            refine Ok.batch 1 [(0, .slice ax0l15 x0l15.length cx0l15), (2, .pointer (some ⟨bs2, 0, none⟩)), (4, .pointer (some ⟨bs4, 0, none⟩)), (5, .int .i64 (mquV4 e7 x0l15)), (52, .slice a11 (yown3_0l15 ++ ([((mquV5 e7 x0l15), (mquV6 e7 x0l15))] : List (Int × Int))).length c11), (53, .pointer (some ⟨bs4, 1, none⟩))] (by kernel_rfl) ?_
            refine Ok.op rfl (OpOk.store (k := 1) (v := .slice a11 (yown3_0l15 ++ ([((mquV5 e7 x0l15), (mquV6 e7 x0l15))] : List (Int × Int))).length c11) (H' := [.own (.slice (some ⟨b10, 0, none⟩) ([((mquV5 e7 x0l15), (mquV6 e7 x0l15))] : List (Int × Int)).length 1) 31 2 ([((mquV5 e7 x0l15), (mquV6 e7 x0l15))] : List (Int × Int)).length ([.int .i64 (mquV5 e7 x0l15), .int .i64 (mquV6 e7 x0l15)] : List Value), .blk bs6 (.cells #[.int .i64 (mquV5 e7 x0l15), .int .i64 (mquV6 e7 x0l15)] 31), .blk bs4 (.cells #[.bool (mquV0 xl), .slice a11 (yown3_0l15 ++ ([((mquV5 e7 x0l15), (mquV6 e7 x0l15))] : List (Int × Int))).length c11] 28), .own (.slice a11 (yown3_0l15 ++ ([((mquV5 e7 x0l15), (mquV6 e7 x0l15))] : List (Int × Int))).length c11) 31 2 (yown3_0l15 ++ ([((mquV5 e7 x0l15), (mquV6 e7 x0l15))] : List (Int × Int))).length xs11, .blk bs2 (.cells #[.bool false, .slice none ([] : List (Int × Int)).length 0] 28), .own (.slice none ([] : List (Int × Int)).length 0) 31 2 ([] : List (Int × Int)).length ([])]) 2 rfl rfl rfl (by kernel_rfl) (by kernel_rfl) (by kernel_rfl) (by kernel_rfl) (by kernel_rfl) ?_)
            refine Ok.nil ?_
            refine Ok.thenN ?_
            refine Ok.seq ?_
            refine Ok.seq ?_
            refine Ok.region ?_
            refine Ok.batch 2 [(2, .pointer (some ⟨bs2, 0, none⟩)), (4, .pointer (some ⟨bs4, 0, none⟩)), (54, .slice ax0l15 x0l15.length cx0l15), (55, .int .i64 (mquV4 e7 x0l15))] (by kernel_rfl) ?_
            obtain ⟨h012, h112, h212, hF⟩ := hF
            refine Ok.op rfl (OpOk.sliceRo (e := .pair (.int .i64) (.pair (.str) (.pair (.str) (.int .i64)))) (l := (mquV4 e7 x0l15)) (h := (x0l15.length : Int)) rfl Tryz.underlying46 (by kernel_rfl) (.inl ⟨_, _, rfl, rfl⟩) (.inr ⟨rfl, rfl⟩) hRx0l15 h012 h112 h212 rfl (x0l15.drop (Int.toNat (mquV4 e7 x0l15))) (by rw [show ((x0l15.length : Int)).toNat = x0l15.length from Int.toNat_natCast _, List.take_length]) fun a12 c12 hR12 => ?_)
            refine Ok.batch 1 [(0, .slice a12 (x0l15.drop (Int.toNat (mquV4 e7 x0l15))).length c12), (2, .pointer (some ⟨bs2, 0, none⟩)), (4, .pointer (some ⟨bs4, 0, none⟩))] (by kernel_rfl) ?_
            refine Ok.nil ?_
            refine Ok.thenN ?_
            refine Ok.seq ?_
            refine Ok.region ?_
            refine Ok.batch 3 [(0, .slice a12 (x0l15.drop (Int.toNat (mquV4 e7 x0l15))).length c12), (2, .pointer (some ⟨bs2, 0, none⟩)), (4, .pointer (some ⟨bs4, 0, none⟩)), (59, .bool (((x0l15.drop (Int.toNat (mquV4 e7 x0l15))).length : Int) == 0))] (by kernel_rfl) ?_
            refine Ok.nil ?_
            refine Ok.thenN ?_
            refine Ok.cond (b := (((x0l15.drop (Int.toNat (mquV4 e7 x0l15))).length : Int) == 0)) rfl (fun hc13 => ?_) (fun hc13 => ?_)
            · replace hF := hF.1 hc13
              refine Ok.seq ?_
              refine Ok.region ?_
              refine Ok.op rfl (OpOk.step (v := .agg #[.bool (mquV0 xl), .slice a11 (yown3_0l15 ++ ([((mquV5 e7 x0l15), (mquV6 e7 x0l15))] : List (Int × Int))).length c11]) (Yields.loadAgg 2 2 #[.bool (mquV0 xl), .slice a11 (yown3_0l15 ++ ([((mquV5 e7 x0l15), (mquV6 e7 x0l15))] : List (Int × Int))).length c11] rfl rfl Tryz.underlying28 rfl (by kernel_rfl) (by kernel_rfl) (by kernel_rfl)) rfl rfl ?_)
              refine Ok.op rfl (OpOk.store (k := 2) (v := .agg #[.bool (mquV0 xl), .slice a11 (yown3_0l15 ++ ([((mquV5 e7 x0l15), (mquV6 e7 x0l15))] : List (Int × Int))).length c11]) (H' := [.own (.slice (some ⟨b10, 0, none⟩) ([((mquV5 e7 x0l15), (mquV6 e7 x0l15))] : List (Int × Int)).length 1) 31 2 ([((mquV5 e7 x0l15), (mquV6 e7 x0l15))] : List (Int × Int)).length ([.int .i64 (mquV5 e7 x0l15), .int .i64 (mquV6 e7 x0l15)] : List Value), .blk bs6 (.cells #[.int .i64 (mquV5 e7 x0l15), .int .i64 (mquV6 e7 x0l15)] 31), .blk bs4 (.cells #[.bool (mquV0 xl), .slice a11 (yown3_0l15 ++ ([((mquV5 e7 x0l15), (mquV6 e7 x0l15))] : List (Int × Int))).length c11] 28), .own (.slice a11 (yown3_0l15 ++ ([((mquV5 e7 x0l15), (mquV6 e7 x0l15))] : List (Int × Int))).length c11) 31 2 (yown3_0l15 ++ ([((mquV5 e7 x0l15), (mquV6 e7 x0l15))] : List (Int × Int))).length xs11, .blk bs2 (.cells #[.bool (mquV0 xl), .slice a11 (yown3_0l15 ++ ([((mquV5 e7 x0l15), (mquV6 e7 x0l15))] : List (Int × Int))).length c11] 28), .own (.slice none ([] : List (Int × Int)).length 0) 31 2 ([] : List (Int × Int)).length ([])]) 4 rfl rfl rfl (by kernel_rfl) (by kernel_rfl) (by kernel_rfl) (by kernel_rfl) (by kernel_rfl) ?_)
              refine Ok.batch 1 [(2, .pointer (some ⟨bs2, 0, none⟩)), (3, .bool true)] (by kernel_rfl) ?_
              refine Ok.nil ?_
              refine Ok.thenN ?_
              refine Ok.ret ?_
              refine Ok.thenR ?_
              refine Ok.blockR ?_
              refine Ok.thenR ?_
              refine Ok.blockR ?_
              refine Ok.thenR ?_
              refine Ok.freeze (H' := [.own (.slice (some ⟨b10, 0, none⟩) ([((mquV5 e7 x0l15), (mquV6 e7 x0l15))] : List (Int × Int)).length 1) 31 2 ([((mquV5 e7 x0l15), (mquV6 e7 x0l15))] : List (Int × Int)).length ([.int .i64 (mquV5 e7 x0l15), .int .i64 (mquV6 e7 x0l15)] : List Value), .blk bs6 (.cells #[.int .i64 (mquV5 e7 x0l15), .int .i64 (mquV6 e7 x0l15)] 31), .blk bs4 (.cells #[.bool (mquV0 xl), .slice a11 (yown3_0l15 ++ ([((mquV5 e7 x0l15), (mquV6 e7 x0l15))] : List (Int × Int))).length c11] 28), .blk bs2 (.cells #[.bool (mquV0 xl), .slice a11 (yown3_0l15 ++ ([((mquV5 e7 x0l15), (mquV6 e7 x0l15))] : List (Int × Int))).length c11] 28), .own (.slice none ([] : List (Int × Int)).length 0) 31 2 ([] : List (Int × Int)).length ([])]) 3 rfl hL11 rfl fun g14 hx14 hRf14 => ?_
              replace hL10 := hL10.mono hx14.1
              replace hL1 := hL1.mono hx14.1
              replace hG0 := hG0.mono hx14.1
              replace hG2 := hG2.mono hx14.1
              replace hG3 := hG3.mono hx14.1
              exact Ok.resP (vs := [.agg #[.bool (mquV0 xl), .slice a11 (yown3_0l15 ++ ([((mquV5 e7 x0l15), (mquV6 e7 x0l15))] : List (Int × Int))).length c11], .bool true]) [] [] (by decide) rfl (.inl rfl) rfl (.cons (.cellAgg 3 2 #[.bool (mquV0 xl), .slice a11 (yown3_0l15 ++ ([((mquV5 e7 x0l15), (mquV6 e7 x0l15))] : List (Int × Int))).length c11] rfl rfl Tryz.underlying28 rfl (by kernel_rfl) (by kernel_rfl) (by kernel_rfl)) (.cons (.tmp rfl) .nil)) (((hxj5.trans hxl15).trans hxj27).trans hx14) ⟨((mquV0 xl), (yown3_0l15 ++ ([((mquV5 e7 x0l15), (mquV6 e7 x0l15))] : List (Int × Int)))), true, a11, c11, rfl, hRf14, rfl, hF⟩
            · replace hF := hF.2 hc13
              refine Ok.skip ?_
              refine Ok.thenN ?_
              refine Ok.seq ?_
              refine Ok.seq ?_
              refine Ok.region ?_
              refine Ok.batch 1 [(0, .slice a12 (x0l15.drop (Int.toNat (mquV4 e7 x0l15))).length c12), (2, .pointer (some ⟨bs2, 0, none⟩)), (4, .pointer (some ⟨bs4, 0, none⟩)), (61, .slice a12 (x0l15.drop (Int.toNat (mquV4 e7 x0l15))).length c12)] (by kernel_rfl) ?_
              obtain ⟨h016, h116, hF⟩ := hF
              have he16 := get_of (l := (x0l15.drop (Int.toNat (mquV4 e7 x0l15)))) (default : Int × List UInt8 × List UInt8 × Int) h116
              generalize hg16 : ((x0l15.drop (Int.toNat (mquV4 e7 x0l15))).getD (Int.toNat 0) default) = e16 at he16 hF ⊢
              refine Ok.op rfl (OpOk.indexRo (e := .pair (.int .i64) (.pair (.str) (.pair (.str) (.int .i64)))) (i := 0) (el := e16) rfl rfl Tryz.underlying46 (by kernel_rfl) hR12 h016 he16 rfl fun q15 o15 cs15 _ hat15 hr15 => ?_)
              obtain ⟨_, _, rfl, rfl, ⟨_, _, rfl, rfl, ⟨_, _, rfl, rfl, rfl⟩⟩⟩ := hr15
              replace hat15 : At gj27 q15 o15 [.int .i64 e16.1, .string ⟨⟨e16.2.1⟩⟩, .string ⟨⟨e16.2.2.1⟩⟩, .int .i64 e16.2.2.2] := hat15
              refine Ok.op rfl (OpOk.step (v := .agg #[.int .i64 e16.1, .string ⟨⟨e16.2.1⟩⟩, .string ⟨⟨e16.2.2.1⟩⟩, .int .i64 e16.2.2.2]) (Yields.loadAggRo 0 4 #[.int .i64 e16.1, .string ⟨⟨e16.2.1⟩⟩, .string ⟨⟨e16.2.2.1⟩⟩, .int .i64 e16.2.2.2] hat15 (by kernel_rfl) Tryz.underlying55 rfl (by kernel_rfl) (by kernel_rfl) (by kernel_rfl)) rfl rfl ?_)
              obtain ⟨hp17, hF⟩ := hF
              refine Ok.op rfl (OpOk.callG (v := .string ⟨⟨(mwdM e16)⟩⟩) (enters (by kernel_rfl) (fun _ => by kernel_rfl)) (fun W hW => mwd_c e16 hp17) rfl ?_)
              refine Ok.op rfl (OpOk.step (v := .bool (!((mwdM e16) == ([97, 110, 100] : List UInt8)))) (Yields.strCmp (f := .neq) (a := (mwdM e16)) (b := ([97, 110, 100] : List UInt8)) (by kernel_rfl) (by kernel_rfl) rfl) rfl rfl ?_)
              refine Ok.nil ?_
              refine Ok.thenN ?_
              refine Ok.cond (b := !((mwdM e16) == ([97, 110, 100] : List UInt8))) rfl (fun hc18 => ?_) (fun hc18 => ?_)
              · replace hF := hF.1 hc18
                refine Ok.seq ?_
                refine Ok.region ?_
                refine Ok.op rfl (OpOk.step (v := .agg #[.bool (mquV0 xl), .slice a11 (yown3_0l15 ++ ([((mquV5 e7 x0l15), (mquV6 e7 x0l15))] : List (Int × Int))).length c11]) (Yields.loadAgg 2 2 #[.bool (mquV0 xl), .slice a11 (yown3_0l15 ++ ([((mquV5 e7 x0l15), (mquV6 e7 x0l15))] : List (Int × Int))).length c11] rfl rfl Tryz.underlying28 rfl (by kernel_rfl) (by kernel_rfl) (by kernel_rfl)) rfl rfl ?_)
                refine Ok.op rfl (OpOk.store (k := 2) (v := .agg #[.bool (mquV0 xl), .slice a11 (yown3_0l15 ++ ([((mquV5 e7 x0l15), (mquV6 e7 x0l15))] : List (Int × Int))).length c11]) (H' := [.own (.slice (some ⟨b10, 0, none⟩) ([((mquV5 e7 x0l15), (mquV6 e7 x0l15))] : List (Int × Int)).length 1) 31 2 ([((mquV5 e7 x0l15), (mquV6 e7 x0l15))] : List (Int × Int)).length ([.int .i64 (mquV5 e7 x0l15), .int .i64 (mquV6 e7 x0l15)] : List Value), .blk bs6 (.cells #[.int .i64 (mquV5 e7 x0l15), .int .i64 (mquV6 e7 x0l15)] 31), .blk bs4 (.cells #[.bool (mquV0 xl), .slice a11 (yown3_0l15 ++ ([((mquV5 e7 x0l15), (mquV6 e7 x0l15))] : List (Int × Int))).length c11] 28), .own (.slice a11 (yown3_0l15 ++ ([((mquV5 e7 x0l15), (mquV6 e7 x0l15))] : List (Int × Int))).length c11) 31 2 (yown3_0l15 ++ ([((mquV5 e7 x0l15), (mquV6 e7 x0l15))] : List (Int × Int))).length xs11, .blk bs2 (.cells #[.bool (mquV0 xl), .slice a11 (yown3_0l15 ++ ([((mquV5 e7 x0l15), (mquV6 e7 x0l15))] : List (Int × Int))).length c11] 28), .own (.slice none ([] : List (Int × Int)).length 0) 31 2 ([] : List (Int × Int)).length ([])]) 4 rfl rfl rfl (by kernel_rfl) (by kernel_rfl) (by kernel_rfl) (by kernel_rfl) (by kernel_rfl) ?_)
                refine Ok.batch 1 [(2, .pointer (some ⟨bs2, 0, none⟩)), (3, .bool false)] (by kernel_rfl) ?_
                refine Ok.nil ?_
                refine Ok.thenN ?_
                refine Ok.ret ?_
                refine Ok.thenR ?_
                refine Ok.blockR ?_
                refine Ok.thenR ?_
                refine Ok.blockR ?_
                refine Ok.thenR ?_
                refine Ok.freeze (H' := [.own (.slice (some ⟨b10, 0, none⟩) ([((mquV5 e7 x0l15), (mquV6 e7 x0l15))] : List (Int × Int)).length 1) 31 2 ([((mquV5 e7 x0l15), (mquV6 e7 x0l15))] : List (Int × Int)).length ([.int .i64 (mquV5 e7 x0l15), .int .i64 (mquV6 e7 x0l15)] : List Value), .blk bs6 (.cells #[.int .i64 (mquV5 e7 x0l15), .int .i64 (mquV6 e7 x0l15)] 31), .blk bs4 (.cells #[.bool (mquV0 xl), .slice a11 (yown3_0l15 ++ ([((mquV5 e7 x0l15), (mquV6 e7 x0l15))] : List (Int × Int))).length c11] 28), .blk bs2 (.cells #[.bool (mquV0 xl), .slice a11 (yown3_0l15 ++ ([((mquV5 e7 x0l15), (mquV6 e7 x0l15))] : List (Int × Int))).length c11] 28), .own (.slice none ([] : List (Int × Int)).length 0) 31 2 ([] : List (Int × Int)).length ([])]) 3 rfl hL11 rfl fun g19 hx19 hRf19 => ?_
                replace hL10 := hL10.mono hx19.1
                replace hL1 := hL1.mono hx19.1
                replace hG0 := hG0.mono hx19.1
                replace hG2 := hG2.mono hx19.1
                replace hG3 := hG3.mono hx19.1
                exact Ok.resP (vs := [.agg #[.bool (mquV0 xl), .slice a11 (yown3_0l15 ++ ([((mquV5 e7 x0l15), (mquV6 e7 x0l15))] : List (Int × Int))).length c11], .bool false]) [] [] (by decide) rfl (.inl rfl) rfl (.cons (.cellAgg 3 2 #[.bool (mquV0 xl), .slice a11 (yown3_0l15 ++ ([((mquV5 e7 x0l15), (mquV6 e7 x0l15))] : List (Int × Int))).length c11] rfl rfl Tryz.underlying28 rfl (by kernel_rfl) (by kernel_rfl) (by kernel_rfl)) (.cons (.tmp rfl) .nil)) (((hxj5.trans hxl15).trans hxj27).trans hx19) ⟨((mquV0 xl), (yown3_0l15 ++ ([((mquV5 e7 x0l15), (mquV6 e7 x0l15))] : List (Int × Int)))), false, a11, c11, rfl, hRf19, rfl, hF⟩
              · replace hF := hF.2 hc18
                refine Ok.skip ?_
                refine Ok.thenN ?_
                refine Ok.region ?_
                refine Ok.batch 1 [(2, .pointer (some ⟨bs2, 0, none⟩)), (4, .pointer (some ⟨bs4, 0, none⟩)), (67, .slice a12 (x0l15.drop (Int.toNat (mquV4 e7 x0l15))).length c12)] (by kernel_rfl) ?_
                obtain ⟨h020, h120, h220, hF⟩ := hF
                refine Ok.op rfl (OpOk.sliceRo (e := .pair (.int .i64) (.pair (.str) (.pair (.str) (.int .i64)))) (l := 1) (h := ((x0l15.drop (Int.toNat (mquV4 e7 x0l15))).length : Int)) rfl Tryz.underlying46 (by kernel_rfl) (.inl ⟨_, _, rfl, rfl⟩) (.inr ⟨rfl, rfl⟩) hR12 h020 h120 h220 rfl ((x0l15.drop (Int.toNat (mquV4 e7 x0l15))).drop (Int.toNat 1)) (by rw [show (((x0l15.drop (Int.toNat (mquV4 e7 x0l15))).length : Int)).toNat = (x0l15.drop (Int.toNat (mquV4 e7 x0l15))).length from Int.toNat_natCast _, List.take_length]) fun a20 c20 hR20 => ?_)
                refine Ok.batch 1 [(0, .slice a20 ((x0l15.drop (Int.toNat (mquV4 e7 x0l15))).drop (Int.toNat 1)).length c20), (2, .pointer (some ⟨bs2, 0, none⟩)), (4, .pointer (some ⟨bs4, 0, none⟩))] (by kernel_rfl) ?_
                refine Ok.nil ?_
                refine Ok.blockN ?_
                refine Ok.thenN ?_
                subst hg16
                subst hg7
                exact fun a W hA hW => ⟨k15, Nat.lt_succ_self _, gj27, (hxl15.trans hxj27), a20, c20, ((x0l15.drop (Int.toNat (mquV4 (x0l15.getD (Int.toNat 0) default) x0l15))).drop (Int.toNat 1)), a11, c11, (yown3_0l15 ++ ([((mquV5 (x0l15.getD (Int.toNat 0) default) x0l15), (mquV6 (x0l15.getD (Int.toNat 0) default) x0l15))] : List (Int × Int))), xs11, hR20, hL11, hA.sub (by kernel_rfl), hW.sub (.cons _ (.cons _ (.cons_cons _ (.cons_cons _ (.cons_cons _ (.cons_cons _ .slnil)))))), hF⟩
        · replace hF := hF.2 hc5
          refine Ok.exit ?_
          refine Ok.thenE ?_
          refine Ok.thenE ?_
          refine Ok.blockHit ?_
          refine Ok.thenN ?_
          refine Ok.seq ?_
          refine Ok.region ?_
          refine Ok.op rfl (OpOk.step (v := .agg #[.bool (mquV0 xl), .slice ayown3_0l15 yown3_0l15.length cyown3_0l15]) (Yields.loadAgg 0 2 #[.bool (mquV0 xl), .slice ayown3_0l15 yown3_0l15.length cyown3_0l15] rfl rfl Tryz.underlying28 rfl (by kernel_rfl) (by kernel_rfl) (by kernel_rfl)) rfl rfl ?_)
          refine Ok.op rfl (OpOk.store (k := 2) (v := .agg #[.bool (mquV0 xl), .slice ayown3_0l15 yown3_0l15.length cyown3_0l15]) (H' := [.blk bs4 (.cells #[.bool (mquV0 xl), .slice ayown3_0l15 yown3_0l15.length cyown3_0l15] 28), .own (.slice ayown3_0l15 yown3_0l15.length cyown3_0l15) 31 2 yown3_0l15.length xsyown3_0l15, .blk bs2 (.cells #[.bool (mquV0 xl), .slice ayown3_0l15 yown3_0l15.length cyown3_0l15] 28), .own (.slice none ([] : List (Int × Int)).length 0) 31 2 ([] : List (Int × Int)).length ([])]) 2 rfl rfl rfl (by kernel_rfl) (by kernel_rfl) (by kernel_rfl) (by kernel_rfl) (by kernel_rfl) ?_)
          refine Ok.batch 1 [(2, .pointer (some ⟨bs2, 0, none⟩)), (3, .bool false)] (by kernel_rfl) ?_
          refine Ok.nil ?_
          refine Ok.thenN ?_
          refine Ok.ret ?_
          refine Ok.freeze (H' := [.blk bs4 (.cells #[.bool (mquV0 xl), .slice ayown3_0l15 yown3_0l15.length cyown3_0l15] 28), .blk bs2 (.cells #[.bool (mquV0 xl), .slice ayown3_0l15 yown3_0l15.length cyown3_0l15] 28), .own (.slice none ([] : List (Int × Int)).length 0) 31 2 ([] : List (Int × Int)).length ([])]) 1 rfl hLyown3_0l15 rfl fun g30 hx30 hRf30 => ?_
          replace hL1 := hL1.mono hx30.1
          replace hG0 := hG0.mono hx30.1
          replace hG2 := hG2.mono hx30.1
          replace hG3 := hG3.mono hx30.1
          exact Ok.resP (vs := [.agg #[.bool (mquV0 xl), .slice ayown3_0l15 yown3_0l15.length cyown3_0l15], .bool false]) [] [] (by decide) rfl (.inl rfl) rfl (.cons (.cellAgg 1 2 #[.bool (mquV0 xl), .slice ayown3_0l15 yown3_0l15.length cyown3_0l15] rfl rfl Tryz.underlying28 rfl (by kernel_rfl) (by kernel_rfl) (by kernel_rfl)) (.cons (.tmp rfl) .nil)) ((hxj5.trans hxl15).trans hx30) ⟨((mquV0 xl), yown3_0l15), false, ayown3_0l15, cyown3_0l15, rfl, hRf30, rfl, hF⟩
def querN : Nat → List Tok → List (Int × Int) → List (Int × Int) × Bool
  | 0, _, fs => (fs, false)
  | k + 1, l, fs =>
    if l.length = 0 then (fs, false) else
    let t := l.getD 0 default
    if (t.2.1 == ([40] : List UInt8) && endS l == 0) = true then (fs, false) else
    if (!(t.2.1 == ([40] : List UInt8)) && decide (kindS (mwdM t) > 3)) = true then (fs, false) else
    let fs' := fs ++ [(mquV5 t l, mquV6 t l)]
    let l' := l.drop (Int.toNat (mquV4 t l))
    if l'.length = 0 then (fs', true) else
    if (!((mwdM (l'.getD 0 default)) == ([97, 110, 100] : List UInt8))) = true then (fs', false) else
    querN k (l'.drop 1) fs'
def querR (l : List Tok) : List (Int × Int) × Bool := querN (l.length + 1) (if mquV0 l = true then l.drop 1 else l) []
def querS (l : List Tok) : (Bool × List (Int × Int)) × Bool := ((mquV0 l, (querR l).1), (querR l).2)
theorem mqu_F (l : List Tok) (hp : toksOK l) : mquF l (fun r r1 => (r, r1) = querS l) := by
  have loop : ∀ (k : Nat) (x : List Tok) (fs : List (Int × Int)), x.length < k → toksOK x → fs.length + x.length ≤ 1000 → querR l = querN k x fs → mqul15 l (fun r r1 => (r, r1) = querS l) k x fs := by
    intro k
    induction k with
    | zero => intro x fs h; omega
    | succ k ih =>
      intro x fs hk hx hf he
      have fin : ∀ r : List (Int × Int) × Bool, querR l = r → ((mquV0 l, r.1), r.2) = querS l := fun r hr => by unfold querS; rw [hr]
      rw [querN] at he
      by_cases hl : x.length = 0
      · rw [if_pos hl] at he
        exact ⟨fun h => by have := of_decide_eq_true h; omega, fun _ => fin _ he⟩
      · rw [if_neg hl] at he
        have f0 := tok_get hx (i := 0) (by omega)
        have hx1 := hx.1
        refine ⟨fun _ => ?_, fun h => by have := of_decide_eq_false h; omega⟩
        rw [show Int.toNat 0 = 0 from rfl]
        have eo := end_open hx (by omega)
        have j27 : 0 ≤ mquV4 (x.getD 0 default) x → 1 ≤ mquV4 (x.getD 0 default) x → mquV4 (x.getD 0 default) x ≤ x.length →
            querR l = (if (x.drop (Int.toNat (mquV4 (x.getD 0 default) x))).length = 0 then (fs ++ [(mquV5 (x.getD 0 default) x, mquV6 (x.getD 0 default) x)], true) else
              if (!((mwdM ((x.drop (Int.toNat (mquV4 (x.getD 0 default) x))).getD 0 default)) == ([97, 110, 100] : List UInt8))) = true then (fs ++ [(mquV5 (x.getD 0 default) x, mquV6 (x.getD 0 default) x)], false) else
              querN k ((x.drop (Int.toNat (mquV4 (x.getD 0 default) x))).drop 1) (fs ++ [(mquV5 (x.getD 0 default) x, mquV6 (x.getD 0 default) x)])) →
            mquj27 l (fun r r1 => (r, r1) = querS l) (x.getD 0 default) x fs (mqul15 l (fun r r1 => (r, r1) = querS l) k) := by
          intro h0 h1 h2 he
          have hd : (x.drop (Int.toNat (mquV4 (x.getD 0 default) x))).length + 1 ≤ x.length := by rw [List.length_drop]; omega
          have hd2 := toks_drop hx (Int.toNat (mquV4 (x.getD 0 default) x))
          unfold mquj27
          rw [show Int.toNat 0 = 0 from rfl, show Int.toNat 1 = 1 from rfl]
          generalize mquV5 (x.getD 0 default) x = a5 at *
          generalize mquV6 (x.getD 0 default) x = a6 at *
          generalize x.drop (Int.toNat (mquV4 (x.getD 0 default) x)) = x' at *
          refine ⟨by rw [List.length_append]; simp; omega, h0, h2, by omega, fun hz => ?_, fun hz => ?_⟩
          · rw [if_pos (by have := eq_of_beq hz; omega)] at he
            exact fin _ he
          · have hz' : x'.length ≠ 0 := fun h => by rw [h] at hz; cases hz
            rw [if_neg hz'] at he
            refine ⟨by omega, by show 0 < _; omega, word_ok (tok_get hd2 (by omega)), fun hw => ?_, fun hw => ?_⟩
            · rw [if_t (by simpa using hw)] at he
              exact fin _ he
            · rw [if_f (by simpa using hw)] at he
              refine ⟨by omega, by omega, by omega, ?_⟩
              exact ih _ _ (by rw [List.length_drop]; omega) (toks_drop hd2 _) (by rw [List.length_append, List.length_drop]; simp; omega) he
        refine ⟨by omega, by omega, word_ok f0, fun hq => ?_, fun hq => ?_⟩
        · have hop := eo (f0.par hq)
          refine ⟨hop.1, fun hz => ?_, fun hz => ?_⟩
          · rw [if_t (by rw [hq, hz]; rfl)] at he
            exact fin _ he
          · have hz' : endS x ≠ 0 := fun h => by rw [h] at hz; cases hz
            have hr := hop.2.resolve_left hz'
            rw [if_f (by rw [hq, hz]; rfl), if_f (by rw [hq]; rfl)] at he
            have ew : IntKind.wrap .i64 (endS x - 1) = endS x - 1 := w64 (by omega)
            have e4 : mquV4 (x.getD 0 default) x = endS x := if_t hq
            exact ⟨by omega, by rw [ew]; omega, by rw [ew]; omega, toks_drop (toks_take hx _) _, j27 (by omega) (by omega) (by omega) he⟩
        · have e4 : mquV4 (x.getD 0 default) x = 1 := if_f hq
          rw [if_f (by rw [hq]; rfl)] at he
          refine ⟨fun h3 => ?_, fun h3 => ?_⟩
          · rw [if_t (by rw [hq, h3]; rfl)] at he
            exact fin _ he
          · rw [if_f (by rw [hq, h3]; rfl)] at he
            exact j27 (by omega) (by omega) (by omega) he
  have hl := hp.1
  have j5 : mquj5 l (fun r r1 => (r, r1) = querS l) := by
    refine ⟨l.length + 1, loop _ _ _ ?_ ?_ ?_ rfl⟩
    · show (if mquV0 l = true then l.drop 1 else l).length < _
      split
      · rw [List.length_drop]; omega
      · omega
    · show toksOK (if mquV0 l = true then l.drop 1 else l)
      split
      · exact toks_drop hp _
      · exact hp
    · show _ + (if mquV0 l = true then l.drop 1 else l).length ≤ _
      split
      · rw [List.length_drop]; simp; omega
      · simp; omega
  have j6 : mquj6 l (fun r r1 => (r, r1) = querS l) := by
    refine ⟨fun h => ⟨by omega, ?_, by omega, j5⟩, fun _ => j5⟩
    unfold mquV0 at h
    rw [Bool.and_eq_true] at h
    have := of_decide_eq_true h.1
    omega
  refine ⟨fun h => ?_, fun _ => j6⟩
  have := of_decide_eq_true h
  exact ⟨by omega, by show 0 < _; omega, word_ok (tok_get hp (by omega)), j6⟩
set_option linter.unusedVariables false in
theorem mqu_c {g : Ghost} {axl_0 : Option Addr} {cxl_0 : Nat} (xl : List (Int × List UInt8 × List UInt8 × Int)) (hRxl_0 : Rep g (.slice (.pair (.int .i64) (.pair (.str) (.pair (.str) (.int .i64))))) [.slice axl_0 xl.length cxl_0] xl) (hG0 : GlobL g 0 (.str) DWords) (hG2 : SomeIf g 2) (hG3 : SomeIf g 3)  (hp : toksOK xl) : CallsH Tryz.prog 18 #[.slice axl_0 xl.length cxl_0] g [] (fun g' H' v => ∃ (ar0_0 : Option Addr) (cr0_0 : Nat), v = .tuple #[.agg #[.bool ((querS xl).1).1, .slice ar0_0 ((querS xl).1).2.length cr0_0], .bool ((querS xl).2)] ∧ Rep g' (.slice (.pair (.int .i64) (.int .i64))) [.slice ar0_0 ((querS xl).1).2.length cr0_0] ((querS xl).1).2 ∧ H' = []) :=
  (mqu_ok xl hRxl_0 hG0 hG2 hG3 _ (mqu_F xl hp)).mono (by rintro g' H' v _ ⟨r0, r1, ar0_0, cr0_0, rfl, hRr0_0, rfl, hK⟩; obtain ⟨rfl, rfl⟩ : r0 = (querS xl).1 ∧ r1 = (querS xl).2 := ⟨congrArg (fun z => z.1) hK, congrArg (fun z => z.2) hK⟩; exact ⟨ar0_0, cr0_0, rfl, hRr0_0, rfl⟩)
end Go.Proofs.YtjehllphdpkjeaaGreatDoor.Me
