/- media: a feature in a block. -/
import Derived.Test.YtjehllphdpkjeaaGreatDoorMtb
namespace Go.Proofs.YtjehllphdpkjeaaGreatDoor.Me
open Go Go.Eng Go.RowKit Go.Shelf Go.Proofs Bld Trm Css Ti
set_option linter.unusedVariables false
/-- what each token of a text keeps -/
def tokOK (t : Tok) : Bool := decide (1 ≤ t.2.1.length) && decide (t.2.1.length ≤ 1000) && decide (t.2.2.1.length ≤ 1000) && (!(t.1 == 7 && t.2.2.1 == ([112, 120] : List UInt8)) || decide (2 ≤ t.2.1.length)) && (!(t.2.1 == ([40] : List UInt8)) || (t.1 == 10 || t.1 == 2))
def toksOK (l : List Tok) : Prop := l.length ≤ 1000 ∧ l.all tokOK = true
theorem toks_take {l : List Tok} (h : toksOK l) (n : Nat) : toksOK (l.take n) := ⟨by rw [List.length_take]; have := h.1; omega, List.all_eq_true.2 fun t ht => List.all_eq_true.1 h.2 t (List.mem_of_mem_take ht)⟩
theorem toks_drop {l : List Tok} (h : toksOK l) (n : Nat) : toksOK (l.drop n) := ⟨by rw [List.length_drop]; have := h.1; omega, List.all_eq_true.2 fun t ht => List.all_eq_true.1 h.2 t (List.mem_of_mem_drop ht)⟩
structure TokFacts (t : Tok) : Prop where
  raw1 : 1 ≤ t.2.1.length
  raw2 : t.2.1.length ≤ 1000
  val : t.2.2.1.length ≤ 1000
  px : t.1 = 7 → t.2.2.1 = ([112, 120] : List UInt8) → 2 ≤ t.2.1.length
  par : (t.2.1 == ([40] : List UInt8)) = true → (t.1 == 10 || t.1 == 2) = true
theorem tok_facts {t : Tok} (h : tokOK t = true) : TokFacts t := by
  unfold tokOK at h
  simp only [Bool.and_eq_true, decide_eq_true_eq] at h
  obtain ⟨⟨⟨⟨h1, h2⟩, h3⟩, h4⟩, h5⟩ := h
  refine ⟨h1, h2, h3, fun a b => ?_, fun a => ?_⟩
  · simpa [a, b] using h4
  · rw [a] at h5; simpa using h5
theorem tok_get {l : List Tok} (h : toksOK l) {i : Nat} (hi : i < l.length) : TokFacts (l.getD i default) := by
  refine tok_facts (List.all_eq_true.1 h.2 _ ?_)
  rw [List.getD_eq_getElem?_getD, List.getElem?_eq_getElem hi, Option.getD_some]
  exact List.getElem_mem hi
theorem word_ok {t : Tok} (h : TokFacts t) : wordP t := by unfold wordP; have := h.val; omega
theorem word_len {t : Tok} (h : TokFacts t) : (mwdM t).length ≤ 1000 := by
  unfold mwdM
  split
  · simp
  · unfold lowerS; rw [List.length_map]; exact h.val
def mfeV0 (xl : List (Int × List UInt8 × List UInt8 × Int)) : Bool :=
  (((xl.length : Int) != 3) || (!((xl.getD (Int.toNat 1) default).2.1 == ([58] : List UInt8))))
def mfeV1 (e11 : Int × List UInt8 × List UInt8 × Int) : Bool :=
  ((e11.1 != 7) || ((!(e11.2.2.1 == ([112, 120] : List UInt8))) || (!((trimS (e11.2.1.take (Int.toNat (IntKind.wrap .i64 ((e11.2.1.length : Int) - 2)))) ([48, 49, 50, 51, 52, 53, 54, 55, 56, 57] : List UInt8)) == ([] : List UInt8)))))
def mfej24 (K : (Int × Int) → Prop) (e5 : Int × List UInt8 × List UInt8 × Int) (e11 : Int × List UInt8 × List UInt8 × Int) : Prop :=
  (((mfeV1 e11)) = true → K (12, 0)) ∧ (((mfeV1 e11)) = false → (0 : Int) ≤ 0 ∧ (0 : Int) ≤ (IntKind.wrap .i64 ((e11.2.1.length : Int) - 2)) ∧ (IntKind.wrap .i64 ((e11.2.1.length : Int) - 2)) ≤ (e11.2.1.length : Int) ∧ atoiP (e11.2.1.take (Int.toNat (IntKind.wrap .i64 ((e11.2.1.length : Int) - 2)))) ∧ (((atoiS (e11.2.1.take (Int.toNat (IntKind.wrap .i64 ((e11.2.1.length : Int) - 2))))).2) = true → ((decide (((atoiS (e11.2.1.take (Int.toNat (IntKind.wrap .i64 ((e11.2.1.length : Int) - 2))))).1) > 1000000)) = true → K (12, 0)) ∧ ((decide (((atoiS (e11.2.1.take (Int.toNat (IntKind.wrap .i64 ((e11.2.1.length : Int) - 2))))).1) > 1000000)) = false → K ((kindS (mwdM e5)), (atoiS (e11.2.1.take (Int.toNat (IntKind.wrap .i64 ((e11.2.1.length : Int) - 2))))).1))) ∧ (((atoiS (e11.2.1.take (Int.toNat (IntKind.wrap .i64 ((e11.2.1.length : Int) - 2))))).2) = false → K (12, 0)))
def mfej6 (xl : List (Int × List UInt8 × List UInt8 × Int)) (K : (Int × Int) → Prop) : Prop :=
  (((mfeV0 xl)) = true → K (12, 0)) ∧ (((mfeV0 xl)) = false → (0 : Int) ≤ 0 ∧ Int.toNat 0 < xl.length ∧ wordP (xl.getD (Int.toNat 0) default) ∧ ((((decide ((kindS (mwdM (xl.getD (Int.toNat 0) default))) ≥ 4)) && (decide ((kindS (mwdM (xl.getD (Int.toNat 0) default))) ≤ 7)))) = true → (0 : Int) ≤ 2 ∧ Int.toNat 2 < xl.length ∧ ((((xl.getD (Int.toNat 2) default).1 != 7)) = true → mfej24 K (xl.getD (Int.toNat 0) default) (xl.getD (Int.toNat 2) default)) ∧ ((((xl.getD (Int.toNat 2) default).1 != 7)) = false → ((!((xl.getD (Int.toNat 2) default).2.2.1 == ([112, 120] : List UInt8))) = true → mfej24 K (xl.getD (Int.toNat 0) default) (xl.getD (Int.toNat 2) default)) ∧ ((!((xl.getD (Int.toNat 2) default).2.2.1 == ([112, 120] : List UInt8))) = false → (0 : Int) ≤ 0 ∧ (0 : Int) ≤ (IntKind.wrap .i64 (((xl.getD (Int.toNat 2) default).2.1.length : Int) - 2)) ∧ (IntKind.wrap .i64 (((xl.getD (Int.toNat 2) default).2.1.length : Int) - 2)) ≤ ((xl.getD (Int.toNat 2) default).2.1.length : Int) ∧ trimP ((xl.getD (Int.toNat 2) default).2.1.take (Int.toNat (IntKind.wrap .i64 (((xl.getD (Int.toNat 2) default).2.1.length : Int) - 2)))) ([48, 49, 50, 51, 52, 53, 54, 55, 56, 57] : List UInt8) ∧ mfej24 K (xl.getD (Int.toNat 0) default) (xl.getD (Int.toNat 2) default)))) ∧ ((((decide ((kindS (mwdM (xl.getD (Int.toNat 0) default))) ≥ 4)) && (decide ((kindS (mwdM (xl.getD (Int.toNat 0) default))) ≤ 7)))) = false → (mwdM (xl.getD (Int.toNat 0) default)).length + ([58] : List UInt8).length ≤ maxLen ∧ (0 : Int) ≤ 2 ∧ Int.toNat 2 < xl.length ∧ wordP (xl.getD (Int.toNat 2) default) ∧ ((mwdM (xl.getD (Int.toNat 0) default)) ++ ([58] : List UInt8)).length + (mwdM (xl.getD (Int.toNat 2) default)).length ≤ maxLen ∧ ((decide ((kindS (((mwdM (xl.getD (Int.toNat 0) default)) ++ ([58] : List UInt8)) ++ (mwdM (xl.getD (Int.toNat 2) default)))) ≥ 8)) = true → K ((kindS (((mwdM (xl.getD (Int.toNat 0) default)) ++ ([58] : List UInt8)) ++ (mwdM (xl.getD (Int.toNat 2) default)))), 0)) ∧ ((decide ((kindS (((mwdM (xl.getD (Int.toNat 0) default)) ++ ([58] : List UInt8)) ++ (mwdM (xl.getD (Int.toNat 2) default)))) ≥ 8)) = false → K (12, 0))))
def mfeF (xl : List (Int × List UInt8 × List UInt8 × Int)) (K : (Int × Int) → Prop) : Prop :=
  ((((xl.length : Int) != 3)) = true → mfej6 xl K) ∧ ((((xl.length : Int) != 3)) = false → (0 : Int) ≤ 1 ∧ Int.toNat 1 < xl.length ∧ mfej6 xl K)
set_option maxHeartbeats 4000000 in
set_option maxRecDepth 100000 in
set_option linter.unusedVariables false in
theorem mfe_ok {g : Ghost} {axl_0 : Option Addr} {cxl_0 : Nat} (xl : List (Int × List UInt8 × List UInt8 × Int)) (hRxl_0 : Rep g (.slice (.pair (.int .i64) (.pair (.str) (.pair (.str) (.int .i64))))) [.slice axl_0 xl.length cxl_0] xl) (hG0 : GlobL g 0 (.str) DWords) (hG2 : SomeIf g 2) (hG3 : SomeIf g 3) (K : (Int × Int) → Prop)
    (hF : mfeF xl K) : CallsH Tryz.prog 25 #[.slice axl_0 xl.length cxl_0] g [] (fun g' H' v => ∃ (r0 : Int × Int), v = .agg #[.int .i64 r0.1, .int .i64 r0.2] ∧ H' = [] ∧ K r0) := by
  refine CallsH.enter 91 [(0, .slice axl_0 xl.length cxl_0)] Tryz.func25 rfl (by kernel_rfl) (by kernel_rfl) (by kernel_rfl) fun w0 => ?_
  refine Ok.seq ?_
  refine Ok.region ?_
  refine Ok.op rfl (OpOk.alloc (z := .agg #[.int .i64 0, .int .i64 0]) (cs := #[.int .i64 0, .int .i64 0]) (by kernel_rfl) (by kernel_rfl) rfl fun bs2 => ?_)
  refine Ok.nil ?_
  refine Ok.thenN ?_
  refine Ok.seq ?_
  refine Ok.region ?_
  refine Ok.batch 1 [(0, .slice axl_0 xl.length cxl_0), (2, .pointer (some ⟨bs2, 0, none⟩)), (10, .agg #[.int .i64 12, .int .i64 0])] (by kernel_rfl) ?_
  refine Ok.op rfl (OpOk.alloc (z := .agg #[.int .i64 0, .int .i64 0]) (cs := #[.int .i64 0, .int .i64 0]) (by kernel_rfl) (by kernel_rfl) rfl fun bs3 => ?_)
  refine Ok.op rfl (OpOk.store (k := 2) (v := .agg #[.int .i64 12, .int .i64 0]) (H' := [.blk bs3 (.cells #[.int .i64 12, .int .i64 0] 31), .blk bs2 (.cells #[.int .i64 0, .int .i64 0] 31)]) 0 rfl rfl rfl (by kernel_rfl) (by kernel_rfl) (by kernel_rfl) (by kernel_rfl) (by kernel_rfl) ?_)
  refine Ok.nil ?_
  refine Ok.thenN ?_
  refine Ok.seq ?_
  refine Ok.cut (fun a W => ∃ gj6 : Ghost, Gext w0 g gj6 ∧ StA 91 [(0, .slice axl_0 xl.length cxl_0), (2, .pointer (some ⟨bs2, 0, none⟩)), (3, .pointer (some ⟨bs3, 0, none⟩)), (20, .bool (mfeV0 xl))] a ∧ StW w0 [.blk bs3 (.cells #[.int .i64 12, .int .i64 0] 31), .blk bs2 (.cells #[.int .i64 0, .int .i64 0] 31)] gj6 W ∧ mfej6 xl K) ?_ ?_
  ·
    refine Ok.region ?_
    refine Ok.batch 4 [(0, .slice axl_0 xl.length cxl_0), (2, .pointer (some ⟨bs2, 0, none⟩)), (3, .pointer (some ⟨bs3, 0, none⟩)), (14, .bool ((xl.length : Int) != 3))] (by kernel_rfl) ?_
    refine Ok.boolAt 14 (((xl.length : Int) != 3)) rfl (fun hc27 => ?_) (fun hc27 => ?_)
    · replace hF := hF.1 hc27
      refine Ok.batch 6 [(0, .slice axl_0 xl.length cxl_0), (2, .pointer (some ⟨bs2, 0, none⟩)), (3, .pointer (some ⟨bs3, 0, none⟩)), (20, .bool true)] (by kernel_rfl) ?_
      refine Ok.nil ?_
      refine Ok.thenN ?_
      refine Ok.reval 20 rfl (show (.bool true : Value) = .bool (mfeV0 xl) from congrArg (Value.bool) (mor_t hc27)) ?_
      exact fun a W hA hW => ⟨g, (Gext.refl w0 g), hA.sub (by kernel_rfl), hW, hF⟩
    · replace hF := hF.2 hc27
      refine Ok.batch 1 [(0, .slice axl_0 xl.length cxl_0), (2, .pointer (some ⟨bs2, 0, none⟩)), (3, .pointer (some ⟨bs3, 0, none⟩)), (14, .bool false), (15, .slice axl_0 xl.length cxl_0)] (by kernel_rfl) ?_
      obtain ⟨h029, h129, hF⟩ := hF
      have he29 := get_of (l := xl) (default : Int × List UInt8 × List UInt8 × Int) h129
      generalize hg29 : (xl.getD (Int.toNat 1) default) = e29 at he29 hF ⊢
      refine Ok.opYes (j := 3) (d := 14) (want := false) (b := false) rfl (by kernel_rfl) (by kernel_rfl) rfl (OpOk.indexRo (e := .pair (.int .i64) (.pair (.str) (.pair (.str) (.int .i64)))) (i := 1) (el := e29) rfl rfl Tryz.underlying46 (by kernel_rfl) hRxl_0 h029 he29 rfl fun q28 o28 cs28 _ hat28 hr28 => ?_)
      obtain ⟨_, _, rfl, rfl, ⟨_, _, rfl, rfl, ⟨_, _, rfl, rfl, rfl⟩⟩⟩ := hr28
      replace hat28 : At g q28 o28 [.int .i64 e29.1, .string ⟨⟨e29.2.1⟩⟩, .string ⟨⟨e29.2.2.1⟩⟩, .int .i64 e29.2.2.2] := hat28
      refine Ok.batch 1 [(0, .slice axl_0 xl.length cxl_0), (2, .pointer (some ⟨bs2, 0, none⟩)), (3, .pointer (some ⟨bs3, 0, none⟩)), (14, .bool false), (17, .pointer (some ⟨q28, o28 + 1, none⟩))] (by kernel_rfl) ?_
      refine Ok.opYes (j := 3) (d := 14) (want := false) (b := false) rfl (by kernel_rfl) (by kernel_rfl) rfl (OpOk.step (v := .string ⟨⟨e29.2.1⟩⟩) (Yields.loadRo 1 hat28 (by kernel_rfl) Tryz.underlying9 rfl (by kernel_rfl)) rfl rfl ?_)
      refine Ok.opYes (j := 3) (d := 14) (want := false) (b := false) rfl (by kernel_rfl) (by kernel_rfl) rfl (OpOk.step (v := .bool (!(e29.2.1 == ([58] : List UInt8)))) (Yields.strCmp (f := .neq) (a := e29.2.1) (b := ([58] : List UInt8)) (by kernel_rfl) (by kernel_rfl) rfl) rfl rfl ?_)
      refine Ok.batch 1 [(0, .slice axl_0 xl.length cxl_0), (2, .pointer (some ⟨bs2, 0, none⟩)), (3, .pointer (some ⟨bs3, 0, none⟩)), (20, .bool (!(e29.2.1 == ([58] : List UInt8))))] (by kernel_rfl) ?_
      refine Ok.nil ?_
      refine Ok.thenN ?_
      subst hg29
      refine Ok.reval 20 rfl (show (.bool (!((xl.getD (Int.toNat 1) default).2.1 == ([58] : List UInt8))) : Value) = .bool (mfeV0 xl) from congrArg (Value.bool) (mor_f hc27)) ?_
      exact fun a W hA hW => ⟨g, (Gext.refl w0 g), hA.sub (by kernel_rfl), hW, hF⟩
  ·
    clear hF
    rintro a W ⟨gj6, hxj6, hA, hW, hF⟩
    refine (?_ : Ok _ _ _ _ _ _) a W hA hW
    clear hA hW
    replace hRxl_0 := hRxl_0.mono hxj6.1
    replace hG0 := hG0.mono hxj6.1
    replace hG2 := hG2.mono hxj6.1
    replace hG3 := hG3.mono hxj6.1
    refine Ok.cond (b := (mfeV0 xl)) rfl (fun hc3 => ?_) (fun hc3 => ?_)
    · replace hF := hF.1 hc3
      refine Ok.seq ?_
      refine Ok.region ?_
      refine Ok.op rfl (OpOk.step (v := .agg #[.int .i64 12, .int .i64 0]) (Yields.loadAgg 0 2 #[.int .i64 12, .int .i64 0] rfl rfl Tryz.underlying31 rfl (by kernel_rfl) (by kernel_rfl) (by kernel_rfl)) rfl rfl ?_)
      refine Ok.op rfl (OpOk.store (k := 2) (v := .agg #[.int .i64 12, .int .i64 0]) (H' := [.blk bs3 (.cells #[.int .i64 12, .int .i64 0] 31), .blk bs2 (.cells #[.int .i64 12, .int .i64 0] 31)]) 1 rfl rfl rfl (by kernel_rfl) (by kernel_rfl) (by kernel_rfl) (by kernel_rfl) (by kernel_rfl) ?_)
      refine Ok.nil ?_
      refine Ok.thenN ?_
      refine Ok.ret ?_
      refine Ok.thenR ?_
      exact Ok.resP (vs := [.agg #[.int .i64 12, .int .i64 0]]) [] [] (by decide) rfl (.inl rfl) rfl (.cons (.cellAgg 1 2 #[.int .i64 12, .int .i64 0] rfl rfl Tryz.underlying31 rfl (by kernel_rfl) (by kernel_rfl) (by kernel_rfl)) .nil) hxj6 ⟨(12, 0), rfl, rfl, hF⟩
    · replace hF := hF.2 hc3
      refine Ok.skip ?_
      refine Ok.thenN ?_
      refine Ok.seq ?_
      refine Ok.region ?_
      refine Ok.batch 1 [(0, .slice axl_0 xl.length cxl_0), (2, .pointer (some ⟨bs2, 0, none⟩)), (3, .pointer (some ⟨bs3, 0, none⟩)), (22, .slice axl_0 xl.length cxl_0)] (by kernel_rfl) ?_
      obtain ⟨h05, h15, hF⟩ := hF
      have he5 := get_of (l := xl) (default : Int × List UInt8 × List UInt8 × Int) h15
      generalize hg5 : (xl.getD (Int.toNat 0) default) = e5 at he5 hF ⊢
      refine Ok.op rfl (OpOk.indexRo (e := .pair (.int .i64) (.pair (.str) (.pair (.str) (.int .i64)))) (i := 0) (el := e5) rfl rfl Tryz.underlying46 (by kernel_rfl) hRxl_0 h05 he5 rfl fun q4 o4 cs4 _ hat4 hr4 => ?_)
      obtain ⟨_, _, rfl, rfl, ⟨_, _, rfl, rfl, ⟨_, _, rfl, rfl, rfl⟩⟩⟩ := hr4
      replace hat4 : At gj6 q4 o4 [.int .i64 e5.1, .string ⟨⟨e5.2.1⟩⟩, .string ⟨⟨e5.2.2.1⟩⟩, .int .i64 e5.2.2.2] := hat4
      refine Ok.op rfl (OpOk.step (v := .agg #[.int .i64 e5.1, .string ⟨⟨e5.2.1⟩⟩, .string ⟨⟨e5.2.2.1⟩⟩, .int .i64 e5.2.2.2]) (Yields.loadAggRo 0 4 #[.int .i64 e5.1, .string ⟨⟨e5.2.1⟩⟩, .string ⟨⟨e5.2.2.1⟩⟩, .int .i64 e5.2.2.2] hat4 (by kernel_rfl) Tryz.underlying55 rfl (by kernel_rfl) (by kernel_rfl) (by kernel_rfl)) rfl rfl ?_)
      obtain ⟨hp6, hF⟩ := hF
      refine Ok.op rfl (OpOk.callG (v := .string ⟨⟨(mwdM e5)⟩⟩) (enters (by kernel_rfl) (fun _ => by kernel_rfl)) (fun W hW => mwd_c e5 hp6) rfl ?_)
      refine Ok.batch 1 [(0, .slice axl_0 xl.length cxl_0), (2, .pointer (some ⟨bs2, 0, none⟩)), (3, .pointer (some ⟨bs3, 0, none⟩)), (4, .string ⟨⟨(mwdM e5)⟩⟩)] (by kernel_rfl) ?_
      refine Ok.nil ?_
      refine Ok.thenN ?_
      refine Ok.seq ?_
      refine Ok.seq ?_
      refine Ok.region ?_
      refine Ok.batch 1 [(0, .slice axl_0 xl.length cxl_0), (2, .pointer (some ⟨bs2, 0, none⟩)), (3, .pointer (some ⟨bs3, 0, none⟩)), (4, .string ⟨⟨(mwdM e5)⟩⟩), (26, .string ⟨⟨(mwdM e5)⟩⟩)] (by kernel_rfl) ?_
      refine Ok.op rfl (OpOk.callG (v := .int .i64 (kindS (mwdM e5))) (enters (by kernel_rfl) (fun _ => by kernel_rfl)) (fun W hW => mkd_c (mwdM e5) (hG0.mono hW.sees)) rfl ?_)
      refine Ok.batch 1 [(0, .slice axl_0 xl.length cxl_0), (2, .pointer (some ⟨bs2, 0, none⟩)), (3, .pointer (some ⟨bs3, 0, none⟩)), (4, .string ⟨⟨(mwdM e5)⟩⟩), (5, .int .i64 (kindS (mwdM e5)))] (by kernel_rfl) ?_
      refine Ok.nil ?_
      refine Ok.thenN ?_
      refine Ok.seq ?_
      refine Ok.region ?_
      refine Ok.batch 3 [(0, .slice axl_0 xl.length cxl_0), (2, .pointer (some ⟨bs2, 0, none⟩)), (3, .pointer (some ⟨bs3, 0, none⟩)), (4, .string ⟨⟨(mwdM e5)⟩⟩), (5, .int .i64 (kindS (mwdM e5))), (30, .bool (decide ((kindS (mwdM e5)) ≥ 4)))] (by kernel_rfl) ?_
      refine Ok.midway 3 [(0, .slice axl_0 xl.length cxl_0), (2, .pointer (some ⟨bs2, 0, none⟩)), (3, .pointer (some ⟨bs3, 0, none⟩)), (4, .string ⟨⟨(mwdM e5)⟩⟩), (5, .int .i64 (kindS (mwdM e5))), (33, .bool ((decide ((kindS (mwdM e5)) ≥ 4)) && (decide ((kindS (mwdM e5)) ≤ 7))))] (fun hR7 => ?_) ?_
      · refine Ok.boolAt 30 (decide ((kindS (mwdM e5)) ≥ 4)) rfl (fun hc8 => ?_) (fun hc8 => ?_)
        · skip
          refine Ok.batch 3 [(0, .slice axl_0 xl.length cxl_0), (2, .pointer (some ⟨bs2, 0, none⟩)), (3, .pointer (some ⟨bs3, 0, none⟩)), (4, .string ⟨⟨(mwdM e5)⟩⟩), (5, .int .i64 (kindS (mwdM e5))), (33, .bool (decide ((kindS (mwdM e5)) ≤ 7)))] (by kernel_rfl) ?_
          refine Ok.reval 33 rfl (show (.bool (decide ((kindS (mwdM e5)) ≤ 7)) : Value) = .bool ((decide ((kindS (mwdM e5)) ≥ 4)) && (decide ((kindS (mwdM e5)) ≤ 7))) from congrArg Value.bool (mand_t hc8)) ?_
          refine Ok.batch 0 [(0, .slice axl_0 xl.length cxl_0), (2, .pointer (some ⟨bs2, 0, none⟩)), (3, .pointer (some ⟨bs3, 0, none⟩)), (4, .string ⟨⟨(mwdM e5)⟩⟩), (5, .int .i64 (kindS (mwdM e5))), (33, .bool ((decide ((kindS (mwdM e5)) ≥ 4)) && (decide ((kindS (mwdM e5)) ≤ 7))))] (by kernel_rfl) ?_
          exact hR7
        · skip
          refine Ok.batch 3 [(0, .slice axl_0 xl.length cxl_0), (2, .pointer (some ⟨bs2, 0, none⟩)), (3, .pointer (some ⟨bs3, 0, none⟩)), (4, .string ⟨⟨(mwdM e5)⟩⟩), (5, .int .i64 (kindS (mwdM e5))), (33, .bool false)] (by kernel_rfl) ?_
          refine Ok.reval 33 rfl (show (.bool false : Value) = .bool ((decide ((kindS (mwdM e5)) ≥ 4)) && (decide ((kindS (mwdM e5)) ≤ 7))) from congrArg Value.bool (mand_f hc8)) ?_
          refine Ok.batch 0 [(0, .slice axl_0 xl.length cxl_0), (2, .pointer (some ⟨bs2, 0, none⟩)), (3, .pointer (some ⟨bs3, 0, none⟩)), (4, .string ⟨⟨(mwdM e5)⟩⟩), (5, .int .i64 (kindS (mwdM e5))), (33, .bool ((decide ((kindS (mwdM e5)) ≥ 4)) && (decide ((kindS (mwdM e5)) ≤ 7))))] (by kernel_rfl) ?_
          exact hR7
      refine Ok.nil ?_
      refine Ok.thenN ?_
      refine Ok.cond (b := ((decide ((kindS (mwdM e5)) ≥ 4)) && (decide ((kindS (mwdM e5)) ≤ 7)))) rfl (fun hc9 => ?_) (fun hc9 => ?_)
      · replace hF := hF.1 hc9
        refine Ok.seq ?_
        refine Ok.region ?_
        refine Ok.batch 1 [(2, .pointer (some ⟨bs2, 0, none⟩)), (3, .pointer (some ⟨bs3, 0, none⟩)), (5, .int .i64 (kindS (mwdM e5))), (34, .slice axl_0 xl.length cxl_0)] (by kernel_rfl) ?_
        obtain ⟨h011, h111, hF⟩ := hF
        have he11 := get_of (l := xl) (default : Int × List UInt8 × List UInt8 × Int) h111
        generalize hg11 : (xl.getD (Int.toNat 2) default) = e11 at he11 hF ⊢
        refine Ok.op rfl (OpOk.indexRo (e := .pair (.int .i64) (.pair (.str) (.pair (.str) (.int .i64)))) (i := 2) (el := e11) rfl rfl Tryz.underlying46 (by kernel_rfl) hRxl_0 h011 he11 rfl fun q10 o10 cs10 _ hat10 hr10 => ?_)
        obtain ⟨_, _, rfl, rfl, ⟨_, _, rfl, rfl, ⟨_, _, rfl, rfl, rfl⟩⟩⟩ := hr10
        replace hat10 : At gj6 q10 o10 [.int .i64 e11.1, .string ⟨⟨e11.2.1⟩⟩, .string ⟨⟨e11.2.2.1⟩⟩, .int .i64 e11.2.2.2] := hat10
        refine Ok.op rfl (OpOk.step (v := .agg #[.int .i64 e11.1, .string ⟨⟨e11.2.1⟩⟩, .string ⟨⟨e11.2.2.1⟩⟩, .int .i64 e11.2.2.2]) (Yields.loadAggRo 0 4 #[.int .i64 e11.1, .string ⟨⟨e11.2.1⟩⟩, .string ⟨⟨e11.2.2.1⟩⟩, .int .i64 e11.2.2.2] hat10 (by kernel_rfl) Tryz.underlying55 rfl (by kernel_rfl) (by kernel_rfl) (by kernel_rfl)) rfl rfl ?_)
        refine Ok.op rfl (OpOk.alloc (z := .agg #[.int .i64 0, .string ⟨⟨([] : List UInt8)⟩⟩, .string ⟨⟨([] : List UInt8)⟩⟩, .int .i64 0]) (cs := #[.int .i64 0, .string ⟨⟨([] : List UInt8)⟩⟩, .string ⟨⟨([] : List UInt8)⟩⟩, .int .i64 0]) (by kernel_rfl) (by kernel_rfl) rfl fun bs6 => ?_)
        refine Ok.op rfl (OpOk.store (k := 4) (v := .agg #[.int .i64 e11.1, .string ⟨⟨e11.2.1⟩⟩, .string ⟨⟨e11.2.2.1⟩⟩, .int .i64 e11.2.2.2]) (H' := [.blk bs6 (.cells #[.int .i64 e11.1, .string ⟨⟨e11.2.1⟩⟩, .string ⟨⟨e11.2.2.1⟩⟩, .int .i64 e11.2.2.2] 55), .blk bs3 (.cells #[.int .i64 12, .int .i64 0] 31), .blk bs2 (.cells #[.int .i64 0, .int .i64 0] 31)]) 0 rfl rfl rfl (by kernel_rfl) (by kernel_rfl) (by kernel_rfl) (by kernel_rfl) (by kernel_rfl) ?_)
        refine Ok.nil ?_
        refine Ok.thenN ?_
        refine Ok.seq ?_
        refine Ok.cut (fun a W => ∃ gj24 : Ghost, Gext w0 gj6 gj24 ∧ StA 91 [(2, .pointer (some ⟨bs2, 0, none⟩)), (3, .pointer (some ⟨bs3, 0, none⟩)), (5, .int .i64 (kindS (mwdM e5))), (6, .pointer (some ⟨bs6, 0, none⟩)), (55, .bool (mfeV1 e11))] a ∧ StW w0 [.blk bs6 (.cells #[.int .i64 e11.1, .string ⟨⟨e11.2.1⟩⟩, .string ⟨⟨e11.2.2.1⟩⟩, .int .i64 e11.2.2.2] 55), .blk bs3 (.cells #[.int .i64 12, .int .i64 0] 31), .blk bs2 (.cells #[.int .i64 0, .int .i64 0] 31)] gj24 W ∧ mfej24 K e5 e11) ?_ ?_
        ·
          refine Ok.region ?_
          refine Ok.batch 1 [(2, .pointer (some ⟨bs2, 0, none⟩)), (3, .pointer (some ⟨bs3, 0, none⟩)), (5, .int .i64 (kindS (mwdM e5))), (6, .pointer (some ⟨bs6, 0, none⟩)), (37, .pointer (some ⟨bs6, 0, none⟩))] (by kernel_rfl) ?_
          refine Ok.op rfl (OpOk.step (v := .int .i64 e11.1) (Yields.load 0 rfl rfl Tryz.underlying3 rfl (by kernel_rfl)) rfl rfl ?_)
          refine Ok.batch 2 [(2, .pointer (some ⟨bs2, 0, none⟩)), (3, .pointer (some ⟨bs3, 0, none⟩)), (5, .int .i64 (kindS (mwdM e5))), (6, .pointer (some ⟨bs6, 0, none⟩)), (40, .bool (e11.1 != 7))] (by kernel_rfl) ?_
          refine Ok.boolAt 40 ((e11.1 != 7)) rfl (fun hc19 => ?_) (fun hc19 => ?_)
          · replace hF := hF.1 hc19
            refine Ok.batch 15 [(2, .pointer (some ⟨bs2, 0, none⟩)), (3, .pointer (some ⟨bs3, 0, none⟩)), (5, .int .i64 (kindS (mwdM e5))), (6, .pointer (some ⟨bs6, 0, none⟩)), (55, .bool true)] (by kernel_rfl) ?_
            refine Ok.nil ?_
            refine Ok.thenN ?_
            refine Ok.reval 55 rfl (show (.bool true : Value) = .bool (mfeV1 e11) from congrArg (Value.bool) (mor_t hc19)) ?_
            exact fun a W hA hW => ⟨gj6, (Gext.refl w0 gj6), hA.sub (by kernel_rfl), hW, hF⟩
          · replace hF := hF.2 hc19
            refine Ok.batch 1 [(2, .pointer (some ⟨bs2, 0, none⟩)), (3, .pointer (some ⟨bs3, 0, none⟩)), (5, .int .i64 (kindS (mwdM e5))), (6, .pointer (some ⟨bs6, 0, none⟩)), (40, .bool false), (41, .pointer (some ⟨bs6, 2, none⟩))] (by kernel_rfl) ?_
            refine Ok.opYes (j := 3) (d := 40) (want := false) (b := false) rfl (by kernel_rfl) (by kernel_rfl) rfl (OpOk.step (v := .string ⟨⟨e11.2.2.1⟩⟩) (Yields.load 0 rfl rfl Tryz.underlying9 rfl (by kernel_rfl)) rfl rfl ?_)
            refine Ok.opYes (j := 3) (d := 40) (want := false) (b := false) rfl (by kernel_rfl) (by kernel_rfl) rfl (OpOk.step (v := .bool (!(e11.2.2.1 == ([112, 120] : List UInt8)))) (Yields.strCmp (f := .neq) (a := e11.2.2.1) (b := ([112, 120] : List UInt8)) (by kernel_rfl) (by kernel_rfl) rfl) rfl rfl ?_)
            refine Ok.batch 2 [(2, .pointer (some ⟨bs2, 0, none⟩)), (3, .pointer (some ⟨bs3, 0, none⟩)), (5, .int .i64 (kindS (mwdM e5))), (6, .pointer (some ⟨bs6, 0, none⟩)), (45, .bool (!(e11.2.2.1 == ([112, 120] : List UInt8))))] (by kernel_rfl) ?_
            refine Ok.boolAt 45 (!(e11.2.2.1 == ([112, 120] : List UInt8))) rfl (fun hc20 => ?_) (fun hc20 => ?_)
            · replace hF := hF.1 hc20
              refine Ok.batch 10 [(2, .pointer (some ⟨bs2, 0, none⟩)), (3, .pointer (some ⟨bs3, 0, none⟩)), (5, .int .i64 (kindS (mwdM e5))), (6, .pointer (some ⟨bs6, 0, none⟩)), (55, .bool true)] (by kernel_rfl) ?_
              refine Ok.nil ?_
              refine Ok.thenN ?_
              refine Ok.reval 55 rfl (show (.bool true : Value) = .bool (mfeV1 e11) from congrArg (Value.bool) ((Eq.trans (mor_t hc20) (mor_f hc19)))) ?_
              exact fun a W hA hW => ⟨gj6, (Gext.refl w0 gj6), hA.sub (by kernel_rfl), hW, hF⟩
            · replace hF := hF.2 hc20
              refine Ok.batch 1 [(2, .pointer (some ⟨bs2, 0, none⟩)), (3, .pointer (some ⟨bs3, 0, none⟩)), (5, .int .i64 (kindS (mwdM e5))), (6, .pointer (some ⟨bs6, 0, none⟩)), (45, .bool false), (46, .pointer (some ⟨bs6, 1, none⟩))] (by kernel_rfl) ?_
              refine Ok.opYes (j := 8) (d := 45) (want := false) (b := false) rfl (by kernel_rfl) (by kernel_rfl) rfl (OpOk.step (v := .string ⟨⟨e11.2.1⟩⟩) (Yields.load 0 rfl rfl Tryz.underlying9 rfl (by kernel_rfl)) rfl rfl ?_)
              refine Ok.batch 1 [(2, .pointer (some ⟨bs2, 0, none⟩)), (3, .pointer (some ⟨bs3, 0, none⟩)), (5, .int .i64 (kindS (mwdM e5))), (6, .pointer (some ⟨bs6, 0, none⟩)), (45, .bool false), (47, .string ⟨⟨e11.2.1⟩⟩), (48, .pointer (some ⟨bs6, 1, none⟩))] (by kernel_rfl) ?_
              refine Ok.opYes (j := 8) (d := 45) (want := false) (b := false) rfl (by kernel_rfl) (by kernel_rfl) rfl (OpOk.step (v := .string ⟨⟨e11.2.1⟩⟩) (Yields.load 0 rfl rfl Tryz.underlying9 rfl (by kernel_rfl)) rfl rfl ?_)
              refine Ok.batch 2 [(2, .pointer (some ⟨bs2, 0, none⟩)), (3, .pointer (some ⟨bs3, 0, none⟩)), (5, .int .i64 (kindS (mwdM e5))), (6, .pointer (some ⟨bs6, 0, none⟩)), (45, .bool false), (47, .string ⟨⟨e11.2.1⟩⟩), (51, .int .i64 (IntKind.wrap .i64 ((e11.2.1.length : Int) - 2)))] (by kernel_rfl) ?_
              obtain ⟨h021, h121, h221, hF⟩ := hF
              refine Ok.opYes (j := 8) (d := 45) (want := false) (b := false) rfl (by kernel_rfl) (by kernel_rfl) rfl (OpOk.step (v := .string ⟨⟨e11.2.1.take (Int.toNat (IntKind.wrap .i64 ((e11.2.1.length : Int) - 2)))⟩⟩) (Yields.sliceStr (s := e11.2.1) (l := 0) (h := (IntKind.wrap .i64 ((e11.2.1.length : Int) - 2))) (by kernel_rfl) Tryz.underlying9 (.inr ⟨rfl, rfl⟩) (.inl ⟨_, _, rfl, rfl⟩) h021 h121 h221 (e11.2.1.take (Int.toNat (IntKind.wrap .i64 ((e11.2.1.length : Int) - 2)))) (by simp)) rfl rfl ?_)
              obtain ⟨hp22, hF⟩ := hF
              refine Ok.opYes (j := 8) (d := 45) (want := false) (b := false) rfl (by kernel_rfl) (by kernel_rfl) rfl (OpOk.callG (v := .string ⟨⟨(trimS (e11.2.1.take (Int.toNat (IntKind.wrap .i64 ((e11.2.1.length : Int) - 2)))) ([48, 49, 50, 51, 52, 53, 54, 55, 56, 57] : List UInt8))⟩⟩) (enters (by kernel_rfl) (fun _ => by kernel_rfl)) (fun W hW => trim_c (e11.2.1.take (Int.toNat (IntKind.wrap .i64 ((e11.2.1.length : Int) - 2)))) ([48, 49, 50, 51, 52, 53, 54, 55, 56, 57] : List UInt8) hp22) rfl ?_)
              refine Ok.opYes (j := 8) (d := 45) (want := false) (b := false) rfl (by kernel_rfl) (by kernel_rfl) rfl (OpOk.step (v := .bool (!((trimS (e11.2.1.take (Int.toNat (IntKind.wrap .i64 ((e11.2.1.length : Int) - 2)))) ([48, 49, 50, 51, 52, 53, 54, 55, 56, 57] : List UInt8)) == ([] : List UInt8)))) (Yields.strCmp (f := .neq) (a := (trimS (e11.2.1.take (Int.toNat (IntKind.wrap .i64 ((e11.2.1.length : Int) - 2)))) ([48, 49, 50, 51, 52, 53, 54, 55, 56, 57] : List UInt8))) (b := ([] : List UInt8)) (by kernel_rfl) (by kernel_rfl) rfl) rfl rfl ?_)
              refine Ok.batch 1 [(2, .pointer (some ⟨bs2, 0, none⟩)), (3, .pointer (some ⟨bs3, 0, none⟩)), (5, .int .i64 (kindS (mwdM e5))), (6, .pointer (some ⟨bs6, 0, none⟩)), (55, .bool (!((trimS (e11.2.1.take (Int.toNat (IntKind.wrap .i64 ((e11.2.1.length : Int) - 2)))) ([48, 49, 50, 51, 52, 53, 54, 55, 56, 57] : List UInt8)) == ([] : List UInt8))))] (by kernel_rfl) ?_
              refine Ok.nil ?_
              refine Ok.thenN ?_
              refine Ok.reval 55 rfl (show (.bool (!((trimS (e11.2.1.take (Int.toNat (IntKind.wrap .i64 ((e11.2.1.length : Int) - 2)))) ([48, 49, 50, 51, 52, 53, 54, 55, 56, 57] : List UInt8)) == ([] : List UInt8))) : Value) = .bool (mfeV1 e11) from congrArg (Value.bool) ((Eq.trans (mor_f hc20) (mor_f hc19)))) ?_
              exact fun a W hA hW => ⟨gj6, (Gext.refl w0 gj6), hA.sub (by kernel_rfl), hW, hF⟩
        ·
          clear hF
          rintro a W ⟨gj24, hxj24, hA, hW, hF⟩
          refine (?_ : Ok _ _ _ _ _ _) a W hA hW
          clear hA hW
          replace hG0 := hG0.mono hxj24.1
          replace hG2 := hG2.mono hxj24.1
          replace hG3 := hG3.mono hxj24.1
          refine Ok.cond (b := (mfeV1 e11)) rfl (fun hc13 => ?_) (fun hc13 => ?_)
          · replace hF := hF.1 hc13
            refine Ok.seq ?_
            refine Ok.region ?_
            refine Ok.op rfl (OpOk.step (v := .agg #[.int .i64 12, .int .i64 0]) (Yields.loadAgg 1 2 #[.int .i64 12, .int .i64 0] rfl rfl Tryz.underlying31 rfl (by kernel_rfl) (by kernel_rfl) (by kernel_rfl)) rfl rfl ?_)
            refine Ok.op rfl (OpOk.store (k := 2) (v := .agg #[.int .i64 12, .int .i64 0]) (H' := [.blk bs6 (.cells #[.int .i64 e11.1, .string ⟨⟨e11.2.1⟩⟩, .string ⟨⟨e11.2.2.1⟩⟩, .int .i64 e11.2.2.2] 55), .blk bs3 (.cells #[.int .i64 12, .int .i64 0] 31), .blk bs2 (.cells #[.int .i64 12, .int .i64 0] 31)]) 2 rfl rfl rfl (by kernel_rfl) (by kernel_rfl) (by kernel_rfl) (by kernel_rfl) (by kernel_rfl) ?_)
            refine Ok.nil ?_
            refine Ok.thenN ?_
            refine Ok.ret ?_
            refine Ok.thenR ?_
            refine Ok.thenR ?_
            exact Ok.resP (vs := [.agg #[.int .i64 12, .int .i64 0]]) [] [] (by decide) rfl (.inl rfl) rfl (.cons (.cellAgg 2 2 #[.int .i64 12, .int .i64 0] rfl rfl Tryz.underlying31 rfl (by kernel_rfl) (by kernel_rfl) (by kernel_rfl)) .nil) (hxj6.trans hxj24) ⟨(12, 0), rfl, rfl, hF⟩
          · replace hF := hF.2 hc13
            refine Ok.skip ?_
            refine Ok.thenN ?_
            refine Ok.seq ?_
            refine Ok.region ?_
            refine Ok.batch 1 [(2, .pointer (some ⟨bs2, 0, none⟩)), (3, .pointer (some ⟨bs3, 0, none⟩)), (5, .int .i64 (kindS (mwdM e5))), (6, .pointer (some ⟨bs6, 0, none⟩)), (58, .pointer (some ⟨bs6, 1, none⟩))] (by kernel_rfl) ?_
            refine Ok.op rfl (OpOk.step (v := .string ⟨⟨e11.2.1⟩⟩) (Yields.load 0 rfl rfl Tryz.underlying9 rfl (by kernel_rfl)) rfl rfl ?_)
            refine Ok.batch 1 [(2, .pointer (some ⟨bs2, 0, none⟩)), (3, .pointer (some ⟨bs3, 0, none⟩)), (5, .int .i64 (kindS (mwdM e5))), (59, .string ⟨⟨e11.2.1⟩⟩), (60, .pointer (some ⟨bs6, 1, none⟩))] (by kernel_rfl) ?_
            refine Ok.op rfl (OpOk.step (v := .string ⟨⟨e11.2.1⟩⟩) (Yields.load 0 rfl rfl Tryz.underlying9 rfl (by kernel_rfl)) rfl rfl ?_)
            refine Ok.batch 2 [(2, .pointer (some ⟨bs2, 0, none⟩)), (3, .pointer (some ⟨bs3, 0, none⟩)), (5, .int .i64 (kindS (mwdM e5))), (59, .string ⟨⟨e11.2.1⟩⟩), (63, .int .i64 (IntKind.wrap .i64 ((e11.2.1.length : Int) - 2)))] (by kernel_rfl) ?_
            obtain ⟨h014, h114, h214, hF⟩ := hF
            refine Ok.op rfl (OpOk.step (v := .string ⟨⟨e11.2.1.take (Int.toNat (IntKind.wrap .i64 ((e11.2.1.length : Int) - 2)))⟩⟩) (Yields.sliceStr (s := e11.2.1) (l := 0) (h := (IntKind.wrap .i64 ((e11.2.1.length : Int) - 2))) (by kernel_rfl) Tryz.underlying9 (.inr ⟨rfl, rfl⟩) (.inl ⟨_, _, rfl, rfl⟩) h014 h114 h214 (e11.2.1.take (Int.toNat (IntKind.wrap .i64 ((e11.2.1.length : Int) - 2)))) (by simp)) rfl rfl ?_)
            obtain ⟨hp15, hF⟩ := hF
            refine Ok.op rfl (OpOk.callH [] [.blk bs6 (.cells #[.int .i64 e11.1, .string ⟨⟨e11.2.1⟩⟩, .string ⟨⟨e11.2.2.1⟩⟩, .int .i64 e11.2.2.2] 55), .blk bs3 (.cells #[.int .i64 12, .int .i64 0] 31), .blk bs2 (.cells #[.int .i64 0, .int .i64 0] 31)] (enters (by kernel_rfl) (fun _ => by kernel_rfl)) rfl (atoi_c (e11.2.1.take (Int.toNat (IntKind.wrap .i64 ((e11.2.1.length : Int) - 2)))) hG2 hG3 hp15) rfl fun g16 _ _ hx16 hV16 => ?_)
            obtain ⟨i16_0, rfl, hI16_0, rfl⟩ := hV16
            replace hG0 := hG0.mono hx16.1
            replace hG2 := hG2.mono hx16.1
            replace hG3 := hG3.mono hx16.1
            refine Ok.split ((atoiS (e11.2.1.take (Int.toNat (IntKind.wrap .i64 ((e11.2.1.length : Int) - 2))))).2) (fun hc17 => ?_) (fun hc17 => ?_)
            · replace hF := hF.1 hc17
              replace hI16_0 : i16_0 = .nilIface := by rw [hc17] at hI16_0; exact hI16_0
              subst hI16_0
              refine Ok.batch 5 [(2, .pointer (some ⟨bs2, 0, none⟩)), (3, .pointer (some ⟨bs3, 0, none⟩)), (5, .int .i64 (kindS (mwdM e5))), (7, .int .i64 ((atoiS (e11.2.1.take (Int.toNat (IntKind.wrap .i64 ((e11.2.1.length : Int) - 2))))).1)), (8, .nilIface)] (by kernel_rfl) ?_
              refine Ok.nil ?_
              refine Ok.thenN ?_
              refine Ok.seq ?_
              refine Ok.seq ?_
              refine Ok.region ?_
              refine Ok.batch 6 [(2, .pointer (some ⟨bs2, 0, none⟩)), (3, .pointer (some ⟨bs3, 0, none⟩)), (5, .int .i64 (kindS (mwdM e5))), (7, .int .i64 ((atoiS (e11.2.1.take (Int.toNat (IntKind.wrap .i64 ((e11.2.1.length : Int) - 2))))).1)), (73, .bool (decide (((atoiS (e11.2.1.take (Int.toNat (IntKind.wrap .i64 ((e11.2.1.length : Int) - 2))))).1) > 1000000)))] (by kernel_rfl) ?_
              refine Ok.nil ?_
              refine Ok.thenN ?_
              refine Ok.cond (b := decide (((atoiS (e11.2.1.take (Int.toNat (IntKind.wrap .i64 ((e11.2.1.length : Int) - 2))))).1) > 1000000)) rfl (fun hc18 => ?_) (fun hc18 => ?_)
              · replace hF := hF.1 hc18
                refine Ok.seq ?_
                refine Ok.region ?_
                refine Ok.op rfl (OpOk.step (v := .agg #[.int .i64 12, .int .i64 0]) (Yields.loadAgg 1 2 #[.int .i64 12, .int .i64 0] rfl rfl Tryz.underlying31 rfl (by kernel_rfl) (by kernel_rfl) (by kernel_rfl)) rfl rfl ?_)
                refine Ok.op rfl (OpOk.store (k := 2) (v := .agg #[.int .i64 12, .int .i64 0]) (H' := [.blk bs6 (.cells #[.int .i64 e11.1, .string ⟨⟨e11.2.1⟩⟩, .string ⟨⟨e11.2.2.1⟩⟩, .int .i64 e11.2.2.2] 55), .blk bs3 (.cells #[.int .i64 12, .int .i64 0] 31), .blk bs2 (.cells #[.int .i64 12, .int .i64 0] 31)]) 2 rfl rfl rfl (by kernel_rfl) (by kernel_rfl) (by kernel_rfl) (by kernel_rfl) (by kernel_rfl) ?_)
                refine Ok.nil ?_
                refine Ok.thenN ?_
                refine Ok.ret ?_
                refine Ok.thenR ?_
                refine Ok.thenR ?_
                exact Ok.resP (vs := [.agg #[.int .i64 12, .int .i64 0]]) [] [] (by decide) rfl (.inl rfl) rfl (.cons (.cellAgg 2 2 #[.int .i64 12, .int .i64 0] rfl rfl Tryz.underlying31 rfl (by kernel_rfl) (by kernel_rfl) (by kernel_rfl)) .nil) ((hxj6.trans hxj24).trans hx16) ⟨(12, 0), rfl, rfl, hF⟩
              · replace hF := hF.2 hc18
                refine Ok.skip ?_
                refine Ok.thenN ?_
                refine Ok.seq ?_
                refine Ok.region ?_
                refine Ok.batch 3 [(2, .pointer (some ⟨bs2, 0, none⟩)), (77, .agg #[.int .i64 (kindS (mwdM e5)), .int .i64 ((atoiS (e11.2.1.take (Int.toNat (IntKind.wrap .i64 ((e11.2.1.length : Int) - 2))))).1)])] (by kernel_rfl) ?_
                refine Ok.op rfl (OpOk.store (k := 2) (v := .agg #[.int .i64 (kindS (mwdM e5)), .int .i64 ((atoiS (e11.2.1.take (Int.toNat (IntKind.wrap .i64 ((e11.2.1.length : Int) - 2))))).1)]) (H' := [.blk bs6 (.cells #[.int .i64 e11.1, .string ⟨⟨e11.2.1⟩⟩, .string ⟨⟨e11.2.2.1⟩⟩, .int .i64 e11.2.2.2] 55), .blk bs3 (.cells #[.int .i64 12, .int .i64 0] 31), .blk bs2 (.cells #[.int .i64 (kindS (mwdM e5)), .int .i64 ((atoiS (e11.2.1.take (Int.toNat (IntKind.wrap .i64 ((e11.2.1.length : Int) - 2))))).1)] 31)]) 2 rfl rfl rfl (by kernel_rfl) (by kernel_rfl) (by kernel_rfl) (by kernel_rfl) (by kernel_rfl) ?_)
                refine Ok.nil ?_
                refine Ok.thenN ?_
                refine Ok.ret ?_
                refine Ok.thenR ?_
                exact Ok.resP (vs := [.agg #[.int .i64 (kindS (mwdM e5)), .int .i64 ((atoiS (e11.2.1.take (Int.toNat (IntKind.wrap .i64 ((e11.2.1.length : Int) - 2))))).1)]]) [] [] (by decide) rfl (.inl rfl) rfl (.cons (.cellAgg 2 2 #[.int .i64 (kindS (mwdM e5)), .int .i64 ((atoiS (e11.2.1.take (Int.toNat (IntKind.wrap .i64 ((e11.2.1.length : Int) - 2))))).1)] rfl rfl Tryz.underlying31 rfl (by kernel_rfl) (by kernel_rfl) (by kernel_rfl)) .nil) ((hxj6.trans hxj24).trans hx16) ⟨((kindS (mwdM e5)), (atoiS (e11.2.1.take (Int.toNat (IntKind.wrap .i64 ((e11.2.1.length : Int) - 2))))).1), rfl, rfl, hF⟩
            · replace hF := hF.2 hc17
              rw [hc17] at hI16_0
              obtain ⟨t16_0, p16_0, rfl⟩ := hI16_0
              refine Ok.batch 5 [(2, .pointer (some ⟨bs2, 0, none⟩)), (3, .pointer (some ⟨bs3, 0, none⟩)), (5, .int .i64 (kindS (mwdM e5))), (7, .int .i64 ((atoiS (e11.2.1.take (Int.toNat (IntKind.wrap .i64 ((e11.2.1.length : Int) - 2))))).1)), (8, .iface t16_0 p16_0)] (by kernel_rfl) ?_
              refine Ok.nil ?_
              refine Ok.thenN ?_
              refine Ok.seq ?_
              refine Ok.seq ?_
              refine Ok.region ?_
              refine Ok.batch 6 [(2, .pointer (some ⟨bs2, 0, none⟩)), (3, .pointer (some ⟨bs3, 0, none⟩)), (5, .int .i64 (kindS (mwdM e5))), (7, .int .i64 ((atoiS (e11.2.1.take (Int.toNat (IntKind.wrap .i64 ((e11.2.1.length : Int) - 2))))).1)), (73, .bool true)] (by kernel_rfl) ?_
              refine Ok.nil ?_
              refine Ok.thenN ?_
              refine Ok.cond (b := true) rfl (fun _ => ?_) (fun h => by cases h)
              refine Ok.seq ?_
              refine Ok.region ?_
              refine Ok.op rfl (OpOk.step (v := .agg #[.int .i64 12, .int .i64 0]) (Yields.loadAgg 1 2 #[.int .i64 12, .int .i64 0] rfl rfl Tryz.underlying31 rfl (by kernel_rfl) (by kernel_rfl) (by kernel_rfl)) rfl rfl ?_)
              refine Ok.op rfl (OpOk.store (k := 2) (v := .agg #[.int .i64 12, .int .i64 0]) (H' := [.blk bs6 (.cells #[.int .i64 e11.1, .string ⟨⟨e11.2.1⟩⟩, .string ⟨⟨e11.2.2.1⟩⟩, .int .i64 e11.2.2.2] 55), .blk bs3 (.cells #[.int .i64 12, .int .i64 0] 31), .blk bs2 (.cells #[.int .i64 12, .int .i64 0] 31)]) 2 rfl rfl rfl (by kernel_rfl) (by kernel_rfl) (by kernel_rfl) (by kernel_rfl) (by kernel_rfl) ?_)
              refine Ok.nil ?_
              refine Ok.thenN ?_
              refine Ok.ret ?_
              refine Ok.thenR ?_
              refine Ok.thenR ?_
              exact Ok.resP (vs := [.agg #[.int .i64 12, .int .i64 0]]) [] [] (by decide) rfl (.inl rfl) rfl (.cons (.cellAgg 2 2 #[.int .i64 12, .int .i64 0] rfl rfl Tryz.underlying31 rfl (by kernel_rfl) (by kernel_rfl) (by kernel_rfl)) .nil) ((hxj6.trans hxj24).trans hx16) ⟨(12, 0), rfl, rfl, hF⟩
      · replace hF := hF.2 hc9
        refine Ok.skip ?_
        refine Ok.thenN ?_
        refine Ok.seq ?_
        refine Ok.seq ?_
        refine Ok.region ?_
        refine Ok.batch 1 [(0, .slice axl_0 xl.length cxl_0), (2, .pointer (some ⟨bs2, 0, none⟩)), (3, .pointer (some ⟨bs3, 0, none⟩)), (78, .string ⟨⟨(mwdM e5)⟩⟩)] (by kernel_rfl) ?_
        obtain ⟨hv, hF⟩ := hF
        refine Ok.op rfl (OpOk.step (v := .string ⟨⟨(mwdM e5) ++ ([58] : List UInt8)⟩⟩) (Yields.strAdd rfl rfl hv) rfl rfl ?_)
        refine Ok.batch 1 [(2, .pointer (some ⟨bs2, 0, none⟩)), (3, .pointer (some ⟨bs3, 0, none⟩)), (79, .string ⟨⟨(mwdM e5) ++ ([58] : List UInt8)⟩⟩), (80, .slice axl_0 xl.length cxl_0)] (by kernel_rfl) ?_
        obtain ⟨h024, h124, hF⟩ := hF
        have he24 := get_of (l := xl) (default : Int × List UInt8 × List UInt8 × Int) h124
        generalize hg24 : (xl.getD (Int.toNat 2) default) = e24 at he24 hF ⊢
        refine Ok.op rfl (OpOk.indexRo (e := .pair (.int .i64) (.pair (.str) (.pair (.str) (.int .i64)))) (i := 2) (el := e24) rfl rfl Tryz.underlying46 (by kernel_rfl) hRxl_0 h024 he24 rfl fun q23 o23 cs23 _ hat23 hr23 => ?_)
        obtain ⟨_, _, rfl, rfl, ⟨_, _, rfl, rfl, ⟨_, _, rfl, rfl, rfl⟩⟩⟩ := hr23
        replace hat23 : At gj6 q23 o23 [.int .i64 e24.1, .string ⟨⟨e24.2.1⟩⟩, .string ⟨⟨e24.2.2.1⟩⟩, .int .i64 e24.2.2.2] := hat23
        refine Ok.op rfl (OpOk.step (v := .agg #[.int .i64 e24.1, .string ⟨⟨e24.2.1⟩⟩, .string ⟨⟨e24.2.2.1⟩⟩, .int .i64 e24.2.2.2]) (Yields.loadAggRo 0 4 #[.int .i64 e24.1, .string ⟨⟨e24.2.1⟩⟩, .string ⟨⟨e24.2.2.1⟩⟩, .int .i64 e24.2.2.2] hat23 (by kernel_rfl) Tryz.underlying55 rfl (by kernel_rfl) (by kernel_rfl) (by kernel_rfl)) rfl rfl ?_)
        obtain ⟨hp25, hF⟩ := hF
        refine Ok.op rfl (OpOk.callG (v := .string ⟨⟨(mwdM e24)⟩⟩) (enters (by kernel_rfl) (fun _ => by kernel_rfl)) (fun W hW => mwd_c e24 hp25) rfl ?_)
        obtain ⟨hv, hF⟩ := hF
        refine Ok.op rfl (OpOk.step (v := .string ⟨⟨((mwdM e5) ++ ([58] : List UInt8)) ++ (mwdM e24)⟩⟩) (Yields.strAdd rfl rfl hv) rfl rfl ?_)
        refine Ok.op rfl (OpOk.callG (v := .int .i64 (kindS (((mwdM e5) ++ ([58] : List UInt8)) ++ (mwdM e24)))) (enters (by kernel_rfl) (fun _ => by kernel_rfl)) (fun W hW => mkd_c (((mwdM e5) ++ ([58] : List UInt8)) ++ (mwdM e24)) (hG0.mono hW.sees)) rfl ?_)
        refine Ok.batch 1 [(2, .pointer (some ⟨bs2, 0, none⟩)), (3, .pointer (some ⟨bs3, 0, none⟩)), (9, .int .i64 (kindS (((mwdM e5) ++ ([58] : List UInt8)) ++ (mwdM e24))))] (by kernel_rfl) ?_
        refine Ok.nil ?_
        refine Ok.thenN ?_
        refine Ok.seq ?_
        refine Ok.region ?_
        refine Ok.batch 2 [(2, .pointer (some ⟨bs2, 0, none⟩)), (3, .pointer (some ⟨bs3, 0, none⟩)), (9, .int .i64 (kindS (((mwdM e5) ++ ([58] : List UInt8)) ++ (mwdM e24)))), (87, .bool (decide ((kindS (((mwdM e5) ++ ([58] : List UInt8)) ++ (mwdM e24))) ≥ 8)))] (by kernel_rfl) ?_
        refine Ok.nil ?_
        refine Ok.thenN ?_
        refine Ok.cond (b := decide ((kindS (((mwdM e5) ++ ([58] : List UInt8)) ++ (mwdM e24))) ≥ 8)) rfl (fun hc26 => ?_) (fun hc26 => ?_)
        · replace hF := hF.1 hc26
          refine Ok.seq ?_
          refine Ok.region ?_
          refine Ok.batch 2 [(2, .pointer (some ⟨bs2, 0, none⟩)), (89, .agg #[.int .i64 (kindS (((mwdM e5) ++ ([58] : List UInt8)) ++ (mwdM e24))), .int .i64 0])] (by kernel_rfl) ?_
          refine Ok.op rfl (OpOk.store (k := 2) (v := .agg #[.int .i64 (kindS (((mwdM e5) ++ ([58] : List UInt8)) ++ (mwdM e24))), .int .i64 0]) (H' := [.blk bs3 (.cells #[.int .i64 12, .int .i64 0] 31), .blk bs2 (.cells #[.int .i64 (kindS (((mwdM e5) ++ ([58] : List UInt8)) ++ (mwdM e24))), .int .i64 0] 31)]) 1 rfl rfl rfl (by kernel_rfl) (by kernel_rfl) (by kernel_rfl) (by kernel_rfl) (by kernel_rfl) ?_)
          refine Ok.nil ?_
          refine Ok.thenN ?_
          refine Ok.ret ?_
          refine Ok.thenR ?_
          exact Ok.resP (vs := [.agg #[.int .i64 (kindS (((mwdM e5) ++ ([58] : List UInt8)) ++ (mwdM e24))), .int .i64 0]]) [] [] (by decide) rfl (.inl rfl) rfl (.cons (.cellAgg 1 2 #[.int .i64 (kindS (((mwdM e5) ++ ([58] : List UInt8)) ++ (mwdM e24))), .int .i64 0] rfl rfl Tryz.underlying31 rfl (by kernel_rfl) (by kernel_rfl) (by kernel_rfl)) .nil) hxj6 ⟨((kindS (((mwdM e5) ++ ([58] : List UInt8)) ++ (mwdM e24))), 0), rfl, rfl, hF⟩
        · replace hF := hF.2 hc26
          refine Ok.skip ?_
          refine Ok.thenN ?_
          refine Ok.seq ?_
          refine Ok.region ?_
          refine Ok.op rfl (OpOk.step (v := .agg #[.int .i64 12, .int .i64 0]) (Yields.loadAgg 0 2 #[.int .i64 12, .int .i64 0] rfl rfl Tryz.underlying31 rfl (by kernel_rfl) (by kernel_rfl) (by kernel_rfl)) rfl rfl ?_)
          refine Ok.op rfl (OpOk.store (k := 2) (v := .agg #[.int .i64 12, .int .i64 0]) (H' := [.blk bs3 (.cells #[.int .i64 12, .int .i64 0] 31), .blk bs2 (.cells #[.int .i64 12, .int .i64 0] 31)]) 1 rfl rfl rfl (by kernel_rfl) (by kernel_rfl) (by kernel_rfl) (by kernel_rfl) (by kernel_rfl) ?_)
          refine Ok.nil ?_
          refine Ok.thenN ?_
          refine Ok.ret ?_
          exact Ok.resP (vs := [.agg #[.int .i64 12, .int .i64 0]]) [] [] (by decide) rfl (.inl rfl) rfl (.cons (.cellAgg 1 2 #[.int .i64 12, .int .i64 0] rfl rfl Tryz.underlying31 rfl (by kernel_rfl) (by kernel_rfl) (by kernel_rfl)) .nil) hxj6 ⟨(12, 0), rfl, rfl, hF⟩
/-- a number of pixels -/
def pxS (k : Int) (v : Tok) : Int × Int :=
  if mfeV1 v = true then (12, 0) else
    let a := atoiS (v.2.1.take (Int.toNat (IntKind.wrap .i64 ((v.2.1.length : Int) - 2))))
    if a.2 = true then (if (decide (a.1 > 1000000)) = true then (12, 0) else (k, a.1)) else (12, 0)
def featR (l : List Tok) : Int × Int :=
  if mfeV0 l = true then (12, 0) else
    let w := mwdM (l.getD 0 default)
    if (decide (kindS w ≥ 4) && decide (kindS w ≤ 7)) = true then pxS (kindS w) (l.getD 2 default)
    else
      let k := kindS ((w ++ ([58] : List UInt8)) ++ mwdM (l.getD 2 default))
      if (decide (k ≥ 8)) = true then (k, 0) else (12, 0)
theorem mfe_F (l : List Tok) (hp : toksOK l) : mfeF l (fun r => r = featR l) := by
  have j6 : mfej6 l (fun r => r = featR l) := by
    refine ⟨fun h => (if_t h).symm, fun h => ?_⟩
    have h3 : l.length = 3 := by
      have h := h
      unfold mfeV0 at h
      simp only [Bool.or_eq_false_iff, bne_eq_false_iff_eq] at h
      have := h.1
      omega
    have f0 := tok_get hp (i := 0) (by omega)
    have f2 := tok_get hp (i := 2) (by omega)
    have w0 := word_len f0
    have w2 := word_len f2
    have e : featR l = _ := if_f h
    rw [show Int.toNat 0 = 0 from rfl, show Int.toNat 2 = 2 from rfl, e]
    generalize l.getD 0 default = t0 at *
    generalize l.getD 2 default = t2 at *
    refine ⟨by omega, by omega, word_ok f0, fun hk => ?_, fun hk => ?_⟩
    · rw [if_t hk]
      have lt : Int.toNat (IntKind.wrap .i64 ((t2.2.1.length : Int) - 2)) = t2.2.1.length - 2 := by have := f2.raw2; rw [w64 (by omega)]; omega
      have j24 : (mfeV1 t2 = false → 2 ≤ t2.2.1.length) → mfej24 (fun r => r = pxS (kindS (mwdM t0)) t2) t0 t2 := fun h2 => by
        unfold pxS
        refine ⟨fun hv => (if_t hv).symm, fun hv => ?_⟩
        have h2 := h2 hv
        have h3 := f2.raw2
        rw [if_f hv]
        have hw : IntKind.wrap .i64 ((t2.2.1.length : Int) - 2) = (t2.2.1.length : Int) - 2 := w64 (by omega)
        refine ⟨by omega, by rw [hw]; omega, by rw [hw]; omega, by unfold atoiP; rw [List.length_take]; omega, fun ha => ⟨fun hb => ?_, fun hb => ?_⟩, fun ha => ?_⟩
        · simp only [if_t ha, if_t hb]
        · simp only [if_t ha, if_f hb]
        · simp only [if_f ha]
      refine ⟨by omega, by omega, fun h7 => j24 fun hv => ?_, fun h7 => ⟨fun hx => j24 fun hv => ?_, fun hx => ?_⟩⟩
      · unfold mfeV1 at hv
        rw [h7] at hv; cases hv
      · unfold mfeV1 at hv
        rw [hx] at hv; simp at hv
      · have h2 : 2 ≤ t2.2.1.length := f2.px (by simpa using h7) (by simpa using hx)
        have h3 := f2.raw2
        have hw : IntKind.wrap .i64 ((t2.2.1.length : Int) - 2) = (t2.2.1.length : Int) - 2 := w64 (by omega)
        refine ⟨by omega, by rw [hw]; omega, by rw [hw]; omega, ⟨by rw [List.length_take]; omega, by decide, by decide +kernel⟩, j24 fun _ => h2⟩
    · rw [if_f hk]
      refine ⟨by rw [maxLen_eq]; simp; omega, by omega, by omega, word_ok f2, by rw [maxLen_eq]; simp; omega, fun h8 => ?_, fun h8 => ?_⟩
      · simp only [if_t h8]
      · simp only [if_f h8]
  exact ⟨fun _ => j6, fun h => ⟨by omega, by have : (l.length : Int) = 3 := by simpa using h
                                             show 1 < _; omega, j6⟩⟩
set_option linter.unusedVariables false in
theorem mfe_c {g : Ghost} {axl_0 : Option Addr} {cxl_0 : Nat} (xl : List (Int × List UInt8 × List UInt8 × Int)) (hRxl_0 : Rep g (.slice (.pair (.int .i64) (.pair (.str) (.pair (.str) (.int .i64))))) [.slice axl_0 xl.length cxl_0] xl) (hG0 : GlobL g 0 (.str) DWords) (hG2 : SomeIf g 2) (hG3 : SomeIf g 3)  (hp : toksOK xl) : CallsG Tryz.prog 25 #[.slice axl_0 xl.length cxl_0] g (.agg #[.int .i64 (featR xl).1, .int .i64 (featR xl).2]) :=
  (mfe_ok xl hRxl_0 hG0 hG2 hG3 _ (mfe_F xl hp)).gives (by rintro g' H' v _ ⟨r0, rfl, rfl, hK⟩; subst hK; rfl)
end Go.Proofs.YtjehllphdpkjeaaGreatDoor.Me
