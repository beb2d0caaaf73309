/- selector: its numbers; strings.Cut, strconv.Atoi where it is right. -/
import Derived.Test.YtcnhdkhkadiohaaGreatDoorSyc
import Derived.Test.YtcnhdkhkadiohaaGreatDoorSha
import Derived.Test.YtcnhdkhkadiohaaGreatDoorTrm
import Derived.Test.YtcnhdkhkadiohaaGreatDoorTri
import Derived.Lib.AtoiErrMem
namespace Go.Proofs.YtcnhdkhkadiohaaGreatDoor.Se
open Go Go.Eng Go.RowKit Go.Shelf Go.Proofs Bld Trm Css Tk Rp Qu Me Ti
set_option maxHeartbeats 4000000
set_option maxRecDepth 100000
set_option linter.unusedSimpArgs false
set_option linter.unusedVariables false
/-- a number that is told, with a sign or not -/
def numW (s : Bs) : Prop := ∃ n : Int, (-1000 ≤ n ∧ n ≤ 1000) ∧ (s = Lib.itoa n ∨ 0 ≤ n ∧ s = 43 :: Lib.itoa n)
def fitW (s : Bs) (n : Int) : Bool := decide (s.length ≤ 18) && (Lib.atoi s == some n) && (vI s == n) && decide (1 ≤ s.length) && (Lib.trimS (tlS (s.take 1) [43, 45] ++ s.drop 1) [48, 49, 50, 51, 52, 53, 54, 55, 56, 57] == []) && (lowerS s == s) && (!(s == [45])) && (!(s.headD 0 == 111)) && (!(s.headD 0 == 101)) && ((s.headD 0 == 45) || decide (0 ≤ n))
theorem fit_all : ∀ n : Int, -1000 ≤ n ∧ n ≤ 1000 → fitW (Lib.itoa n) n = true ∧ (0 ≤ n → fitW (43 :: Lib.itoa n) n = true) := fun n h => by
 have : ∀ k : Fin 2001, fitW (Lib.itoa ((k.val : Int) - 1000)) ((k.val : Int) - 1000) = true ∧ (0 ≤ (k.val : Int) - 1000 → fitW (43 :: Lib.itoa ((k.val : Int) - 1000)) ((k.val : Int) - 1000) = true) := by decide +kernel
 have := this ⟨(n + 1000).toNat, by omega⟩
 rw [show (((⟨(n + 1000).toNat, by omega⟩ : Fin 2001).val : Int) - 1000) = n by show (((n + 1000).toNat : Nat) : Int) - 1000 = n; omega] at this
 exact this
theorem numW.fit {s : Bs} (h : numW s) : ∃ n, fitW s n = true := by
 obtain ⟨n, h1, rfl | ⟨h2, rfl⟩⟩ := h
 ·exact ⟨n, (fit_all n h1).1⟩
 exact ⟨n, (fit_all n h1).2 h2⟩
structure NumF (s : Bs) (n : Int) : Prop where
 len : s.length ≤ 18
 ato : Lib.atoi s = some n
 vI : vI s = n
 one : 1 ≤ s.length
 tri : Lib.trimS (tlS (s.take 1) [43, 45] ++ s.drop 1) [48, 49, 50, 51, 52, 53, 54, 55, 56, 57] = []
 low : lowerS s = s
 n45 : s ≠ [45]
 n111 : s.headD 0 ≠ 111
 n101 : s.headD 0 ≠ 101
 sgn : s.headD 0 = 45 ∨ 0 ≤ n
theorem numF {s : Bs} {n : Int} (hf : fitW s n = true) : NumF s n := by
 unfold fitW at hf
 simp only [Bool.and_eq_true, decide_eq_true_eq, beq_iff_eq, Bool.not_eq_true', beq_eq_false_iff_ne, Bool.or_eq_true] at hf
 obtain ⟨⟨⟨⟨⟨⟨⟨⟨⟨h1, h2⟩, h3⟩, h4⟩, h5⟩, h6⟩, h7⟩, h8⟩, h9⟩, h10⟩ := hf
 exact ⟨h1, h2, h3, h4, h5, h6, h7, h8, h9, h10⟩
theorem numW.facts {s : Bs} (h : numW s) : ∃ n, NumF s n := by
 obtain ⟨n, hf⟩ := h.fit
 exact ⟨n, numF hf⟩
theorem numW.ato {s : Bs} (h : numW s) : ∃ n, s.length ≤ 18 ∧ Lib.atoi s = some n := by
 obtain ⟨n, hf⟩ := h.facts
 exact ⟨n, hf.len, hf.ato⟩
def atoS (s : Bs) : Int × Bool := ((Lib.atoi s).getD 0, true)
theorem ato_c {g : Ghost} (s : Bs) (hp : numW s) :
  CallsH Tryz.prog 175 #[sv s] g [] (fun g' H' v => ∃ (ir1 : Value), v = .tuple #[iv (atoS s).1, ir1] ∧ IfV ir1 (atoS s).2 ∧ H' = []) := fun W hW => by
 obtain ⟨n, h1, h2⟩ := hp.ato
 refine (Tryz.strconv_Atoi ⟨⟨s⟩⟩ n h1 h2 W).mono fun e W' ⟨he, t, hw⟩ => ?_
 refine ⟨_, g, [], he, ⟨_, by unfold atoS; rw [h2]; rfl, rfl, rfl⟩, Gext.r _ g, ?_⟩
 subst hw
 exact hW.of_below (Lib.bytesWorld_below _ _ _)
def whlF (xs : Bs) (K : Int → Bool → Prop) : Prop :=
 numW xs ∧ ((atoS xs).2 = true → (0 : Int) ≤ 0 ∧ (0 : Int) ≤ 1 ∧ 1 ≤ (xs.length : Int) ∧ tlP (xs.take (Int.toNat 1)) ([43, 45] : Bs) ∧ (0 : Int) ≤ 1 ∧ (1 : Int) ≤ (xs.length : Int) ∧ (xs.length : Int) ≤ (xs.length : Int) ∧ (tlS (xs.take (Int.toNat 1)) ([43, 45] : Bs)).length + (xs.drop (Int.toNat 1)).length ≤ maxLen ∧ trimP ((tlS (xs.take (Int.toNat 1)) ([43, 45] : Bs)) ++ (xs.drop (Int.toNat 1))) ([48, 49, 50, 51, 52, 53, 54, 55, 56, 57] : Bs) ∧ K (atoS xs).1 ((trimS ((tlS (xs.take (Int.toNat 1)) ([43, 45] : Bs)) ++ (xs.drop (Int.toNat 1))) ([48, 49, 50, 51, 52, 53, 54, 55, 56, 57] : Bs)) == ([] : Bs))) ∧ ((atoS xs).2 = false → K (atoS xs).1 false)
theorem whl_ok {g : Ghost} (xs : Bs) (K : Int → Bool → Prop)
  (hF : whlF xs K) : CallsH Tryz.prog 162 #[sv xs] g [] (fun g' H' v => ∃ (r0 : Int), ∃ (r1 : Bool), v = .tuple #[iv r0, .bool r1] ∧ H' = [] ∧ K r0 r1) := by
 refine CallsH.enter 24 [(0, sv xs)] Tryz.func162 rfl kr kr kr fun w0 => ?_
 refine Ok.sr ((Ok.B 2 [(0, sv xs)] kr (Ok.nt ((Ok.sr ((Ok.b 1 [0] [(7, sv xs)] ?_)))))))
 obtain ⟨hp1, hF⟩ := hF
 refine Ok.op rfl (OpOk.callH [] _ enr rfl (ato_c xs hp1) rfl fun g2 _ _ hx2 hV2 => ?_)
 obtain ⟨i2_0, rfl, z0, rfl⟩ := hV2
 refine Ok.split (atoS xs).2 (fun hc3 => ?_) (fun hc3 => ?_)
 ·replace hF := hF.1 hc3
  replace z0 : i2_0 = .nilIface := by rw [hc3] at z0; exact z0
  subst z0
  refine Ok.B 5 [(0, sv xs), (4, iv (atoS xs).1), (5, .nilIface)] kr (Ok.nt ((Ok.q (Ok.quiet' kr kr (OkQ.b 5 [0] [(11, iv (atoS xs).1), (14, .bool true), (15, sv xs)] ?_)))))
  obtain ⟨h04, h14, h24, hF⟩ := hF
  refine OkQ.y (j := 3) (d := 14) (want := true) (b := true) rfl kr kr rfl (OpQ.s (v := sv (xs.take (Int.toNat 1))) (Yields.ss (s := xs) (l := 0) (h := 1) kr Tryz.underlying9 (.inr ⟨rfl, rfl⟩) (.inl ⟨_, _, rfl, rfl⟩) h04 h14 h24 (xs.take (Int.toNat 1)) (by simp)) rfl rfl ?_)
  obtain ⟨hp5, hF⟩ := hF
  refine OkQ.y (j := 3) (d := 14) (want := true) (b := true) rfl kr kr rfl (OpQ.f enr (fun W hW => tl_c (xs.take (Int.toNat 1)) ([43, 45] : Bs) hp5) rfl ?_)
  refine OkQ.b 1 [11, 14] [(17, sv (tlS (xs.take (Int.toNat 1)) ([43, 45] : Bs))), (18, sv xs)] ?_
  obtain ⟨h06, h16, h26, hF⟩ := hF
  refine OkQ.y (j := 3) (d := 14) (want := true) (b := true) rfl kr kr rfl (OpQ.s (v := sv (xs.drop (Int.toNat 1))) (Yields.ss (s := xs) (l := 1) (h := (xs.length : Int)) kr Tryz.underlying9 (.inl ⟨_, _, rfl, rfl⟩) (.inr ⟨rfl, rfl⟩) h06 h16 h26 (xs.drop (Int.toNat 1)) (by rw [show ((xs.length : Int)).toNat = xs.length from Int.toNat_natCast _, List.take_length])) rfl rfl ?_)
  obtain ⟨hv, hF⟩ := hF
  refine OkQ.y (j := 3) (d := 14) (want := true) (b := true) rfl kr kr rfl (OpQ.s (v := sv ((tlS (xs.take (Int.toNat 1)) ([43, 45] : Bs)) ++ (xs.drop (Int.toNat 1)))) (Yields.sa rfl rfl hv) rfl rfl ?_)
  obtain ⟨hp7, hF⟩ := hF
  refine OkQ.y (j := 3) (d := 14) (want := true) (b := true) rfl kr kr rfl (OpQ.f enr (fun W hW => trim_c ((tlS (xs.take (Int.toNat 1)) ([43, 45] : Bs)) ++ (xs.drop (Int.toNat 1))) ([48, 49, 50, 51, 52, 53, 54, 55, 56, 57] : Bs) hp7) rfl ?_)
  refine OkQ.y (j := 3) (d := 14) (want := true) (b := true) rfl kr kr rfl (OpQ.s (v := .bool ((trimS ((tlS (xs.take (Int.toNat 1)) ([43, 45] : Bs)) ++ (xs.drop (Int.toNat 1))) ([48, 49, 50, 51, 52, 53, 54, 55, 56, 57] : Bs)) == ([] : Bs))) (Yields.sc (f := .eql) (a := (trimS ((tlS (xs.take (Int.toNat 1)) ([43, 45] : Bs)) ++ (xs.drop (Int.toNat 1))) ([48, 49, 50, 51, 52, 53, 54, 55, 56, 57] : Bs))) (b := ([] : Bs)) kr kr rfl) rfl rfl (OkQ.B 3 [(2, iv (atoS xs).1), (3, .bool ((trimS ((tlS (xs.take (Int.toNat 1)) ([43, 45] : Bs)) ++ (xs.drop (Int.toNat 1))) ([48, 49, 50, 51, 52, 53, 54, 55, 56, 57] : Bs)) == ([] : Bs)))] kr (OkQ.j (Ok.t (Ok.ret ?_)))))
  exact Ok.resH (vs := [iv (atoS xs).1, .bool ((trimS ((tlS (xs.take (Int.toNat 1)) ([43, 45] : Bs)) ++ (xs.drop (Int.toNat 1))) ([48, 49, 50, 51, 52, 53, 54, 55, 56, 57] : Bs)) == ([] : Bs))]) (.inl rfl) rfl (.cons (.tmp rfl) (.cons (.tmp rfl) .nil)) hx2 ⟨(atoS xs).1, ((trimS ((tlS (xs.take (Int.toNat 1)) ([43, 45] : Bs)) ++ (xs.drop (Int.toNat 1))) ([48, 49, 50, 51, 52, 53, 54, 55, 56, 57] : Bs)) == ([] : Bs)), rfl, rfl, hF⟩
 replace hF := hF.2 hc3
 rw [hc3] at z0
 obtain ⟨t2_0, p2_0, rfl⟩ := z0
 refine Ok.B 5 [(0, sv xs), (4, iv (atoS xs).1), (5, .iface t2_0 p2_0)] kr (Ok.nt ((Ok.q (Ok.quiet' kr kr (OkQ.B 15 [(2, iv (atoS xs).1), (3, .bool false)] kr (OkQ.j (Ok.t (Ok.ret ?_))))))))
 exact Ok.resH (vs := [iv (atoS xs).1, .bool false]) (.inl rfl) rfl (.cons (.tmp rfl) (.cons (.tmp rfl) .nil)) hx2 ⟨(atoS xs).1, false, rfl, rfl, hF⟩
def whlS (s : Bs) : Int × Bool := (vI s, true)
theorem whl_F (s : Bs) (hp : numW s) : whlF s (fun a b => (a, b) = whlS s) := by
 obtain ⟨n, hf⟩ := hp.facts
 have ho := hf.one
 have hl := hf.len
 have htl : (tlS (s.take 1) [43, 45]).length ≤ 1 := by
  have : (tlS (s.take 1) [43, 45]).length ≤ (s.take 1).length := (List.dropWhile_suffix _).length_le
  simp only [List.length_take] at this
  omega
 refine ⟨hp, fun _ => ⟨by decide, by decide, by omega, ⟨by decide, by decide, by decide⟩, by decide, by omega, by omega, ?_, ⟨?_, by decide, by decide⟩, ?_⟩, fun h => (by cases h)⟩
 ·have : (s.drop 1).length ≤ 17 := by rw [List.length_drop]; omega
  show (tlS (s.take 1) [43, 45]).length + (s.drop 1).length ≤ 9223372036854775807
  omega
 ·have : (s.drop 1).length ≤ 17 := by rw [List.length_drop]; omega
  show (tlS (s.take 1) [43, 45] ++ s.drop 1).length ≤ 9223372036854775807
  rw [List.length_append]
  omega
 show (_, _) = _
 unfold whlS atoS
 rw [hf.ato, hf.vI, show trimS (tlS (s.take (Int.toNat 1)) [43, 45] ++ s.drop (Int.toNat 1)) [48, 49, 50, 51, 52, 53, 54, 55, 56, 57] = [] from hf.tri]
 rfl
theorem whl_c {g : Ghost} (xs : Bs)  (hp : numW xs) : CallsG Tryz.prog 162 #[sv xs] g (.tuple #[iv (whlS xs).1, .bool (whlS xs).2]) :=
 (whl_ok xs _ (whl_F xs hp)).gives (by rintro g' H' v _ ⟨r0, r1, rfl, rfl, hK⟩; obtain ⟨rfl, rfl⟩ : r0 = (whlS xs).1 ∧ r1 = (whlS xs).2 := ⟨congrArg (fun z => z.1) hK, congrArg (fun z => z.2) hK⟩; rfl)
def cutnS (s sep : Bs) : Bs × Bs × Bool := Lib.cut s sep
def cutnP (s _ : Bs) : Prop := s.length ≤ 1000000
theorem cutn_c {g : Ghost} (s sep : Bs) (hG : SomeInt g 0) (hp : cutnP s sep) : CallsG Tryz.prog 161 #[sv s, sv sep] g (.tuple #[sv ((cutnS s sep).1), sv ((cutnS s sep).2.1), .bool (cutnS s sep).2.2]) := fun W hW => by
 obtain ⟨cs, T, fz, m, h1, h2⟩ := hG
 have hsz : (⟨⟨s⟩⟩ : ByteArray).size = s.length := rfl
 unfold cutnP at hp
 refine (Tryz.strings_Cut ⟨⟨s⟩⟩ ⟨⟨sep⟩⟩ m W (by rw [hsz]; omega) (by rw [Lib.cell_of_heap (hW _ _ h1)]; exact h2)).mono fun e W' ⟨he, n, hw⟩ => ⟨he, ?_⟩
 subst hw
 exact ⟨rfl, rfl, rfl, Nat.le_refl _, fun _ _ => rfl⟩
def ntqV0 (xs : Bs) : Int :=
 (if ((cutnS (lowerS xs) ([110] : Bs)).1 == ([] : Bs)) = true then 1 else (if ((cutnS (lowerS xs) ([110] : Bs)).1 == ([45] : Bs)) = true then -1 else (whlS (cutnS (lowerS xs) ([110] : Bs)).1).1))
def ntqV1 (xs : Bs) : Bool :=
 (((cutnS (lowerS xs) ([110] : Bs)).1 == ([] : Bs)) || (((cutnS (lowerS xs) ([110] : Bs)).1 == ([45] : Bs)) || (whlS (cutnS (lowerS xs) ([110] : Bs)).1).2))
def ntqV2 (xs : Bs) : Bool :=
 (if (!((cutnS (lowerS xs) ([110] : Bs)).2.1 == ([] : Bs))) = true then (((ntqV1 xs) && (whlS (cutnS (lowerS xs) ([110] : Bs)).2.1).2) && ((((((cutnS (lowerS xs) ([110] : Bs)).2.1).getD (Int.toNat 0) 0).toNat : Int) == 43) || (((((cutnS (lowerS xs) ([110] : Bs)).2.1).getD (Int.toNat 0) 0).toNat : Int) == 45))) else (ntqV1 xs))
def ntqV3 (xs : Bs) : Int :=
 (if (!((cutnS (lowerS xs) ([110] : Bs)).2.1 == ([] : Bs))) = true then (whlS (cutnS (lowerS xs) ([110] : Bs)).2.1).1 else 0)
def ntqj59 (xs : Bs) (K : Int → Int → Bool → Prop) : Prop :=
 K (ntqV0 xs) (ntqV3 xs) (ntqV2 xs)
def ntqj44 (xs : Bs) (K : Int → Int → Bool → Prop) : Prop :=
 ((!((cutnS (lowerS xs) ([110] : Bs)).2.1 == ([] : Bs))) = true → numW (cutnS (lowerS xs) ([110] : Bs)).2.1 ∧ ((((ntqV1 xs) && (whlS (cutnS (lowerS xs) ([110] : Bs)).2.1).2)) = true → (0 : Int) ≤ 0 ∧ Int.toNat 0 < ((cutnS (lowerS xs) ([110] : Bs)).2.1).length ∧ (((((((cutnS (lowerS xs) ([110] : Bs)).2.1).getD (Int.toNat 0) 0).toNat : Int) == 43)) = true → ntqj59 xs K) ∧ (((((((cutnS (lowerS xs) ([110] : Bs)).2.1).getD (Int.toNat 0) 0).toNat : Int) == 43)) = false → ntqj59 xs K)) ∧ ((((ntqV1 xs) && (whlS (cutnS (lowerS xs) ([110] : Bs)).2.1).2)) = false → ntqj59 xs K)) ∧ ((!((cutnS (lowerS xs) ([110] : Bs)).2.1 == ([] : Bs))) = false → ntqj59 xs K)
def ntqF (xs : Bs) (K : Int → Int → Bool → Prop) : Prop :=
 lowerP xs ∧ ((((lowerS xs) == ([111, 100, 100] : Bs))) = true → K 2 1 true) ∧ ((((lowerS xs) == ([111, 100, 100] : Bs))) = false → ((((lowerS xs) == ([101, 118, 101, 110] : Bs))) = true → K 2 0 true) ∧ ((((lowerS xs) == ([101, 118, 101, 110] : Bs))) = false → cutnP (lowerS xs) ([110] : Bs) ∧ ((!((cutnS (lowerS xs) ([110] : Bs)).2.2)) = true → ((((lowerS xs) == ([] : Bs))) = true → K 0 0 false) ∧ ((((lowerS xs) == ([] : Bs))) = false → numW (lowerS xs) ∧ K 0 (whlS (lowerS xs)).1 (whlS (lowerS xs)).2)) ∧ ((!((cutnS (lowerS xs) ([110] : Bs)).2.2)) = false → ((((cutnS (lowerS xs) ([110] : Bs)).1 == ([] : Bs))) = true → ntqj44 xs K) ∧ ((((cutnS (lowerS xs) ([110] : Bs)).1 == ([] : Bs))) = false → ((((cutnS (lowerS xs) ([110] : Bs)).1 == ([45] : Bs))) = true → ntqj44 xs K) ∧ ((((cutnS (lowerS xs) ([110] : Bs)).1 == ([45] : Bs))) = false → numW (cutnS (lowerS xs) ([110] : Bs)).1 ∧ ntqj44 xs K)))))
theorem ntq_ok {g : Ghost} (xs : Bs) (hG0 : SomeInt g 0) (K : Int → Int → Bool → Prop)
  (hF : ntqF xs K) : CallsH Tryz.prog 149 #[sv xs] g [] (fun g' H' v => ∃ (r0 : Int), ∃ (r1 : Int), ∃ (r2 : Bool), v = .tuple #[iv r0, iv r1, .bool r2] ∧ H' = [] ∧ K r0 r1 r2) := by
 refine CallsH.enter 72 [(0, sv xs)] Tryz.func149 rfl kr kr kr fun w0 => ?_
 refine Ok.sr ((Ok.B 3 [(0, sv xs)] kr (Ok.nt ((Ok.sr ((Ok.B 1 [(14, sv xs)] kr ?_)))))))
 obtain ⟨hp1, hF⟩ := hF
 refine Ok.op rfl (OpOk.f enr (fun W hW => slw_c xs hp1) rfl ?_)
 refine Ok.B 1 [(0, sv (lowerS xs))] kr (Ok.nt ((Ok.q (Ok.sr ((Ok.b 1 [0] [(16, sv (lowerS xs))] ?_))))))
 refine Ok.nt ((Ok.block (Ok.sr ((Ok.op rfl (OpOk.s (v := .bool ((lowerS xs) == ([111, 100, 100] : Bs))) (Yields.sc (f := .eql) (a := (lowerS xs)) (b := ([111, 100, 100] : Bs)) kr kr rfl) rfl rfl (Ok.b 1 [0, 16] [(17, .bool ((lowerS xs) == ([111, 100, 100] : Bs)))] ?_)))))))
 refine Ok.nt ((Ok.cn hF rfl (fun hc2 => ?_) (fun hc2 => ?_)))
 ·replace hF := hF.1 hc2
  refine Ok.sr ((Ok.B 3 [(2, iv 2), (3, iv 1), (4, .bool true)] kr (Ok.nt ((Ok.ret (Ok.kr (Ok.tr ?_)))))))
  exact Ok.resH (vs := [iv 2, iv 1, .bool true]) (.inl rfl) rfl (.cons (.tmp rfl) (.cons (.tmp rfl) (.cons (.tmp rfl) .nil))) (Gext.r w0 g) ⟨2, 1, true, rfl, rfl, hF⟩
 replace hF := hF.2 hc2
 refine Ok.sr ((Ok.op rfl (OpOk.s (v := .bool ((lowerS xs) == ([101, 118, 101, 110] : Bs))) (Yields.sc (f := .eql) (a := (lowerS xs)) (b := ([101, 118, 101, 110] : Bs)) kr kr rfl) rfl rfl (Ok.b 1 [0] [(19, .bool ((lowerS xs) == ([101, 118, 101, 110] : Bs)))] ?_))))
 refine Ok.nt ((Ok.cn hF rfl (fun hc3 => ?_) (fun hc3 => ?_)))
 ·replace hF := hF.1 hc3
  refine Ok.sr ((Ok.B 3 [(2, iv 2), (3, iv 0), (4, .bool true)] kr (Ok.nt ((Ok.ret (Ok.kr (Ok.tr ?_)))))))
  exact Ok.resH (vs := [iv 2, iv 0, .bool true]) (.inl rfl) rfl (.cons (.tmp rfl) (.cons (.tmp rfl) (.cons (.tmp rfl) .nil))) (Gext.r w0 g) ⟨2, 0, true, rfl, rfl, hF⟩
 replace hF := hF.2 hc3
 refine Ok.k (Ok.kn (Ok.t (Ok.sr ((Ok.b 1 [0] [(22, sv (lowerS xs))] ?_)))))
 obtain ⟨hp4, hF⟩ := hF
 refine Ok.op rfl (OpOk.f enr (fun W hW => cutn_c (lowerS xs) ([110] : Bs) (hG0.mono hW.sees) hp4) rfl ?_)
 refine Ok.b 7 [0] [(5, sv ((cutnS (lowerS xs) ([110] : Bs)).1)), (6, sv ((cutnS (lowerS xs) ([110] : Bs)).2.1)), (7, .bool (cutnS (lowerS xs) ([110] : Bs)).2.2)] ?_
 refine Ok.nt ((Ok.q (Ok.sr ((Ok.b 2 [0, 5, 6] [(28, .bool (!((cutnS (lowerS xs) ([110] : Bs)).2.2)))] ?_)))))
 refine Ok.nt ((Ok.cn hF rfl (fun hc5 => ?_) (fun hc5 => ?_)))
 ·replace hF := hF.1 hc5
  refine Ok.q (Ok.sr ((Ok.b 1 [0] [(29, sv (lowerS xs))] ?_)))
  refine Ok.op rfl (OpOk.s (v := .bool ((lowerS xs) == ([] : Bs))) (Yields.sc (f := .eql) (a := (lowerS xs)) (b := ([] : Bs)) kr kr rfl) rfl rfl (Ok.nt ((Ok.cn hF rfl (fun hc6 => ?_) (fun hc6 => ?_)))))
  ·replace hF := hF.1 hc6
   refine Ok.sr ((Ok.B 3 [(2, iv 0), (3, iv 0), (4, .bool false)] kr (Ok.nt ((Ok.ret (Ok.tr (Ok.tr ?_)))))))
   exact Ok.resH (vs := [iv 0, iv 0, .bool false]) (.inl rfl) rfl (.cons (.tmp rfl) (.cons (.tmp rfl) (.cons (.tmp rfl) .nil))) (Gext.r w0 g) ⟨0, 0, false, rfl, rfl, hF⟩
  replace hF := hF.2 hc6
  refine Ok.k (Ok.t (Ok.sr ((Ok.B 1 [(32, sv (lowerS xs))] kr ?_))))
  obtain ⟨hp7, hF⟩ := hF
  refine Ok.op rfl (OpOk.f enr (fun W hW => whl_c (lowerS xs) hp7) rfl ?_)
  refine Ok.B 5 [(8, iv (whlS (lowerS xs)).1), (9, .bool (whlS (lowerS xs)).2)] kr (Ok.nt ((Ok.sr ((Ok.B 5 [(2, iv 0), (3, iv (whlS (lowerS xs)).1), (4, .bool (whlS (lowerS xs)).2)] kr (Ok.nt ((Ok.ret (Ok.tr ?_)))))))))
  exact Ok.resH (vs := [iv 0, iv (whlS (lowerS xs)).1, .bool (whlS (lowerS xs)).2]) (.inl rfl) rfl (.cons (.tmp rfl) (.cons (.tmp rfl) (.cons (.tmp rfl) .nil))) (Gext.r w0 g) ⟨0, (whlS (lowerS xs)).1, (whlS (lowerS xs)).2, rfl, rfl, hF⟩
 replace hF := hF.2 hc5
 refine Ok.k (Ok.t (Ok.sr ((Ok.b 2 [5, 6] [(10, iv 1), (11, .bool true)] ?_))))
 refine Ok.nt ((Ok.cut (fun a W => StA 72 [(6, sv ((cutnS (lowerS xs) ([110] : Bs)).2.1)), (10, iv (ntqV0 xs)), (11, .bool (ntqV1 xs))] a ∧ StW w0 [] g W ∧ ntqj44 xs K) ?_ ?_))
 ·
  refine Ok.sr ((Ok.b 1 [5, 6, 10, 11] [(38, sv ((cutnS (lowerS xs) ([110] : Bs)).1))] ?_))
  refine Ok.nt ((Ok.block (Ok.sr ((Ok.op rfl (OpOk.s (v := .bool ((cutnS (lowerS xs) ([110] : Bs)).1 == ([] : Bs))) (Yields.sc (f := .eql) (a := (cutnS (lowerS xs) ([110] : Bs)).1) (b := ([] : Bs)) kr kr rfl) rfl rfl (Ok.b 1 [5, 6, 10, 11, 38] [(44, .bool ((cutnS (lowerS xs) ([110] : Bs)).1 == ([] : Bs)))] ?_)))))))
  refine Ok.nt ((Ok.cn hF rfl (fun v0 => ?_) (fun v0 => ?_)))
  ·replace hF := hF.1 v0
   refine Ok.k (Ok.kn (Ok.t (Ok.v 10 rfl (show (iv 1 : Value) = iv (ntqV0 xs) from congrArg (Value.int .i64) ((if_t v0).symm)) (Ok.v 11 rfl (show (.bool true : Value) = .bool (ntqV1 xs) from congrArg (Value.bool) (mor_t v0)) ?_))))
   exact fun a W hA hW => ⟨hA.sub kr, hW, hF⟩
  replace hF := hF.2 v0
  refine Ok.sr ((Ok.op rfl (OpOk.s (v := .bool ((cutnS (lowerS xs) ([110] : Bs)).1 == ([45] : Bs))) (Yields.sc (f := .eql) (a := (cutnS (lowerS xs) ([110] : Bs)).1) (b := ([45] : Bs)) kr kr rfl) rfl rfl (Ok.b 1 [5, 6, 11] [(46, .bool ((cutnS (lowerS xs) ([110] : Bs)).1 == ([45] : Bs)))] ?_))))
  refine Ok.nt ((Ok.cn hF rfl (fun q0 => ?_) (fun q0 => ?_)))
  ·replace hF := hF.1 q0
   refine Ok.r (Ok.b 1 [6, 11] [(10, iv (-1))] ?_)
   refine Ok.j (Ok.kn (Ok.t (Ok.v 10 rfl (show (iv (-1) : Value) = iv (ntqV0 xs) from congrArg (Value.int .i64) ((Eq.trans ((if_t q0).symm) ((if_f v0).symm)))) (Ok.v 11 rfl (show (.bool true : Value) = .bool (ntqV1 xs) from congrArg (Value.bool) ((Eq.trans (mor_t q0) (mor_f v0)))) ?_))))
   exact fun a W hA hW => ⟨hA.sub kr, hW, hF⟩
  replace hF := hF.2 q0
  refine Ok.r (Ok.b 1 [6] [(40, sv ((cutnS (lowerS xs) ([110] : Bs)).1))] ?_)
  obtain ⟨hp17, hF⟩ := hF
  refine Ok.op rfl (OpOk.f enr (fun W hW => whl_c (cutnS (lowerS xs) ([110] : Bs)).1 hp17) rfl ?_)
  refine Ok.b 5 [6] [(10, iv (whlS (cutnS (lowerS xs) ([110] : Bs)).1).1), (11, .bool (whlS (cutnS (lowerS xs) ([110] : Bs)).1).2)] ?_
  refine Ok.j (Ok.kn (Ok.t (Ok.v 10 rfl (show (iv (whlS (cutnS (lowerS xs) ([110] : Bs)).1).1 : Value) = iv (ntqV0 xs) from congrArg (Value.int .i64) ((Eq.trans ((if_f q0).symm) ((if_f v0).symm)))) (Ok.v 11 rfl (show (.bool (whlS (cutnS (lowerS xs) ([110] : Bs)).1).2 : Value) = .bool (ntqV1 xs) from congrArg (Value.bool) ((Eq.trans (mor_f q0) (mor_f v0)))) ?_))))
  exact fun a W hA hW => ⟨hA.sub kr, hW, hF⟩
 clear hF
 rintro a W ⟨hA, hW, hF⟩
 refine (?_ : Ok _ _ _ _ _ _) a W hA hW
 clear hA hW
 refine Ok.sr ((Ok.b 1 [6, 10, 11] [(12, iv 0)] ?_))
 refine Ok.nt ((Ok.cut (fun a W => StA 72 [(10, iv (ntqV0 xs)), (11, .bool (ntqV2 xs)), (12, iv (ntqV3 xs))] a ∧ StW w0 [] g W ∧ ntqj59 xs K) ?_ ?_))
 ·
  refine Ok.sr ((Ok.b 1 [6, 10, 11, 12] [(48, sv ((cutnS (lowerS xs) ([110] : Bs)).2.1))] ?_))
  refine Ok.op rfl (OpOk.s (v := .bool (!((cutnS (lowerS xs) ([110] : Bs)).2.1 == ([] : Bs)))) (Yields.sc (f := .neq) (a := (cutnS (lowerS xs) ([110] : Bs)).2.1) (b := ([] : Bs)) kr kr rfl) rfl rfl (Ok.nt ((Ok.cn hF rfl (fun hc8 => ?_) (fun hc8 => ?_)))))
  ·replace hF := hF.1 hc8
   refine Ok.sr ((Ok.b 1 [6, 10, 11] [] ?_))
   refine Ok.nt ((Ok.sr ((Ok.b 1 [6, 10, 11] [(51, sv ((cutnS (lowerS xs) ([110] : Bs)).2.1))] ?_))))
   obtain ⟨hp9, hF⟩ := hF
   refine Ok.op rfl (OpOk.f enr (fun W hW => whl_c (cutnS (lowerS xs) ([110] : Bs)).2.1 hp9) rfl ?_)
   refine Ok.b 5 [6, 10, 11] [(12, iv (whlS (cutnS (lowerS xs) ([110] : Bs)).2.1).1), (13, .bool (whlS (cutnS (lowerS xs) ([110] : Bs)).2.1).2)] ?_
   refine Ok.nt ((Ok.r (Ok.b 2 [6, 10, 12, 13] [(56, .bool (ntqV1 xs))] ?_)))
   refine Ok.w 2 [(6, sv ((cutnS (lowerS xs) ([110] : Bs)).2.1)), (10, iv (ntqV0 xs)), (12, iv (whlS (cutnS (lowerS xs) ([110] : Bs)).2.1).1), (58, .bool ((ntqV1 xs) && (whlS (cutnS (lowerS xs) ([110] : Bs)).2.1).2))] (fun x0 => ?_) ?_
   ·refine Ok.a 56 ((ntqV1 xs)) rfl (fun u0 => ?_) (fun u0 => ?_)
    ·skip
     refine Ok.b 2 [6, 10, 12] [(58, .bool (whlS (cutnS (lowerS xs) ([110] : Bs)).2.1).2)] ?_
     refine Ok.v 58 rfl (show (.bool (whlS (cutnS (lowerS xs) ([110] : Bs)).2.1).2 : Value) = .bool ((ntqV1 xs) && (whlS (cutnS (lowerS xs) ([110] : Bs)).2.1).2) from congrArg Value.bool (mand_t u0)) (Ok.b 0 [6, 10, 12] [(58, .bool ((ntqV1 xs) && (whlS (cutnS (lowerS xs) ([110] : Bs)).2.1).2))] ?_)
     exact x0
    skip
    refine Ok.b 2 [6, 10, 12] [(58, .bool false)] ?_
    refine Ok.v 58 rfl (show (.bool false : Value) = .bool ((ntqV1 xs) && (whlS (cutnS (lowerS xs) ([110] : Bs)).2.1).2) from congrArg Value.bool (mand_f u0)) (Ok.b 0 [6, 10, 12] [(58, .bool ((ntqV1 xs) && (whlS (cutnS (lowerS xs) ([110] : Bs)).2.1).2))] ?_)
    exact x0
   refine Ok.b 1 [6, 10, 12] [(59, .bool ((ntqV1 xs) && (whlS (cutnS (lowerS xs) ([110] : Bs)).2.1).2))] ?_
   refine Ok.a 59 (((ntqV1 xs) && (whlS (cutnS (lowerS xs) ([110] : Bs)).2.1).2)) rfl (fun k0 => ?_) (fun k0 => ?_)
   ·replace hF := hF.1 k0
    refine Ok.b 1 [6, 10, 12] [(59, .bool true), (60, sv ((cutnS (lowerS xs) ([110] : Bs)).2.1))] ?_
    obtain ⟨s0, h113, hF⟩ := hF
    have j0 := get_of (l := (cutnS (lowerS xs) ([110] : Bs)).2.1) (0 : UInt8) h113
    generalize b0 : (((cutnS (lowerS xs) ([110] : Bs)).2.1).getD (Int.toNat 0) 0) = e13 at j0 hF ⊢
    refine Ok.y (j := 4) (d := 59) (want := true) (b := true) rfl kr kr rfl (OpOk.s (v := .int .u8 (e13.toNat : Int)) (Yields.ix (k := .i64) (i := 0) (s := (cutnS (lowerS xs) ([110] : Bs)).2.1) (b := e13) kr kr Tryz.underlying9 s0 j0) rfl rfl (Ok.b 2 [6, 10, 12, 59] [(63, .bool ((e13.toNat : Int) == 43))] ?_))
    refine Ok.a 63 (((e13.toNat : Int) == 43)) rfl (fun y0 => ?_) (fun y0 => ?_)
    ·replace hF := hF.1 y0
     refine Ok.b 6 [10, 12] [(11, .bool true)] ?_
     refine Ok.j (Ok.t ?_)
     subst b0
     refine Ok.v 11 rfl (show (.bool true : Value) = .bool (ntqV2 xs) from congrArg (Value.bool) ((Eq.trans ((Eq.trans (mor_t y0) (mand_t k0))) ((if_t hc8).symm)))) (Ok.v 12 rfl (show (iv (whlS (cutnS (lowerS xs) ([110] : Bs)).2.1).1 : Value) = iv (ntqV3 xs) from congrArg (Value.int .i64) ((if_t hc8).symm)) ?_)
     exact fun a W hA hW => ⟨hA.sub kr, hW, hF⟩
    replace hF := hF.2 y0
    refine Ok.b 1 [10, 12, 59] [(63, .bool false), (64, sv ((cutnS (lowerS xs) ([110] : Bs)).2.1))] ?_
    refine Ok.y (j := 8) (d := 63) (want := false) (b := false) rfl kr kr rfl (OpOk.s (v := .int .u8 (e13.toNat : Int)) (Yields.ix (k := .i64) (i := 0) (s := (cutnS (lowerS xs) ([110] : Bs)).2.1) (b := e13) kr kr Tryz.underlying9 s0 j0) rfl rfl (Ok.b 4 [10, 12] [(11, .bool ((e13.toNat : Int) == 45))] ?_))
    refine Ok.j (Ok.t ?_)
    subst b0
    refine Ok.v 11 rfl (show (.bool (((((cutnS (lowerS xs) ([110] : Bs)).2.1).getD (Int.toNat 0) 0).toNat : Int) == 45) : Value) = .bool (ntqV2 xs) from congrArg (Value.bool) ((Eq.trans ((Eq.trans (mor_f y0) (mand_t k0))) ((if_t hc8).symm)))) (Ok.v 12 rfl (show (iv (whlS (cutnS (lowerS xs) ([110] : Bs)).2.1).1 : Value) = iv (ntqV3 xs) from congrArg (Value.int .i64) ((if_t hc8).symm)) ?_)
    exact fun a W hA hW => ⟨hA.sub kr, hW, hF⟩
   replace hF := hF.2 k0
   refine Ok.b 10 [10, 12] [(11, .bool false)] ?_
   refine Ok.nt ((Ok.v 11 rfl (show (.bool false : Value) = .bool (ntqV2 xs) from congrArg (Value.bool) ((Eq.trans (mand_f k0) ((if_t hc8).symm)))) (Ok.v 12 rfl (show (iv (whlS (cutnS (lowerS xs) ([110] : Bs)).2.1).1 : Value) = iv (ntqV3 xs) from congrArg (Value.int .i64) ((if_t hc8).symm)) ?_)))
   exact fun a W hA hW => ⟨hA.sub kr, hW, hF⟩
  replace hF := hF.2 hc8
  refine Ok.k (Ok.t (Ok.v 11 rfl (show (.bool (ntqV1 xs) : Value) = .bool (ntqV2 xs) from congrArg (Value.bool) ((if_f hc8).symm)) (Ok.v 12 rfl (show (iv 0 : Value) = iv (ntqV3 xs) from congrArg (Value.int .i64) ((if_f hc8).symm)) ?_)))
  exact fun a W hA hW => ⟨hA.sub kr, hW, hF⟩
 clear hF
 rintro a W ⟨hA, hW, hF⟩
 refine (?_ : Ok _ _ _ _ _ _) a W hA hW
 clear hA hW
 refine Ok.sr ((Ok.B 6 [(2, iv (ntqV0 xs)), (3, iv (ntqV3 xs)), (4, .bool (ntqV2 xs))] kr (Ok.nt ((Ok.ret ?_)))))
 exact Ok.resH (vs := [iv (ntqV0 xs), iv (ntqV3 xs), .bool (ntqV2 xs)]) (.inl rfl) rfl (.cons (.tmp rfl) (.cons (.tmp rfl) (.cons (.tmp rfl) .nil))) (Gext.r w0 g) ⟨(ntqV0 xs), (ntqV3 xs), (ntqV2 xs), rfl, rfl, hF⟩
def ntqP (s : Bs) : Prop := ∃ a b : Int, (-1000 ≤ a ∧ a ≤ 1000) ∧ (-1000 ≤ b ∧ b ≤ 1000) ∧ s = nthS a b
theorem index_mid {t : Bs} : ∀ (x : Bs), (∀ c ∈ x, (!(c == 110)) = true) → Lib.index (x ++ 110 :: t) [110] = x.length
 | [], _ => by
  rw [List.nil_append, Lib.index, if_pos (by simp [List.isPrefixOf])]; rfl
 | c :: x, h => by
  have ih := index_mid (t := t) x (fun y hy => h y (List.mem_cons_of_mem _ hy))
  have hc := h c (List.mem_cons_self ..)
  have hc : ¬ (c = 110) := by simpa using hc
  rw [List.cons_append, Lib.index, if_neg (by simp [List.isPrefixOf]; exact fun e => hc e.symm), ih, if_neg (by simp), List.length_cons]
  omega
theorem cut_mid {x t : Bs} (h : ∀ c ∈ x, (!(c == 110)) = true) : cutnS (x ++ 110 :: t) [110] = (x, t, true) := by
 have := index_mid (t := t) x h
 unfold cutnS Lib.cut
 rw [this, if_pos om]
 simp
theorem nth_mid {x t : Bs} {n m : Int} (hx : ∀ c ∈ x, (!(c == 110)) = true) (hX : NumF x n) (hT : NumF t m) (wx : numW x) (wt : numW t) (h43 : t.headD 0 = 43 ∨ t.headD 0 = 45) : ntqF (x ++ 110 :: t) (fun a b c => (a, b, c) = (vI x, vI t, true)) := by
 have hlo : lowerS (x ++ 110 :: t) = x ++ 110 :: t := by rw [lowerS, List.map_append, List.map_cons, show x.map lowB = x from hX.low, show t.map lowB = t from hT.low]; rfl
 have hc := cut_mid (t := t) hx
 have hX0 : ¬ (x = []) := fun e => by have := hX.one; rw [e] at this; simp at this
 have hT0 : ¬ (t = []) := fun e => by have := hT.one; rw [e] at this; simp at this
 have l1 := hX.len
 have l2 := hT.len
 have hlp : lowerP (x ++ 110 :: t) := by show (x ++ 110 :: t).length ≤ 140737488351232; simp only [List.length_append, List.length_cons]; omega
 have hcp : cutnP (x ++ 110 :: t) [110] := by show (x ++ 110 :: t).length ≤ 1000000; simp only [List.length_append, List.length_cons]; omega
 have e1 : ¬ (x ++ 110 :: t = [111, 100, 100]) := fun e => by
  have h1 := hX.n111
  match x, hX0 with
  | c :: x, _ => injection e with e1 e2; exact h1 e1
 have e2 : ¬ (x ++ 110 :: t = [101, 118, 101, 110]) := fun e => by
  have h1 := hX.n101
  match x, hX0 with
  | c :: x, _ => injection e with e1 e2; exact h1 e1
 have e3 : ¬ (x = [45]) := hX.n45
 have h0 : 0 < t.length := by have := hT.one; omega
 have g : t.getD 0 0 = 43 ∨ t.getD 0 0 = 45 := by
  match t, hT0 with
  | c :: t, _ => exact h43
 have g' : ((t[0]'h0).toNat : Int) = 43 ∨ ((t[0]'h0).toNat : Int) = 45 := by
  rw [show t[0]'h0 = t.getD 0 0 by simp [h0]]
  rcases g with g | g <;> rw [g] <;> decide
 simp only [ntqF, ntqj44, ntqj59, ntqV0, ntqV1, ntqV2, ntqV3, hlo, hc, whlS]
 simp [hlp, hcp, e1, e2, e3, hX0, hT0, wx, wt, h0]
 exact g'
theorem ntq_F (s : Bs) (hp : ntqP s) : ntqF s (fun a b c => (a, b, c) = nthV s) := by
 obtain ⟨a, b, ha, hb, rfl⟩ := hp
 have hv : ∀ x t : Bs, (∀ c ∈ x, (!(c == 110)) = true) → nthV (x ++ 110 :: t) = (vI x, vI t, true) := fun x t h => by
  obtain ⟨e1, e2⟩ := take_not (p := fun c => !(c == 110)) (b := 110) dc x t h
  unfold nthV
  rw [e1, e2]; rfl
 have fa := fit_all a ha
 have fb := fit_all b hb
 unfold nthS
 by_cases h : b < 0
 ·rw [if_pos h, hv _ _ (itoa_no a)]
  have hB := numF fb.1
  exact nth_mid (itoa_no a) (numF fa.1) hB ⟨a, ha, .inl rfl⟩ ⟨b, hb, .inl rfl⟩ (.inr (hB.sgn.resolve_right om))
 rw [if_neg h, hv _ _ (itoa_no a)]
 exact nth_mid (itoa_no a) (numF fa.1) (numF (fb.2 om)) ⟨a, ha, .inl rfl⟩ ⟨b, hb, .inr ⟨by omega, rfl⟩⟩ (.inl rfl)
theorem ntq_c {g : Ghost} (xs : Bs) (hG0 : SomeInt g 0)  (hp : ntqP xs) : CallsG Tryz.prog 149 #[sv xs] g (.tuple #[iv (nthV xs).1, iv (nthV xs).2.1, .bool (nthV xs).2.2]) :=
 (ntq_ok xs hG0 _ (ntq_F xs hp)).gives (by rintro g' H' v _ ⟨r0, r1, r2, rfl, rfl, hK⟩; obtain ⟨rfl, rfl, rfl⟩ : r0 = (nthV xs).1 ∧ r1 = (nthV xs).2.1 ∧ r2 = (nthV xs).2.2 := ⟨congrArg (fun z => z.1) hK, congrArg (fun z => z.2.1) hK, congrArg (fun z => z.2.2) hK⟩; rfl)
end Go.Proofs.YtcnhdkhkadiohaaGreatDoor.Se
namespace Go.Proofs.YtcnhdkhkadiohaaGreatDoor.Se
open Go Go.Eng Go.RowKit Go.Shelf Go.Proofs Bld Trm Css Tk Rp Qu Me Ti
set_option maxHeartbeats 4000000
set_option maxRecDepth 100000
set_option linter.unusedSimpArgs false
set_option linter.unusedVariables false
def cntl7b (xkind : Int) (K : (TS) → (List KT) → Prop) (z0 : Bs) (ybxr_0l7 : List KT) (C7 : Bs → (List KT) → Prop) : Prop :=
 rawP ybxr_0l7 ([41] : Bs) ∧ ((!((rwS ybxr_0l7 ([41] : Bs)).1)) = true → ((((pekS (rwS ybxr_0l7 ([41] : Bs)).2).1.1 == 0)) = true → False) ∧ ((((pekS (rwS ybxr_0l7 ([41] : Bs)).2).1.1 == 0)) = false → (0 : Int) ≤ 1 ∧ (1 : Int) ≤ (((pekS (rwS ybxr_0l7 ([41] : Bs)).2).2).length : Int) ∧ (((pekS (rwS ybxr_0l7 ([41] : Bs)).2).2).length : Int) ≤ (((pekS (rwS ybxr_0l7 ([41] : Bs)).2).2).length : Int) ∧ z0.length + ((pekS (rwS ybxr_0l7 ([41] : Bs)).2).1.2.1).length ≤ maxLen ∧ C7 (z0 ++ (pekS (rwS ybxr_0l7 ([41] : Bs)).2).1.2.1) (((pekS (rwS ybxr_0l7 ([41] : Bs)).2).2).drop (Int.toNat 1)))) ∧ ((!((rwS ybxr_0l7 ([41] : Bs)).1)) = false → ntqP z0 ∧ ((!((nthV z0).2.2)) = true → False) ∧ ((!((nthV z0).2.2)) = false → K (Tst.mk (xkind, ([] : Bs), 0, ([] : Bs), (nthV z0).1, (nthV z0).2.1) ([])) (rwS ybxr_0l7 ([41] : Bs)).2))
def cntl7 (xkind : Int) (K : (TS) → (List KT) → Prop) : Nat → Bs → (List KT) → Prop
 | 0, _, _ => False
 | k + 1, z0, ybxr_0l7 => cntl7b xkind K z0 ybxr_0l7 (cntl7 xkind K k)
def cntF (xr : List KT) (xkind : Int) (K : (TS) → (List KT) → Prop) : Prop :=
 ∃ k, cntl7 xkind K k ([] : Bs) xr
theorem cnt_ok {g : Ghost} {bxr : Nat} {axr_0 : Option Addr} {cxr_0 : Nat} (xr : List KT) (xkind : Int) (hRxr_0 : Rep g (.slice yK) [.slice axr_0 xr.length cxr_0] xr) (hG0 : SomeInt g 0) (K : (TS) → (List KT) → Prop)
  (hF : cntF xr xkind K) : CallsH Tryz.prog 135 #[pv bxr 0, iv xkind] g [.blk bxr (.cells #[.slice axr_0 xr.length cxr_0] 59)] (fun g' H' v => ∃ (r0 : TS), ∃ (fxr : List KT), ∃ (v0 : Option Addr) (q0 : Nat), ∃ (afxr_0 : Option Addr) (cfxr_0 : Nat), v = .agg (aL r0.lab v0 r0.kids.length q0) ∧ Rep g' (.slice yP) [.slice v0 r0.kids.length q0] r0.kids ∧ Rep g' (.slice yK) [.slice afxr_0 fxr.length cfxr_0] fxr ∧ H' = [.blk bxr (.cells #[.slice afxr_0 fxr.length cfxr_0] 59)] ∧ K r0 fxr) := by
 refine CallsH.enter 30 [(0, pv bxr 0), (1, iv xkind)] Tryz.func135 rfl kr kr kr fun w0 => ?_
 refine Ok.sr ((Ok.op rfl (OpOk.a (z := .agg #[iv 0, sv ([] : Bs), .int .u8 0, sv ([] : Bs), iv 0, iv 0, .slice none 0 0]) (cs := #[iv 0, sv ([] : Bs), .int .u8 0, sv ([] : Bs), iv 0, iv 0, .slice none 0 0]) kr kr rfl fun bs4 => ?_)))
 refine Ok.nt ((Ok.sr ((Ok.B 1 [(0, pv bxr 0), (1, iv xkind), (4, pv bs4 0), (5, sv ([] : Bs))] kr (Ok.nt ((Ok.q (Ok.block ?_))))))))
 obtain ⟨k, hF⟩ := hF
 refine Ok.L (fun k a W => ∃ gl7 : Ghost, Gext w0 g gl7 ∧ ∃ (z0 : Bs) (aybxr_0l7 : Option Addr) (cybxr_0l7 : Nat) (ybxr_0l7 : List KT), Rep gl7 (.slice yK) [.slice aybxr_0l7 ybxr_0l7.length cybxr_0l7] ybxr_0l7 ∧ StA 30 [(0, pv bxr 0), (1, iv xkind), (4, pv bs4 0), (5, sv z0)] a ∧ StW w0 [.blk bs4 (.cells #[iv 0, sv ([] : Bs), .int .u8 0, sv ([] : Bs), iv 0, iv 0, .slice none 0 0] 48), .blk bxr (.cells #[.slice aybxr_0l7 ybxr_0l7.length cybxr_0l7] 59)] gl7 W ∧ cntl7 xkind K k z0 ybxr_0l7) k ?_ ?_
 ·
  exact fun a W hA hW => ⟨g, (Gext.r w0 g), ([] : Bs), axr_0, cxr_0, xr, hRxr_0, hA.sub kr, hW, hF⟩
 clear hF
 rintro k7 a W ⟨gl7, j0, z0, aybxr_0l7, cybxr_0l7, ybxr_0l7, hRybxr_0l7, hA, hW, hF⟩
 cases k7 with
 | zero => exact (hF : False).elim
 | succ k7 =>
  refine (?_ : Ok _ _ _ _ _ _) a W hA hW
  clear hA hW
  replace hG0 := hG0.mono j0.1
  refine Ok.q (Ok.sr ((Ok.b 1 [0, 1, 4, 5] [(9, pv bxr 0)] ?_)))
  obtain ⟨hp2, hF⟩ := hF
  refine Ok.e [1, 0] [.blk bxr (.cells #[.slice aybxr_0l7 ybxr_0l7.length cybxr_0l7] 59), .blk bs4 (.cells #[iv 0, sv ([] : Bs), .int .u8 0, sv ([] : Bs), iv 0, iv 0, .slice none 0 0] 48)] dc rfl (Ok.op rfl (OpOk.callH [_] _ enr rfl (raw_c ybxr_0l7 ([41] : Bs) hRybxr_0l7 hp2) rfl fun g3 _ _ hx3 hV3 => ?_))
  obtain ⟨x0, s0, rfl, u0, rfl⟩ := hV3
  replace hG0 := hG0.mono hx3.1
  refine Ok.B 1 [(0, pv bxr 0), (1, iv xkind), (4, pv bs4 0), (5, sv z0), (11, .bool (!((rwS ybxr_0l7 ([41] : Bs)).1)))] kr (Ok.nt ((Ok.cn hF rfl (fun hc4 => ?_) (fun hc4 => ?_))))
  ·replace hF := hF.1 hc4
   refine Ok.k (Ok.t (Ok.block (Ok.r (Ok.b 2 [0, 1, 4] [(12, sv z0), (13, pv bxr 0)] ?_))))
   refine Ok.op rfl (OpOk.i (args := #[pv bxr 0]) 20 [(0, pv bxr 0)] enr Tryz.func74 rfl rfl rfl rfl (Ok.sr ((Ok.op rfl (OpOk.a (z := .agg zK) (cs := zK) kr kr rfl fun k0 => ?_)))))
   refine Ok.nt ((Ok.sr ((Ok.b 1 [0] [(2, pv k0 0), (4, pv bxr 0)] ?_))))
   refine Ok.e [1, 0, 2] [.blk bxr (.cells #[.slice x0 ((rwS ybxr_0l7 ([41] : Bs)).2).length s0] 59), .blk k0 (.cells zK 78), .blk bs4 (.cells #[iv 0, sv ([] : Bs), .int .u8 0, sv ([] : Bs), iv 0, iv 0, .slice none 0 0] 48)] dc rfl (Ok.op rfl (OpOk.callH [_] _ enr rfl (pek_c (rwS ybxr_0l7 ([41] : Bs)).2 u0) rfl fun g6 _ _ hx6 hV6 => ?_))
   obtain ⟨a6_0, c6_0, rfl, hR6_0, rfl⟩ := hV6
   replace hG0 := hG0.mono hx6.1
   refine Ok.op rfl (OpOk.a (z := .agg zK) (cs := zK) kr kr rfl fun y0 => ?_)
   refine Ok.op rfl (OpOk.sto (k := 4) (v := .agg #[iv (pekS (rwS ybxr_0l7 ([41] : Bs)).2).1.1, sv ((pekS (rwS ybxr_0l7 ([41] : Bs)).2).1.2.1), sv ((pekS (rwS ybxr_0l7 ([41] : Bs)).2).1.2.2.1), iv (pekS (rwS ybxr_0l7 ([41] : Bs)).2).1.2.2.2]) 0 #[iv (pekS (rwS ybxr_0l7 ([41] : Bs)).2).1.1, sv ((pekS (rwS ybxr_0l7 ([41] : Bs)).2).1.2.1), sv ((pekS (rwS ybxr_0l7 ([41] : Bs)).2).1.2.2.1), iv (pekS (rwS ybxr_0l7 ([41] : Bs)).2).1.2.2.2] rfl rfl rfl ?_)
   refine Ok.nt ((Ok.q (Ok.sr ((Ok.B 1 [(0, pv bxr 0), (2, pv k0 0), (3, pv y0 0), (6, pv y0 0)] kr (Ok.op rfl (OpOk.s (v := iv (pekS (rwS ybxr_0l7 ([41] : Bs)).2).1.1) (Yields.l 0 rfl rfl Tryz.underlying3 rfl kr) rfl rfl (Ok.b 1 [0, 2, 3] [(8, .bool ((pekS (rwS ybxr_0l7 ([41] : Bs)).2).1.1 == 0))] ?_))))))))
   refine Ok.nt ((Ok.cn hF rfl (fun hc8 => ?_) (fun hc8 => ?_)))
   ·replace hF := hF.1 hc8
    exact False.elim hF
   replace hF := hF.2 hc8
   refine Ok.k (Ok.t (Ok.sr ((Ok.b 4 [2, 3] [(11, pv bxr 0), (14, pv bxr 0)] ?_))))
   refine Ok.op rfl (OpOk.s (v := .slice a6_0 ((pekS (rwS ybxr_0l7 ([41] : Bs)).2).2).length c6_0) (Yields.l 1 rfl rfl Tryz.underlying56 rfl kr) rfl rfl ?_)
   obtain ⟨h09, h19, h29, hF⟩ := hF
   refine Ok.op rfl (OpOk.sliceRo (e := yK) (l := 1) (h := (((pekS (rwS ybxr_0l7 ([41] : Bs)).2).2).length : Int)) rfl Tryz.underlying56 kr (.inl ⟨_, _, rfl, rfl⟩) (.inr ⟨rfl, rfl⟩) hR6_0 h09 h19 h29 rfl (((pekS (rwS ybxr_0l7 ([41] : Bs)).2).2).drop (Int.toNat 1)) (by rw [show ((((pekS (rwS ybxr_0l7 ([41] : Bs)).2).2).length : Int)).toNat = ((pekS (rwS ybxr_0l7 ([41] : Bs)).2).2).length from Int.toNat_natCast _, List.take_length]) fun a9 c9 hR9 => ?_)
   refine Ok.b 2 [2, 3] [(16, .slice a9 (((pekS (rwS ybxr_0l7 ([41] : Bs)).2).2).drop (Int.toNat 1)).length c9), (18, pv bxr 0)] ?_
   refine Ok.op rfl (OpOk.sto (k := 1) (v := .slice a9 (((pekS (rwS ybxr_0l7 ([41] : Bs)).2).2).drop (Int.toNat 1)).length c9) 1 #[.slice a9 (((pekS (rwS ybxr_0l7 ([41] : Bs)).2).2).drop (Int.toNat 1)).length c9] rfl rfl rfl ?_)
   refine Ok.nt ((Ok.sr ((Ok.op rfl (OpOk.s (v := .agg #[iv (pekS (rwS ybxr_0l7 ([41] : Bs)).2).1.1, sv ((pekS (rwS ybxr_0l7 ([41] : Bs)).2).1.2.1), sv ((pekS (rwS ybxr_0l7 ([41] : Bs)).2).1.2.2.1), iv (pekS (rwS ybxr_0l7 ([41] : Bs)).2).1.2.2.2]) (Yields.loadAgg 0 4 #[iv (pekS (rwS ybxr_0l7 ([41] : Bs)).2).1.1, sv ((pekS (rwS ybxr_0l7 ([41] : Bs)).2).1.2.1), sv ((pekS (rwS ybxr_0l7 ([41] : Bs)).2).1.2.2.1), iv (pekS (rwS ybxr_0l7 ([41] : Bs)).2).1.2.2.2] rfl rfl Tryz.underlying78 rfl kr kr kr) rfl rfl (Ok.op rfl (OpOk.sto (k := 4) (v := .agg #[iv (pekS (rwS ybxr_0l7 ([41] : Bs)).2).1.1, sv ((pekS (rwS ybxr_0l7 ([41] : Bs)).2).1.2.1), sv ((pekS (rwS ybxr_0l7 ([41] : Bs)).2).1.2.2.1), iv (pekS (rwS ybxr_0l7 ([41] : Bs)).2).1.2.2.2]) 2 #[iv (pekS (rwS ybxr_0l7 ([41] : Bs)).2).1.1, sv ((pekS (rwS ybxr_0l7 ([41] : Bs)).2).1.2.1), sv ((pekS (rwS ybxr_0l7 ([41] : Bs)).2).1.2.2.1), iv (pekS (rwS ybxr_0l7 ([41] : Bs)).2).1.2.2.2] rfl rfl rfl ?_)))))))
   refine Ok.nt ((Ok.ret (Ok.back (vs := [.agg #[iv (pekS (rwS ybxr_0l7 ([41] : Bs)).2).1.1, sv ((pekS (rwS ybxr_0l7 ([41] : Bs)).2).1.2.1), sv ((pekS (rwS ybxr_0l7 ([41] : Bs)).2).1.2.2.1), iv (pekS (rwS ybxr_0l7 ([41] : Bs)).2).1.2.2.2]]) (.inl rfl) rfl (.cons (.cellAgg 2 4 #[iv (pekS (rwS ybxr_0l7 ([41] : Bs)).2).1.1, sv ((pekS (rwS ybxr_0l7 ([41] : Bs)).2).1.2.1), sv ((pekS (rwS ybxr_0l7 ([41] : Bs)).2).1.2.2.1), iv (pekS (rwS ybxr_0l7 ([41] : Bs)).2).1.2.2.2] rfl rfl Tryz.underlying78 rfl kr kr kr) .nil) rfl (Ok.B 1 [(0, pv bxr 0), (1, iv xkind), (4, pv bs4 0), (12, sv z0), (15, sv ((pekS (rwS ybxr_0l7 ([41] : Bs)).2).1.2.1))] kr ?_))))
   obtain ⟨hv, hF⟩ := hF
   refine Ok.op rfl (OpOk.s (v := sv (z0 ++ (pekS (rwS ybxr_0l7 ([41] : Bs)).2).1.2.1)) (Yields.sa rfl rfl hv) rfl rfl (Ok.b 1 [0, 1, 4] [(5, sv (z0 ++ (pekS (rwS ybxr_0l7 ([41] : Bs)).2).1.2.1))] ?_))
   refine Ok.j (Ok.kn (Ok.t ?_))
   exact fun a W hA hW => ⟨k7, Nat.lt_succ_self _, g6, ((j0.trans hx3).trans hx6), z0 ++ (pekS (rwS ybxr_0l7 ([41] : Bs)).2).1.2.1, a9, c9, (((pekS (rwS ybxr_0l7 ([41] : Bs)).2).2).drop (Int.toNat 1)), hR9, hA.sub kr, hW.pick [3, 1] _ dc rfl, hF⟩
  replace hF := hF.2 hc4
  refine Ok.x (Ok.thenE (Ok.thenE (Ok.blockHit (Ok.t (Ok.sr ((Ok.b 1 [0, 1, 4] [(18, sv z0)] ?_)))))))
  obtain ⟨hp10, hF⟩ := hF
  refine Ok.op rfl (OpOk.f enr (fun W hW => ntq_c z0 (hG0.mono hW.sees) hp10) rfl ?_)
  refine Ok.b 7 [0, 1, 4] [(6, iv (nthV z0).1), (7, iv (nthV z0).2.1), (8, .bool (nthV z0).2.2)] ?_
  refine Ok.nt ((Ok.sr ((Ok.b 2 [1, 4, 6, 7] [(23, pv bxr 0), (24, .bool (nthV z0).2.2)] ?_))))
  refine Ok.op rfl (OpOk.i (args := #[pv bxr 0, .bool (nthV z0).2.2]) 8 [(0, pv bxr 0), (1, .bool (nthV z0).2.2)] enr Tryz.func47 rfl rfl rfl rfl (Ok.sr ((Ok.B 2 [(5, .bool (!((nthV z0).2.2)))] kr (Ok.nt ((Ok.cn hF rfl (fun b0 => ?_) (fun b0 => ?_))))))))
  ·replace hF := hF.1 b0
   exact False.elim hF
  replace hF := hF.2 b0
  refine Ok.k (Ok.back (vs := []) (.inr rfl) rfl .nil rfl (Ok.nt ((Ok.sr ((Ok.B 4 [(4, pv bs4 0), (29, .agg #[iv xkind, sv ([] : Bs), .int .u8 0, sv ([] : Bs), iv (nthV z0).1, iv (nthV z0).2.1, .slice none 0 0])] kr (Ok.op rfl (OpOk.sto (k := 7) (v := .agg #[iv xkind, sv ([] : Bs), .int .u8 0, sv ([] : Bs), iv (nthV z0).1, iv (nthV z0).2.1, .slice none 0 0]) 1 #[iv xkind, sv ([] : Bs), .int .u8 0, sv ([] : Bs), iv (nthV z0).1, iv (nthV z0).2.1, .slice none 0 0] rfl rfl rfl ?_))))))))
  refine Ok.nt ((Ok.ret ?_))
  exact Ok.p (vs := [.agg #[iv xkind, sv ([] : Bs), .int .u8 0, sv ([] : Bs), iv (nthV z0).1, iv (nthV z0).2.1, .slice none 0 0]]) [0] [.blk bxr (.cells #[.slice x0 ((rwS ybxr_0l7 ([41] : Bs)).2).length s0] 59)] dc rfl (.inl rfl) rfl (.cons (.cellAgg 1 7 #[iv xkind, sv ([] : Bs), .int .u8 0, sv ([] : Bs), iv (nthV z0).1, iv (nthV z0).2.1, .slice none 0 0] rfl rfl Tryz.underlying48 rfl kr kr kr) .nil) (j0.trans hx3) ⟨(Tst.mk (xkind, ([] : Bs), 0, ([] : Bs), (nthV z0).1, (nthV z0).2.1) ([])), (rwS ybxr_0l7 ([41] : Bs)).2, none, 0, x0, s0, rfl, Rep.nil, u0, rfl, hF⟩
def cntP (r : Rd) (k : Int) : Prop := ∃ a b us rest, (-1000 ≤ a ∧ a ≤ 1000) ∧ (-1000 ≤ b ∧ b ≤ 1000) ∧ RunT (nthS a b) us ∧ r = us ++ clT :: rest
theorem nthS_len {a b : Int} (ha : -1000 ≤ a ∧ a ≤ 1000) (hb : -1000 ≤ b ∧ b ≤ 1000) : (nthS a b).length ≤ 100 := by
 have h1 := (numF (fit_all a ha).1).len
 have h2 := (numF (fit_all b hb).1).len
 unfold nthS
 split
 ·simp only [List.length_append, List.length_cons]; omega
 simp only [List.length_append, List.length_cons]; omega
theorem rw_hit (t : Tok) (r : Rd) {s : Bs} (h : t.2.1 = s) : rwS (t :: r) s = (true, r) := by
 unfold rwS
 rw [pek_cons, if_neg (by simp [h])]; rfl
theorem rw_miss (t : Tok) (r : Rd) {s : Bs} (h : t.2.1 ≠ s) : rwS (t :: r) s = (false, t :: r) := by
 unfold rwS
 rw [pek_cons, if_pos (by simpa using h)]
theorem cnt_loop (k : Int) {a b : Int} (ha : -1000 ≤ a ∧ a ≤ 1000) (hb : -1000 ≤ b ∧ b ≤ 1000) (rest : Rd) (K : Ts → Rd → Prop) (hK : K (.mk (k, [], 0, [], (nthV (nthS a b)).1, (nthV (nthS a b)).2.1) []) rest) : ∀ (us : List Tok) (acc : Bs), acc ++ (us.map fun t => t.2.1).flatten = nthS a b → (∀ t ∈ us, t.1 ≠ 0 ∧ t.2.1 ≠ [41]) → cntl7 k K (us.length + 1) acc (us ++ clT :: rest)
 | [], acc, h, _ => by
  have h : acc = nthS a b := by simpa using h
  subst h
  rw [cntl7, List.nil_append]
  unfold cntl7b
  rw [rw_hit clT rest rfl]
  exact ⟨by unfold rawP; simp, fun h => (by cases h), fun _ => ⟨⟨a, b, ha, hb, rfl⟩, fun h => (by cases h), fun _ => hK⟩⟩
 | t :: us, acc, h, hu => by
  obtain ⟨h1, h2⟩ := hu t (List.mem_cons_self ..)
  have hl := nthS_len ha hb
  rw [← h] at hl
  simp only [List.map_cons, List.flatten_cons, List.length_append] at hl
  have ih := cnt_loop k ha hb rest K hK us (acc ++ t.2.1) (by rw [← h]; simp) (fun y hy => hu y (List.mem_cons_of_mem _ hy))
  rw [cntl7, List.cons_append]
  unfold cntl7b
  rw [rw_miss t _ h2]
  exact ⟨by unfold rawP; simp, fun _ => ⟨fun h => absurd (eq_of_beq h) h1, fun _ => ⟨by decide, by show (1 : Int) ≤ ((t :: (us ++ clT :: rest)).length : Int); rw [List.length_cons]; omega, Int.le_refl _, (by show acc.length + t.2.1.length ≤ 9223372036854775807; omega), ih⟩⟩, fun h => (by cases h)⟩
theorem cnt_F (r : Rd) (k : Int) (hp : cntP r k) : cntF r k (fun a b => (a, b) = cntR r k) := by
 obtain ⟨a, b, us, rest, ha, hb, hu, rfl⟩ := hp
 refine ⟨_, cnt_loop k ha hb rest _ ?_ us [] hu.1 hu.2⟩
 unfold cntR
 rw [run_read hu]
theorem cnt_c {g : Ghost} {bxr : Nat} {axr_0 : Option Addr} {cxr_0 : Nat} (xr : List KT) (xkind : Int) (hRxr_0 : Rep g (.slice yK) [.slice axr_0 xr.length cxr_0] xr) (hG0 : SomeInt g 0)  (hp : cntP xr xkind) : CallsH Tryz.prog 135 #[pv bxr 0, iv xkind] g [.blk bxr (.cells #[.slice axr_0 xr.length cxr_0] 59)] (fun g' H' v => ∃ (v0 : Option Addr) (q0 : Nat), ∃ (afxr_0 : Option Addr) (cfxr_0 : Nat), v = .agg #[iv ((cntR xr xkind).1).lab.1, sv (((cntR xr xkind).1).lab.2.1), .int .u8 ((cntR xr xkind).1).lab.2.2.1, sv (((cntR xr xkind).1).lab.2.2.2.1), iv ((cntR xr xkind).1).lab.2.2.2.2.1, iv ((cntR xr xkind).1).lab.2.2.2.2.2, .slice v0 ((cntR xr xkind).1).kids.length q0] ∧ Rep g' (.slice yP) [.slice v0 ((cntR xr xkind).1).kids.length q0] ((cntR xr xkind).1).kids ∧ Rep g' (.slice yK) [.slice afxr_0 ((cntR xr xkind).2).length cfxr_0] (cntR xr xkind).2 ∧ H' = [.blk bxr (.cells #[.slice afxr_0 ((cntR xr xkind).2).length cfxr_0] 59)]) :=
 (cnt_ok xr xkind hRxr_0 hG0 _ (cnt_F xr xkind hp)).mono (by rintro g' H' v _ ⟨r0, fxr, v0, q0, afxr_0, cfxr_0, rfl, hRr0_0, hRfxr_0, rfl, hK⟩; obtain ⟨rfl, rfl⟩ : r0 = (cntR xr xkind).1 ∧ fxr = (cntR xr xkind).2 := ⟨congrArg (fun z => z.1) hK, congrArg (fun z => z.2) hK⟩; exact ⟨v0, q0, afxr_0, cfxr_0, rfl, hRr0_0, hRfxr_0, rfl⟩)
end Go.Proofs.YtcnhdkhkadiohaaGreatDoor.Se
