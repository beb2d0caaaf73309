/- selector: its reader, by the program. -/
import Derived.Test.YtcnhdkhkadiohaaGreatDoorSye
namespace Go.Proofs.YtcnhdkhkadiohaaGreatDoor.Se
open Go Go.Eng Go.RowKit Go.Shelf Go.Proofs Bld Trm Css Tk Rp Qu Me Ti
set_option maxHeartbeats 4000000
set_option maxRecDepth 100000
set_option linter.unusedSimpArgs false
set_option linter.unusedVariables false
abbrev fuel (r : Rd) : Nat := 8 * r.length + 8
def pssR (r : Rd) : Ts × Rd := pssN (fuel r) r
def oneR (r : Rd) : Ts × Bool × Rd := oneN (fuel r) r
def stpR (r : Rd) : List Ts × Rd := stpN (fuel r) r
def pthR (r : Rd) : Ph × Rd := pthN (fuel r) r
def lstR (r : Rd) (e : Bs) : List Ph × Rd := lstN (fuel r) r e
/-- what is read is not large -/
def BigR (r : Rd) : Prop := r.length ≤ 1000 ∧ ∀ t ∈ r, t.2.1.length ≤ 1000
theorem BigR.tail {t : Tok} {r : Rd} (h : BigR (t :: r)) : BigR r := ⟨by have := h.1; rw [List.length_cons] at this; omega, fun y hy => h.2 y (List.mem_cons_of_mem _ hy)⟩
theorem BigR.app {a r : Rd} (h : BigR (a ++ r)) : BigR r := ⟨by have := h.1; rw [List.length_append] at this; omega, fun y hy => h.2 y (List.mem_append_right _ hy)⟩
theorem BigR.head {t : Tok} {r : Rd} (h : BigR (t :: r)) : t.2.1.length ≤ 1000 := h.2 t (List.mem_cons_self ..)
def pssP (N : Nat) (r : Rd) : Prop := ∃ t i ts rest, okT t i = true ∧ 6 ≤ t.lab.1 ∧ TkT t (sg 58 :: ts) ∧ r = ts ++ rest ∧ 8 * ts.length + 7 < N ∧ BigR r
def oneP (N : Nat) (r : Rd) : Prop := (∃ t i ts rest, okT t i = true ∧ TkT t ts ∧ r = ts ++ rest ∧ 8 * ts.length + 1 < N ∧ BigR r) ∨ (ntR r = true ∧ 0 < N)
def stpP (N : Nat) (r : Rd) : Prop := ∃ s k ts rest, s ≠ [] ∧ ok1 s k = true ∧ Tk1 s ts ∧ ntR rest = true ∧ r = ts ++ rest ∧ 8 * ts.length + 3 < N ∧ BigR r
def pthP (N : Nat) (r : Rd) : Prop := ∃ p js ts rest, p ≠ [] ∧ ok2 p = true ∧ (∀ z ∈ js, jnB z = true) ∧ js.length + 1 = p.length ∧ Tk2 p js ts ∧ endR rest = true ∧ r = ts ++ rest ∧ 8 * ts.length + 5 < N ∧ BigR r
def lstP (N : Nat) (r : Rd) (e : Bs) : Prop := ∃ l p js a b fin rest, ok3 ((p, js) :: l) = true ∧ Tk2 p js a ∧ Tr3 l b ∧ LEnd e fin rest ∧ r = a ++ (b ++ fin) ∧ 8 * (a.length + b.length) + 8 < N ∧ BigR r
theorem fuel_app (a b : Rd) : fuel (a ++ b) = 8 * (a.length + b.length) + 8 := by show 8 * (a ++ b).length + 8 = _; rw [List.length_append]
theorem pss_eq {t : Ts} {i : Int} {ts : List Tok} (hi : okT t i = true) (h : TkT t (sg 58 :: ts)) (rest : Rd) : pssR (ts ++ rest) = (t, rest) := by
 obtain ⟨-, h2⟩ := oneAll t i hi _ h
 have h3 := h2 rest (fuel (ts ++ rest) + 1) (by rw [fuel_app, List.length_cons]; omega)
 have e : oneN (fuel (ts ++ rest) + 1) (sg 58 :: (ts ++ rest)) = ((pssN (fuel (ts ++ rest)) (ts ++ rest)).1, true, (pssN (fuel (ts ++ rest)) (ts ++ rest)).2) := by
  rw [oneN]
  simp [pekS]
 rw [List.cons_append, e] at h3
 have a1 := congrArg (fun q => q.1) h3
 have a2 := congrArg (fun q => q.2.2) h3
 exact Prod.ext a1 a2
theorem one_eq {t : Ts} {i : Int} {ts : List Tok} (hi : okT t i = true) (h : TkT t ts) (rest : Rd) : oneR (ts ++ rest) = (t, true, rest) :=
 (oneAll t i hi _ h).2 rest _ (by rw [fuel_app]; omega)
theorem stp_eq {s : List Ts} {k : Int} {ts : List Tok} (hi : ok1 s k = true) (h : Tk1 s ts) {rest : Rd} (hr : ntR rest = true) : stpR (ts ++ rest) = (s, rest) :=
 stp_read (fun t _ => oneAll t) hi _ h rest hr _ (by rw [fuel_app]; omega)
theorem pth_eq {p : List (List Ts)} {js : List Int} {ts : List Tok} (ho : ok2 p = true) (hne : p ≠ []) (hj : ∀ z ∈ js, jnB z = true) (hl : js.length + 1 = p.length) (h : Tk2 p js ts) {rest : Rd} (hr : endR rest = true) : pthR (ts ++ rest) = ((p, js), rest) :=
 pth_read (fun _ _ t _ => oneAll t) ho hne hj hl ts h rest hr _ (by rw [fuel_app]; omega)
theorem ok3_first {l : List Ph} {p : List (List Ts)} {js : List Int} (ho : ok3 ((p, js) :: l) = true) : (p ≠ [] ∧ js.length + 1 = p.length) ∧ ok2 p = true ∧ ∀ z ∈ js, jnB z = true := by
 obtain ⟨h, q3, q4⟩ := ok3_in ho (List.mem_cons_self ..)
 exact ⟨h, q3, fun z hz => List.all_eq_true.1 q4 z hz⟩
theorem gap_first {l : List Ph} {p : List (List Ts)} {js : List Int} (ho : ok3 ((p, js) :: l) = true) {a : List Tok} (ha : Tk2 p js a) (w : Rd) : gapS (a ++ w) = (false, a ++ w) := by
 obtain ⟨⟨r1, r2⟩, r3, r4⟩ := ok3_first ho
 obtain ⟨y, q, rfl, hy⟩ := tk2_head r1 r3 ha
 exact gap_head hy
theorem lst_eq {l : List Ph} {p : List (List Ts)} {js : List Int} (ho : ok3 ((p, js) :: l) = true) {a b : List Tok} (ha : Tk2 p js a) (hb : Tr3 l b) {e : Bs} {fin rest : Rd} (hF : LEnd e fin rest) : lstR (a ++ (b ++ fin)) e = ((p, js) :: l, rest) :=
 lst_read (fun _ _ _ _ t _ => oneAll t) ho a b ha hb e fin rest hF _ (by rw [gap_first ho ha]) _ (by rw [fuel_app, List.length_append]; omega)
/-- a test that bears paths -/
theorem kids_of {t : Ts} {i : Int} (hi : okT t i = true) (hk : t.lab.1 = 10 ∨ t.lab.1 = 11) : ∃ p js l, t.kids = (p, js) :: l ∧ ok3 ((p, js) :: l) = true := by
 rw [okT_eq, Bool.and_eq_true] at hi
 have h2 := hi.2
 rw [if_pos (by rcases hk with h | h <;> rw [h] <;> rfl)] at h2
 simp only [ptsS, Bool.and_eq_true] at h2
 match hl : t.kids with
 | [] =>
  have := of_decide_eq_true h2.2
  rw [hl] at this
  simp at this
 | (p, js) :: l => rw [hl] at h2; exact ⟨p, js, l, rfl, h2.1⟩
def pss_C (N : Nat) : Prop := ∀ (g : Ghost) {bxr : Nat} {axr_0 : Option Addr} {cxr_0 : Nat} (xr : List KT) (hRxr_0 : Rep g (.slice yK) [.slice axr_0 xr.length cxr_0] xr) (hG0 : SomeInt g 0)  (hp : pssP N xr), CallsH Tryz.prog 117 #[pv bxr 0] g [.blk bxr (.cells #[.slice axr_0 xr.length cxr_0] 59)] (fun g' H' v => ∃ (Y0 : Option Addr) (U0 : Nat), ∃ (afxr_0 : Option Addr) (cfxr_0 : Nat), v = .agg #[iv ((pssR xr).1).lab.1, sv (((pssR xr).1).lab.2.1), .int .u8 ((pssR xr).1).lab.2.2.1, sv (((pssR xr).1).lab.2.2.2.1), iv ((pssR xr).1).lab.2.2.2.2.1, iv ((pssR xr).1).lab.2.2.2.2.2, .slice Y0 ((pssR xr).1).kids.length U0] ∧ Rep g' (.slice yP) [.slice Y0 ((pssR xr).1).kids.length U0] ((pssR xr).1).kids ∧ Rep g' (.slice yK) [.slice afxr_0 ((pssR xr).2).length cfxr_0] (pssR xr).2 ∧ H' = [.blk bxr (.cells #[.slice afxr_0 ((pssR xr).2).length cfxr_0] 59)])
def one_C (N : Nat) : Prop := ∀ (g : Ghost) {bxr : Nat} {axr_0 : Option Addr} {cxr_0 : Nat} (xr : List KT) (hRxr_0 : Rep g (.slice yK) [.slice axr_0 xr.length cxr_0] xr) (hG0 : SomeInt g 0)  (hp : oneP N xr), CallsH Tryz.prog 101 #[pv bxr 0] g [.blk bxr (.cells #[.slice axr_0 xr.length cxr_0] 59)] (fun g' H' v => ∃ (Y0 : Option Addr) (U0 : Nat), ∃ (afxr_0 : Option Addr) (cfxr_0 : Nat), v = .tuple #[.agg #[iv ((oneR xr).1).lab.1, sv (((oneR xr).1).lab.2.1), .int .u8 ((oneR xr).1).lab.2.2.1, sv (((oneR xr).1).lab.2.2.2.1), iv ((oneR xr).1).lab.2.2.2.2.1, iv ((oneR xr).1).lab.2.2.2.2.2, .slice Y0 ((oneR xr).1).kids.length U0], .bool (oneR xr).2.1] ∧ Rep g' (.slice yP) [.slice Y0 ((oneR xr).1).kids.length U0] ((oneR xr).1).kids ∧ Rep g' (.slice yK) [.slice afxr_0 ((oneR xr).2.2).length cfxr_0] (oneR xr).2.2 ∧ H' = [.blk bxr (.cells #[.slice afxr_0 ((oneR xr).2.2).length cfxr_0] 59)])
def stp_C (N : Nat) : Prop := ∀ (g : Ghost) {bxr : Nat} {axr_0 : Option Addr} {cxr_0 : Nat} (xr : List KT) (hRxr_0 : Rep g (.slice yK) [.slice axr_0 xr.length cxr_0] xr) (hG0 : SomeInt g 0)  (hp : stpP N xr), CallsH Tryz.prog 73 #[pv bxr 0] g [.blk bxr (.cells #[.slice axr_0 xr.length cxr_0] 59)] (fun g' H' v => ∃ (Y0 : Option Addr) (U0 : Nat), ∃ (afxr_0 : Option Addr) (cfxr_0 : Nat), v = .slice Y0 ((stpR xr).1).length U0 ∧ Rep g' (.slice yS) [.slice Y0 ((stpR xr).1).length U0] (stpR xr).1 ∧ Rep g' (.slice yK) [.slice afxr_0 ((stpR xr).2).length cfxr_0] (stpR xr).2 ∧ H' = [.blk bxr (.cells #[.slice afxr_0 ((stpR xr).2).length cfxr_0] 59)])
def pth_C (N : Nat) : Prop := ∀ (g : Ghost) {bxr : Nat} {axr_0 : Option Addr} {cxr_0 : Nat} (xr : List KT) (hRxr_0 : Rep g (.slice yK) [.slice axr_0 xr.length cxr_0] xr) (hG0 : SomeInt g 0)  (hp : pthP N xr), CallsH Tryz.prog 45 #[pv bxr 0] g [.blk bxr (.cells #[.slice axr_0 xr.length cxr_0] 59)] (fun g' H' v => ∃ (Y0 : Option Addr) (U0 : Nat), ∃ (g1 : Option Addr) (m1 : Nat), ∃ (afxr_0 : Option Addr) (cfxr_0 : Nat), v = .agg #[.slice Y0 (pthR xr).1.1.length U0, .slice g1 (pthR xr).1.2.length m1] ∧ Rep g' (.slice (.slice yS)) [.slice Y0 (pthR xr).1.1.length U0] (pthR xr).1.1 ∧ Rep g' (.slice yb) [.slice g1 (pthR xr).1.2.length m1] (pthR xr).1.2 ∧ Rep g' (.slice yK) [.slice afxr_0 ((pthR xr).2).length cfxr_0] (pthR xr).2 ∧ H' = [.blk bxr (.cells #[.slice afxr_0 ((pthR xr).2).length cfxr_0] 59)])
def lst_C (N : Nat) : Prop := ∀ (g : Ghost) {bxr : Nat} {axr_0 : Option Addr} {cxr_0 : Nat} (xr : List KT) (xend : Bs) (hRxr_0 : Rep g (.slice yK) [.slice axr_0 xr.length cxr_0] xr) (hG0 : SomeInt g 0)  (hp : lstP N xr xend), CallsH Tryz.prog 28 #[pv bxr 0, sv xend] g [.blk bxr (.cells #[.slice axr_0 xr.length cxr_0] 59)] (fun g' H' v => ∃ (Y0 : Option Addr) (U0 : Nat), ∃ (afxr_0 : Option Addr) (cfxr_0 : Nat), v = .slice Y0 ((lstR xr xend).1).length U0 ∧ Rep g' (.slice yP) [.slice Y0 ((lstR xr xend).1).length U0] (lstR xr xend).1 ∧ Rep g' (.slice yK) [.slice afxr_0 ((lstR xr xend).2).length cfxr_0] (lstR xr xend).2 ∧ H' = [.blk bxr (.cells #[.slice afxr_0 ((lstR xr xend).2).length cfxr_0] 59)])
def pssV0 (xr : List KT) : Bool :=
 (((pekS xr).1.1 == 1) && ((pekS xr).1.2.1 == (pekS xr).1.2.2.1))
def pssV1 (xr : List KT) : Bool :=
 (((pekS xr).1.1 == 2) && ((pekS xr).1.2.1 == ((pekS xr).1.2.2.1 ++ ([40] : Bs))))
def pssj5 : Prop :=
 False
def pssj40 (N : Nat) (xr : List KT) (K : (TS) → (List KT) → Prop) : Prop :=
 (((pssV1 xr)) = true → ((((lowerS (pekS xr).1.2.2.1) == ([110, 116, 104, 45, 99, 104, 105, 108, 100] : Bs))) = true → cntP (((pekS xr).2).drop (Int.toNat 1)) 8 ∧ K (cntR (((pekS xr).2).drop (Int.toNat 1)) 8).1 (cntR (((pekS xr).2).drop (Int.toNat 1)) 8).2) ∧ ((((lowerS (pekS xr).1.2.2.1) == ([110, 116, 104, 45, 99, 104, 105, 108, 100] : Bs))) = false → ((((lowerS (pekS xr).1.2.2.1) == ([110, 116, 104, 45, 108, 97, 115, 116, 45, 99, 104, 105, 108, 100] : Bs))) = true → cntP (((pekS xr).2).drop (Int.toNat 1)) 9 ∧ K (cntR (((pekS xr).2).drop (Int.toNat 1)) 9).1 (cntR (((pekS xr).2).drop (Int.toNat 1)) 9).2) ∧ ((((lowerS (pekS xr).1.2.2.1) == ([110, 116, 104, 45, 108, 97, 115, 116, 45, 99, 104, 105, 108, 100] : Bs))) = false → ((((lowerS (pekS xr).1.2.2.1) == ([110, 111, 116] : Bs))) = true → lstP N (((pekS xr).2).drop (Int.toNat 1)) ([41] : Bs) ∧ K (Tst.mk (10, ([] : Bs), 0, ([] : Bs), 0, 0) (lstR (((pekS xr).2).drop (Int.toNat 1)) ([41] : Bs)).1) (lstR (((pekS xr).2).drop (Int.toNat 1)) ([41] : Bs)).2) ∧ ((((lowerS (pekS xr).1.2.2.1) == ([110, 111, 116] : Bs))) = false → ((((lowerS (pekS xr).1.2.2.1) == ([105, 115] : Bs))) = true → lstP N (((pekS xr).2).drop (Int.toNat 1)) ([41] : Bs) ∧ K (Tst.mk (11, ([] : Bs), 0, ([] : Bs), 0, 0) (lstR (((pekS xr).2).drop (Int.toNat 1)) ([41] : Bs)).1) (lstR (((pekS xr).2).drop (Int.toNat 1)) ([41] : Bs)).2) ∧ ((((lowerS (pekS xr).1.2.2.1) == ([105, 115] : Bs))) = false → pssj5))))) ∧ (((pssV1 xr)) = false → pssj5)
def pssj9 (N : Nat) (xr : List KT) (K : (TS) → (List KT) → Prop) : Prop :=
 (((pssV0 xr)) = true → ((((lowerS (pekS xr).1.2.2.1) == ([114, 111, 111, 116] : Bs))) = true → K (Tst.mk (6, ([] : Bs), 0, ([] : Bs), 0, 0) ([])) (((pekS xr).2).drop (Int.toNat 1))) ∧ ((((lowerS (pekS xr).1.2.2.1) == ([114, 111, 111, 116] : Bs))) = false → ((((lowerS (pekS xr).1.2.2.1) == ([101, 109, 112, 116, 121] : Bs))) = true → K (Tst.mk (7, ([] : Bs), 0, ([] : Bs), 0, 0) ([])) (((pekS xr).2).drop (Int.toNat 1))) ∧ ((((lowerS (pekS xr).1.2.2.1) == ([101, 109, 112, 116, 121] : Bs))) = false → ((((lowerS (pekS xr).1.2.2.1) == ([102, 105, 114, 115, 116, 45, 99, 104, 105, 108, 100] : Bs))) = true → K (Tst.mk (8, ([] : Bs), 0, ([] : Bs), 0, 1) ([])) (((pekS xr).2).drop (Int.toNat 1))) ∧ ((((lowerS (pekS xr).1.2.2.1) == ([102, 105, 114, 115, 116, 45, 99, 104, 105, 108, 100] : Bs))) = false → ((((lowerS (pekS xr).1.2.2.1) == ([108, 97, 115, 116, 45, 99, 104, 105, 108, 100] : Bs))) = true → K (Tst.mk (9, ([] : Bs), 0, ([] : Bs), 0, 1) ([])) (((pekS xr).2).drop (Int.toNat 1))) ∧ ((((lowerS (pekS xr).1.2.2.1) == ([108, 97, 115, 116, 45, 99, 104, 105, 108, 100] : Bs))) = false → pssj5))))) ∧ (((pssV0 xr)) = false → ((((pekS xr).1.1 == 2)) = true → ((pekS xr).1.2.2.1).length + ([40] : Bs).length ≤ maxLen ∧ pssj40 N xr K) ∧ ((((pekS xr).1.1 == 2)) = false → pssj40 N xr K))
def pssF (N : Nat) (xr : List KT) (K : (TS) → (List KT) → Prop) : Prop :=
 ((((pekS xr).1.1 == 0)) = true → False) ∧ ((((pekS xr).1.1 == 0)) = false → (0 : Int) ≤ 1 ∧ (1 : Int) ≤ (((pekS xr).2).length : Int) ∧ (((pekS xr).2).length : Int) ≤ (((pekS xr).2).length : Int) ∧ lowerP (pekS xr).1.2.2.1 ∧ ((((pekS xr).1.1 == 1)) = true → pssj9 N xr K) ∧ ((((pekS xr).1.1 == 1)) = false → pssj9 N xr K))
theorem pss_ok {g : Ghost} (N : Nat) (ih_pss : pss_C N) (ih_one : one_C N) (ih_stp : stp_C N) (ih_pth : pth_C N) (ih_lst : lst_C N) {bxr : Nat} {axr_0 : Option Addr} {cxr_0 : Nat} (xr : List KT) (hRxr_0 : Rep g (.slice yK) [.slice axr_0 xr.length cxr_0] xr) (hG0 : SomeInt g 0) (K : (TS) → (List KT) → Prop)
  (hF : pssF N xr K) : CallsH Tryz.prog 117 #[pv bxr 0] g [.blk bxr (.cells #[.slice axr_0 xr.length cxr_0] 59)] (fun g' H' v => ∃ (r0 : TS), ∃ (fxr : List KT), ∃ (Y0 : Option Addr) (U0 : Nat), ∃ (afxr_0 : Option Addr) (cfxr_0 : Nat), v = .agg (aL r0.lab Y0 r0.kids.length U0) ∧ Rep g' (.slice yP) [.slice Y0 r0.kids.length U0] r0.kids ∧ Rep g' (.slice yK) [.slice afxr_0 fxr.length cfxr_0] fxr ∧ H' = [.blk bxr (.cells #[.slice afxr_0 fxr.length cfxr_0] 59)] ∧ K r0 fxr) := by
 refine CallsH.enter 67 [(0, pv bxr 0)] Tryz.func117 rfl kr kr kr fun w0 => ?_
 refine Ok.sr ((Ok.op rfl (OpOk.a (z := .agg #[iv 0, sv ([] : Bs), .int .u8 0, sv ([] : Bs), iv 0, iv 0, .slice none 0 0]) (cs := #[iv 0, sv ([] : Bs), .int .u8 0, sv ([] : Bs), iv 0, iv 0, .slice none 0 0]) kr kr rfl fun bs2 => ?_)))
 refine Ok.nt ((Ok.sr ((Ok.B 1 [(0, pv bxr 0), (2, pv bs2 0), (5, pv bxr 0)] kr (Ok.op rfl (OpOk.i (args := #[pv bxr 0]) 20 [(0, pv bxr 0)] enr Tryz.func74 rfl rfl rfl rfl (Ok.sr ((Ok.op rfl (OpOk.a (z := .agg zK) (cs := zK) kr kr rfl fun S2 => ?_))))))))))
 refine Ok.nt ((Ok.sr ((Ok.b 1 [0] [(2, pv S2 0), (4, pv bxr 0)] ?_))))
 refine Ok.e [2, 0, 1] [.blk bxr (.cells #[.slice axr_0 xr.length cxr_0] 59), .blk S2 (.cells zK 78), .blk bs2 (.cells #[iv 0, sv ([] : Bs), .int .u8 0, sv ([] : Bs), iv 0, iv 0, .slice none 0 0] 48)] dc rfl (Ok.op rfl (OpOk.callH [_] _ enr rfl (pek_c xr hRxr_0) rfl fun g3 _ _ hx3 hV3 => ?_))
 obtain ⟨V2, Q2, rfl, B2, rfl⟩ := hV3
 replace hG0 := hG0.mono hx3.1
 refine Ok.op rfl (OpOk.a (z := .agg zK) (cs := zK) kr kr rfl fun v3 => ?_)
 refine Ok.op rfl (OpOk.sto (k := 4) (v := .agg (aK (pekS xr).1)) 0 (aK (pekS xr).1) rfl rfl rfl ?_)
 refine Ok.nt ((Ok.q (Ok.sr ((Ok.B 1 [(0, pv bxr 0), (2, pv S2 0), (3, pv v3 0), (6, pv v3 0)] kr (Ok.op rfl (OpOk.s (v := iv (pekS xr).1.1) (Yields.l 0 rfl rfl Tryz.underlying3 rfl kr) rfl rfl (Ok.b 1 [0, 2, 3] [(8, .bool ((pekS xr).1.1 == 0))] ?_))))))))
 refine Ok.nt ((Ok.cn hF rfl (fun hc5 => ?_) (fun hc5 => ?_)))
 ·replace hF := hF.1 hc5
  exact False.elim hF
 replace hF := hF.2 hc5
 refine Ok.k (Ok.t (Ok.sr ((Ok.b 4 [2, 3] [(11, pv bxr 0), (14, pv bxr 0)] ?_))))
 refine Ok.op rfl (OpOk.s (v := .slice V2 ((pekS xr).2).length Q2) (Yields.l 1 rfl rfl Tryz.underlying56 rfl kr) rfl rfl ?_)
 obtain ⟨h06, h16, h26, hF⟩ := hF
 refine Ok.op rfl (OpOk.sliceRo (e := yK) (l := 1) (h := (((pekS xr).2).length : Int)) rfl Tryz.underlying56 kr (.inl ⟨_, _, rfl, rfl⟩) (.inr ⟨rfl, rfl⟩) B2 h06 h16 h26 rfl (((pekS xr).2).drop (Int.toNat 1)) (by rw [show ((((pekS xr).2).length : Int)).toNat = ((pekS xr).2).length from Int.toNat_natCast _, List.take_length]) fun a6 c6 hR6 => ?_)
 refine Ok.b 2 [2, 3] [(16, .slice a6 (((pekS xr).2).drop (Int.toNat 1)).length c6), (18, pv bxr 0)] ?_
 refine Ok.op rfl (OpOk.sto (k := 1) (v := .slice a6 (((pekS xr).2).drop (Int.toNat 1)).length c6) 1 #[.slice a6 (((pekS xr).2).drop (Int.toNat 1)).length c6] rfl rfl rfl ?_)
 refine Ok.nt ((Ok.sr ((Ok.op rfl (OpOk.s (v := .agg (aK (pekS xr).1)) (Yields.loadAgg 0 4 (aK (pekS xr).1) rfl rfl Tryz.underlying78 rfl kr kr kr) rfl rfl (Ok.op rfl (OpOk.sto (k := 4) (v := .agg (aK (pekS xr).1)) 2 (aK (pekS xr).1) rfl rfl rfl ?_)))))))
 refine Ok.nt ((Ok.ret (Ok.back (vs := [.agg (aK (pekS xr).1)]) (.inl rfl) rfl (.cons (.cellAgg 2 4 (aK (pekS xr).1) rfl rfl Tryz.underlying78 rfl kr kr kr) .nil) rfl (Ok.op rfl (OpOk.a (z := .agg zK) (cs := zK) kr kr rfl fun bs3 => ?_)))))
 refine Ok.op rfl (OpOk.sto (k := 4) (v := .agg (aK (pekS xr).1)) 0 (aK (pekS xr).1) rfl rfl rfl ?_)
 refine Ok.nt ((Ok.cut (fun a W => ∃ gj5 : Ghost, Gext w0 g3 gj5 ∧ StA 67 [(2, pv bs2 0)] a ∧ StW w0 [.blk bxr (.cells #[.slice a6 (((pekS xr).2).drop (Int.toNat 1)).length c6] 59), .blk bs2 (.cells #[iv 0, sv ([] : Bs), .int .u8 0, sv ([] : Bs), iv 0, iv 0, .slice none 0 0] 48)] gj5 W ∧ pssj5) ?_ ?_))
 ·
  refine Ok.sr ((Ok.B 1 [(0, pv bxr 0), (2, pv bs2 0), (3, pv bs3 0), (7, pv bs3 2)] kr (Ok.op rfl (OpOk.s (v := sv ((pekS xr).1.2.2.1)) (Yields.l 0 rfl rfl Tryz.underlying9 rfl kr) rfl rfl ?_))))
  obtain ⟨hp8, hF⟩ := hF
  refine Ok.op rfl (OpOk.f enr (fun W hW => slw_c (pekS xr).1.2.2.1 hp8) rfl ?_)
  refine Ok.b 1 [0, 2, 3] [(4, sv (lowerS (pekS xr).1.2.2.1))] ?_
  refine Ok.nt ((Ok.block (Ok.cut (fun a W => ∃ gj9 : Ghost, Gext w0 g3 gj9 ∧ StA 67 [(0, pv bxr 0), (2, pv bs2 0), (3, pv bs3 0), (4, sv (lowerS (pekS xr).1.2.2.1)), (10, .bool (pssV0 xr))] a ∧ StW w0 [.blk bs3 (.cells (aK (pekS xr).1) 78), .blk bxr (.cells #[.slice a6 (((pekS xr).2).drop (Int.toNat 1)).length c6] 59), .blk bs2 (.cells #[iv 0, sv ([] : Bs), .int .u8 0, sv ([] : Bs), iv 0, iv 0, .slice none 0 0] 48)] gj9 W ∧ pssj9 N xr K) ?_ ?_)))
  ·
   refine Ok.r (Ok.b 1 [0, 2, 3, 4] [(11, pv bs3 0)] ?_)
   refine Ok.op rfl (OpOk.s (v := iv (pekS xr).1.1) (Yields.l 0 rfl rfl Tryz.underlying3 rfl kr) rfl rfl (Ok.b 2 [0, 2, 3, 4] [(14, .bool ((pekS xr).1.1 == 1))] ?_))
   refine Ok.a 14 (((pekS xr).1.1 == 1)) rfl (fun J1 => ?_) (fun J1 => ?_)
   ·replace hF := hF.1 J1
    refine Ok.b 1 [0, 2, 3, 4] [(14, .bool true), (15, pv bs3 1)] ?_
    refine Ok.y (j := 3) (d := 14) (want := true) (b := true) rfl kr kr rfl (OpOk.s (v := sv ((pekS xr).1.2.1)) (Yields.l 0 rfl rfl Tryz.underlying9 rfl kr) rfl rfl (Ok.b 1 [0, 2, 3, 4, 14] [(16, sv ((pekS xr).1.2.1)), (17, pv bs3 2)] ?_))
    refine Ok.y (j := 3) (d := 14) (want := true) (b := true) rfl kr kr rfl (OpOk.s (v := sv ((pekS xr).1.2.2.1)) (Yields.l 0 rfl rfl Tryz.underlying9 rfl kr) rfl rfl (Ok.y (j := 3) (d := 14) (want := true) (b := true) rfl kr kr rfl (OpOk.s (v := .bool ((pekS xr).1.2.1 == (pekS xr).1.2.2.1)) (Yields.sc (f := .eql) (a := (pekS xr).1.2.1) (b := (pekS xr).1.2.2.1) kr kr rfl) rfl rfl (Ok.b 2 [0, 2, 3, 4] [(10, .bool ((pekS xr).1.2.1 == (pekS xr).1.2.2.1))] ?_))))
    refine Ok.nt ((Ok.v 10 rfl (show (.bool ((pekS xr).1.2.1 == (pekS xr).1.2.2.1) : Value) = .bool (pssV0 xr) from congrArg (Value.bool) (mand_t J1)) ?_))
    exact fun a W hA hW => ⟨g3, (Gext.r w0 g3), hA.sub kr, hW.sub (.cons_cons _ (.cons _ (.cons_cons _ (.cons _ (.cons_cons _ .slnil))))), hF⟩
   replace hF := hF.2 J1
   refine Ok.b 7 [0, 2, 3, 4] [(10, .bool false)] ?_
   refine Ok.nt ((Ok.v 10 rfl (show (.bool false : Value) = .bool (pssV0 xr) from congrArg (Value.bool) (mand_f J1)) ?_))
   exact fun a W hA hW => ⟨g3, (Gext.r w0 g3), hA.sub kr, hW.sub (.cons_cons _ (.cons _ (.cons_cons _ (.cons _ (.cons_cons _ .slnil))))), hF⟩
  clear hF
  rintro a W ⟨gj9, k1, hA, hW, hF⟩
  refine (?_ : Ok _ _ _ _ _ _) a W hA hW
  clear hA hW
  replace hR6 := hR6.mono k1.1
  replace hG0 := hG0.mono k1.1
  refine Ok.cn hF rfl (fun hc9 => ?_) (fun hc9 => ?_)
  ·replace hF := hF.1 hc9
   refine Ok.sr ((Ok.b 1 [2] [(21, sv (lowerS (pekS xr).1.2.2.1))] ?_))
   refine Ok.nt ((Ok.block (Ok.sr ((Ok.op rfl (OpOk.s (v := .bool ((lowerS (pekS xr).1.2.2.1) == ([114, 111, 111, 116] : Bs))) (Yields.sc (f := .eql) (a := (lowerS (pekS xr).1.2.2.1)) (b := ([114, 111, 111, 116] : Bs)) kr kr rfl) rfl rfl (Ok.b 1 [2, 21] [(22, .bool ((lowerS (pekS xr).1.2.2.1) == ([114, 111, 111, 116] : Bs)))] ?_)))))))
   refine Ok.nt ((Ok.cn hF rfl (fun n1 => ?_) (fun n1 => ?_)))
   ·replace hF := hF.1 n1
    refine Ok.sr ((Ok.b 1 [2] [(24, .agg #[iv 6, sv ([] : Bs), .int .u8 0, sv ([] : Bs), iv 0, iv 0, .slice none 0 0])] ?_))
    refine Ok.op rfl (OpOk.sto (k := 7) (v := .agg #[iv 6, sv ([] : Bs), .int .u8 0, sv ([] : Bs), iv 0, iv 0, .slice none 0 0]) 2 #[iv 6, sv ([] : Bs), .int .u8 0, sv ([] : Bs), iv 0, iv 0, .slice none 0 0] rfl rfl rfl ?_)
    refine Ok.nt ((Ok.ret (Ok.kr (Ok.kr (Ok.tr ?_)))))
    exact Ok.p (vs := [.agg #[iv 6, sv ([] : Bs), .int .u8 0, sv ([] : Bs), iv 0, iv 0, .slice none 0 0]]) [1] [.blk bxr (.cells #[.slice a6 (((pekS xr).2).drop (Int.toNat 1)).length c6] 59)] dc rfl (.inl rfl) rfl (.cons (.cellAgg 2 7 #[iv 6, sv ([] : Bs), .int .u8 0, sv ([] : Bs), iv 0, iv 0, .slice none 0 0] rfl rfl Tryz.underlying48 rfl kr kr kr) .nil) (hx3.trans k1) ⟨(Tst.mk (6, ([] : Bs), 0, ([] : Bs), 0, 0) ([])), (((pekS xr).2).drop (Int.toNat 1)), none, 0, a6, c6, rfl, Rep.nil, hR6, rfl, hF⟩
   replace hF := hF.2 n1
   refine Ok.sr ((Ok.op rfl (OpOk.s (v := .bool ((lowerS (pekS xr).1.2.2.1) == ([101, 109, 112, 116, 121] : Bs))) (Yields.sc (f := .eql) (a := (lowerS (pekS xr).1.2.2.1)) (b := ([101, 109, 112, 116, 121] : Bs)) kr kr rfl) rfl rfl (Ok.b 1 [2, 21] [(25, .bool ((lowerS (pekS xr).1.2.2.1) == ([101, 109, 112, 116, 121] : Bs)))] ?_))))
   refine Ok.nt ((Ok.cn hF rfl (fun L1 => ?_) (fun L1 => ?_)))
   ·replace hF := hF.1 L1
    refine Ok.sr ((Ok.b 1 [2] [(27, .agg #[iv 7, sv ([] : Bs), .int .u8 0, sv ([] : Bs), iv 0, iv 0, .slice none 0 0])] ?_))
    refine Ok.op rfl (OpOk.sto (k := 7) (v := .agg #[iv 7, sv ([] : Bs), .int .u8 0, sv ([] : Bs), iv 0, iv 0, .slice none 0 0]) 2 #[iv 7, sv ([] : Bs), .int .u8 0, sv ([] : Bs), iv 0, iv 0, .slice none 0 0] rfl rfl rfl ?_)
    refine Ok.nt ((Ok.ret (Ok.kr (Ok.kr (Ok.tr ?_)))))
    exact Ok.p (vs := [.agg #[iv 7, sv ([] : Bs), .int .u8 0, sv ([] : Bs), iv 0, iv 0, .slice none 0 0]]) [1] [.blk bxr (.cells #[.slice a6 (((pekS xr).2).drop (Int.toNat 1)).length c6] 59)] dc rfl (.inl rfl) rfl (.cons (.cellAgg 2 7 #[iv 7, sv ([] : Bs), .int .u8 0, sv ([] : Bs), iv 0, iv 0, .slice none 0 0] rfl rfl Tryz.underlying48 rfl kr kr kr) .nil) (hx3.trans k1) ⟨(Tst.mk (7, ([] : Bs), 0, ([] : Bs), 0, 0) ([])), (((pekS xr).2).drop (Int.toNat 1)), none, 0, a6, c6, rfl, Rep.nil, hR6, rfl, hF⟩
   replace hF := hF.2 L1
   refine Ok.sr ((Ok.op rfl (OpOk.s (v := .bool ((lowerS (pekS xr).1.2.2.1) == ([102, 105, 114, 115, 116, 45, 99, 104, 105, 108, 100] : Bs))) (Yields.sc (f := .eql) (a := (lowerS (pekS xr).1.2.2.1)) (b := ([102, 105, 114, 115, 116, 45, 99, 104, 105, 108, 100] : Bs)) kr kr rfl) rfl rfl (Ok.b 1 [2, 21] [(28, .bool ((lowerS (pekS xr).1.2.2.1) == ([102, 105, 114, 115, 116, 45, 99, 104, 105, 108, 100] : Bs)))] ?_))))
   refine Ok.nt ((Ok.cn hF rfl (fun o1 => ?_) (fun o1 => ?_)))
   ·replace hF := hF.1 o1
    refine Ok.sr ((Ok.b 1 [2] [(30, .agg #[iv 8, sv ([] : Bs), .int .u8 0, sv ([] : Bs), iv 0, iv 1, .slice none 0 0])] ?_))
    refine Ok.op rfl (OpOk.sto (k := 7) (v := .agg #[iv 8, sv ([] : Bs), .int .u8 0, sv ([] : Bs), iv 0, iv 1, .slice none 0 0]) 2 #[iv 8, sv ([] : Bs), .int .u8 0, sv ([] : Bs), iv 0, iv 1, .slice none 0 0] rfl rfl rfl ?_)
    refine Ok.nt ((Ok.ret (Ok.kr (Ok.kr (Ok.tr ?_)))))
    exact Ok.p (vs := [.agg #[iv 8, sv ([] : Bs), .int .u8 0, sv ([] : Bs), iv 0, iv 1, .slice none 0 0]]) [1] [.blk bxr (.cells #[.slice a6 (((pekS xr).2).drop (Int.toNat 1)).length c6] 59)] dc rfl (.inl rfl) rfl (.cons (.cellAgg 2 7 #[iv 8, sv ([] : Bs), .int .u8 0, sv ([] : Bs), iv 0, iv 1, .slice none 0 0] rfl rfl Tryz.underlying48 rfl kr kr kr) .nil) (hx3.trans k1) ⟨(Tst.mk (8, ([] : Bs), 0, ([] : Bs), 0, 1) ([])), (((pekS xr).2).drop (Int.toNat 1)), none, 0, a6, c6, rfl, Rep.nil, hR6, rfl, hF⟩
   replace hF := hF.2 o1
   refine Ok.sr ((Ok.op rfl (OpOk.s (v := .bool ((lowerS (pekS xr).1.2.2.1) == ([108, 97, 115, 116, 45, 99, 104, 105, 108, 100] : Bs))) (Yields.sc (f := .eql) (a := (lowerS (pekS xr).1.2.2.1)) (b := ([108, 97, 115, 116, 45, 99, 104, 105, 108, 100] : Bs)) kr kr rfl) rfl rfl (Ok.b 1 [2] [(31, .bool ((lowerS (pekS xr).1.2.2.1) == ([108, 97, 115, 116, 45, 99, 104, 105, 108, 100] : Bs)))] ?_))))
   refine Ok.nt ((Ok.cn hF rfl (fun A1 => ?_) (fun A1 => ?_)))
   ·replace hF := hF.1 A1
    refine Ok.sr ((Ok.b 1 [2] [(33, .agg #[iv 9, sv ([] : Bs), .int .u8 0, sv ([] : Bs), iv 0, iv 1, .slice none 0 0])] ?_))
    refine Ok.op rfl (OpOk.sto (k := 7) (v := .agg #[iv 9, sv ([] : Bs), .int .u8 0, sv ([] : Bs), iv 0, iv 1, .slice none 0 0]) 2 #[iv 9, sv ([] : Bs), .int .u8 0, sv ([] : Bs), iv 0, iv 1, .slice none 0 0] rfl rfl rfl ?_)
    refine Ok.nt ((Ok.ret (Ok.kr (Ok.kr (Ok.tr ?_)))))
    exact Ok.p (vs := [.agg #[iv 9, sv ([] : Bs), .int .u8 0, sv ([] : Bs), iv 0, iv 1, .slice none 0 0]]) [1] [.blk bxr (.cells #[.slice a6 (((pekS xr).2).drop (Int.toNat 1)).length c6] 59)] dc rfl (.inl rfl) rfl (.cons (.cellAgg 2 7 #[iv 9, sv ([] : Bs), .int .u8 0, sv ([] : Bs), iv 0, iv 1, .slice none 0 0] rfl rfl Tryz.underlying48 rfl kr kr kr) .nil) (hx3.trans k1) ⟨(Tst.mk (9, ([] : Bs), 0, ([] : Bs), 0, 1) ([])), (((pekS xr).2).drop (Int.toNat 1)), none, 0, a6, c6, rfl, Rep.nil, hR6, rfl, hF⟩
   replace hF := hF.2 A1
   refine Ok.k (Ok.kn (Ok.kn (Ok.t ?_)))
   exact fun a W hA hW => ⟨gj9, k1, hA.sub kr, hW.sub (.cons _ (.cons_cons _ (.cons_cons _ .slnil))), hF⟩
  replace hF := hF.2 hc9
  refine Ok.cut (fun a W => ∃ C2 : Ghost, Gext w0 gj9 C2 ∧ StA 67 [(0, pv bxr 0), (2, pv bs2 0), (4, sv (lowerS (pekS xr).1.2.2.1)), (34, .bool (pssV1 xr))] a ∧ StW w0 [.blk bxr (.cells #[.slice a6 (((pekS xr).2).drop (Int.toNat 1)).length c6] 59), .blk bs2 (.cells #[iv 0, sv ([] : Bs), .int .u8 0, sv ([] : Bs), iv 0, iv 0, .slice none 0 0] 48)] C2 W ∧ pssj40 N xr K) ?_ ?_
  ·
   refine Ok.r (Ok.b 1 [0, 2, 3, 4] [(35, pv bs3 0)] ?_)
   refine Ok.op rfl (OpOk.s (v := iv (pekS xr).1.1) (Yields.l 0 rfl rfl Tryz.underlying3 rfl kr) rfl rfl (Ok.b 2 [0, 2, 3, 4] [(38, .bool ((pekS xr).1.1 == 2))] ?_))
   refine Ok.a 38 (((pekS xr).1.1 == 2)) rfl (fun D2 => ?_) (fun D2 => ?_)
   ·replace hF := hF.1 D2
    refine Ok.b 1 [0, 2, 3, 4] [(38, .bool true), (39, pv bs3 1)] ?_
    refine Ok.y (j := 3) (d := 38) (want := true) (b := true) rfl kr kr rfl (OpOk.s (v := sv ((pekS xr).1.2.1)) (Yields.l 0 rfl rfl Tryz.underlying9 rfl kr) rfl rfl (Ok.b 1 [0, 2, 4, 38] [(40, sv ((pekS xr).1.2.1)), (41, pv bs3 2)] ?_))
    refine Ok.y (j := 3) (d := 38) (want := true) (b := true) rfl kr kr rfl (OpOk.s (v := sv ((pekS xr).1.2.2.1)) (Yields.l 0 rfl rfl Tryz.underlying9 rfl kr) rfl rfl ?_)
    obtain ⟨hv, hF⟩ := hF
    refine Ok.y (j := 3) (d := 38) (want := true) (b := true) rfl kr kr rfl (OpOk.s (v := sv ((pekS xr).1.2.2.1 ++ ([40] : Bs))) (Yields.sa rfl rfl hv) rfl rfl (Ok.y (j := 3) (d := 38) (want := true) (b := true) rfl kr kr rfl (OpOk.s (v := .bool ((pekS xr).1.2.1 == ((pekS xr).1.2.2.1 ++ ([40] : Bs)))) (Yields.sc (f := .eql) (a := (pekS xr).1.2.1) (b := ((pekS xr).1.2.2.1 ++ ([40] : Bs))) kr kr rfl) rfl rfl (Ok.b 2 [0, 2, 4] [(34, .bool ((pekS xr).1.2.1 == ((pekS xr).1.2.2.1 ++ ([40] : Bs))))] ?_))))
    refine Ok.nt ((Ok.v 34 rfl (show (.bool ((pekS xr).1.2.1 == ((pekS xr).1.2.2.1 ++ ([40] : Bs))) : Value) = .bool (pssV1 xr) from congrArg (Value.bool) (mand_t D2)) ?_))
    exact fun a W hA hW => ⟨gj9, (Gext.r w0 gj9), hA.sub kr, hW.sub (.cons _ (.cons_cons _ (.cons_cons _ .slnil))), hF⟩
   replace hF := hF.2 D2
   refine Ok.b 8 [0, 2, 4] [(34, .bool false)] ?_
   refine Ok.nt ((Ok.v 34 rfl (show (.bool false : Value) = .bool (pssV1 xr) from congrArg (Value.bool) (mand_f D2)) ?_))
   exact fun a W hA hW => ⟨gj9, (Gext.r w0 gj9), hA.sub kr, hW.sub (.cons _ (.cons_cons _ (.cons_cons _ .slnil))), hF⟩
  clear hF
  rintro a W ⟨C2, s1, hA, hW, hF⟩
  refine (?_ : Ok _ _ _ _ _ _) a W hA hW
  clear hA hW
  replace hR6 := hR6.mono s1.1
  replace hG0 := hG0.mono s1.1
  refine Ok.cn hF rfl (fun I1 => ?_) (fun I1 => ?_)
  ·replace hF := hF.1 I1
   refine Ok.sr ((Ok.b 1 [0, 2] [(46, sv (lowerS (pekS xr).1.2.2.1))] ?_))
   refine Ok.nt ((Ok.block (Ok.sr ((Ok.op rfl (OpOk.s (v := .bool ((lowerS (pekS xr).1.2.2.1) == ([110, 116, 104, 45, 99, 104, 105, 108, 100] : Bs))) (Yields.sc (f := .eql) (a := (lowerS (pekS xr).1.2.2.1)) (b := ([110, 116, 104, 45, 99, 104, 105, 108, 100] : Bs)) kr kr rfl) rfl rfl (Ok.b 1 [0, 2, 46] [(47, .bool ((lowerS (pekS xr).1.2.2.1) == ([110, 116, 104, 45, 99, 104, 105, 108, 100] : Bs)))] ?_)))))))
   refine Ok.nt ((Ok.cn hF rfl (fun p3 => ?_) (fun p3 => ?_)))
   ·replace hF := hF.1 p3
    refine Ok.sr ((Ok.b 1 [2] [(49, pv bxr 0)] ?_))
    obtain ⟨hp16, hF⟩ := hF
    refine Ok.op rfl (OpOk.callH [_] _ enr rfl (cnt_c (((pekS xr).2).drop (Int.toNat 1)) 8 hR6 hG0 hp16) rfl fun g17 _ _ R3 hV17 => ?_)
    obtain ⟨H1, M1, k3, y3, rfl, hR17_0, hR17_2, rfl⟩ := hV17
    replace hG0 := hG0.mono R3.1
    refine Ok.op rfl (OpOk.sto (k := 7) (v := .agg #[iv (((cntR (((pekS xr).2).drop (Int.toNat 1)) 8).1).lab.1), sv (((cntR (((pekS xr).2).drop (Int.toNat 1)) 8).1).lab.2.1), .int .u8 (((cntR (((pekS xr).2).drop (Int.toNat 1)) 8).1).lab.2.2.1), sv (((cntR (((pekS xr).2).drop (Int.toNat 1)) 8).1).lab.2.2.2.1), iv (((cntR (((pekS xr).2).drop (Int.toNat 1)) 8).1).lab.2.2.2.2.1), iv (((cntR (((pekS xr).2).drop (Int.toNat 1)) 8).1).lab.2.2.2.2.2), .slice H1 (((cntR (((pekS xr).2).drop (Int.toNat 1)) 8).1).kids).length M1]) 1 #[iv (((cntR (((pekS xr).2).drop (Int.toNat 1)) 8).1).lab.1), sv (((cntR (((pekS xr).2).drop (Int.toNat 1)) 8).1).lab.2.1), .int .u8 (((cntR (((pekS xr).2).drop (Int.toNat 1)) 8).1).lab.2.2.1), sv (((cntR (((pekS xr).2).drop (Int.toNat 1)) 8).1).lab.2.2.2.1), iv (((cntR (((pekS xr).2).drop (Int.toNat 1)) 8).1).lab.2.2.2.2.1), iv (((cntR (((pekS xr).2).drop (Int.toNat 1)) 8).1).lab.2.2.2.2.2), .slice H1 (((cntR (((pekS xr).2).drop (Int.toNat 1)) 8).1).kids).length M1] rfl rfl rfl ?_)
    refine Ok.nt ((Ok.ret (Ok.kr (Ok.kr (Ok.tr ?_)))))
    exact Ok.p (vs := [.agg #[iv (((cntR (((pekS xr).2).drop (Int.toNat 1)) 8).1).lab.1), sv (((cntR (((pekS xr).2).drop (Int.toNat 1)) 8).1).lab.2.1), .int .u8 (((cntR (((pekS xr).2).drop (Int.toNat 1)) 8).1).lab.2.2.1), sv (((cntR (((pekS xr).2).drop (Int.toNat 1)) 8).1).lab.2.2.2.1), iv (((cntR (((pekS xr).2).drop (Int.toNat 1)) 8).1).lab.2.2.2.2.1), iv (((cntR (((pekS xr).2).drop (Int.toNat 1)) 8).1).lab.2.2.2.2.2), .slice H1 (((cntR (((pekS xr).2).drop (Int.toNat 1)) 8).1).kids).length M1]]) [0] [.blk bxr (.cells #[.slice k3 ((cntR (((pekS xr).2).drop (Int.toNat 1)) 8).2).length y3] 59)] dc rfl (.inl rfl) rfl (.cons (.cellAgg 1 7 #[iv (((cntR (((pekS xr).2).drop (Int.toNat 1)) 8).1).lab.1), sv (((cntR (((pekS xr).2).drop (Int.toNat 1)) 8).1).lab.2.1), .int .u8 (((cntR (((pekS xr).2).drop (Int.toNat 1)) 8).1).lab.2.2.1), sv (((cntR (((pekS xr).2).drop (Int.toNat 1)) 8).1).lab.2.2.2.1), iv (((cntR (((pekS xr).2).drop (Int.toNat 1)) 8).1).lab.2.2.2.2.1), iv (((cntR (((pekS xr).2).drop (Int.toNat 1)) 8).1).lab.2.2.2.2.2), .slice H1 (((cntR (((pekS xr).2).drop (Int.toNat 1)) 8).1).kids).length M1] rfl rfl Tryz.underlying48 rfl kr kr kr) .nil) (((hx3.trans k1).trans s1).trans R3) ⟨(cntR (((pekS xr).2).drop (Int.toNat 1)) 8).1, (cntR (((pekS xr).2).drop (Int.toNat 1)) 8).2, H1, M1, k3, y3, rfl, hR17_0, hR17_2, rfl, hF⟩
   replace hF := hF.2 p3
   refine Ok.sr ((Ok.op rfl (OpOk.s (v := .bool ((lowerS (pekS xr).1.2.2.1) == ([110, 116, 104, 45, 108, 97, 115, 116, 45, 99, 104, 105, 108, 100] : Bs))) (Yields.sc (f := .eql) (a := (lowerS (pekS xr).1.2.2.1)) (b := ([110, 116, 104, 45, 108, 97, 115, 116, 45, 99, 104, 105, 108, 100] : Bs)) kr kr rfl) rfl rfl (Ok.b 1 [0, 2, 46] [(51, .bool ((lowerS (pekS xr).1.2.2.1) == ([110, 116, 104, 45, 108, 97, 115, 116, 45, 99, 104, 105, 108, 100] : Bs)))] ?_))))
   refine Ok.nt ((Ok.cn hF rfl (fun H0 => ?_) (fun H0 => ?_)))
   ·replace hF := hF.1 H0
    refine Ok.sr ((Ok.b 1 [2] [(53, pv bxr 0)] ?_))
    obtain ⟨t3, hF⟩ := hF
    refine Ok.op rfl (OpOk.callH [_] _ enr rfl (cnt_c (((pekS xr).2).drop (Int.toNat 1)) 9 hR6 hG0 t3) rfl fun g20 _ _ W1 a3 => ?_)
    obtain ⟨p1, t1, j3, x3, rfl, z2, hR20_2, rfl⟩ := a3
    replace hG0 := hG0.mono W1.1
    refine Ok.op rfl (OpOk.sto (k := 7) (v := .agg #[iv (((cntR (((pekS xr).2).drop (Int.toNat 1)) 9).1).lab.1), sv (((cntR (((pekS xr).2).drop (Int.toNat 1)) 9).1).lab.2.1), .int .u8 (((cntR (((pekS xr).2).drop (Int.toNat 1)) 9).1).lab.2.2.1), sv (((cntR (((pekS xr).2).drop (Int.toNat 1)) 9).1).lab.2.2.2.1), iv (((cntR (((pekS xr).2).drop (Int.toNat 1)) 9).1).lab.2.2.2.2.1), iv (((cntR (((pekS xr).2).drop (Int.toNat 1)) 9).1).lab.2.2.2.2.2), .slice p1 (((cntR (((pekS xr).2).drop (Int.toNat 1)) 9).1).kids).length t1]) 1 #[iv (((cntR (((pekS xr).2).drop (Int.toNat 1)) 9).1).lab.1), sv (((cntR (((pekS xr).2).drop (Int.toNat 1)) 9).1).lab.2.1), .int .u8 (((cntR (((pekS xr).2).drop (Int.toNat 1)) 9).1).lab.2.2.1), sv (((cntR (((pekS xr).2).drop (Int.toNat 1)) 9).1).lab.2.2.2.1), iv (((cntR (((pekS xr).2).drop (Int.toNat 1)) 9).1).lab.2.2.2.2.1), iv (((cntR (((pekS xr).2).drop (Int.toNat 1)) 9).1).lab.2.2.2.2.2), .slice p1 (((cntR (((pekS xr).2).drop (Int.toNat 1)) 9).1).kids).length t1] rfl rfl rfl ?_)
    refine Ok.nt ((Ok.ret (Ok.kr (Ok.kr (Ok.tr ?_)))))
    exact Ok.p (vs := [.agg #[iv (((cntR (((pekS xr).2).drop (Int.toNat 1)) 9).1).lab.1), sv (((cntR (((pekS xr).2).drop (Int.toNat 1)) 9).1).lab.2.1), .int .u8 (((cntR (((pekS xr).2).drop (Int.toNat 1)) 9).1).lab.2.2.1), sv (((cntR (((pekS xr).2).drop (Int.toNat 1)) 9).1).lab.2.2.2.1), iv (((cntR (((pekS xr).2).drop (Int.toNat 1)) 9).1).lab.2.2.2.2.1), iv (((cntR (((pekS xr).2).drop (Int.toNat 1)) 9).1).lab.2.2.2.2.2), .slice p1 (((cntR (((pekS xr).2).drop (Int.toNat 1)) 9).1).kids).length t1]]) [0] [.blk bxr (.cells #[.slice j3 ((cntR (((pekS xr).2).drop (Int.toNat 1)) 9).2).length x3] 59)] dc rfl (.inl rfl) rfl (.cons (.cellAgg 1 7 #[iv (((cntR (((pekS xr).2).drop (Int.toNat 1)) 9).1).lab.1), sv (((cntR (((pekS xr).2).drop (Int.toNat 1)) 9).1).lab.2.1), .int .u8 (((cntR (((pekS xr).2).drop (Int.toNat 1)) 9).1).lab.2.2.1), sv (((cntR (((pekS xr).2).drop (Int.toNat 1)) 9).1).lab.2.2.2.1), iv (((cntR (((pekS xr).2).drop (Int.toNat 1)) 9).1).lab.2.2.2.2.1), iv (((cntR (((pekS xr).2).drop (Int.toNat 1)) 9).1).lab.2.2.2.2.2), .slice p1 (((cntR (((pekS xr).2).drop (Int.toNat 1)) 9).1).kids).length t1] rfl rfl Tryz.underlying48 rfl kr kr kr) .nil) (((hx3.trans k1).trans s1).trans W1) ⟨(cntR (((pekS xr).2).drop (Int.toNat 1)) 9).1, (cntR (((pekS xr).2).drop (Int.toNat 1)) 9).2, p1, t1, j3, x3, rfl, z2, hR20_2, rfl, hF⟩
   replace hF := hF.2 H0
   refine Ok.sr ((Ok.op rfl (OpOk.s (v := .bool ((lowerS (pekS xr).1.2.2.1) == ([110, 111, 116] : Bs))) (Yields.sc (f := .eql) (a := (lowerS (pekS xr).1.2.2.1)) (b := ([110, 111, 116] : Bs)) kr kr rfl) rfl rfl (Ok.b 1 [0, 2, 46] [(55, .bool ((lowerS (pekS xr).1.2.2.1) == ([110, 111, 116] : Bs)))] ?_))))
   refine Ok.nt ((Ok.cn hF rfl (fun i3 => ?_) (fun i3 => ?_)))
   ·replace hF := hF.1 i3
    refine Ok.sr ((Ok.b 1 [2] [(57, pv bxr 0)] ?_))
    obtain ⟨hp22, hF⟩ := hF
    refine Ok.op rfl (OpOk.callH [_] _ enr rfl (ih_lst _ (((pekS xr).2).drop (Int.toNat 1)) ([41] : Bs) hR6 hG0 hp22) rfl fun g23 _ _ T3 hV23 => ?_)
    obtain ⟨Q1, K1, s3, c3, rfl, hR23_0, hR23_2, rfl⟩ := hV23
    replace hG0 := hG0.mono T3.1
    refine Ok.b 1 [2] [(59, .agg #[iv 10, sv ([] : Bs), .int .u8 0, sv ([] : Bs), iv 0, iv 0, .slice Q1 ((lstR (((pekS xr).2).drop (Int.toNat 1)) ([41] : Bs)).1).length K1])] ?_
    refine Ok.op rfl (OpOk.sto (k := 7) (v := .agg #[iv 10, sv ([] : Bs), .int .u8 0, sv ([] : Bs), iv 0, iv 0, .slice Q1 ((lstR (((pekS xr).2).drop (Int.toNat 1)) ([41] : Bs)).1).length K1]) 1 #[iv 10, sv ([] : Bs), .int .u8 0, sv ([] : Bs), iv 0, iv 0, .slice Q1 ((lstR (((pekS xr).2).drop (Int.toNat 1)) ([41] : Bs)).1).length K1] rfl rfl rfl ?_)
    refine Ok.nt ((Ok.ret (Ok.kr (Ok.kr (Ok.tr ?_)))))
    exact Ok.p (vs := [.agg #[iv 10, sv ([] : Bs), .int .u8 0, sv ([] : Bs), iv 0, iv 0, .slice Q1 ((lstR (((pekS xr).2).drop (Int.toNat 1)) ([41] : Bs)).1).length K1]]) [0] [.blk bxr (.cells #[.slice s3 ((lstR (((pekS xr).2).drop (Int.toNat 1)) ([41] : Bs)).2).length c3] 59)] dc rfl (.inl rfl) rfl (.cons (.cellAgg 1 7 #[iv 10, sv ([] : Bs), .int .u8 0, sv ([] : Bs), iv 0, iv 0, .slice Q1 ((lstR (((pekS xr).2).drop (Int.toNat 1)) ([41] : Bs)).1).length K1] rfl rfl Tryz.underlying48 rfl kr kr kr) .nil) (((hx3.trans k1).trans s1).trans T3) ⟨(Tst.mk (10, ([] : Bs), 0, ([] : Bs), 0, 0) (lstR (((pekS xr).2).drop (Int.toNat 1)) ([41] : Bs)).1), (lstR (((pekS xr).2).drop (Int.toNat 1)) ([41] : Bs)).2, Q1, K1, s3, c3, rfl, hR23_0, hR23_2, rfl, hF⟩
   replace hF := hF.2 i3
   refine Ok.sr ((Ok.op rfl (OpOk.s (v := .bool ((lowerS (pekS xr).1.2.2.1) == ([105, 115] : Bs))) (Yields.sc (f := .eql) (a := (lowerS (pekS xr).1.2.2.1)) (b := ([105, 115] : Bs)) kr kr rfl) rfl rfl (Ok.b 1 [0, 2] [(60, .bool ((lowerS (pekS xr).1.2.2.1) == ([105, 115] : Bs)))] ?_))))
   refine Ok.nt ((Ok.cn hF rfl (fun Z3 => ?_) (fun Z3 => ?_)))
   ·replace hF := hF.1 Z3
    refine Ok.sr ((Ok.b 1 [2] [(62, pv bxr 0)] ?_))
    obtain ⟨hp25, hF⟩ := hF
    refine Ok.op rfl (OpOk.callH [_] _ enr rfl (ih_lst _ (((pekS xr).2).drop (Int.toNat 1)) ([41] : Bs) hR6 hG0 hp25) rfl fun g26 _ _ L3 hV26 => ?_)
    obtain ⟨Y1, U1, d3, e3, rfl, hR26_0, hR26_2, rfl⟩ := hV26
    replace hG0 := hG0.mono L3.1
    refine Ok.b 1 [2] [(64, .agg #[iv 11, sv ([] : Bs), .int .u8 0, sv ([] : Bs), iv 0, iv 0, .slice Y1 ((lstR (((pekS xr).2).drop (Int.toNat 1)) ([41] : Bs)).1).length U1])] ?_
    refine Ok.op rfl (OpOk.sto (k := 7) (v := .agg #[iv 11, sv ([] : Bs), .int .u8 0, sv ([] : Bs), iv 0, iv 0, .slice Y1 ((lstR (((pekS xr).2).drop (Int.toNat 1)) ([41] : Bs)).1).length U1]) 1 #[iv 11, sv ([] : Bs), .int .u8 0, sv ([] : Bs), iv 0, iv 0, .slice Y1 ((lstR (((pekS xr).2).drop (Int.toNat 1)) ([41] : Bs)).1).length U1] rfl rfl rfl ?_)
    refine Ok.nt ((Ok.ret (Ok.kr (Ok.kr (Ok.tr ?_)))))
    exact Ok.p (vs := [.agg #[iv 11, sv ([] : Bs), .int .u8 0, sv ([] : Bs), iv 0, iv 0, .slice Y1 ((lstR (((pekS xr).2).drop (Int.toNat 1)) ([41] : Bs)).1).length U1]]) [0] [.blk bxr (.cells #[.slice d3 ((lstR (((pekS xr).2).drop (Int.toNat 1)) ([41] : Bs)).2).length e3] 59)] dc rfl (.inl rfl) rfl (.cons (.cellAgg 1 7 #[iv 11, sv ([] : Bs), .int .u8 0, sv ([] : Bs), iv 0, iv 0, .slice Y1 ((lstR (((pekS xr).2).drop (Int.toNat 1)) ([41] : Bs)).1).length U1] rfl rfl Tryz.underlying48 rfl kr kr kr) .nil) (((hx3.trans k1).trans s1).trans L3) ⟨(Tst.mk (11, ([] : Bs), 0, ([] : Bs), 0, 0) (lstR (((pekS xr).2).drop (Int.toNat 1)) ([41] : Bs)).1), (lstR (((pekS xr).2).drop (Int.toNat 1)) ([41] : Bs)).2, Y1, U1, d3, e3, rfl, hR26_0, hR26_2, rfl, hF⟩
   replace hF := hF.2 Z3
   refine Ok.k (Ok.kn (Ok.kn (Ok.t ?_)))
   exact fun a W hA hW => ⟨C2, (k1.trans s1), hA.sub kr, hW, hF⟩
  replace hF := hF.2 I1
  refine Ok.k (Ok.kn (Ok.t ?_))
  exact fun a W hA hW => ⟨C2, (k1.trans s1), hA.sub kr, hW, hF⟩
 clear hF
 rintro a W ⟨gj5, A3, hA, hW, hF⟩
 refine (?_ : Ok _ _ _ _ _ _) a W hA hW
 clear hA hW
 replace hR6 := hR6.mono A3.1
 replace hG0 := hG0.mono A3.1
 exact False.elim hF
theorem pss_0 (r : Rd) : ¬ pssP 0 r := fun ⟨_, _, _, _, _, _, _, _, h, _⟩ => absurd h (Nat.not_lt_zero _)
theorem pss_F (N : Nat) (r : Rd) (h : pssP (N + 1) r) : pssF N r (fun a b => (a, b) = pssR r) := by
 obtain ⟨t, i, ts, rest, hi, h6, hts, rfl, hN, hB⟩ := h
 rw [pss_eq hi hts]
 have hi' := hi
 rw [okT_eq, Bool.and_eq_true] at hi'
 have hf := lab_facts hi'.1
 obtain ⟨hab, -, -⟩ := lab_ab hi'.1
 rw [TkT_eq] at hts
 rcases kinds hf with e | e | e | e | e | e | e | e | e | e | e
 iterate 5 exact absurd h6 om
 ·rw [tkL_6 e] at hts
  obtain rfl := (List.cons.inj hts).2
  have ht := leaf_eq hi om om om
  rw [e, hf.un om] at ht
  have hl : lowerS wRoot = [114, 111, 111, 116] := by decide +kernel
  have hp : lowerP wRoot := by unfold lowerP; decide +kernel
  simp [pssF, pssj9, pssV0, pekS, hl, hp, ht]
  omega
 ·rw [tkL_7 e] at hts
  obtain rfl := (List.cons.inj hts).2
  have ht := leaf_eq hi om om om
  rw [e, hf.un om] at ht
  have hl : lowerS wEmpty = [101, 109, 112, 116, 121] := by decide +kernel
  have hp : lowerP wEmpty := by unfold lowerP; decide +kernel
  simp [pssF, pssj9, pssV0, pekS, hl, hp, ht]
  omega
 ·rw [tkL_8 e] at hts
  obtain ⟨us, hus, h⟩ := hts
  obtain rfl := (List.cons.inj h).2
  have h2 := hi'.2
  rw [if_neg (by rw [e]; decide)] at h2
  have hkid : t.kids = [] := List.eq_nil_of_length_eq_zero (by have := eq_of_beq h2; omega)
  have ho : t.lab.2.2.1 = 0 := Classical.byContradiction fun ho => absurd (hf.op ho).1 om
  have ht : Tst.mk (8, [], 0, [], t.lab.2.2.2.2.1, t.lab.2.2.2.2.2) [] = t := mk_eq (lbl_eq e (hf.un om) ho (hf.val ho) rfl rfl) hkid
  have hl : lowerS wNc = [110, 116, 104, 45, 99, 104, 105, 108, 100] := by decide +kernel
  have hp : lowerP wNc := by unfold lowerP; decide +kernel
  have hr := run_read hus rest
  have hv := nthV_eq hab.1 hab.2
  have hc : cntP (us ++ clT :: rest) 8 := ⟨_, _, us, rest, hab.1, hab.2, hus, rfl⟩
  simp [pssF, pssj9, pssV0, pssj40, pssV1, pekS, hl, hp, hc, cntR, hr, hv, ht, maxLen_eq]
  omega
 ·rw [tkL_9 e] at hts
  obtain ⟨us, hus, h⟩ := hts
  obtain rfl := (List.cons.inj h).2
  have h2 := hi'.2
  rw [if_neg (by rw [e]; decide)] at h2
  have hkid : t.kids = [] := List.eq_nil_of_length_eq_zero (by have := eq_of_beq h2; omega)
  have ho : t.lab.2.2.1 = 0 := Classical.byContradiction fun ho => absurd (hf.op ho).1 om
  have ht : Tst.mk (9, [], 0, [], t.lab.2.2.2.2.1, t.lab.2.2.2.2.2) [] = t := mk_eq (lbl_eq e (hf.un om) ho (hf.val ho) rfl rfl) hkid
  have hl : lowerS wNl = [110, 116, 104, 45, 108, 97, 115, 116, 45, 99, 104, 105, 108, 100] := by decide +kernel
  have hp : lowerP wNl := by unfold lowerP; decide +kernel
  have hr := run_read hus rest
  have hv := nthV_eq hab.1 hab.2
  have hc : cntP (us ++ clT :: rest) 9 := ⟨_, _, us, rest, hab.1, hab.2, hus, rfl⟩
  simp [pssF, pssj9, pssV0, pssj40, pssV1, pekS, hl, hp, hc, cntR, hr, hv, ht, maxLen_eq]
  omega
 ·rw [tkL_10 e] at hts
  obtain ⟨us, hus, h⟩ := hts
  obtain rfl := (List.cons.inj h).2
  have ho : t.lab.2.2.1 = 0 := Classical.byContradiction fun ho => absurd (hf.op ho).1 om
  have hA := hf.ab om
  have ht : Tst.mk (10, [], 0, [], 0, 0) t.kids = t := mk_eq (lbl_eq e (hf.un om) ho (hf.val ho) hA.1 hA.2) rfl
  have hl : lowerS wNot = [110, 111, 116] := by decide +kernel
  have hp : lowerP wNot := by unfold lowerP; decide +kernel
  obtain ⟨p, js, l, hk, hok⟩ := kids_of hi (.inl e)
  rw [hk, Tk3] at hus
  obtain ⟨a, b, ha, hb, rfl⟩ := hus
  have hB' : BigR (a ++ (b ++ clT :: rest)) := by simpa using hB.tail
  have hr := lst_eq hok ha hb (e := [41]) (fin := clT :: rest) (rest := rest) (.inr ⟨rfl, rfl⟩)
  have hL : lstP N (a ++ (b ++ clT :: rest)) [41] := ⟨l, p, js, a, b, clT :: rest, rest, hok, ha, hb, .inr ⟨rfl, rfl⟩, rfl, by simp at hN; omega, hB'⟩
  rw [hk] at ht
  simp [pssF, pssj9, pssV0, pssj40, pssV1, pekS, hl, hp, hr, hL, ht, maxLen_eq]
  omega
 rw [tkL_11 e] at hts
 obtain ⟨us, hus, h⟩ := hts
 obtain rfl := (List.cons.inj h).2
 have ho : t.lab.2.2.1 = 0 := Classical.byContradiction fun ho => absurd (hf.op ho).1 om
 have hA := hf.ab om
 have ht : Tst.mk (11, [], 0, [], 0, 0) t.kids = t := mk_eq (lbl_eq e (hf.un om) ho (hf.val ho) hA.1 hA.2) rfl
 have hl : lowerS wIs = [105, 115] := by decide +kernel
 have hp : lowerP wIs := by unfold lowerP; decide +kernel
 obtain ⟨p, js, l, hk, hok⟩ := kids_of hi (.inr e)
 rw [hk, Tk3] at hus
 obtain ⟨a, b, ha, hb, rfl⟩ := hus
 have hB' : BigR (a ++ (b ++ clT :: rest)) := by simpa using hB.tail
 have hr := lst_eq hok ha hb (e := [41]) (fin := clT :: rest) (rest := rest) (.inr ⟨rfl, rfl⟩)
 have hL : lstP N (a ++ (b ++ clT :: rest)) [41] := ⟨l, p, js, a, b, clT :: rest, rest, hok, ha, hb, .inr ⟨rfl, rfl⟩, rfl, by simp at hN; omega, hB'⟩
 rw [hk] at ht
 simp [pssF, pssj9, pssV0, pssj40, pssV1, pekS, hl, hp, hr, hL, ht, maxLen_eq]
 omega
def oneF (N : Nat) (xr : List KT) (K : (TS) → Bool → (List KT) → Prop) : Prop :=
 ((((pekS xr).1.2.1 == ([42] : Bs))) = true → ((((pekS (pekS xr).2).1.1 == 0)) = true → False) ∧ ((((pekS (pekS xr).2).1.1 == 0)) = false → (0 : Int) ≤ 1 ∧ (1 : Int) ≤ (((pekS (pekS xr).2).2).length : Int) ∧ (((pekS (pekS xr).2).2).length : Int) ≤ (((pekS (pekS xr).2).2).length : Int) ∧ K (Tst.mk (1, ([] : Bs), 0, ([] : Bs), 0, 0) ([])) true (((pekS (pekS xr).2).2).drop (Int.toNat 1)))) ∧ ((((pekS xr).1.2.1 == ([42] : Bs))) = false → ((((pekS xr).1.1 == 1)) = true → ((((pekS (pekS xr).2).1.1 == 0)) = true → False) ∧ ((((pekS (pekS xr).2).1.1 == 0)) = false → (0 : Int) ≤ 1 ∧ (1 : Int) ≤ (((pekS (pekS xr).2).2).length : Int) ∧ (((pekS (pekS xr).2).2).length : Int) ≤ (((pekS (pekS xr).2).2).length : Int) ∧ ((((pekS (pekS xr).2).1.1 == 1)) = true → ([] : Bs).length + ((pekS (pekS xr).2).1.2.2.1).length ≤ maxLen ∧ ((((pekS (pekS xr).2).1.2.1 == (([] : Bs) ++ (pekS (pekS xr).2).1.2.2.1))) = true → cutP (pekS (pekS xr).2).1.2.2.1 ∧ ((!(plainS (pekS (pekS xr).2).1.2.2.1)) = true → False) ∧ ((!(plainS (pekS (pekS xr).2).1.2.2.1)) = false → lowerP (pekS (pekS xr).2).1.2.2.1 ∧ K (Tst.mk (2, (lowerS (pekS (pekS xr).2).1.2.2.1), 0, ([] : Bs), 0, 0) ([])) true (((pekS (pekS xr).2).2).drop (Int.toNat 1)))) ∧ ((((pekS (pekS xr).2).1.2.1 == (([] : Bs) ++ (pekS (pekS xr).2).1.2.2.1))) = false → False)) ∧ ((((pekS (pekS xr).2).1.1 == 1)) = false → False))) ∧ ((((pekS xr).1.1 == 1)) = false → ((((pekS xr).1.1 == 4)) = true → ((((pekS (pekS xr).2).1.1 == 0)) = true → False) ∧ ((((pekS (pekS xr).2).1.1 == 0)) = false → (0 : Int) ≤ 1 ∧ (1 : Int) ≤ (((pekS (pekS xr).2).2).length : Int) ∧ (((pekS (pekS xr).2).2).length : Int) ≤ (((pekS (pekS xr).2).2).length : Int) ∧ ((((pekS (pekS xr).2).1.1 == 4)) = true → ([35] : Bs).length + ((pekS (pekS xr).2).1.2.2.1).length ≤ maxLen ∧ ((((pekS (pekS xr).2).1.2.1 == (([35] : Bs) ++ (pekS (pekS xr).2).1.2.2.1))) = true → cutP (pekS (pekS xr).2).1.2.2.1 ∧ ((!(plainS (pekS (pekS xr).2).1.2.2.1)) = true → False) ∧ ((!(plainS (pekS (pekS xr).2).1.2.2.1)) = false → K (Tst.mk (3, (pekS (pekS xr).2).1.2.2.1, 0, ([] : Bs), 0, 0) ([])) true (((pekS (pekS xr).2).2).drop (Int.toNat 1)))) ∧ ((((pekS (pekS xr).2).1.2.1 == (([35] : Bs) ++ (pekS (pekS xr).2).1.2.2.1))) = false → False)) ∧ ((((pekS (pekS xr).2).1.1 == 4)) = false → False))) ∧ ((((pekS xr).1.1 == 4)) = false → ((((pekS xr).1.2.1 == ([46] : Bs))) = true → ((((pekS (pekS xr).2).1.1 == 0)) = true → False) ∧ ((((pekS (pekS xr).2).1.1 == 0)) = false → (0 : Int) ≤ 1 ∧ (1 : Int) ≤ (((pekS (pekS xr).2).2).length : Int) ∧ (((pekS (pekS xr).2).2).length : Int) ≤ (((pekS (pekS xr).2).2).length : Int) ∧ ((((pekS (((pekS (pekS xr).2).2).drop (Int.toNat 1))).1.1 == 0)) = true → False) ∧ ((((pekS (((pekS (pekS xr).2).2).drop (Int.toNat 1))).1.1 == 0)) = false → (0 : Int) ≤ 1 ∧ (1 : Int) ≤ (((pekS (((pekS (pekS xr).2).2).drop (Int.toNat 1))).2).length : Int) ∧ (((pekS (((pekS (pekS xr).2).2).drop (Int.toNat 1))).2).length : Int) ≤ (((pekS (((pekS (pekS xr).2).2).drop (Int.toNat 1))).2).length : Int) ∧ ((((pekS (((pekS (pekS xr).2).2).drop (Int.toNat 1))).1.1 == 1)) = true → ([] : Bs).length + ((pekS (((pekS (pekS xr).2).2).drop (Int.toNat 1))).1.2.2.1).length ≤ maxLen ∧ ((((pekS (((pekS (pekS xr).2).2).drop (Int.toNat 1))).1.2.1 == (([] : Bs) ++ (pekS (((pekS (pekS xr).2).2).drop (Int.toNat 1))).1.2.2.1))) = true → cutP (pekS (((pekS (pekS xr).2).2).drop (Int.toNat 1))).1.2.2.1 ∧ ((!(plainS (pekS (((pekS (pekS xr).2).2).drop (Int.toNat 1))).1.2.2.1)) = true → False) ∧ ((!(plainS (pekS (((pekS (pekS xr).2).2).drop (Int.toNat 1))).1.2.2.1)) = false → K (Tst.mk (4, (pekS (((pekS (pekS xr).2).2).drop (Int.toNat 1))).1.2.2.1, 0, ([] : Bs), 0, 0) ([])) true (((pekS (((pekS (pekS xr).2).2).drop (Int.toNat 1))).2).drop (Int.toNat 1)))) ∧ ((((pekS (((pekS (pekS xr).2).2).drop (Int.toNat 1))).1.2.1 == (([] : Bs) ++ (pekS (((pekS (pekS xr).2).2).drop (Int.toNat 1))).1.2.2.1))) = false → False)) ∧ ((((pekS (((pekS (pekS xr).2).2).drop (Int.toNat 1))).1.1 == 1)) = false → False)))) ∧ ((((pekS xr).1.2.1 == ([46] : Bs))) = false → ((((pekS xr).1.2.1 == ([91] : Bs))) = true → ((((pekS (pekS xr).2).1.1 == 0)) = true → False) ∧ ((((pekS (pekS xr).2).1.1 == 0)) = false → (0 : Int) ≤ 1 ∧ (1 : Int) ≤ (((pekS (pekS xr).2).2).length : Int) ∧ (((pekS (pekS xr).2).2).length : Int) ≤ (((pekS (pekS xr).2).2).length : Int) ∧ atrP (((pekS (pekS xr).2).2).drop (Int.toNat 1)) ∧ K (atrR (((pekS (pekS xr).2).2).drop (Int.toNat 1))).1 true (atrR (((pekS (pekS xr).2).2).drop (Int.toNat 1))).2)) ∧ ((((pekS xr).1.2.1 == ([91] : Bs))) = false → ((((pekS xr).1.2.1 == ([58] : Bs))) = true → ((((pekS (pekS xr).2).1.1 == 0)) = true → False) ∧ ((((pekS (pekS xr).2).1.1 == 0)) = false → (0 : Int) ≤ 1 ∧ (1 : Int) ≤ (((pekS (pekS xr).2).2).length : Int) ∧ (((pekS (pekS xr).2).2).length : Int) ≤ (((pekS (pekS xr).2).2).length : Int) ∧ pssP N (((pekS (pekS xr).2).2).drop (Int.toNat 1)) ∧ K (pssR (((pekS (pekS xr).2).2).drop (Int.toNat 1))).1 true (pssR (((pekS (pekS xr).2).2).drop (Int.toNat 1))).2)) ∧ ((((pekS xr).1.2.1 == ([58] : Bs))) = false → K (Tst.mk (0, ([] : Bs), 0, ([] : Bs), 0, 0) ([])) false (pekS xr).2))))))
theorem one_ok {g : Ghost} (N : Nat) (ih_pss : pss_C N) (ih_one : one_C N) (ih_stp : stp_C N) (ih_pth : pth_C N) (ih_lst : lst_C N) {bxr : Nat} {axr_0 : Option Addr} {cxr_0 : Nat} (xr : List KT) (hRxr_0 : Rep g (.slice yK) [.slice axr_0 xr.length cxr_0] xr) (hG0 : SomeInt g 0) (K : (TS) → Bool → (List KT) → Prop)
  (hF : oneF N xr K) : CallsH Tryz.prog 101 #[pv bxr 0] g [.blk bxr (.cells #[.slice axr_0 xr.length cxr_0] 59)] (fun g' H' v => ∃ (r0 : TS), ∃ (r1 : Bool), ∃ (fxr : List KT), ∃ (Y0 : Option Addr) (U0 : Nat), ∃ (afxr_0 : Option Addr) (cfxr_0 : Nat), v = .tuple #[.agg (aL r0.lab Y0 r0.kids.length U0), .bool r1] ∧ Rep g' (.slice yP) [.slice Y0 r0.kids.length U0] r0.kids ∧ Rep g' (.slice yK) [.slice afxr_0 fxr.length cfxr_0] fxr ∧ H' = [.blk bxr (.cells #[.slice afxr_0 fxr.length cfxr_0] 59)] ∧ K r0 r1 fxr) := by
 refine CallsH.enter 61 [(0, pv bxr 0)] Tryz.func101 rfl kr kr kr fun w0 => ?_
 refine Ok.sr ((Ok.op rfl (OpOk.a (z := .agg #[iv 0, sv ([] : Bs), .int .u8 0, sv ([] : Bs), iv 0, iv 0, .slice none 0 0]) (cs := #[iv 0, sv ([] : Bs), .int .u8 0, sv ([] : Bs), iv 0, iv 0, .slice none 0 0]) kr kr rfl fun bs2 => ?_)))
 refine Ok.B 1 [(0, pv bxr 0), (2, pv bs2 0)] kr (Ok.nt ((Ok.q (Ok.sr ((Ok.b 1 [0, 2] [(5, pv bxr 0)] ?_))))))
 refine Ok.e [1, 0] [.blk bxr (.cells #[.slice axr_0 xr.length cxr_0] 59), .blk bs2 (.cells #[iv 0, sv ([] : Bs), .int .u8 0, sv ([] : Bs), iv 0, iv 0, .slice none 0 0] 48)] dc rfl (Ok.op rfl (OpOk.callH [_] _ enr rfl (pek_c xr hRxr_0) rfl fun g2 _ _ hx2 hV2 => ?_))
 obtain ⟨X1, S1, rfl, z1, rfl⟩ := hV2
 replace hG0 := hG0.mono hx2.1
 refine Ok.op rfl (OpOk.a (z := .agg zK) (cs := zK) kr kr rfl fun bs4 => ?_)
 refine Ok.op rfl (OpOk.sto (k := 4) (v := .agg (aK (pekS xr).1)) 0 (aK (pekS xr).1) rfl rfl rfl ?_)
 refine Ok.nt ((Ok.block (Ok.sr ((Ok.B 1 [(0, pv bxr 0), (2, pv bs2 0), (4, pv bs4 0), (8, pv bs4 1)] kr (Ok.op rfl (OpOk.s (v := sv ((pekS xr).1.2.1)) (Yields.l 0 rfl rfl Tryz.underlying9 rfl kr) rfl rfl (Ok.op rfl (OpOk.s (v := .bool ((pekS xr).1.2.1 == ([42] : Bs))) (Yields.sc (f := .eql) (a := (pekS xr).1.2.1) (b := ([42] : Bs)) kr kr rfl) rfl rfl (Ok.b 1 [0, 2, 4] [(7, .bool ((pekS xr).1.2.1 == ([42] : Bs)))] ?_))))))))))
 refine Ok.nt ((Ok.cn hF rfl (fun hc4 => ?_) (fun hc4 => ?_)))
 ·replace hF := hF.1 hc4
  refine Ok.sr ((Ok.b 1 [2] [(11, pv bxr 0)] ?_))
  refine Ok.op rfl (OpOk.i (args := #[pv bxr 0]) 20 [(0, pv bxr 0)] enr Tryz.func74 rfl rfl rfl rfl (Ok.sr ((Ok.op rfl (OpOk.a (z := .agg zK) (cs := zK) kr kr rfl fun v2 => ?_)))))
  refine Ok.nt ((Ok.sr ((Ok.B 1 [(0, pv bxr 0), (2, pv v2 0), (4, pv bxr 0)] kr (Ok.e [2, 0, 1, 3] [.blk bxr (.cells #[.slice X1 ((pekS xr).2).length S1] 59), .blk v2 (.cells zK 78), .blk bs4 (.cells (aK (pekS xr).1) 78), .blk bs2 (.cells #[iv 0, sv ([] : Bs), .int .u8 0, sv ([] : Bs), iv 0, iv 0, .slice none 0 0] 48)] dc rfl (Ok.op rfl (OpOk.callH [_] _ enr rfl (pek_c (pekS xr).2 z1) rfl fun g6 _ _ hx6 hV6 => ?_)))))))
  obtain ⟨a6_0, c6_0, rfl, hR6_0, rfl⟩ := hV6
  replace hG0 := hG0.mono hx6.1
  refine Ok.op rfl (OpOk.a (z := .agg zK) (cs := zK) kr kr rfl fun E2 => ?_)
  refine Ok.op rfl (OpOk.sto (k := 4) (v := .agg (aK (pekS (pekS xr).2).1)) 0 (aK (pekS (pekS xr).2).1) rfl rfl rfl ?_)
  refine Ok.nt ((Ok.q (Ok.sr ((Ok.B 1 [(0, pv bxr 0), (2, pv v2 0), (3, pv E2 0), (6, pv E2 0)] kr (Ok.op rfl (OpOk.s (v := iv (pekS (pekS xr).2).1.1) (Yields.l 0 rfl rfl Tryz.underlying3 rfl kr) rfl rfl (Ok.b 1 [0, 2, 3] [(8, .bool ((pekS (pekS xr).2).1.1 == 0))] ?_))))))))
  refine Ok.nt ((Ok.cn hF rfl (fun hc8 => ?_) (fun hc8 => ?_)))
  ·replace hF := hF.1 hc8
   exact False.elim hF
  replace hF := hF.2 hc8
  refine Ok.k (Ok.t (Ok.sr ((Ok.b 4 [2, 3] [(11, pv bxr 0), (14, pv bxr 0)] ?_))))
  refine Ok.op rfl (OpOk.s (v := .slice a6_0 ((pekS (pekS xr).2).2).length c6_0) (Yields.l 1 rfl rfl Tryz.underlying56 rfl kr) rfl rfl ?_)
  obtain ⟨h09, h19, h29, hF⟩ := hF
  refine Ok.op rfl (OpOk.sliceRo (e := yK) (l := 1) (h := (((pekS (pekS xr).2).2).length : Int)) rfl Tryz.underlying56 kr (.inl ⟨_, _, rfl, rfl⟩) (.inr ⟨rfl, rfl⟩) hR6_0 h09 h19 h29 rfl (((pekS (pekS xr).2).2).drop (Int.toNat 1)) (by rw [show ((((pekS (pekS xr).2).2).length : Int)).toNat = ((pekS (pekS xr).2).2).length from Int.toNat_natCast _, List.take_length]) fun a9 c9 hR9 => ?_)
  refine Ok.b 2 [2, 3] [(16, .slice a9 (((pekS (pekS xr).2).2).drop (Int.toNat 1)).length c9), (18, pv bxr 0)] ?_
  refine Ok.op rfl (OpOk.sto (k := 1) (v := .slice a9 (((pekS (pekS xr).2).2).drop (Int.toNat 1)).length c9) 1 #[.slice a9 (((pekS (pekS xr).2).2).drop (Int.toNat 1)).length c9] rfl rfl rfl ?_)
  refine Ok.nt ((Ok.sr ((Ok.op rfl (OpOk.s (v := .agg (aK (pekS (pekS xr).2).1)) (Yields.loadAgg 0 4 (aK (pekS (pekS xr).2).1) rfl rfl Tryz.underlying78 rfl kr kr kr) rfl rfl (Ok.op rfl (OpOk.sto (k := 4) (v := .agg (aK (pekS (pekS xr).2).1)) 2 (aK (pekS (pekS xr).2).1) rfl rfl rfl ?_)))))))
  refine Ok.nt ((Ok.ret (Ok.back (vs := [.agg (aK (pekS (pekS xr).2).1)]) (.inl rfl) rfl (.cons (.cellAgg 2 4 (aK (pekS (pekS xr).2).1) rfl rfl Tryz.underlying78 rfl kr kr kr) .nil) rfl (Ok.nt ((Ok.sr ((Ok.B 1 [(2, pv bs2 0), (13, .agg #[iv 1, sv ([] : Bs), .int .u8 0, sv ([] : Bs), iv 0, iv 0, .slice none 0 0])] kr (Ok.op rfl (OpOk.sto (k := 7) (v := .agg #[iv 1, sv ([] : Bs), .int .u8 0, sv ([] : Bs), iv 0, iv 0, .slice none 0 0]) 4 #[iv 1, sv ([] : Bs), .int .u8 0, sv ([] : Bs), iv 0, iv 0, .slice none 0 0] rfl rfl rfl ?_))))))))))
  refine Ok.b 1 [2] [(3, .bool true)] ?_
  refine Ok.nt ((Ok.ret (Ok.kr (Ok.tr ?_))))
  exact Ok.p (vs := [.agg #[iv 1, sv ([] : Bs), .int .u8 0, sv ([] : Bs), iv 0, iv 0, .slice none 0 0], .bool true]) [1] [.blk bxr (.cells #[.slice a9 (((pekS (pekS xr).2).2).drop (Int.toNat 1)).length c9] 59)] dc rfl (.inl rfl) rfl (.cons (.cellAgg 4 7 #[iv 1, sv ([] : Bs), .int .u8 0, sv ([] : Bs), iv 0, iv 0, .slice none 0 0] rfl rfl Tryz.underlying48 rfl kr kr kr) (.cons (.tmp rfl) .nil)) (hx2.trans hx6) ⟨(Tst.mk (1, ([] : Bs), 0, ([] : Bs), 0, 0) ([])), true, (((pekS (pekS xr).2).2).drop (Int.toNat 1)), none, 0, a9, c9, rfl, Rep.nil, hR9, rfl, hF⟩
 replace hF := hF.2 hc4
 refine Ok.sr ((Ok.b 1 [0, 2, 4] [(15, pv bs4 0)] ?_))
 refine Ok.op rfl (OpOk.s (v := iv (pekS xr).1.1) (Yields.l 0 rfl rfl Tryz.underlying3 rfl kr) rfl rfl (Ok.b 2 [0, 2, 4] [(14, .bool ((pekS xr).1.1 == 1))] ?_))
 refine Ok.nt ((Ok.cn hF rfl (fun n1 => ?_) (fun n1 => ?_)))
 ·replace hF := hF.1 n1
  refine Ok.sr ((Ok.b 2 [2] [(18, pv bxr 0), (19, pv bxr 0)] ?_))
  refine Ok.op rfl (OpOk.i (args := #[pv bxr 0]) 20 [(0, pv bxr 0)] enr Tryz.func74 rfl rfl rfl rfl (Ok.sr ((Ok.op rfl (OpOk.a (z := .agg zK) (cs := zK) kr kr rfl fun k2 => ?_)))))
  refine Ok.nt ((Ok.sr ((Ok.B 1 [(0, pv bxr 0), (2, pv k2 0), (4, pv bxr 0)] kr (Ok.e [2, 0, 1, 3] [.blk bxr (.cells #[.slice X1 ((pekS xr).2).length S1] 59), .blk k2 (.cells zK 78), .blk bs4 (.cells (aK (pekS xr).1) 78), .blk bs2 (.cells #[iv 0, sv ([] : Bs), .int .u8 0, sv ([] : Bs), iv 0, iv 0, .slice none 0 0] 48)] dc rfl (Ok.op rfl (OpOk.callH [_] _ enr rfl (pek_c (pekS xr).2 z1) rfl fun g12 _ _ A0 V3 => ?_)))))))
  obtain ⟨R0, T0, rfl, C0, rfl⟩ := V3
  replace hG0 := hG0.mono A0.1
  refine Ok.op rfl (OpOk.a (z := .agg zK) (cs := zK) kr kr rfl fun F2 => ?_)
  refine Ok.op rfl (OpOk.sto (k := 4) (v := .agg (aK (pekS (pekS xr).2).1)) 0 (aK (pekS (pekS xr).2).1) rfl rfl rfl ?_)
  refine Ok.nt ((Ok.q (Ok.sr ((Ok.B 1 [(0, pv bxr 0), (2, pv k2 0), (3, pv F2 0), (6, pv F2 0)] kr (Ok.op rfl (OpOk.s (v := iv (pekS (pekS xr).2).1.1) (Yields.l 0 rfl rfl Tryz.underlying3 rfl kr) rfl rfl (Ok.b 1 [0, 2, 3] [(8, .bool ((pekS (pekS xr).2).1.1 == 0))] ?_))))))))
  refine Ok.nt ((Ok.cn hF rfl (fun I1 => ?_) (fun I1 => ?_)))
  ·replace hF := hF.1 I1
   exact False.elim hF
  replace hF := hF.2 I1
  refine Ok.k (Ok.t (Ok.sr ((Ok.b 4 [2, 3] [(11, pv bxr 0), (14, pv bxr 0)] ?_))))
  refine Ok.op rfl (OpOk.s (v := .slice R0 ((pekS (pekS xr).2).2).length T0) (Yields.l 1 rfl rfl Tryz.underlying56 rfl kr) rfl rfl ?_)
  obtain ⟨h015, h115, h215, hF⟩ := hF
  refine Ok.op rfl (OpOk.sliceRo (e := yK) (l := 1) (h := (((pekS (pekS xr).2).2).length : Int)) rfl Tryz.underlying56 kr (.inl ⟨_, _, rfl, rfl⟩) (.inr ⟨rfl, rfl⟩) C0 h015 h115 h215 rfl (((pekS (pekS xr).2).2).drop (Int.toNat 1)) (by rw [show ((((pekS (pekS xr).2).2).length : Int)).toNat = ((pekS (pekS xr).2).2).length from Int.toNat_natCast _, List.take_length]) fun a15 c15 hR15 => ?_)
  refine Ok.b 2 [2, 3] [(16, .slice a15 (((pekS (pekS xr).2).2).drop (Int.toNat 1)).length c15), (18, pv bxr 0)] ?_
  refine Ok.op rfl (OpOk.sto (k := 1) (v := .slice a15 (((pekS (pekS xr).2).2).drop (Int.toNat 1)).length c15) 1 #[.slice a15 (((pekS (pekS xr).2).2).drop (Int.toNat 1)).length c15] rfl rfl rfl ?_)
  refine Ok.nt ((Ok.sr ((Ok.op rfl (OpOk.s (v := .agg (aK (pekS (pekS xr).2).1)) (Yields.loadAgg 0 4 (aK (pekS (pekS xr).2).1) rfl rfl Tryz.underlying78 rfl kr kr kr) rfl rfl (Ok.op rfl (OpOk.sto (k := 4) (v := .agg (aK (pekS (pekS xr).2).1)) 2 (aK (pekS (pekS xr).2).1) rfl rfl rfl ?_)))))))
  refine Ok.nt ((Ok.ret (Ok.back (vs := [.agg (aK (pekS (pekS xr).2).1)]) (.inl rfl) rfl (.cons (.cellAgg 2 4 (aK (pekS (pekS xr).2).1) rfl rfl Tryz.underlying78 rfl kr kr kr) .nil) rfl (Ok.op rfl (OpOk.i (args := #[pv bxr 0, .agg (aK (pekS (pekS xr).2).1), iv 1, sv ([] : Bs)]) 31 [(0, pv bxr 0), (1, .agg (aK (pekS (pekS xr).2).1)), (2, iv 1), (3, sv ([] : Bs))] enr Tryz.func115 rfl rfl rfl rfl (Ok.sr ((Ok.op rfl (OpOk.box (v := .agg (aK (pekS (pekS xr).2).1)) (cs := (aK (pekS (pekS xr).2).1)) rfl kr rfl fun y1 => ?_)))))))))
  refine Ok.B 1 [(0, pv bxr 0), (2, iv 1), (3, sv ([] : Bs)), (5, pv y1 0)] kr (Ok.nt ((Ok.sr ((Ok.b 2 [2, 3, 5] [(9, pv bxr 0), (10, pv y1 0)] ?_)))))
  refine Ok.op rfl (OpOk.s (v := iv (pekS (pekS xr).2).1.1) (Yields.l 0 rfl rfl Tryz.underlying3 rfl kr) rfl rfl (Ok.b 3 [3, 5, 9] [(14, .bool ((pekS (pekS xr).2).1.1 == 1))] ?_))
  refine Ok.a 14 (((pekS (pekS xr).2).1.1 == 1)) rfl (fun Q3 => ?_) (fun Q3 => ?_)
  ·replace hF := hF.1 Q3
   refine Ok.b 1 [3, 5, 9] [(14, .bool true), (15, pv y1 1)] ?_
   refine Ok.y (j := 5) (d := 14) (want := true) (b := true) rfl kr kr rfl (OpOk.s (v := sv ((pekS (pekS xr).2).1.2.1)) (Yields.l 0 rfl rfl Tryz.underlying9 rfl kr) rfl rfl (Ok.b 2 [5, 9, 14] [(16, sv ((pekS (pekS xr).2).1.2.1)), (17, sv ([] : Bs)), (18, pv y1 2)] ?_))
   refine Ok.y (j := 5) (d := 14) (want := true) (b := true) rfl kr kr rfl (OpOk.s (v := sv ((pekS (pekS xr).2).1.2.2.1)) (Yields.l 0 rfl rfl Tryz.underlying9 rfl kr) rfl rfl ?_)
   obtain ⟨hv, hF⟩ := hF
   refine Ok.y (j := 5) (d := 14) (want := true) (b := true) rfl kr kr rfl (OpOk.s (v := sv (([] : Bs) ++ (pekS (pekS xr).2).1.2.2.1)) (Yields.sa rfl rfl hv) rfl rfl (Ok.y (j := 5) (d := 14) (want := true) (b := true) rfl kr kr rfl (OpOk.s (v := .bool ((pekS (pekS xr).2).1.2.1 == (([] : Bs) ++ (pekS (pekS xr).2).1.2.2.1))) (Yields.sc (f := .eql) (a := (pekS (pekS xr).2).1.2.1) (b := (([] : Bs) ++ (pekS (pekS xr).2).1.2.2.1)) kr kr rfl) rfl rfl (Ok.b 2 [5, 9] [(23, .bool ((pekS (pekS xr).2).1.2.1 == (([] : Bs) ++ (pekS (pekS xr).2).1.2.2.1)))] ?_))))
   refine Ok.a 23 (((pekS (pekS xr).2).1.2.1 == (([] : Bs) ++ (pekS (pekS xr).2).1.2.2.1))) rfl (fun H0 => ?_) (fun H0 => ?_)
   ·replace hF := hF.1 H0
    refine Ok.b 1 [5, 9] [(23, .bool true), (24, pv y1 2)] ?_
    refine Ok.y (j := 14) (d := 23) (want := true) (b := true) rfl kr kr rfl (OpOk.s (v := sv ((pekS (pekS xr).2).1.2.2.1)) (Yields.l 0 rfl rfl Tryz.underlying9 rfl kr) rfl rfl ?_)
    obtain ⟨t3, hF⟩ := hF
    refine Ok.y (j := 14) (d := 23) (want := true) (b := true) rfl kr kr rfl (OpOk.f enr (fun W hW => snm_c (pekS (pekS xr).2).1.2.2.1 (hG0.mono hW.sees) t3) rfl ?_)
    refine Ok.b 1 [5, 9] [(27, .bool (plainS (pekS (pekS xr).2).1.2.2.1))] ?_
    refine Ok.op rfl (OpOk.i (args := #[pv bxr 0, .bool (plainS (pekS (pekS xr).2).1.2.2.1)]) 8 [(0, pv bxr 0), (1, .bool (plainS (pekS (pekS xr).2).1.2.2.1))] enr Tryz.func47 rfl rfl rfl rfl (Ok.sr ((Ok.B 2 [(5, .bool (!(plainS (pekS (pekS xr).2).1.2.2.1)))] kr (Ok.nt ((Ok.cn hF rfl (fun K3 => ?_) (fun K3 => ?_))))))))
    ·replace hF := hF.1 K3
     exact False.elim hF
    replace hF := hF.2 K3
    refine Ok.k (Ok.back (vs := []) (.inr rfl) rfl .nil rfl (Ok.nt ((Ok.sr ((Ok.B 1 [(29, pv y1 2)] kr (Ok.op rfl (OpOk.s (v := sv ((pekS (pekS xr).2).1.2.2.1)) (Yields.l 0 rfl rfl Tryz.underlying9 rfl kr) rfl rfl (Ok.B 1 [(8, sv ((pekS (pekS xr).2).1.2.2.1))] kr (Ok.nt ((Ok.ret (Ok.back (vs := [sv ((pekS (pekS xr).2).1.2.2.1)]) (.inl rfl) rfl (.cons (.tmp rfl) .nil) rfl ?_)))))))))))))
    obtain ⟨hp21, hF⟩ := hF
    refine Ok.op rfl (OpOk.f enr (fun W hW => slw_c (pekS (pekS xr).2).1.2.2.1 hp21) rfl ?_)
    refine Ok.B 1 [(2, pv bs2 0), (23, .agg #[iv 2, sv (lowerS (pekS (pekS xr).2).1.2.2.1), .int .u8 0, sv ([] : Bs), iv 0, iv 0, .slice none 0 0])] kr (Ok.op rfl (OpOk.sto (k := 7) (v := .agg #[iv 2, sv (lowerS (pekS (pekS xr).2).1.2.2.1), .int .u8 0, sv ([] : Bs), iv 0, iv 0, .slice none 0 0]) 5 #[iv 2, sv (lowerS (pekS (pekS xr).2).1.2.2.1), .int .u8 0, sv ([] : Bs), iv 0, iv 0, .slice none 0 0] rfl rfl rfl ?_))
    refine Ok.b 1 [2] [(3, .bool true)] ?_
    refine Ok.nt ((Ok.ret (Ok.kr (Ok.tr ?_))))
    exact Ok.p (vs := [.agg #[iv 2, sv (lowerS (pekS (pekS xr).2).1.2.2.1), .int .u8 0, sv ([] : Bs), iv 0, iv 0, .slice none 0 0], .bool true]) [2] [.blk bxr (.cells #[.slice a15 (((pekS (pekS xr).2).2).drop (Int.toNat 1)).length c15] 59)] dc rfl (.inl rfl) rfl (.cons (.cellAgg 5 7 #[iv 2, sv (lowerS (pekS (pekS xr).2).1.2.2.1), .int .u8 0, sv ([] : Bs), iv 0, iv 0, .slice none 0 0] rfl rfl Tryz.underlying48 rfl kr kr kr) (.cons (.tmp rfl) .nil)) (hx2.trans A0) ⟨(Tst.mk (2, (lowerS (pekS (pekS xr).2).1.2.2.1), 0, ([] : Bs), 0, 0) ([])), true, (((pekS (pekS xr).2).2).drop (Int.toNat 1)), none, 0, a15, c15, rfl, Rep.nil, hR15, rfl, hF⟩
   replace hF := hF.2 H0
   refine Ok.b 4 [5, 9] [(27, .bool false)] ?_
   refine Ok.op rfl (OpOk.i (args := #[pv bxr 0, .bool false]) 8 [(0, pv bxr 0), (1, .bool false)] enr Tryz.func47 rfl rfl rfl rfl (Ok.sr ((Ok.B 2 [(5, .bool true)] kr (Ok.nt ((Ok.c (b := true) rfl (fun _ => ?_) (fun h => by cases h))))))))
   exact False.elim hF
  replace hF := hF.2 Q3
  refine Ok.b 13 [5, 9] [(27, .bool false)] ?_
  refine Ok.op rfl (OpOk.i (args := #[pv bxr 0, .bool false]) 8 [(0, pv bxr 0), (1, .bool false)] enr Tryz.func47 rfl rfl rfl rfl (Ok.sr ((Ok.B 2 [(5, .bool true)] kr (Ok.nt ((Ok.c (b := true) rfl (fun _ => ?_) (fun h => by cases h))))))))
  exact False.elim hF
 replace hF := hF.2 n1
 refine Ok.sr ((Ok.b 1 [0, 2, 4] [(25, pv bs4 0)] ?_))
 refine Ok.op rfl (OpOk.s (v := iv (pekS xr).1.1) (Yields.l 0 rfl rfl Tryz.underlying3 rfl kr) rfl rfl (Ok.b 2 [0, 2, 4] [(24, .bool ((pekS xr).1.1 == 4))] ?_))
 refine Ok.nt ((Ok.cn hF rfl (fun y2 => ?_) (fun y2 => ?_)))
 ·replace hF := hF.1 y2
  refine Ok.sr ((Ok.b 2 [2] [(28, pv bxr 0), (29, pv bxr 0)] ?_))
  refine Ok.op rfl (OpOk.i (args := #[pv bxr 0]) 20 [(0, pv bxr 0)] enr Tryz.func74 rfl rfl rfl rfl (Ok.sr ((Ok.op rfl (OpOk.a (z := .agg zK) (cs := zK) kr kr rfl fun J0 => ?_)))))
  refine Ok.nt ((Ok.sr ((Ok.B 1 [(0, pv bxr 0), (2, pv J0 0), (4, pv bxr 0)] kr (Ok.e [2, 0, 1, 3] [.blk bxr (.cells #[.slice X1 ((pekS xr).2).length S1] 59), .blk J0 (.cells zK 78), .blk bs4 (.cells (aK (pekS xr).1) 78), .blk bs2 (.cells #[iv 0, sv ([] : Bs), .int .u8 0, sv ([] : Bs), iv 0, iv 0, .slice none 0 0] 48)] dc rfl (Ok.op rfl (OpOk.callH [_] _ enr rfl (pek_c (pekS xr).2 z1) rfl fun g24 _ _ B1 Y3 => ?_)))))))
  obtain ⟨N0, O0, rfl, j2, rfl⟩ := Y3
  replace hG0 := hG0.mono B1.1
  refine Ok.op rfl (OpOk.a (z := .agg zK) (cs := zK) kr kr rfl fun S0 => ?_)
  refine Ok.op rfl (OpOk.sto (k := 4) (v := .agg (aK (pekS (pekS xr).2).1)) 0 (aK (pekS (pekS xr).2).1) rfl rfl rfl ?_)
  refine Ok.nt ((Ok.q (Ok.sr ((Ok.B 1 [(0, pv bxr 0), (2, pv J0 0), (3, pv S0 0), (6, pv S0 0)] kr (Ok.op rfl (OpOk.s (v := iv (pekS (pekS xr).2).1.1) (Yields.l 0 rfl rfl Tryz.underlying3 rfl kr) rfl rfl (Ok.b 1 [0, 2, 3] [(8, .bool ((pekS (pekS xr).2).1.1 == 0))] ?_))))))))
  refine Ok.nt ((Ok.cn hF rfl (fun U3 => ?_) (fun U3 => ?_)))
  ·replace hF := hF.1 U3
   exact False.elim hF
  replace hF := hF.2 U3
  refine Ok.k (Ok.t (Ok.sr ((Ok.b 4 [2, 3] [(11, pv bxr 0), (14, pv bxr 0)] ?_))))
  refine Ok.op rfl (OpOk.s (v := .slice N0 ((pekS (pekS xr).2).2).length O0) (Yields.l 1 rfl rfl Tryz.underlying56 rfl kr) rfl rfl ?_)
  obtain ⟨h027, h127, h227, hF⟩ := hF
  refine Ok.op rfl (OpOk.sliceRo (e := yK) (l := 1) (h := (((pekS (pekS xr).2).2).length : Int)) rfl Tryz.underlying56 kr (.inl ⟨_, _, rfl, rfl⟩) (.inr ⟨rfl, rfl⟩) j2 h027 h127 h227 rfl (((pekS (pekS xr).2).2).drop (Int.toNat 1)) (by rw [show ((((pekS (pekS xr).2).2).length : Int)).toNat = ((pekS (pekS xr).2).2).length from Int.toNat_natCast _, List.take_length]) fun a27 c27 hR27 => ?_)
  refine Ok.b 2 [2, 3] [(16, .slice a27 (((pekS (pekS xr).2).2).drop (Int.toNat 1)).length c27), (18, pv bxr 0)] ?_
  refine Ok.op rfl (OpOk.sto (k := 1) (v := .slice a27 (((pekS (pekS xr).2).2).drop (Int.toNat 1)).length c27) 1 #[.slice a27 (((pekS (pekS xr).2).2).drop (Int.toNat 1)).length c27] rfl rfl rfl ?_)
  refine Ok.nt ((Ok.sr ((Ok.op rfl (OpOk.s (v := .agg (aK (pekS (pekS xr).2).1)) (Yields.loadAgg 0 4 (aK (pekS (pekS xr).2).1) rfl rfl Tryz.underlying78 rfl kr kr kr) rfl rfl (Ok.op rfl (OpOk.sto (k := 4) (v := .agg (aK (pekS (pekS xr).2).1)) 2 (aK (pekS (pekS xr).2).1) rfl rfl rfl ?_)))))))
  refine Ok.nt ((Ok.ret (Ok.back (vs := [.agg (aK (pekS (pekS xr).2).1)]) (.inl rfl) rfl (.cons (.cellAgg 2 4 (aK (pekS (pekS xr).2).1) rfl rfl Tryz.underlying78 rfl kr kr kr) .nil) rfl (Ok.op rfl (OpOk.i (args := #[pv bxr 0, .agg (aK (pekS (pekS xr).2).1), iv 4, sv ([35] : Bs)]) 31 [(0, pv bxr 0), (1, .agg (aK (pekS (pekS xr).2).1)), (2, iv 4), (3, sv ([35] : Bs))] enr Tryz.func115 rfl rfl rfl rfl (Ok.sr ((Ok.op rfl (OpOk.box (v := .agg (aK (pekS (pekS xr).2).1)) (cs := (aK (pekS (pekS xr).2).1)) rfl kr rfl fun j1 => ?_)))))))))
  refine Ok.B 1 [(0, pv bxr 0), (2, iv 4), (3, sv ([35] : Bs)), (5, pv j1 0)] kr (Ok.nt ((Ok.sr ((Ok.b 2 [2, 3, 5] [(9, pv bxr 0), (10, pv j1 0)] ?_)))))
  refine Ok.op rfl (OpOk.s (v := iv (pekS (pekS xr).2).1.1) (Yields.l 0 rfl rfl Tryz.underlying3 rfl kr) rfl rfl (Ok.b 3 [3, 5, 9] [(14, .bool ((pekS (pekS xr).2).1.1 == 4))] ?_))
  refine Ok.a 14 (((pekS (pekS xr).2).1.1 == 4)) rfl (fun J3 => ?_) (fun J3 => ?_)
  ·replace hF := hF.1 J3
   refine Ok.b 1 [3, 5, 9] [(14, .bool true), (15, pv j1 1)] ?_
   refine Ok.y (j := 5) (d := 14) (want := true) (b := true) rfl kr kr rfl (OpOk.s (v := sv ((pekS (pekS xr).2).1.2.1)) (Yields.l 0 rfl rfl Tryz.underlying9 rfl kr) rfl rfl (Ok.b 2 [5, 9, 14] [(16, sv ((pekS (pekS xr).2).1.2.1)), (17, sv ([35] : Bs)), (18, pv j1 2)] ?_))
   refine Ok.y (j := 5) (d := 14) (want := true) (b := true) rfl kr kr rfl (OpOk.s (v := sv ((pekS (pekS xr).2).1.2.2.1)) (Yields.l 0 rfl rfl Tryz.underlying9 rfl kr) rfl rfl ?_)
   obtain ⟨hv, hF⟩ := hF
   refine Ok.y (j := 5) (d := 14) (want := true) (b := true) rfl kr kr rfl (OpOk.s (v := sv (([35] : Bs) ++ (pekS (pekS xr).2).1.2.2.1)) (Yields.sa rfl rfl hv) rfl rfl (Ok.y (j := 5) (d := 14) (want := true) (b := true) rfl kr kr rfl (OpOk.s (v := .bool ((pekS (pekS xr).2).1.2.1 == (([35] : Bs) ++ (pekS (pekS xr).2).1.2.2.1))) (Yields.sc (f := .eql) (a := (pekS (pekS xr).2).1.2.1) (b := (([35] : Bs) ++ (pekS (pekS xr).2).1.2.2.1)) kr kr rfl) rfl rfl (Ok.b 2 [5, 9] [(23, .bool ((pekS (pekS xr).2).1.2.1 == (([35] : Bs) ++ (pekS (pekS xr).2).1.2.2.1)))] ?_))))
   refine Ok.a 23 (((pekS (pekS xr).2).1.2.1 == (([35] : Bs) ++ (pekS (pekS xr).2).1.2.2.1))) rfl (fun W3 => ?_) (fun W3 => ?_)
   ·replace hF := hF.1 W3
    refine Ok.b 1 [5, 9] [(23, .bool true), (24, pv j1 2)] ?_
    refine Ok.y (j := 14) (d := 23) (want := true) (b := true) rfl kr kr rfl (OpOk.s (v := sv ((pekS (pekS xr).2).1.2.2.1)) (Yields.l 0 rfl rfl Tryz.underlying9 rfl kr) rfl rfl ?_)
    obtain ⟨hp31, hF⟩ := hF
    refine Ok.y (j := 14) (d := 23) (want := true) (b := true) rfl kr kr rfl (OpOk.f enr (fun W hW => snm_c (pekS (pekS xr).2).1.2.2.1 (hG0.mono hW.sees) hp31) rfl ?_)
    refine Ok.b 1 [5, 9] [(27, .bool (plainS (pekS (pekS xr).2).1.2.2.1))] ?_
    refine Ok.op rfl (OpOk.i (args := #[pv bxr 0, .bool (plainS (pekS (pekS xr).2).1.2.2.1)]) 8 [(0, pv bxr 0), (1, .bool (plainS (pekS (pekS xr).2).1.2.2.1))] enr Tryz.func47 rfl rfl rfl rfl (Ok.sr ((Ok.B 2 [(5, .bool (!(plainS (pekS (pekS xr).2).1.2.2.1)))] kr (Ok.nt ((Ok.cn hF rfl (fun X3 => ?_) (fun X3 => ?_))))))))
    ·replace hF := hF.1 X3
     exact False.elim hF
    replace hF := hF.2 X3
    refine Ok.k (Ok.back (vs := []) (.inr rfl) rfl .nil rfl (Ok.nt ((Ok.sr ((Ok.B 1 [(29, pv j1 2)] kr (Ok.op rfl (OpOk.s (v := sv ((pekS (pekS xr).2).1.2.2.1)) (Yields.l 0 rfl rfl Tryz.underlying9 rfl kr) rfl rfl (Ok.B 1 [(8, sv ((pekS (pekS xr).2).1.2.2.1))] kr (Ok.nt ((Ok.ret (Ok.back (vs := [sv ((pekS (pekS xr).2).1.2.2.1)]) (.inl rfl) rfl (.cons (.tmp rfl) .nil) rfl (Ok.B 1 [(2, pv bs2 0), (32, .agg #[iv 3, sv ((pekS (pekS xr).2).1.2.2.1), .int .u8 0, sv ([] : Bs), iv 0, iv 0, .slice none 0 0])] kr (Ok.op rfl (OpOk.sto (k := 7) (v := .agg #[iv 3, sv ((pekS (pekS xr).2).1.2.2.1), .int .u8 0, sv ([] : Bs), iv 0, iv 0, .slice none 0 0]) 5 #[iv 3, sv ((pekS (pekS xr).2).1.2.2.1), .int .u8 0, sv ([] : Bs), iv 0, iv 0, .slice none 0 0] rfl rfl rfl ?_))))))))))))))))
    refine Ok.b 1 [2] [(3, .bool true)] ?_
    refine Ok.nt ((Ok.ret (Ok.kr (Ok.tr ?_))))
    exact Ok.p (vs := [.agg #[iv 3, sv ((pekS (pekS xr).2).1.2.2.1), .int .u8 0, sv ([] : Bs), iv 0, iv 0, .slice none 0 0], .bool true]) [2] [.blk bxr (.cells #[.slice a27 (((pekS (pekS xr).2).2).drop (Int.toNat 1)).length c27] 59)] dc rfl (.inl rfl) rfl (.cons (.cellAgg 5 7 #[iv 3, sv ((pekS (pekS xr).2).1.2.2.1), .int .u8 0, sv ([] : Bs), iv 0, iv 0, .slice none 0 0] rfl rfl Tryz.underlying48 rfl kr kr kr) (.cons (.tmp rfl) .nil)) (hx2.trans B1) ⟨(Tst.mk (3, (pekS (pekS xr).2).1.2.2.1, 0, ([] : Bs), 0, 0) ([])), true, (((pekS (pekS xr).2).2).drop (Int.toNat 1)), none, 0, a27, c27, rfl, Rep.nil, hR27, rfl, hF⟩
   replace hF := hF.2 W3
   refine Ok.b 4 [5, 9] [(27, .bool false)] ?_
   refine Ok.op rfl (OpOk.i (args := #[pv bxr 0, .bool false]) 8 [(0, pv bxr 0), (1, .bool false)] enr Tryz.func47 rfl rfl rfl rfl (Ok.sr ((Ok.B 2 [(5, .bool true)] kr (Ok.nt ((Ok.c (b := true) rfl (fun _ => ?_) (fun h => by cases h))))))))
   exact False.elim hF
  replace hF := hF.2 J3
  refine Ok.b 13 [5, 9] [(27, .bool false)] ?_
  refine Ok.op rfl (OpOk.i (args := #[pv bxr 0, .bool false]) 8 [(0, pv bxr 0), (1, .bool false)] enr Tryz.func47 rfl rfl rfl rfl (Ok.sr ((Ok.B 2 [(5, .bool true)] kr (Ok.nt ((Ok.c (b := true) rfl (fun _ => ?_) (fun h => by cases h))))))))
  exact False.elim hF
 replace hF := hF.2 y2
 refine Ok.sr ((Ok.b 1 [0, 2, 4] [(34, pv bs4 1)] ?_))
 refine Ok.op rfl (OpOk.s (v := sv ((pekS xr).1.2.1)) (Yields.l 0 rfl rfl Tryz.underlying9 rfl kr) rfl rfl (Ok.op rfl (OpOk.s (v := .bool ((pekS xr).1.2.1 == ([46] : Bs))) (Yields.sc (f := .eql) (a := (pekS xr).1.2.1) (b := ([46] : Bs)) kr kr rfl) rfl rfl (Ok.b 1 [0, 2, 4] [(33, .bool ((pekS xr).1.2.1 == ([46] : Bs)))] ?_))))
 refine Ok.nt ((Ok.cn hF rfl (fun i1 => ?_) (fun i1 => ?_)))
 ·replace hF := hF.1 i1
  refine Ok.sr ((Ok.b 1 [0, 2] [(37, pv bxr 0)] ?_))
  refine Ok.op rfl (OpOk.i (args := #[pv bxr 0]) 20 [(0, pv bxr 0)] enr Tryz.func74 rfl rfl rfl rfl (Ok.sr ((Ok.op rfl (OpOk.a (z := .agg zK) (cs := zK) kr kr rfl fun C1 => ?_)))))
  refine Ok.nt ((Ok.sr ((Ok.b 1 [0] [(2, pv C1 0), (4, pv bxr 0)] ?_))))
  refine Ok.e [2, 0, 1, 3] [.blk bxr (.cells #[.slice X1 ((pekS xr).2).length S1] 59), .blk C1 (.cells zK 78), .blk bs4 (.cells (aK (pekS xr).1) 78), .blk bs2 (.cells #[iv 0, sv ([] : Bs), .int .u8 0, sv ([] : Bs), iv 0, iv 0, .slice none 0 0] 48)] dc rfl (Ok.op rfl (OpOk.callH [_] _ enr rfl (pek_c (pekS xr).2 z1) rfl fun g35 _ _ I3 hV35 => ?_))
  obtain ⟨a35_0, c35_0, rfl, hR35_0, rfl⟩ := hV35
  replace hG0 := hG0.mono I3.1
  refine Ok.op rfl (OpOk.a (z := .agg zK) (cs := zK) kr kr rfl fun x2 => ?_)
  refine Ok.op rfl (OpOk.sto (k := 4) (v := .agg (aK (pekS (pekS xr).2).1)) 0 (aK (pekS (pekS xr).2).1) rfl rfl rfl ?_)
  refine Ok.nt ((Ok.q (Ok.sr ((Ok.B 1 [(0, pv bxr 0), (2, pv C1 0), (3, pv x2 0), (6, pv x2 0)] kr (Ok.op rfl (OpOk.s (v := iv (pekS (pekS xr).2).1.1) (Yields.l 0 rfl rfl Tryz.underlying3 rfl kr) rfl rfl (Ok.b 1 [0, 2, 3] [(8, .bool ((pekS (pekS xr).2).1.1 == 0))] ?_))))))))
  refine Ok.nt ((Ok.cn hF rfl (fun D1 => ?_) (fun D1 => ?_)))
  ·replace hF := hF.1 D1
   exact False.elim hF
  replace hF := hF.2 D1
  refine Ok.k (Ok.t (Ok.sr ((Ok.b 4 [2, 3] [(11, pv bxr 0), (14, pv bxr 0)] ?_))))
  refine Ok.op rfl (OpOk.s (v := .slice a35_0 ((pekS (pekS xr).2).2).length c35_0) (Yields.l 1 rfl rfl Tryz.underlying56 rfl kr) rfl rfl ?_)
  obtain ⟨h038, h138, h238, hF⟩ := hF
  refine Ok.op rfl (OpOk.sliceRo (e := yK) (l := 1) (h := (((pekS (pekS xr).2).2).length : Int)) rfl Tryz.underlying56 kr (.inl ⟨_, _, rfl, rfl⟩) (.inr ⟨rfl, rfl⟩) hR35_0 h038 h138 h238 rfl (((pekS (pekS xr).2).2).drop (Int.toNat 1)) (by rw [show ((((pekS (pekS xr).2).2).length : Int)).toNat = ((pekS (pekS xr).2).2).length from Int.toNat_natCast _, List.take_length]) fun a38 c38 hR38 => ?_)
  refine Ok.b 2 [2, 3] [(16, .slice a38 (((pekS (pekS xr).2).2).drop (Int.toNat 1)).length c38), (18, pv bxr 0)] ?_
  refine Ok.op rfl (OpOk.sto (k := 1) (v := .slice a38 (((pekS (pekS xr).2).2).drop (Int.toNat 1)).length c38) 1 #[.slice a38 (((pekS (pekS xr).2).2).drop (Int.toNat 1)).length c38] rfl rfl rfl ?_)
  refine Ok.nt ((Ok.sr ((Ok.op rfl (OpOk.s (v := .agg (aK (pekS (pekS xr).2).1)) (Yields.loadAgg 0 4 (aK (pekS (pekS xr).2).1) rfl rfl Tryz.underlying78 rfl kr kr kr) rfl rfl (Ok.op rfl (OpOk.sto (k := 4) (v := .agg (aK (pekS (pekS xr).2).1)) 2 (aK (pekS (pekS xr).2).1) rfl rfl rfl ?_)))))))
  refine Ok.nt ((Ok.ret (Ok.back (vs := [.agg (aK (pekS (pekS xr).2).1)]) (.inl rfl) rfl (.cons (.cellAgg 2 4 (aK (pekS (pekS xr).2).1) rfl rfl Tryz.underlying78 rfl kr kr kr) .nil) rfl (Ok.nt ((Ok.sr ((Ok.B 2 [(2, pv bs2 0), (39, pv bxr 0), (40, pv bxr 0)] kr (Ok.op rfl (OpOk.i (args := #[pv bxr 0]) 20 [(0, pv bxr 0)] enr Tryz.func74 rfl rfl rfl rfl (Ok.sr ((Ok.op rfl (OpOk.a (z := .agg zK) (cs := zK) kr kr rfl fun s2 => ?_))))))))))))))
  refine Ok.nt ((Ok.sr ((Ok.B 1 [(0, pv bxr 0), (2, pv s2 0), (4, pv bxr 0)] kr (Ok.e [2, 0, 1, 3, 4, 5] [.blk bxr (.cells #[.slice a38 (((pekS (pekS xr).2).2).drop (Int.toNat 1)).length c38] 59), .blk s2 (.cells zK 78), .blk x2 (.cells (aK (pekS (pekS xr).2).1) 78), .blk C1 (.cells (aK (pekS (pekS xr).2).1) 78), .blk bs4 (.cells (aK (pekS xr).1) 78), .blk bs2 (.cells #[iv 0, sv ([] : Bs), .int .u8 0, sv ([] : Bs), iv 0, iv 0, .slice none 0 0] 48)] dc rfl (Ok.op rfl (OpOk.callH [_] _ enr rfl (pek_c (((pekS (pekS xr).2).2).drop (Int.toNat 1)) hR38) rfl fun g40 _ _ z4 hV40 => ?_)))))))
  obtain ⟨a40_0, c40_0, rfl, hR40_0, rfl⟩ := hV40
  replace hG0 := hG0.mono z4.1
  refine Ok.op rfl (OpOk.a (z := .agg zK) (cs := zK) kr kr rfl fun G2 => ?_)
  refine Ok.op rfl (OpOk.sto (k := 4) (v := .agg #[iv (pekS (((pekS (pekS xr).2).2).drop (Int.toNat 1))).1.1, sv ((pekS (((pekS (pekS xr).2).2).drop (Int.toNat 1))).1.2.1), sv ((pekS (((pekS (pekS xr).2).2).drop (Int.toNat 1))).1.2.2.1), iv (pekS (((pekS (pekS xr).2).2).drop (Int.toNat 1))).1.2.2.2]) 0 #[iv (pekS (((pekS (pekS xr).2).2).drop (Int.toNat 1))).1.1, sv ((pekS (((pekS (pekS xr).2).2).drop (Int.toNat 1))).1.2.1), sv ((pekS (((pekS (pekS xr).2).2).drop (Int.toNat 1))).1.2.2.1), iv (pekS (((pekS (pekS xr).2).2).drop (Int.toNat 1))).1.2.2.2] rfl rfl rfl ?_)
  refine Ok.nt ((Ok.q (Ok.sr ((Ok.B 1 [(0, pv bxr 0), (2, pv s2 0), (3, pv G2 0), (6, pv G2 0)] kr (Ok.op rfl (OpOk.s (v := iv (pekS (((pekS (pekS xr).2).2).drop (Int.toNat 1))).1.1) (Yields.l 0 rfl rfl Tryz.underlying3 rfl kr) rfl rfl (Ok.b 1 [0, 2, 3] [(8, .bool ((pekS (((pekS (pekS xr).2).2).drop (Int.toNat 1))).1.1 == 0))] ?_))))))))
  refine Ok.nt ((Ok.cn hF rfl (fun S3 => ?_) (fun S3 => ?_)))
  ·replace hF := hF.1 S3
   exact False.elim hF
  replace hF := hF.2 S3
  refine Ok.k (Ok.t (Ok.sr ((Ok.b 4 [2, 3] [(11, pv bxr 0), (14, pv bxr 0)] ?_))))
  refine Ok.op rfl (OpOk.s (v := .slice a40_0 ((pekS (((pekS (pekS xr).2).2).drop (Int.toNat 1))).2).length c40_0) (Yields.l 1 rfl rfl Tryz.underlying56 rfl kr) rfl rfl ?_)
  obtain ⟨h043, h143, h243, hF⟩ := hF
  refine Ok.op rfl (OpOk.sliceRo (e := yK) (l := 1) (h := (((pekS (((pekS (pekS xr).2).2).drop (Int.toNat 1))).2).length : Int)) rfl Tryz.underlying56 kr (.inl ⟨_, _, rfl, rfl⟩) (.inr ⟨rfl, rfl⟩) hR40_0 h043 h143 h243 rfl (((pekS (((pekS (pekS xr).2).2).drop (Int.toNat 1))).2).drop (Int.toNat 1)) (by rw [show ((((pekS (((pekS (pekS xr).2).2).drop (Int.toNat 1))).2).length : Int)).toNat = ((pekS (((pekS (pekS xr).2).2).drop (Int.toNat 1))).2).length from Int.toNat_natCast _, List.take_length]) fun a43 c43 hR43 => ?_)
  refine Ok.b 2 [2, 3] [(16, .slice a43 (((pekS (((pekS (pekS xr).2).2).drop (Int.toNat 1))).2).drop (Int.toNat 1)).length c43), (18, pv bxr 0)] ?_
  refine Ok.op rfl (OpOk.sto (k := 1) (v := .slice a43 (((pekS (((pekS (pekS xr).2).2).drop (Int.toNat 1))).2).drop (Int.toNat 1)).length c43) 1 #[.slice a43 (((pekS (((pekS (pekS xr).2).2).drop (Int.toNat 1))).2).drop (Int.toNat 1)).length c43] rfl rfl rfl ?_)
  refine Ok.nt ((Ok.sr ((Ok.op rfl (OpOk.s (v := .agg #[iv (pekS (((pekS (pekS xr).2).2).drop (Int.toNat 1))).1.1, sv ((pekS (((pekS (pekS xr).2).2).drop (Int.toNat 1))).1.2.1), sv ((pekS (((pekS (pekS xr).2).2).drop (Int.toNat 1))).1.2.2.1), iv (pekS (((pekS (pekS xr).2).2).drop (Int.toNat 1))).1.2.2.2]) (Yields.loadAgg 0 4 #[iv (pekS (((pekS (pekS xr).2).2).drop (Int.toNat 1))).1.1, sv ((pekS (((pekS (pekS xr).2).2).drop (Int.toNat 1))).1.2.1), sv ((pekS (((pekS (pekS xr).2).2).drop (Int.toNat 1))).1.2.2.1), iv (pekS (((pekS (pekS xr).2).2).drop (Int.toNat 1))).1.2.2.2] rfl rfl Tryz.underlying78 rfl kr kr kr) rfl rfl (Ok.op rfl (OpOk.sto (k := 4) (v := .agg #[iv (pekS (((pekS (pekS xr).2).2).drop (Int.toNat 1))).1.1, sv ((pekS (((pekS (pekS xr).2).2).drop (Int.toNat 1))).1.2.1), sv ((pekS (((pekS (pekS xr).2).2).drop (Int.toNat 1))).1.2.2.1), iv (pekS (((pekS (pekS xr).2).2).drop (Int.toNat 1))).1.2.2.2]) 2 #[iv (pekS (((pekS (pekS xr).2).2).drop (Int.toNat 1))).1.1, sv ((pekS (((pekS (pekS xr).2).2).drop (Int.toNat 1))).1.2.1), sv ((pekS (((pekS (pekS xr).2).2).drop (Int.toNat 1))).1.2.2.1), iv (pekS (((pekS (pekS xr).2).2).drop (Int.toNat 1))).1.2.2.2] rfl rfl rfl ?_)))))))
  refine Ok.nt ((Ok.ret (Ok.back (vs := [.agg #[iv (pekS (((pekS (pekS xr).2).2).drop (Int.toNat 1))).1.1, sv ((pekS (((pekS (pekS xr).2).2).drop (Int.toNat 1))).1.2.1), sv ((pekS (((pekS (pekS xr).2).2).drop (Int.toNat 1))).1.2.2.1), iv (pekS (((pekS (pekS xr).2).2).drop (Int.toNat 1))).1.2.2.2]]) (.inl rfl) rfl (.cons (.cellAgg 2 4 #[iv (pekS (((pekS (pekS xr).2).2).drop (Int.toNat 1))).1.1, sv ((pekS (((pekS (pekS xr).2).2).drop (Int.toNat 1))).1.2.1), sv ((pekS (((pekS (pekS xr).2).2).drop (Int.toNat 1))).1.2.2.1), iv (pekS (((pekS (pekS xr).2).2).drop (Int.toNat 1))).1.2.2.2] rfl rfl Tryz.underlying78 rfl kr kr kr) .nil) rfl (Ok.op rfl (OpOk.i (args := #[pv bxr 0, .agg #[iv (pekS (((pekS (pekS xr).2).2).drop (Int.toNat 1))).1.1, sv ((pekS (((pekS (pekS xr).2).2).drop (Int.toNat 1))).1.2.1), sv ((pekS (((pekS (pekS xr).2).2).drop (Int.toNat 1))).1.2.2.1), iv (pekS (((pekS (pekS xr).2).2).drop (Int.toNat 1))).1.2.2.2], iv 1, sv ([] : Bs)]) 31 [(0, pv bxr 0), (1, .agg #[iv (pekS (((pekS (pekS xr).2).2).drop (Int.toNat 1))).1.1, sv ((pekS (((pekS (pekS xr).2).2).drop (Int.toNat 1))).1.2.1), sv ((pekS (((pekS (pekS xr).2).2).drop (Int.toNat 1))).1.2.2.1), iv (pekS (((pekS (pekS xr).2).2).drop (Int.toNat 1))).1.2.2.2]), (2, iv 1), (3, sv ([] : Bs))] enr Tryz.func115 rfl rfl rfl rfl (Ok.sr ((Ok.op rfl (OpOk.box (v := .agg #[iv (pekS (((pekS (pekS xr).2).2).drop (Int.toNat 1))).1.1, sv ((pekS (((pekS (pekS xr).2).2).drop (Int.toNat 1))).1.2.1), sv ((pekS (((pekS (pekS xr).2).2).drop (Int.toNat 1))).1.2.2.1), iv (pekS (((pekS (pekS xr).2).2).drop (Int.toNat 1))).1.2.2.2]) (cs := #[iv (pekS (((pekS (pekS xr).2).2).drop (Int.toNat 1))).1.1, sv ((pekS (((pekS (pekS xr).2).2).drop (Int.toNat 1))).1.2.1), sv ((pekS (((pekS (pekS xr).2).2).drop (Int.toNat 1))).1.2.2.1), iv (pekS (((pekS (pekS xr).2).2).drop (Int.toNat 1))).1.2.2.2]) rfl kr rfl fun x1 => ?_)))))))))
  refine Ok.B 1 [(0, pv bxr 0), (2, iv 1), (3, sv ([] : Bs)), (5, pv x1 0)] kr (Ok.nt ((Ok.sr ((Ok.b 2 [2, 3, 5] [(9, pv bxr 0), (10, pv x1 0)] ?_)))))
  refine Ok.op rfl (OpOk.s (v := iv (pekS (((pekS (pekS xr).2).2).drop (Int.toNat 1))).1.1) (Yields.l 0 rfl rfl Tryz.underlying3 rfl kr) rfl rfl (Ok.b 3 [3, 5, 9] [(14, .bool ((pekS (((pekS (pekS xr).2).2).drop (Int.toNat 1))).1.1 == 1))] ?_))
  refine Ok.a 14 (((pekS (((pekS (pekS xr).2).2).drop (Int.toNat 1))).1.1 == 1)) rfl (fun B3 => ?_) (fun B3 => ?_)
  ·replace hF := hF.1 B3
   refine Ok.b 1 [3, 5, 9] [(14, .bool true), (15, pv x1 1)] ?_
   refine Ok.y (j := 5) (d := 14) (want := true) (b := true) rfl kr kr rfl (OpOk.s (v := sv ((pekS (((pekS (pekS xr).2).2).drop (Int.toNat 1))).1.2.1)) (Yields.l 0 rfl rfl Tryz.underlying9 rfl kr) rfl rfl (Ok.b 2 [5, 9, 14] [(16, sv ((pekS (((pekS (pekS xr).2).2).drop (Int.toNat 1))).1.2.1)), (17, sv ([] : Bs)), (18, pv x1 2)] ?_))
   refine Ok.y (j := 5) (d := 14) (want := true) (b := true) rfl kr kr rfl (OpOk.s (v := sv ((pekS (((pekS (pekS xr).2).2).drop (Int.toNat 1))).1.2.2.1)) (Yields.l 0 rfl rfl Tryz.underlying9 rfl kr) rfl rfl ?_)
   obtain ⟨hv, hF⟩ := hF
   refine Ok.y (j := 5) (d := 14) (want := true) (b := true) rfl kr kr rfl (OpOk.s (v := sv (([] : Bs) ++ (pekS (((pekS (pekS xr).2).2).drop (Int.toNat 1))).1.2.2.1)) (Yields.sa rfl rfl hv) rfl rfl (Ok.y (j := 5) (d := 14) (want := true) (b := true) rfl kr kr rfl (OpOk.s (v := .bool ((pekS (((pekS (pekS xr).2).2).drop (Int.toNat 1))).1.2.1 == (([] : Bs) ++ (pekS (((pekS (pekS xr).2).2).drop (Int.toNat 1))).1.2.2.1))) (Yields.sc (f := .eql) (a := (pekS (((pekS (pekS xr).2).2).drop (Int.toNat 1))).1.2.1) (b := (([] : Bs) ++ (pekS (((pekS (pekS xr).2).2).drop (Int.toNat 1))).1.2.2.1)) kr kr rfl) rfl rfl (Ok.b 2 [5, 9] [(23, .bool ((pekS (((pekS (pekS xr).2).2).drop (Int.toNat 1))).1.2.1 == (([] : Bs) ++ (pekS (((pekS (pekS xr).2).2).drop (Int.toNat 1))).1.2.2.1)))] ?_))))
   refine Ok.a 23 (((pekS (((pekS (pekS xr).2).2).drop (Int.toNat 1))).1.2.1 == (([] : Bs) ++ (pekS (((pekS (pekS xr).2).2).drop (Int.toNat 1))).1.2.2.1))) rfl (fun C3 => ?_) (fun C3 => ?_)
   ·replace hF := hF.1 C3
    refine Ok.b 1 [5, 9] [(23, .bool true), (24, pv x1 2)] ?_
    refine Ok.y (j := 14) (d := 23) (want := true) (b := true) rfl kr kr rfl (OpOk.s (v := sv ((pekS (((pekS (pekS xr).2).2).drop (Int.toNat 1))).1.2.2.1)) (Yields.l 0 rfl rfl Tryz.underlying9 rfl kr) rfl rfl ?_)
    obtain ⟨hp47, hF⟩ := hF
    refine Ok.y (j := 14) (d := 23) (want := true) (b := true) rfl kr kr rfl (OpOk.f enr (fun W hW => snm_c (pekS (((pekS (pekS xr).2).2).drop (Int.toNat 1))).1.2.2.1 (hG0.mono hW.sees) hp47) rfl ?_)
    refine Ok.b 1 [5, 9] [(27, .bool (plainS (pekS (((pekS (pekS xr).2).2).drop (Int.toNat 1))).1.2.2.1))] ?_
    refine Ok.op rfl (OpOk.i (args := #[pv bxr 0, .bool (plainS (pekS (((pekS (pekS xr).2).2).drop (Int.toNat 1))).1.2.2.1)]) 8 [(0, pv bxr 0), (1, .bool (plainS (pekS (((pekS (pekS xr).2).2).drop (Int.toNat 1))).1.2.2.1))] enr Tryz.func47 rfl rfl rfl rfl (Ok.sr ((Ok.B 2 [(5, .bool (!(plainS (pekS (((pekS (pekS xr).2).2).drop (Int.toNat 1))).1.2.2.1)))] kr (Ok.nt ((Ok.cn hF rfl (fun D3 => ?_) (fun D3 => ?_))))))))
    ·replace hF := hF.1 D3
     exact False.elim hF
    replace hF := hF.2 D3
    refine Ok.k (Ok.back (vs := []) (.inr rfl) rfl .nil rfl (Ok.nt ((Ok.sr ((Ok.B 1 [(29, pv x1 2)] kr (Ok.op rfl (OpOk.s (v := sv ((pekS (((pekS (pekS xr).2).2).drop (Int.toNat 1))).1.2.2.1)) (Yields.l 0 rfl rfl Tryz.underlying9 rfl kr) rfl rfl (Ok.B 1 [(8, sv ((pekS (((pekS (pekS xr).2).2).drop (Int.toNat 1))).1.2.2.1))] kr (Ok.nt ((Ok.ret (Ok.back (vs := [sv ((pekS (((pekS (pekS xr).2).2).drop (Int.toNat 1))).1.2.2.1)]) (.inl rfl) rfl (.cons (.tmp rfl) .nil) rfl (Ok.B 1 [(2, pv bs2 0), (43, .agg #[iv 4, sv ((pekS (((pekS (pekS xr).2).2).drop (Int.toNat 1))).1.2.2.1), .int .u8 0, sv ([] : Bs), iv 0, iv 0, .slice none 0 0])] kr (Ok.op rfl (OpOk.sto (k := 7) (v := .agg #[iv 4, sv ((pekS (((pekS (pekS xr).2).2).drop (Int.toNat 1))).1.2.2.1), .int .u8 0, sv ([] : Bs), iv 0, iv 0, .slice none 0 0]) 7 #[iv 4, sv ((pekS (((pekS (pekS xr).2).2).drop (Int.toNat 1))).1.2.2.1), .int .u8 0, sv ([] : Bs), iv 0, iv 0, .slice none 0 0] rfl rfl rfl ?_))))))))))))))))
    refine Ok.b 1 [2] [(3, .bool true)] ?_
    refine Ok.nt ((Ok.ret (Ok.kr (Ok.tr ?_))))
    exact Ok.p (vs := [.agg #[iv 4, sv ((pekS (((pekS (pekS xr).2).2).drop (Int.toNat 1))).1.2.2.1), .int .u8 0, sv ([] : Bs), iv 0, iv 0, .slice none 0 0], .bool true]) [2] [.blk bxr (.cells #[.slice a43 (((pekS (((pekS (pekS xr).2).2).drop (Int.toNat 1))).2).drop (Int.toNat 1)).length c43] 59)] dc rfl (.inl rfl) rfl (.cons (.cellAgg 7 7 #[iv 4, sv ((pekS (((pekS (pekS xr).2).2).drop (Int.toNat 1))).1.2.2.1), .int .u8 0, sv ([] : Bs), iv 0, iv 0, .slice none 0 0] rfl rfl Tryz.underlying48 rfl kr kr kr) (.cons (.tmp rfl) .nil)) ((hx2.trans I3).trans z4) ⟨(Tst.mk (4, (pekS (((pekS (pekS xr).2).2).drop (Int.toNat 1))).1.2.2.1, 0, ([] : Bs), 0, 0) ([])), true, (((pekS (((pekS (pekS xr).2).2).drop (Int.toNat 1))).2).drop (Int.toNat 1)), none, 0, a43, c43, rfl, Rep.nil, hR43, rfl, hF⟩
   replace hF := hF.2 C3
   refine Ok.b 4 [5, 9] [(27, .bool false)] ?_
   refine Ok.op rfl (OpOk.i (args := #[pv bxr 0, .bool false]) 8 [(0, pv bxr 0), (1, .bool false)] enr Tryz.func47 rfl rfl rfl rfl (Ok.sr ((Ok.B 2 [(5, .bool true)] kr (Ok.nt ((Ok.c (b := true) rfl (fun _ => ?_) (fun h => by cases h))))))))
   exact False.elim hF
  replace hF := hF.2 B3
  refine Ok.b 13 [5, 9] [(27, .bool false)] ?_
  refine Ok.op rfl (OpOk.i (args := #[pv bxr 0, .bool false]) 8 [(0, pv bxr 0), (1, .bool false)] enr Tryz.func47 rfl rfl rfl rfl (Ok.sr ((Ok.B 2 [(5, .bool true)] kr (Ok.nt ((Ok.c (b := true) rfl (fun _ => ?_) (fun h => by cases h))))))))
  exact False.elim hF
 replace hF := hF.2 i1
 refine Ok.sr ((Ok.b 1 [0, 2, 4] [(45, pv bs4 1)] ?_))
 refine Ok.op rfl (OpOk.s (v := sv ((pekS xr).1.2.1)) (Yields.l 0 rfl rfl Tryz.underlying9 rfl kr) rfl rfl (Ok.op rfl (OpOk.s (v := .bool ((pekS xr).1.2.1 == ([91] : Bs))) (Yields.sc (f := .eql) (a := (pekS xr).1.2.1) (b := ([91] : Bs)) kr kr rfl) rfl rfl (Ok.b 1 [0, 2, 4] [(44, .bool ((pekS xr).1.2.1 == ([91] : Bs)))] ?_))))
 refine Ok.nt ((Ok.cn hF rfl (fun E3 => ?_) (fun E3 => ?_)))
 ·replace hF := hF.1 E3
  refine Ok.sr ((Ok.b 1 [0, 2] [(48, pv bxr 0)] ?_))
  refine Ok.op rfl (OpOk.i (args := #[pv bxr 0]) 20 [(0, pv bxr 0)] enr Tryz.func74 rfl rfl rfl rfl (Ok.sr ((Ok.op rfl (OpOk.a (z := .agg zK) (cs := zK) kr kr rfl fun E1 => ?_)))))
  refine Ok.nt ((Ok.sr ((Ok.b 1 [0] [(2, pv E1 0), (4, pv bxr 0)] ?_))))
  refine Ok.e [2, 0, 1, 3] [.blk bxr (.cells #[.slice X1 ((pekS xr).2).length S1] 59), .blk E1 (.cells zK 78), .blk bs4 (.cells (aK (pekS xr).1) 78), .blk bs2 (.cells #[iv 0, sv ([] : Bs), .int .u8 0, sv ([] : Bs), iv 0, iv 0, .slice none 0 0] 48)] dc rfl (Ok.op rfl (OpOk.callH [_] _ enr rfl (pek_c (pekS xr).2 z1) rfl fun g51 _ _ v4 hV51 => ?_))
  obtain ⟨a51_0, c51_0, rfl, hR51_0, rfl⟩ := hV51
  replace hG0 := hG0.mono v4.1
  refine Ok.op rfl (OpOk.a (z := .agg zK) (cs := zK) kr kr rfl fun b2 => ?_)
  refine Ok.op rfl (OpOk.sto (k := 4) (v := .agg (aK (pekS (pekS xr).2).1)) 0 (aK (pekS (pekS xr).2).1) rfl rfl rfl ?_)
  refine Ok.nt ((Ok.q (Ok.sr ((Ok.B 1 [(0, pv bxr 0), (2, pv E1 0), (3, pv b2 0), (6, pv b2 0)] kr (Ok.op rfl (OpOk.s (v := iv (pekS (pekS xr).2).1.1) (Yields.l 0 rfl rfl Tryz.underlying3 rfl kr) rfl rfl (Ok.b 1 [0, 2, 3] [(8, .bool ((pekS (pekS xr).2).1.1 == 0))] ?_))))))))
  refine Ok.nt ((Ok.cn hF rfl (fun F3 => ?_) (fun F3 => ?_)))
  ·replace hF := hF.1 F3
   exact False.elim hF
  replace hF := hF.2 F3
  refine Ok.k (Ok.t (Ok.sr ((Ok.b 4 [2, 3] [(11, pv bxr 0), (14, pv bxr 0)] ?_))))
  refine Ok.op rfl (OpOk.s (v := .slice a51_0 ((pekS (pekS xr).2).2).length c51_0) (Yields.l 1 rfl rfl Tryz.underlying56 rfl kr) rfl rfl ?_)
  obtain ⟨h054, h154, h254, hF⟩ := hF
  refine Ok.op rfl (OpOk.sliceRo (e := yK) (l := 1) (h := (((pekS (pekS xr).2).2).length : Int)) rfl Tryz.underlying56 kr (.inl ⟨_, _, rfl, rfl⟩) (.inr ⟨rfl, rfl⟩) hR51_0 h054 h154 h254 rfl (((pekS (pekS xr).2).2).drop (Int.toNat 1)) (by rw [show ((((pekS (pekS xr).2).2).length : Int)).toNat = ((pekS (pekS xr).2).2).length from Int.toNat_natCast _, List.take_length]) fun a54 c54 hR54 => ?_)
  refine Ok.b 2 [2, 3] [(16, .slice a54 (((pekS (pekS xr).2).2).drop (Int.toNat 1)).length c54), (18, pv bxr 0)] ?_
  refine Ok.op rfl (OpOk.sto (k := 1) (v := .slice a54 (((pekS (pekS xr).2).2).drop (Int.toNat 1)).length c54) 1 #[.slice a54 (((pekS (pekS xr).2).2).drop (Int.toNat 1)).length c54] rfl rfl rfl ?_)
  refine Ok.nt ((Ok.sr ((Ok.op rfl (OpOk.s (v := .agg (aK (pekS (pekS xr).2).1)) (Yields.loadAgg 0 4 (aK (pekS (pekS xr).2).1) rfl rfl Tryz.underlying78 rfl kr kr kr) rfl rfl (Ok.op rfl (OpOk.sto (k := 4) (v := .agg (aK (pekS (pekS xr).2).1)) 2 (aK (pekS (pekS xr).2).1) rfl rfl rfl ?_)))))))
  refine Ok.nt ((Ok.ret (Ok.back (vs := [.agg (aK (pekS (pekS xr).2).1)]) (.inl rfl) rfl (.cons (.cellAgg 2 4 (aK (pekS (pekS xr).2).1) rfl rfl Tryz.underlying78 rfl kr kr kr) .nil) rfl (Ok.nt ((Ok.sr ((Ok.B 1 [(2, pv bs2 0), (50, pv bxr 0)] kr ?_))))))))
  obtain ⟨hp55, hF⟩ := hF
  refine Ok.e [1, 0, 2, 3, 4] [.blk bxr (.cells #[.slice a54 (((pekS (pekS xr).2).2).drop (Int.toNat 1)).length c54] 59), .blk b2 (.cells (aK (pekS (pekS xr).2).1) 78), .blk E1 (.cells (aK (pekS (pekS xr).2).1) 78), .blk bs4 (.cells (aK (pekS xr).1) 78), .blk bs2 (.cells #[iv 0, sv ([] : Bs), .int .u8 0, sv ([] : Bs), iv 0, iv 0, .slice none 0 0] 48)] dc rfl (Ok.op rfl (OpOk.callH [_] _ enr rfl (atr_c (((pekS (pekS xr).2).2).drop (Int.toNat 1)) hR54 hG0 hp55) rfl fun g56 _ _ k4 hV56 => ?_))
  obtain ⟨N1, O1, f3, m3, rfl, hR56_0, hR56_2, rfl⟩ := hV56
  replace hG0 := hG0.mono k4.1
  refine Ok.op rfl (OpOk.sto (k := 7) (v := .agg #[iv (((atrR (((pekS (pekS xr).2).2).drop (Int.toNat 1))).1).lab.1), sv (((atrR (((pekS (pekS xr).2).2).drop (Int.toNat 1))).1).lab.2.1), .int .u8 (((atrR (((pekS (pekS xr).2).2).drop (Int.toNat 1))).1).lab.2.2.1), sv (((atrR (((pekS (pekS xr).2).2).drop (Int.toNat 1))).1).lab.2.2.2.1), iv (((atrR (((pekS (pekS xr).2).2).drop (Int.toNat 1))).1).lab.2.2.2.2.1), iv (((atrR (((pekS (pekS xr).2).2).drop (Int.toNat 1))).1).lab.2.2.2.2.2), .slice N1 (((atrR (((pekS (pekS xr).2).2).drop (Int.toNat 1))).1).kids).length O1]) 4 #[iv (((atrR (((pekS (pekS xr).2).2).drop (Int.toNat 1))).1).lab.1), sv (((atrR (((pekS (pekS xr).2).2).drop (Int.toNat 1))).1).lab.2.1), .int .u8 (((atrR (((pekS (pekS xr).2).2).drop (Int.toNat 1))).1).lab.2.2.1), sv (((atrR (((pekS (pekS xr).2).2).drop (Int.toNat 1))).1).lab.2.2.2.1), iv (((atrR (((pekS (pekS xr).2).2).drop (Int.toNat 1))).1).lab.2.2.2.2.1), iv (((atrR (((pekS (pekS xr).2).2).drop (Int.toNat 1))).1).lab.2.2.2.2.2), .slice N1 (((atrR (((pekS (pekS xr).2).2).drop (Int.toNat 1))).1).kids).length O1] rfl rfl rfl ?_)
  refine Ok.B 1 [(2, pv bs2 0), (3, .bool true)] kr (Ok.nt ((Ok.ret (Ok.kr (Ok.tr ?_)))))
  exact Ok.p (vs := [.agg #[iv (((atrR (((pekS (pekS xr).2).2).drop (Int.toNat 1))).1).lab.1), sv (((atrR (((pekS (pekS xr).2).2).drop (Int.toNat 1))).1).lab.2.1), .int .u8 (((atrR (((pekS (pekS xr).2).2).drop (Int.toNat 1))).1).lab.2.2.1), sv (((atrR (((pekS (pekS xr).2).2).drop (Int.toNat 1))).1).lab.2.2.2.1), iv (((atrR (((pekS (pekS xr).2).2).drop (Int.toNat 1))).1).lab.2.2.2.2.1), iv (((atrR (((pekS (pekS xr).2).2).drop (Int.toNat 1))).1).lab.2.2.2.2.2), .slice N1 (((atrR (((pekS (pekS xr).2).2).drop (Int.toNat 1))).1).kids).length O1], .bool true]) [0] [.blk bxr (.cells #[.slice f3 ((atrR (((pekS (pekS xr).2).2).drop (Int.toNat 1))).2).length m3] 59)] dc rfl (.inl rfl) rfl (.cons (.cellAgg 4 7 #[iv (((atrR (((pekS (pekS xr).2).2).drop (Int.toNat 1))).1).lab.1), sv (((atrR (((pekS (pekS xr).2).2).drop (Int.toNat 1))).1).lab.2.1), .int .u8 (((atrR (((pekS (pekS xr).2).2).drop (Int.toNat 1))).1).lab.2.2.1), sv (((atrR (((pekS (pekS xr).2).2).drop (Int.toNat 1))).1).lab.2.2.2.1), iv (((atrR (((pekS (pekS xr).2).2).drop (Int.toNat 1))).1).lab.2.2.2.2.1), iv (((atrR (((pekS (pekS xr).2).2).drop (Int.toNat 1))).1).lab.2.2.2.2.2), .slice N1 (((atrR (((pekS (pekS xr).2).2).drop (Int.toNat 1))).1).kids).length O1] rfl rfl Tryz.underlying48 rfl kr kr kr) (.cons (.tmp rfl) .nil)) ((hx2.trans v4).trans k4) ⟨(atrR (((pekS (pekS xr).2).2).drop (Int.toNat 1))).1, true, (atrR (((pekS (pekS xr).2).2).drop (Int.toNat 1))).2, N1, O1, f3, m3, rfl, hR56_0, hR56_2, rfl, hF⟩
 replace hF := hF.2 E3
 refine Ok.sr ((Ok.b 1 [0, 2] [(53, pv bs4 1)] ?_))
 refine Ok.op rfl (OpOk.s (v := sv ((pekS xr).1.2.1)) (Yields.l 0 rfl rfl Tryz.underlying9 rfl kr) rfl rfl (Ok.op rfl (OpOk.s (v := .bool ((pekS xr).1.2.1 == ([58] : Bs))) (Yields.sc (f := .eql) (a := (pekS xr).1.2.1) (b := ([58] : Bs)) kr kr rfl) rfl rfl (Ok.b 1 [0, 2] [(52, .bool ((pekS xr).1.2.1 == ([58] : Bs)))] ?_))))
 refine Ok.nt ((Ok.cn hF rfl (fun G3 => ?_) (fun G3 => ?_)))
 ·replace hF := hF.1 G3
  refine Ok.sr ((Ok.b 1 [0, 2] [(56, pv bxr 0)] ?_))
  refine Ok.op rfl (OpOk.i (args := #[pv bxr 0]) 20 [(0, pv bxr 0)] enr Tryz.func74 rfl rfl rfl rfl (Ok.sr ((Ok.op rfl (OpOk.a (z := .agg zK) (cs := zK) kr kr rfl fun F1 => ?_)))))
  refine Ok.nt ((Ok.sr ((Ok.b 1 [0] [(2, pv F1 0), (4, pv bxr 0)] ?_))))
  refine Ok.e [2, 0, 1, 3] [.blk bxr (.cells #[.slice X1 ((pekS xr).2).length S1] 59), .blk F1 (.cells zK 78), .blk bs4 (.cells (aK (pekS xr).1) 78), .blk bs2 (.cells #[iv 0, sv ([] : Bs), .int .u8 0, sv ([] : Bs), iv 0, iv 0, .slice none 0 0] 48)] dc rfl (Ok.op rfl (OpOk.callH [_] _ enr rfl (pek_c (pekS xr).2 z1) rfl fun g59 _ _ y4 hV59 => ?_))
  obtain ⟨a59_0, c59_0, rfl, hR59_0, rfl⟩ := hV59
  replace hG0 := hG0.mono y4.1
  refine Ok.op rfl (OpOk.a (z := .agg zK) (cs := zK) kr kr rfl fun c2 => ?_)
  refine Ok.op rfl (OpOk.sto (k := 4) (v := .agg (aK (pekS (pekS xr).2).1)) 0 (aK (pekS (pekS xr).2).1) rfl rfl rfl ?_)
  refine Ok.nt ((Ok.q (Ok.sr ((Ok.B 1 [(0, pv bxr 0), (2, pv F1 0), (3, pv c2 0), (6, pv c2 0)] kr (Ok.op rfl (OpOk.s (v := iv (pekS (pekS xr).2).1.1) (Yields.l 0 rfl rfl Tryz.underlying3 rfl kr) rfl rfl (Ok.b 1 [0, 2, 3] [(8, .bool ((pekS (pekS xr).2).1.1 == 0))] ?_))))))))
  refine Ok.nt ((Ok.cn hF rfl (fun H3 => ?_) (fun H3 => ?_)))
  ·replace hF := hF.1 H3
   exact False.elim hF
  replace hF := hF.2 H3
  refine Ok.k (Ok.t (Ok.sr ((Ok.b 4 [2, 3] [(11, pv bxr 0), (14, pv bxr 0)] ?_))))
  refine Ok.op rfl (OpOk.s (v := .slice a59_0 ((pekS (pekS xr).2).2).length c59_0) (Yields.l 1 rfl rfl Tryz.underlying56 rfl kr) rfl rfl ?_)
  obtain ⟨h062, h162, h262, hF⟩ := hF
  refine Ok.op rfl (OpOk.sliceRo (e := yK) (l := 1) (h := (((pekS (pekS xr).2).2).length : Int)) rfl Tryz.underlying56 kr (.inl ⟨_, _, rfl, rfl⟩) (.inr ⟨rfl, rfl⟩) hR59_0 h062 h162 h262 rfl (((pekS (pekS xr).2).2).drop (Int.toNat 1)) (by rw [show ((((pekS (pekS xr).2).2).length : Int)).toNat = ((pekS (pekS xr).2).2).length from Int.toNat_natCast _, List.take_length]) fun a62 c62 hR62 => ?_)
  refine Ok.b 2 [2, 3] [(16, .slice a62 (((pekS (pekS xr).2).2).drop (Int.toNat 1)).length c62), (18, pv bxr 0)] ?_
  refine Ok.op rfl (OpOk.sto (k := 1) (v := .slice a62 (((pekS (pekS xr).2).2).drop (Int.toNat 1)).length c62) 1 #[.slice a62 (((pekS (pekS xr).2).2).drop (Int.toNat 1)).length c62] rfl rfl rfl ?_)
  refine Ok.nt ((Ok.sr ((Ok.op rfl (OpOk.s (v := .agg (aK (pekS (pekS xr).2).1)) (Yields.loadAgg 0 4 (aK (pekS (pekS xr).2).1) rfl rfl Tryz.underlying78 rfl kr kr kr) rfl rfl (Ok.op rfl (OpOk.sto (k := 4) (v := .agg (aK (pekS (pekS xr).2).1)) 2 (aK (pekS (pekS xr).2).1) rfl rfl rfl ?_)))))))
  refine Ok.nt ((Ok.ret (Ok.back (vs := [.agg (aK (pekS (pekS xr).2).1)]) (.inl rfl) rfl (.cons (.cellAgg 2 4 (aK (pekS (pekS xr).2).1) rfl rfl Tryz.underlying78 rfl kr kr kr) .nil) rfl (Ok.nt ((Ok.sr ((Ok.B 1 [(2, pv bs2 0), (58, pv bxr 0)] kr ?_))))))))
  obtain ⟨hp63, hF⟩ := hF
  refine Ok.e [1, 0, 2, 3, 4] [.blk bxr (.cells #[.slice a62 (((pekS (pekS xr).2).2).drop (Int.toNat 1)).length c62] 59), .blk c2 (.cells (aK (pekS (pekS xr).2).1) 78), .blk F1 (.cells (aK (pekS (pekS xr).2).1) 78), .blk bs4 (.cells (aK (pekS xr).1) 78), .blk bs2 (.cells #[iv 0, sv ([] : Bs), .int .u8 0, sv ([] : Bs), iv 0, iv 0, .slice none 0 0] 48)] dc rfl (Ok.op rfl (OpOk.callH [_] _ enr rfl (ih_pss _ (((pekS (pekS xr).2).2).drop (Int.toNat 1)) hR62 hG0 hp63) rfl fun g64 _ _ j4 hV64 => ?_))
  obtain ⟨P1, R1, n3, o3, rfl, hR64_0, hR64_2, rfl⟩ := hV64
  replace hG0 := hG0.mono j4.1
  refine Ok.op rfl (OpOk.sto (k := 7) (v := .agg #[iv (((pssR (((pekS (pekS xr).2).2).drop (Int.toNat 1))).1).lab.1), sv (((pssR (((pekS (pekS xr).2).2).drop (Int.toNat 1))).1).lab.2.1), .int .u8 (((pssR (((pekS (pekS xr).2).2).drop (Int.toNat 1))).1).lab.2.2.1), sv (((pssR (((pekS (pekS xr).2).2).drop (Int.toNat 1))).1).lab.2.2.2.1), iv (((pssR (((pekS (pekS xr).2).2).drop (Int.toNat 1))).1).lab.2.2.2.2.1), iv (((pssR (((pekS (pekS xr).2).2).drop (Int.toNat 1))).1).lab.2.2.2.2.2), .slice P1 (((pssR (((pekS (pekS xr).2).2).drop (Int.toNat 1))).1).kids).length R1]) 4 #[iv (((pssR (((pekS (pekS xr).2).2).drop (Int.toNat 1))).1).lab.1), sv (((pssR (((pekS (pekS xr).2).2).drop (Int.toNat 1))).1).lab.2.1), .int .u8 (((pssR (((pekS (pekS xr).2).2).drop (Int.toNat 1))).1).lab.2.2.1), sv (((pssR (((pekS (pekS xr).2).2).drop (Int.toNat 1))).1).lab.2.2.2.1), iv (((pssR (((pekS (pekS xr).2).2).drop (Int.toNat 1))).1).lab.2.2.2.2.1), iv (((pssR (((pekS (pekS xr).2).2).drop (Int.toNat 1))).1).lab.2.2.2.2.2), .slice P1 (((pssR (((pekS (pekS xr).2).2).drop (Int.toNat 1))).1).kids).length R1] rfl rfl rfl ?_)
  refine Ok.B 1 [(2, pv bs2 0), (3, .bool true)] kr (Ok.nt ((Ok.ret (Ok.kr (Ok.tr ?_)))))
  exact Ok.p (vs := [.agg #[iv (((pssR (((pekS (pekS xr).2).2).drop (Int.toNat 1))).1).lab.1), sv (((pssR (((pekS (pekS xr).2).2).drop (Int.toNat 1))).1).lab.2.1), .int .u8 (((pssR (((pekS (pekS xr).2).2).drop (Int.toNat 1))).1).lab.2.2.1), sv (((pssR (((pekS (pekS xr).2).2).drop (Int.toNat 1))).1).lab.2.2.2.1), iv (((pssR (((pekS (pekS xr).2).2).drop (Int.toNat 1))).1).lab.2.2.2.2.1), iv (((pssR (((pekS (pekS xr).2).2).drop (Int.toNat 1))).1).lab.2.2.2.2.2), .slice P1 (((pssR (((pekS (pekS xr).2).2).drop (Int.toNat 1))).1).kids).length R1], .bool true]) [0] [.blk bxr (.cells #[.slice n3 ((pssR (((pekS (pekS xr).2).2).drop (Int.toNat 1))).2).length o3] 59)] dc rfl (.inl rfl) rfl (.cons (.cellAgg 4 7 #[iv (((pssR (((pekS (pekS xr).2).2).drop (Int.toNat 1))).1).lab.1), sv (((pssR (((pekS (pekS xr).2).2).drop (Int.toNat 1))).1).lab.2.1), .int .u8 (((pssR (((pekS (pekS xr).2).2).drop (Int.toNat 1))).1).lab.2.2.1), sv (((pssR (((pekS (pekS xr).2).2).drop (Int.toNat 1))).1).lab.2.2.2.1), iv (((pssR (((pekS (pekS xr).2).2).drop (Int.toNat 1))).1).lab.2.2.2.2.1), iv (((pssR (((pekS (pekS xr).2).2).drop (Int.toNat 1))).1).lab.2.2.2.2.2), .slice P1 (((pssR (((pekS (pekS xr).2).2).drop (Int.toNat 1))).1).kids).length R1] rfl rfl Tryz.underlying48 rfl kr kr kr) (.cons (.tmp rfl) .nil)) ((hx2.trans y4).trans j4) ⟨(pssR (((pekS (pekS xr).2).2).drop (Int.toNat 1))).1, true, (pssR (((pekS (pekS xr).2).2).drop (Int.toNat 1))).2, P1, R1, n3, o3, rfl, hR64_0, hR64_2, rfl, hF⟩
 replace hF := hF.2 G3
 refine Ok.k (Ok.kn (Ok.t (Ok.sr ((Ok.b 1 [2] [(60, .agg #[iv 0, sv ([] : Bs), .int .u8 0, sv ([] : Bs), iv 0, iv 0, .slice none 0 0])] ?_)))))
 refine Ok.op rfl (OpOk.sto (k := 7) (v := .agg #[iv 0, sv ([] : Bs), .int .u8 0, sv ([] : Bs), iv 0, iv 0, .slice none 0 0]) 2 #[iv 0, sv ([] : Bs), .int .u8 0, sv ([] : Bs), iv 0, iv 0, .slice none 0 0] rfl rfl rfl ?_)
 refine Ok.b 1 [2] [(3, .bool false)] ?_
 refine Ok.nt ((Ok.ret ?_))
 exact Ok.p (vs := [.agg #[iv 0, sv ([] : Bs), .int .u8 0, sv ([] : Bs), iv 0, iv 0, .slice none 0 0], .bool false]) [1] [.blk bxr (.cells #[.slice X1 ((pekS xr).2).length S1] 59)] dc rfl (.inl rfl) rfl (.cons (.cellAgg 2 7 #[iv 0, sv ([] : Bs), .int .u8 0, sv ([] : Bs), iv 0, iv 0, .slice none 0 0] rfl rfl Tryz.underlying48 rfl kr kr kr) (.cons (.tmp rfl) .nil)) hx2 ⟨(Tst.mk (0, ([] : Bs), 0, ([] : Bs), 0, 0) ([])), false, (pekS xr).2, none, 0, X1, S1, rfl, Rep.nil, z1, rfl, hF⟩
theorem one_0 (r : Rd) : ¬ oneP 0 r := fun h => by
 rcases h with ⟨_, _, _, _, _, _, _, h, _⟩ | ⟨_, h⟩
 ·exact absurd h (Nat.not_lt_zero _)
 exact absurd h (Nat.not_lt_zero _)
theorem one_F (N : Nat) (r : Rd) (h : oneP (N + 1) r) : oneF N r (fun a b c => (a, b, c) = oneR r) := by
 rcases h with ⟨t, i, ts, rest, hi, hts, rfl, hN, hB⟩ | ⟨hn, h0⟩
 ·rw [one_eq hi hts]
  have w4 := hts
  have hi' := hi
  rw [okT_eq, Bool.and_eq_true] at hi'
  have hf := lab_facts hi'.1
  have n0 : 2 ≤ t.lab.1 → t.lab.1 ≤ 5 → t.lab.2.1 ≠ [42] := fun a b e => by
   have := hf.name a b
   rw [e] at this
   exact absurd this dk
  have pss : ∀ {us : List Tok}, ts = sg 58 :: us → 6 ≤ t.lab.1 → pssP N (us ++ rest) ∧ pssR (us ++ rest) = (t, rest) := fun {us} e h6 => by
   subst e
   exact ⟨⟨t, i, us, rest, hi, h6, w4, rfl, by simp at hN; omega, hB.tail⟩, pss_eq hi w4 rest⟩
  rw [TkT_eq] at hts
  rcases kinds hf with e | e | e | e | e | e | e | e | e | e | e
  ·rw [tkL_1 e] at hts; subst hts
   have ht := leaf_eq hi om om om
   rw [e, hf.un om] at ht
   simp [oneF, pekS, ht]
   omega
  ·rw [tkL_2 e] at hts; subst hts
   have ht := leaf_eq hi om om om
   rw [e] at ht
   have hn : nameOk t.lab.2.1 := ⟨hf.name om om, hB.head⟩
   simp [oneF, pekS, ht, n0 om om, hf.low (.inl e), hn.1, hn.cut, hn.lo, hn.ml]
   omega
  ·rw [tkL_3 e] at hts; subst hts
   have ht := leaf_eq hi om om om
   rw [e] at ht
   have hl : t.lab.2.1.length + 1 ≤ 1000 := by have := hB.head; simpa using this
   have hn : nameOk t.lab.2.1 := ⟨hf.name om om, by omega⟩
   simp [oneF, pekS, ht, hn.1, hn.cut, hn.lo, maxLen_eq]
   omega
  ·rw [tkL_4 e] at hts; subst hts
   have ht := leaf_eq hi om om om
   rw [e] at ht
   have hn : nameOk t.lab.2.1 := ⟨hf.name om om, hB.tail.head⟩
   simp [oneF, pekS, ht, hn.1, hn.cut, hn.lo, hn.ml]
   omega
  ·rw [tkL_5 e] at hts
   have h2 := hi'.2
   rw [if_neg (by rw [e]; decide)] at h2
   have hkid : t.kids = [] := List.eq_nil_of_length_eq_zero (by have := eq_of_beq h2; omega)
   have hA := hf.ab om
   by_cases h0 : (t.lab.2.2.1 == 0) = true
   ·rw [if_pos h0] at hts; subst hts
    have ho : t.lab.2.2.1 = 0 := eq_of_beq h0
    have ht : Tst.mk (5, t.lab.2.1, 0, [], 0, 0) [] = t := mk_eq (lbl_eq e rfl ho (hf.val ho) hA.1 hA.2) hkid
    have hn : nameOk t.lab.2.1 := ⟨hf.name om om, hB.tail.head⟩
    have hP : atrP (wd t.lab.2.1 :: (11, [93], [], 0) :: rest) := ⟨_, rest, hn, hf.low (.inr e), .inl rfl⟩
    simp [oneF, pekS, atrR, ht, hP]
    omega
   rw [if_neg h0] at hts; subst hts
   have hz := op_vals (hf.op (by simpa using h0)).2
   have ht : Tst.mk (5, t.lab.2.1, t.lab.2.2.1, t.lab.2.2.2.1, 0, 0) [] = t := mk_eq (lbl_eq e rfl rfl rfl hA.1 hA.2) hkid
   have hn : nameOk t.lab.2.1 := ⟨hf.name om om, hB.tail.head⟩
   have hP : atrP (wd t.lab.2.1 :: (opT t.lab.2.2.1 ++ (5, dqS t.lab.2.2.2.1, t.lab.2.2.2.1, 0) :: (11, [93], [], 0) :: rest)) := ⟨_, rest, hn, hf.low (.inr e), .inr ⟨_, _, hz, rfl⟩⟩
   have hr : atrR (wd t.lab.2.1 :: (opT t.lab.2.2.1 ++ (5, dqS t.lab.2.2.2.1, t.lab.2.2.2.1, 0) :: (11, [93], [], 0) :: rest)) = (t, rest) := by
    rcases hz with hz | hz | hz | hz | hz | hz
    all_goals (rw [hz] at ht ⊢; simp [atrR, opT, byteB, ht])
   simp [oneF, pekS, hr, hP]
   omega
  ·rw [tkL_6 e] at hts
   obtain ⟨q1, q2⟩ := pss hts om
   subst hts
   generalize hW : [wd wRoot] ++ rest = W at q1 q2
   rw [List.cons_append, hW]
   simp [oneF, pekS, q1, q2]
   omega
  ·rw [tkL_7 e] at hts
   obtain ⟨q1, q2⟩ := pss hts om
   subst hts
   generalize hW : [wd wEmpty] ++ rest = W at q1 q2
   rw [List.cons_append, hW]
   simp [oneF, pekS, q1, q2]
   omega
  ·rw [tkL_8 e] at hts
   obtain ⟨us, -, hts⟩ := hts
   obtain ⟨q1, q2⟩ := pss hts om
   subst hts
   generalize hW : (fnT wNc :: (us ++ [clT])) ++ rest = W at q1 q2
   rw [List.cons_append, hW]
   simp [oneF, pekS, q1, q2]
   omega
  ·rw [tkL_9 e] at hts
   obtain ⟨us, -, hts⟩ := hts
   obtain ⟨q1, q2⟩ := pss hts om
   subst hts
   generalize hW : (fnT wNl :: (us ++ [clT])) ++ rest = W at q1 q2
   rw [List.cons_append, hW]
   simp [oneF, pekS, q1, q2]
   omega
  ·rw [tkL_10 e] at hts
   obtain ⟨us, -, hts⟩ := hts
   obtain ⟨q1, q2⟩ := pss hts om
   subst hts
   generalize hW : (fnT wNot :: (us ++ [clT])) ++ rest = W at q1 q2
   rw [List.cons_append, hW]
   simp [oneF, pekS, q1, q2]
   omega
  rw [tkL_11 e] at hts
  obtain ⟨us, -, hts⟩ := hts
  obtain ⟨q1, q2⟩ := pss hts om
  subst hts
  generalize hW : (fnT wIs :: (us ++ [clT])) ++ rest = W at q1 q2
  rw [List.cons_append, hW]
  simp [oneF, pekS, q1, q2]
  omega
 have e : oneR r = (tNo, false, r) := one_nt hn _
 rw [e]
 rcases nt_cases hn with rfl | ⟨q, rfl | rfl | rfl⟩
 all_goals simp [oneF, pekS, tNo]
def stpl9b (N : Nat) (K : (List TS) → (List KT) → Prop) (V1 : Bool) (f0 : Int) (d0 : Bs) (c0 : Int) (b0 : Bs) (u0 : Int) (j0 : Int) (e0 : List PH) (ybxr_0l9 : List KT) (o0 : List TS) (C9 : Bool → Int → Bs → Int → Bs → Int → Int → (List PH) → (List KT) → (List TS) → Prop) : Prop :=
 ((V1) = true → (o0 ++ ([(Tst.mk (f0, d0, c0, b0, u0, j0) e0)] : List TS)).length ≤ 1599289640401 ∧ oneP N ybxr_0l9 ∧ C9 (oneR ybxr_0l9).2.1 (((oneR ybxr_0l9).1).lab.1) (((oneR ybxr_0l9).1).lab.2.1) (((oneR ybxr_0l9).1).lab.2.2.1) (((oneR ybxr_0l9).1).lab.2.2.2.1) (((oneR ybxr_0l9).1).lab.2.2.2.2.1) (((oneR ybxr_0l9).1).lab.2.2.2.2.2) (((oneR ybxr_0l9).1).kids) (oneR ybxr_0l9).2.2 (o0 ++ ([(Tst.mk (f0, d0, c0, b0, u0, j0) e0)] : List TS))) ∧ ((V1) = false → ((!(decide ((o0.length : Int) > 0))) = true → False) ∧ ((!(decide ((o0.length : Int) > 0))) = false → K o0 ybxr_0l9))
def stpl9 (N : Nat) (K : (List TS) → (List KT) → Prop) : Nat → Bool → Int → Bs → Int → Bs → Int → Int → (List PH) → (List KT) → (List TS) → Prop
 | 0, _, _, _, _, _, _, _, _, _, _ => False
 | k + 1, V1, f0, d0, c0, b0, u0, j0, e0, ybxr_0l9, o0 => stpl9b N K V1 f0 d0 c0 b0 u0 j0 e0 ybxr_0l9 o0 (stpl9 N K k)
def stpF (N : Nat) (xr : List KT) (K : (List TS) → (List KT) → Prop) : Prop :=
 oneP N xr ∧ ∃ k, stpl9 N K k (oneR xr).2.1 (((oneR xr).1).lab.1) (((oneR xr).1).lab.2.1) (((oneR xr).1).lab.2.2.1) (((oneR xr).1).lab.2.2.2.1) (((oneR xr).1).lab.2.2.2.2.1) (((oneR xr).1).lab.2.2.2.2.2) (((oneR xr).1).kids) (oneR xr).2.2 ([] : List TS)
theorem stp_ok {g : Ghost} (N : Nat) (ih_pss : pss_C N) (ih_one : one_C N) (ih_stp : stp_C N) (ih_pth : pth_C N) (ih_lst : lst_C N) {bxr : Nat} {axr_0 : Option Addr} {cxr_0 : Nat} (xr : List KT) (hRxr_0 : Rep g (.slice yK) [.slice axr_0 xr.length cxr_0] xr) (hG0 : SomeInt g 0) (K : (List TS) → (List KT) → Prop)
  (hF : stpF N xr K) : CallsH Tryz.prog 73 #[pv bxr 0] g [.blk bxr (.cells #[.slice axr_0 xr.length cxr_0] 59)] (fun g' H' v => ∃ (r0 : List TS), ∃ (fxr : List KT), ∃ (Y0 : Option Addr) (U0 : Nat), ∃ (afxr_0 : Option Addr) (cfxr_0 : Nat), v = .slice Y0 r0.length U0 ∧ Rep g' (.slice yS) [.slice Y0 r0.length U0] r0 ∧ Rep g' (.slice yK) [.slice afxr_0 fxr.length cfxr_0] fxr ∧ H' = [.blk bxr (.cells #[.slice afxr_0 fxr.length cfxr_0] 59)] ∧ K r0 fxr) := by
 refine CallsH.enter 28 [(0, pv bxr 0)] Tryz.func73 rfl kr kr kr fun w0 => ?_
 refine Ok.sr ((Ok.B 1 [(0, pv bxr 0)] kr (Ok.nt ((Ok.sr ((Ok.b 1 [0] [(3, .slice none 0 0)] ?_)))))))
 have hL1 : RepL g yS [] [] := rfl
 refine Ok.ownNil 48 7 (Ok.nt ((Ok.q (Ok.sr ((Ok.b 1 [0] [(3, .slice none ([] : List TS).length 0), (7, pv bxr 0)] ?_))))))
 obtain ⟨hp2, hF⟩ := hF
 refine Ok.e [1, 0] [.blk bxr (.cells #[.slice axr_0 xr.length cxr_0] 59), .own (.slice none ([] : List TS).length 0) 48 7 ([] : List TS).length ([])] dc rfl (Ok.op rfl (OpOk.callH [_] _ enr rfl (ih_one _ xr hRxr_0 hG0 hp2) rfl fun g3 _ _ hx3 hV3 => ?_))
 obtain ⟨V2, Q2, a3_2, c3_2, rfl, B2, hR3_2, rfl⟩ := hV3
 replace hL1 := hL1.mono hx3.1
 replace hG0 := hG0.mono hx3.1
 refine Ok.B 3 [(0, pv bxr 0), (3, .slice none ([] : List TS).length 0), (9, .agg #[iv (((oneR xr).1).lab.1), sv (((oneR xr).1).lab.2.1), .int .u8 (((oneR xr).1).lab.2.2.1), sv (((oneR xr).1).lab.2.2.2.1), iv (((oneR xr).1).lab.2.2.2.2.1), iv (((oneR xr).1).lab.2.2.2.2.2), .slice V2 (((oneR xr).1).kids).length Q2]), (10, .bool (oneR xr).2.1)] kr (Ok.op rfl (OpOk.a (z := .agg #[iv 0, sv ([] : Bs), .int .u8 0, sv ([] : Bs), iv 0, iv 0, .slice none 0 0]) (cs := #[iv 0, sv ([] : Bs), .int .u8 0, sv ([] : Bs), iv 0, iv 0, .slice none 0 0]) kr kr rfl fun bs4 => ?_))
 refine Ok.op rfl (OpOk.sto (k := 7) (v := .agg #[iv (((oneR xr).1).lab.1), sv (((oneR xr).1).lab.2.1), .int .u8 (((oneR xr).1).lab.2.2.1), sv (((oneR xr).1).lab.2.2.2.1), iv (((oneR xr).1).lab.2.2.2.2.1), iv (((oneR xr).1).lab.2.2.2.2.2), .slice V2 (((oneR xr).1).kids).length Q2]) 0 #[iv (((oneR xr).1).lab.1), sv (((oneR xr).1).lab.2.1), .int .u8 (((oneR xr).1).lab.2.2.1), sv (((oneR xr).1).lab.2.2.2.1), iv (((oneR xr).1).lab.2.2.2.2.1), iv (((oneR xr).1).lab.2.2.2.2.2), .slice V2 (((oneR xr).1).kids).length Q2] rfl rfl rfl ?_)
 refine Ok.b 1 [0, 3] [(4, pv bs4 0), (5, .bool (oneR xr).2.1)] ?_
 refine Ok.nt ((Ok.block ?_))
 obtain ⟨k, hF⟩ := hF
 refine Ok.L (fun k a W => ∃ gl9 : Ghost, Gext w0 g3 gl9 ∧ ∃ (t2 : Nat) (V1 : Bool) (f0 : Int) (d0 : Bs) (c0 : Int) (b0 : Bs) (u0 : Int) (j0 : Int) (Z0 : Option Addr) (V0 : Nat) (e0 : List PH) (aybxr_0l9 : Option Addr) (cybxr_0l9 : Nat) (ybxr_0l9 : List KT) (W0 : Option Addr) (X0 : Nat) (o0 : List TS) (L0 : List Value), Rep gl9 (.slice yP) [.slice Z0 e0.length V0] e0 ∧ Rep gl9 (.slice yK) [.slice aybxr_0l9 ybxr_0l9.length cybxr_0l9] ybxr_0l9 ∧ RepL gl9 yS L0 o0 ∧ StA 28 [(0, pv bxr 0), (3, .slice W0 o0.length X0), (4, pv t2 0), (5, .bool V1)] a ∧ StW w0 [.blk t2 (.cells #[iv f0, sv d0, .int .u8 c0, sv b0, iv u0, iv j0, .slice Z0 e0.length V0] 48), .blk bxr (.cells #[.slice aybxr_0l9 ybxr_0l9.length cybxr_0l9] 59), .own (.slice W0 o0.length X0) 48 7 o0.length L0] gl9 W ∧ stpl9 N K k V1 f0 d0 c0 b0 u0 j0 e0 ybxr_0l9 o0) k ?_ ?_
 ·
  exact fun a W hA hW => ⟨g3, (Gext.r w0 g3), bs4, (oneR xr).2.1, ((oneR xr).1).lab.1, ((oneR xr).1).lab.2.1, ((oneR xr).1).lab.2.2.1, ((oneR xr).1).lab.2.2.2.1, ((oneR xr).1).lab.2.2.2.2.1, ((oneR xr).1).lab.2.2.2.2.2, V2, Q2, ((oneR xr).1).kids, a3_2, c3_2, (oneR xr).2.2, none, 0, ([] : List TS), [], B2, hR3_2, hL1, hA.sub kr, hW, hF⟩
 clear hF
 rintro k9 a W ⟨gl9, M3, t2, V1, f0, d0, c0, b0, u0, j0, Z0, V0, e0, aybxr_0l9, cybxr_0l9, ybxr_0l9, W0, X0, o0, L0, B0, hRybxr_0l9, b1, hA, hW, hF⟩
 cases k9 with
 | zero => exact (hF : False).elim
 | succ k9 =>
  refine (?_ : Ok _ _ _ _ _ _) a W hA hW
  clear hA hW
  replace hG0 := hG0.mono M3.1
  refine Ok.q (Ok.sr ((Ok.b 1 [0, 3, 4] [(11, .bool V1)] ?_)))
  refine Ok.nt ((Ok.cn hF rfl (fun hc5 => ?_) (fun hc5 => ?_)))
  ·replace hF := hF.1 hc5
   refine Ok.k (Ok.t (Ok.q (Ok.block (Ok.r (Ok.b 1 [0, 4] [(17, .slice W0 o0.length X0)] ?_)))))
   refine Ok.op rfl (OpOk.s (v := .agg #[iv f0, sv d0, .int .u8 c0, sv b0, iv u0, iv j0, .slice Z0 e0.length V0]) (Yields.loadAgg 0 7 #[iv f0, sv d0, .int .u8 c0, sv b0, iv u0, iv j0, .slice Z0 e0.length V0] rfl rfl Tryz.underlying48 rfl kr kr kr) rfl rfl ?_)
   have hL6 : RepL gl9 yS ([iv f0, sv d0, .int .u8 c0, sv b0, iv u0, iv j0, .slice Z0 e0.length V0] : List Value) ([(Tst.mk (f0, d0, c0, b0, u0, j0) e0)] : List TS) := (RepL.consN (c := [iv f0, sv d0, .int .u8 c0, sv b0, iv u0, iv j0, .slice Z0 e0.length V0]) (Rep.tst.2 ⟨[iv f0, sv d0, .int .u8 c0, sv b0, iv u0, iv j0], [.slice Z0 e0.length V0], rfl, ⟨[iv f0], [sv d0, .int .u8 c0, sv b0, iv u0, iv j0], rfl, rfl, ⟨[sv d0], [.int .u8 c0, sv b0, iv u0, iv j0], rfl, rfl, ⟨[.int .u8 c0], [sv b0, iv u0, iv j0], rfl, rfl, ⟨[sv b0], [iv u0, iv j0], rfl, rfl, ⟨[iv u0], [iv j0], rfl, rfl, rfl⟩⟩⟩⟩⟩, B0⟩) rfl)
   refine Ok.op rfl (OpOk.lit (E := 48) yS ([(Tst.mk (f0, d0, c0, b0, u0, j0) e0)] : List TS) ([iv f0, sv d0, .int .u8 c0, sv b0, iv u0, iv j0, .slice Z0 e0.length V0] : List Value) kr kr rfl kr hL6 rfl fun b6 => ?_)
   obtain ⟨hb7, hF⟩ := hF
   refine Ok.op rfl (OpOk.append' (e := yS) 88 1599289640401 3 0 rfl rfl rfl rfl b1 hL6 Tryz.underlying41 kr kr kr hb7 rfl fun a7 c7 xs7 hL7 => ?_)
   refine Ok.b 1 [0, 4] [(3, .slice a7 (o0 ++ ([(Tst.mk (f0, d0, c0, b0, u0, j0) e0)] : List TS)).length c7)] ?_
   refine Ok.j (Ok.kn (Ok.t (Ok.q (Ok.sr ((Ok.op rfl (OpOk.s (v := .agg #[iv f0, sv d0, .int .u8 c0, sv b0, iv u0, iv j0, .slice Z0 e0.length V0]) (Yields.loadAgg 1 7 #[iv f0, sv d0, .int .u8 c0, sv b0, iv u0, iv j0, .slice Z0 e0.length V0] rfl rfl Tryz.underlying48 rfl kr kr kr) rfl rfl (Ok.nt ((Ok.r (Ok.op rfl (OpOk.a (z := .agg #[iv 0, sv ([] : Bs), .int .u8 0, sv ([] : Bs), iv 0, iv 0, .slice none 0 0]) (cs := #[iv 0, sv ([] : Bs), .int .u8 0, sv ([] : Bs), iv 0, iv 0, .slice none 0 0]) kr kr rfl fun bs4 => ?_))))))))))))
   refine Ok.op rfl (OpOk.sto (k := 7) (v := .agg #[iv f0, sv d0, .int .u8 c0, sv b0, iv u0, iv j0, .slice Z0 e0.length V0]) 0 #[iv f0, sv d0, .int .u8 c0, sv b0, iv u0, iv j0, .slice Z0 e0.length V0] rfl rfl rfl ?_)
   refine Ok.nt ((Ok.r (Ok.b 1 [0, 3] [(4, pv bs4 0), (13, pv bxr 0)] ?_)))
   obtain ⟨hp9, hF⟩ := hF
   refine Ok.e [3, 0, 1, 2, 4] [.blk bxr (.cells #[.slice aybxr_0l9 ybxr_0l9.length cybxr_0l9] 59), .blk bs4 (.cells #[iv f0, sv d0, .int .u8 c0, sv b0, iv u0, iv j0, .slice Z0 e0.length V0] 48), .own (.slice (some ⟨b6, 0, none⟩) ([(Tst.mk (f0, d0, c0, b0, u0, j0) e0)] : List TS).length 1) 48 7 ([(Tst.mk (f0, d0, c0, b0, u0, j0) e0)] : List TS).length ([iv f0, sv d0, .int .u8 c0, sv b0, iv u0, iv j0, .slice Z0 e0.length V0] : List Value), .blk t2 (.cells #[iv f0, sv d0, .int .u8 c0, sv b0, iv u0, iv j0, .slice Z0 e0.length V0] 48), .own (.slice a7 (o0 ++ ([(Tst.mk (f0, d0, c0, b0, u0, j0) e0)] : List TS)).length c7) 48 7 (o0 ++ ([(Tst.mk (f0, d0, c0, b0, u0, j0) e0)] : List TS)).length xs7] dc rfl (Ok.op rfl (OpOk.callH [_] _ enr rfl (ih_one _ ybxr_0l9 hRybxr_0l9 hG0 hp9) rfl fun g10 _ _ H2 hV10 => ?_))
   obtain ⟨i2, Z2, a10_2, c10_2, rfl, hR10_0, hR10_2, rfl⟩ := hV10
   replace hL7 := hL7.mono H2.1
   replace B0 := B0.mono H2.1
   replace hL6 := hL6.mono H2.1
   replace hG0 := hG0.mono H2.1
   refine Ok.B 3 [(0, pv bxr 0), (3, .slice a7 (o0 ++ ([(Tst.mk (f0, d0, c0, b0, u0, j0) e0)] : List TS)).length c7), (4, pv bs4 0), (15, .agg #[iv (((oneR ybxr_0l9).1).lab.1), sv (((oneR ybxr_0l9).1).lab.2.1), .int .u8 (((oneR ybxr_0l9).1).lab.2.2.1), sv (((oneR ybxr_0l9).1).lab.2.2.2.1), iv (((oneR ybxr_0l9).1).lab.2.2.2.2.1), iv (((oneR ybxr_0l9).1).lab.2.2.2.2.2), .slice i2 (((oneR ybxr_0l9).1).kids).length Z2]), (16, .bool (oneR ybxr_0l9).2.1)] kr (Ok.op rfl (OpOk.sto (k := 7) (v := .agg #[iv (((oneR ybxr_0l9).1).lab.1), sv (((oneR ybxr_0l9).1).lab.2.1), .int .u8 (((oneR ybxr_0l9).1).lab.2.2.1), sv (((oneR ybxr_0l9).1).lab.2.2.2.1), iv (((oneR ybxr_0l9).1).lab.2.2.2.2.1), iv (((oneR ybxr_0l9).1).lab.2.2.2.2.2), .slice i2 (((oneR ybxr_0l9).1).kids).length Z2]) 1 #[iv (((oneR ybxr_0l9).1).lab.1), sv (((oneR ybxr_0l9).1).lab.2.1), .int .u8 (((oneR ybxr_0l9).1).lab.2.2.1), sv (((oneR ybxr_0l9).1).lab.2.2.2.1), iv (((oneR ybxr_0l9).1).lab.2.2.2.2.1), iv (((oneR ybxr_0l9).1).lab.2.2.2.2.2), .slice i2 (((oneR ybxr_0l9).1).kids).length Z2] rfl rfl rfl ?_))
   refine Ok.b 1 [0, 3, 4] [(5, .bool (oneR ybxr_0l9).2.1)] ?_
   refine Ok.j (Ok.t ?_)
   exact fun a W hA hW => ⟨k9, Nat.lt_succ_self _, g10, (M3.trans H2), bs4, (oneR ybxr_0l9).2.1, ((oneR ybxr_0l9).1).lab.1, ((oneR ybxr_0l9).1).lab.2.1, ((oneR ybxr_0l9).1).lab.2.2.1, ((oneR ybxr_0l9).1).lab.2.2.2.1, ((oneR ybxr_0l9).1).lab.2.2.2.2.1, ((oneR ybxr_0l9).1).lab.2.2.2.2.2, i2, Z2, ((oneR ybxr_0l9).1).kids, a10_2, c10_2, (oneR ybxr_0l9).2.2, a7, c7, (o0 ++ ([(Tst.mk (f0, d0, c0, b0, u0, j0) e0)] : List TS)), xs7, hR10_0, hR10_2, hL7, hA.sub kr, hW.pick [1, 0, 4] _ dc rfl, hF⟩
  replace hF := hF.2 hc5
  refine Ok.x (Ok.thenE (Ok.thenE (Ok.blockHit (Ok.t (Ok.sr ((Ok.b 4 [3] [(22, pv bxr 0), (25, .bool (decide ((o0.length : Int) > 0)))] ?_)))))))
  refine Ok.op rfl (OpOk.i (args := #[pv bxr 0, .bool (decide ((o0.length : Int) > 0))]) 8 [(0, pv bxr 0), (1, .bool (decide ((o0.length : Int) > 0)))] enr Tryz.func47 rfl rfl rfl rfl (Ok.sr ((Ok.B 2 [(5, .bool (!(decide ((o0.length : Int) > 0))))] kr (Ok.nt ((Ok.cn hF rfl (fun L1 => ?_) (fun L1 => ?_))))))))
  ·replace hF := hF.1 L1
   exact False.elim hF
  replace hF := hF.2 L1
  refine Ok.k (Ok.back (vs := []) (.inr rfl) rfl .nil rfl (Ok.nt ((Ok.sr ((Ok.B 2 [(2, .slice W0 o0.length X0)] kr (Ok.nt ((Ok.ret (Ok.frz 2 rfl b1 fun g12 A0 hRf12 => ?_))))))))))
  replace B0 := B0.mono A0.1
  replace hRybxr_0l9 := hRybxr_0l9.mono A0.1
  replace hG0 := hG0.mono A0.1
  exact Ok.p (vs := [.slice W0 o0.length X0]) [1] [.blk bxr (.cells #[.slice aybxr_0l9 ybxr_0l9.length cybxr_0l9] 59)] dc rfl (.inl rfl) rfl (.cons (.tmp rfl) .nil) ((hx3.trans M3).trans A0) ⟨o0, ybxr_0l9, W0, X0, aybxr_0l9, cybxr_0l9, rfl, hRf12, hRybxr_0l9, rfl, hF⟩
theorem stp_0 (r : Rd) : ¬ stpP 0 r := fun ⟨_, _, _, _, _, _, _, _, _, h, _⟩ => absurd h (Nat.not_lt_zero _)
theorem mk_eta (t : Ts) : Tst.mk (t.lab.1, t.lab.2.1, t.lab.2.2.1, t.lab.2.2.2.1, t.lab.2.2.2.2.1, t.lab.2.2.2.2.2) t.kids = t := by obtain ⟨x, l⟩ := t; rfl
theorem stp_loop (N : Nat) (K : List Ts → Rd → Prop) : ∀ (s : List Ts) (t : Ts) (k0 : Int) (b : List Tok) (rest : Rd) (acc : List Ts), ok1 s k0 = true → Tk1 s b → ntR rest = true → 8 * b.length + 1 < N → BigR (b ++ rest) → acc.length + b.length ≤ 1000 → K (acc ++ t :: s) rest → stpl9 N K (s.length + 2) true t.lab.1 t.lab.2.1 t.lab.2.2.1 t.lab.2.2.2.1 t.lab.2.2.2.2.1 t.lab.2.2.2.2.2 t.kids (b ++ rest) acc
 | [], t, k0, b, rest, acc, ho, hb, hr, hN, hB, hl, hK => by
  rw [Tk1] at hb; subst hb
  have e : oneR rest = (tNo, false, rest) := one_nt hr _
  have hP : oneP N rest := .inr ⟨hr, by omega⟩
  have hl : acc.length ≤ 1000 := by simpa using hl
  rw [List.nil_append, stpl9]
  unfold stpl9b
  rw [mk_eta, e]
  refine ⟨fun _ => ⟨by rw [List.length_append, List.length_singleton]; omega, hP, ?_⟩, fun h => (by cases h)⟩
  show stpl9 N K 1 false _ _ _ _ _ _ _ rest _
  rw [stpl9]
  unfold stpl9b
  exact ⟨fun h => (by cases h), fun _ => ⟨fun h => absurd h (by simp), fun _ => hK⟩⟩
 | t' :: s, t, k0, b, rest, acc, ho, hb, hr, hN, hB, hl, hK => by
  rw [ok1, Bool.and_eq_true] at ho
  rw [Tk1] at hb
  obtain ⟨a, c, ha, hc, rfl⟩ := hb
  have hla : 1 ≤ a.length := (oneAll t' _ ho.1 a ha).1
  rw [List.length_append] at hl hN
  rw [List.append_assoc] at hB ⊢
  have e := one_eq ho.1 ha (c ++ rest)
  have hP : oneP N (a ++ (c ++ rest)) := .inl ⟨t', _, a, c ++ rest, ho.1, ha, rfl, by omega, hB⟩
  have ih := stp_loop N K s t' _ c rest (acc ++ [t]) ho.2 hc hr om hB.app (by rw [List.length_append, List.length_singleton]; omega) (by rw [List.append_assoc]; exact hK)
  rw [List.length_cons, stpl9]
  unfold stpl9b
  rw [mk_eta, e]
  exact ⟨fun _ => ⟨by rw [List.length_append, List.length_singleton]; omega, hP, ih⟩, fun h => (by cases h)⟩
theorem stp_F (N : Nat) (r : Rd) (h : stpP (N + 1) r) : stpF N r (fun a b => (a, b) = stpR r) := by
 obtain ⟨s, k, ts, rest, hne, ho, hts, hr, rfl, hN, hB⟩ := h
 rw [stp_eq ho hts hr]
 match s, hne with
 | t :: s, _ =>
  rw [ok1, Bool.and_eq_true] at ho
  rw [Tk1] at hts
  obtain ⟨a, b, ha, hb, rfl⟩ := hts
  rw [List.length_append] at hN
  rw [List.append_assoc] at hB ⊢
  have e := one_eq ho.1 ha (b ++ rest)
  have hl : b.length ≤ 1000 := by have := hB.app.1; rw [List.length_append] at this; omega
  refine ⟨.inl ⟨t, _, a, b ++ rest, ho.1, ha, rfl, by omega, hB⟩, s.length + 2, ?_⟩
  rw [e]
  exact stp_loop N _ s t _ b rest [] ho.2 hb hr om hB.app (by simpa using hl) rfl
def pthV4 (ybxr_0l6 : List KT) : Bool :=
 (((pekS (gapS ybxr_0l6).2).1.2.1 == ([62] : Bs)) || (((pekS (gapS ybxr_0l6).2).1.2.1 == ([43] : Bs)) || ((pekS (gapS ybxr_0l6).2).1.2.1 == ([126] : Bs))))
def pthV5 (ybxr_0l6 : List KT) : Bool :=
 ((gapS ybxr_0l6).1 && (((pekS (gapS ybxr_0l6).2).1.1 != 0) && ((!((pekS (gapS ybxr_0l6).2).1.2.1 == ([44] : Bs))) && (!((pekS (gapS ybxr_0l6).2).1.2.1 == ([41] : Bs))))))
def pthV6 (ybxr_0l6 : List KT) : List KT :=
 (if (pthV4 ybxr_0l6) = true then (gapS (((pekS (pekS (gapS ybxr_0l6).2).2).2).drop (Int.toNat 1))).2 else (pekS (gapS ybxr_0l6).2).2)
def pthV7 (z0 : List Int) (ybxr_0l6 : List KT) : List Int :=
 (if (pthV4 ybxr_0l6) = true then (z0 ++ ([((((pekS (gapS ybxr_0l6).2).1.2.1).getD (Int.toNat 0) 0).toNat : Int)] : List Int)) else (z0 ++ ([32] : List Int)))
def pthj12 (N : Nat) (z0 : List Int) (v0 : List (List TS)) (ybxr_0l6 : List KT) (C6 : (List Int) → (List (List TS)) → (List KT) → Prop) : Prop :=
 stpP N (pthV6 ybxr_0l6) ∧ (v0 ++ ([(stpR (pthV6 ybxr_0l6)).1] : List (List TS))).length ≤ 5864062014805 ∧ C6 (pthV7 z0 ybxr_0l6) (v0 ++ ([(stpR (pthV6 ybxr_0l6)).1] : List (List TS))) (stpR (pthV6 ybxr_0l6)).2
def pthj22 (N : Nat) (K : (PH) → (List KT) → Prop) (z0 : List Int) (v0 : List (List TS)) (ybxr_0l6 : List KT) (C6 : (List Int) → (List (List TS)) → (List KT) → Prop) : Prop :=
 (((pthV5 ybxr_0l6)) = true → (z0 ++ ([32] : List Int)).length ≤ 140737488355328 ∧ pthj12 N z0 v0 ybxr_0l6 C6) ∧ (((pthV5 ybxr_0l6)) = false → K (v0, z0) (pekS (gapS ybxr_0l6).2).2)
def pthj14 (N : Nat) (K : (PH) → (List KT) → Prop) (z0 : List Int) (v0 : List (List TS)) (ybxr_0l6 : List KT) (C6 : (List Int) → (List (List TS)) → (List KT) → Prop) : Prop :=
 (((pthV4 ybxr_0l6)) = true → ((((pekS (pekS (gapS ybxr_0l6).2).2).1.1 == 0)) = true → False) ∧ ((((pekS (pekS (gapS ybxr_0l6).2).2).1.1 == 0)) = false → (0 : Int) ≤ 1 ∧ (1 : Int) ≤ (((pekS (pekS (gapS ybxr_0l6).2).2).2).length : Int) ∧ (((pekS (pekS (gapS ybxr_0l6).2).2).2).length : Int) ≤ (((pekS (pekS (gapS ybxr_0l6).2).2).2).length : Int) ∧ (0 : Int) ≤ 0 ∧ Int.toNat 0 < ((pekS (gapS ybxr_0l6).2).1.2.1).length ∧ (z0 ++ ([((((pekS (gapS ybxr_0l6).2).1.2.1).getD (Int.toNat 0) 0).toNat : Int)] : List Int)).length ≤ 140737488355328 ∧ pthj12 N z0 v0 ybxr_0l6 C6)) ∧ (((pthV4 ybxr_0l6)) = false → ((gapS ybxr_0l6).1 = true → ((((pekS (gapS ybxr_0l6).2).1.1 != 0)) = true → ((!((pekS (gapS ybxr_0l6).2).1.2.1 == ([44] : Bs))) = true → pthj22 N K z0 v0 ybxr_0l6 C6) ∧ ((!((pekS (gapS ybxr_0l6).2).1.2.1 == ([44] : Bs))) = false → pthj22 N K z0 v0 ybxr_0l6 C6)) ∧ ((((pekS (gapS ybxr_0l6).2).1.1 != 0)) = false → pthj22 N K z0 v0 ybxr_0l6 C6)) ∧ ((gapS ybxr_0l6).1 = false → pthj22 N K z0 v0 ybxr_0l6 C6))
def pthl6b (N : Nat) (K : (PH) → (List KT) → Prop) (z0 : List Int) (v0 : List (List TS)) (ybxr_0l6 : List KT) (C6 : (List Int) → (List (List TS)) → (List KT) → Prop) : Prop :=
 ((((pekS (gapS ybxr_0l6).2).1.2.1 == ([62] : Bs))) = true → pthj14 N K z0 v0 ybxr_0l6 C6) ∧ ((((pekS (gapS ybxr_0l6).2).1.2.1 == ([62] : Bs))) = false → ((((pekS (gapS ybxr_0l6).2).1.2.1 == ([43] : Bs))) = true → pthj14 N K z0 v0 ybxr_0l6 C6) ∧ ((((pekS (gapS ybxr_0l6).2).1.2.1 == ([43] : Bs))) = false → pthj14 N K z0 v0 ybxr_0l6 C6))
def pthl6 (N : Nat) (K : (PH) → (List KT) → Prop) : Nat → (List Int) → (List (List TS)) → (List KT) → Prop
 | 0, _, _, _ => False
 | k + 1, z0, v0, ybxr_0l6 => pthl6b N K z0 v0 ybxr_0l6 (pthl6 N K k)
def pthF (N : Nat) (xr : List KT) (K : (PH) → (List KT) → Prop) : Prop :=
 stpP N xr ∧ ∃ k, pthl6 N K k ([] : List Int) ([(stpR xr).1] : List (List TS)) (stpR xr).2
theorem pth_ok {g : Ghost} (N : Nat) (ih_pss : pss_C N) (ih_one : one_C N) (ih_stp : stp_C N) (ih_pth : pth_C N) (ih_lst : lst_C N) {bxr : Nat} {axr_0 : Option Addr} {cxr_0 : Nat} (xr : List KT) (hRxr_0 : Rep g (.slice yK) [.slice axr_0 xr.length cxr_0] xr) (hG0 : SomeInt g 0) (K : (PH) → (List KT) → Prop)
  (hF : pthF N xr K) : CallsH Tryz.prog 45 #[pv bxr 0] g [.blk bxr (.cells #[.slice axr_0 xr.length cxr_0] 59)] (fun g' H' v => ∃ (r0 : PH), ∃ (fxr : List KT), ∃ (Y0 : Option Addr) (U0 : Nat), ∃ (g1 : Option Addr) (m1 : Nat), ∃ (afxr_0 : Option Addr) (cfxr_0 : Nat), v = .agg #[.slice Y0 r0.1.length U0, .slice g1 r0.2.length m1] ∧ Rep g' (.slice (.slice yS)) [.slice Y0 r0.1.length U0] r0.1 ∧ Rep g' (.slice yb) [.slice g1 r0.2.length m1] r0.2 ∧ Rep g' (.slice yK) [.slice afxr_0 fxr.length cfxr_0] fxr ∧ H' = [.blk bxr (.cells #[.slice afxr_0 fxr.length cfxr_0] 59)] ∧ K r0 fxr) := by
 refine CallsH.enter 70 [(0, pv bxr 0)] Tryz.func45 rfl kr kr kr fun w0 => ?_
 refine Ok.q (Ok.r ?_)
 have hL1 : RepL g (.slice yS) [] [] := rfl
 refine Ok.ownNil 41 1 ?_
 have hL2 : RepL g yb [] [] := rfl
 refine Ok.ownNil 5 1 (Ok.op rfl (OpOk.a (z := .agg #[.slice none ([] : List (List TS)).length 0, .slice none ([] : List Int).length 0]) (cs := #[.slice none ([] : List (List TS)).length 0, .slice none ([] : List Int).length 0]) kr kr rfl fun bs2 => ?_))
 refine Ok.nt ((Ok.sr ((Ok.B 1 [(0, pv bxr 0), (2, pv bs2 0), (6, pv bxr 0)] kr ?_))))
 obtain ⟨hp4, hF⟩ := hF
 refine Ok.e [3, 0, 1, 2] [.blk bxr (.cells #[.slice axr_0 xr.length cxr_0] 59), .blk bs2 (.cells #[.slice none ([] : List (List TS)).length 0, .slice none ([] : List Int).length 0] 25), .own (.slice none ([] : List Int).length 0) 5 1 ([] : List Int).length ([]), .own (.slice none ([] : List (List TS)).length 0) 41 1 ([] : List (List TS)).length ([])] dc rfl (Ok.op rfl (OpOk.callH [_] _ enr rfl (ih_stp _ xr hRxr_0 hG0 hp4) rfl fun g5 _ _ hx5 hV5 => ?_))
 obtain ⟨T2, L2, a5_2, c5_2, rfl, hR5_0, hR5_2, rfl⟩ := hV5
 replace hL1 := hL1.mono hx5.1
 replace hL2 := hL2.mono hx5.1
 replace hG0 := hG0.mono hx5.1
 have hL6 : RepL g5 (.slice yS) ([.slice T2 ((stpR xr).1).length L2] : List Value) ([(stpR xr).1] : List (List TS)) := (RepL.consN (c := [.slice T2 ((stpR xr).1).length L2]) hR5_0 rfl)
 refine Ok.op rfl (OpOk.lit (E := 41) (.slice yS) ([(stpR xr).1] : List (List TS)) ([.slice T2 ((stpR xr).1).length L2] : List Value) kr kr rfl kr hL6 rfl fun b6 => ?_)
 refine Ok.B 1 [(0, pv bxr 0), (2, pv bs2 0), (9, .agg #[.slice (some ⟨b6, 0, none⟩) ([(stpR xr).1] : List (List TS)).length 1, .slice none 0 0])] kr ?_
 have hL7 : RepL g5 (.slice yS) [] [] := rfl
 refine Ok.ownNil 41 1 ?_
 have hL8 : RepL g5 yb [] [] := rfl
 refine Ok.ownNil 5 1 (Ok.op rfl (OpOk.a (z := .agg #[.slice none ([] : List (List TS)).length 0, .slice none ([] : List Int).length 0]) (cs := #[.slice none ([] : List (List TS)).length 0, .slice none ([] : List Int).length 0]) kr kr rfl fun bs3 => ?_))
 have hL10 : RepL g5 yb [] [] := rfl
 refine Ok.ownNil 5 1 (Ok.op rfl (OpOk.sto (k := 2) (v := .agg #[.slice (some ⟨b6, 0, none⟩) ([(stpR xr).1] : List (List TS)).length 1, .slice none ([] : List Int).length 0]) 1 #[.slice (some ⟨b6, 0, none⟩) ([(stpR xr).1] : List (List TS)).length 1, .slice none ([] : List Int).length 0] rfl rfl rfl ?_))
 refine Ok.nt ((Ok.block ?_))
 obtain ⟨k, hF⟩ := hF
 refine Ok.L (fun k a W => ∃ gl6 : Ghost, Gext w0 g5 gl6 ∧ ∃ (x0 : Option Addr) (s0 : Nat) (z0 : List Int) (K0 : List Value) (q0 : Option Addr) (y0 : Nat) (v0 : List (List TS)) (m0 : List Value) (aybxr_0l6 : Option Addr) (cybxr_0l6 : Nat) (ybxr_0l6 : List KT), RepL gl6 yb K0 z0 ∧ RepL gl6 (.slice yS) m0 v0 ∧ Rep gl6 (.slice yK) [.slice aybxr_0l6 ybxr_0l6.length cybxr_0l6] ybxr_0l6 ∧ StA 70 [(0, pv bxr 0), (2, pv bs2 0), (3, pv bs3 0)] a ∧ StW w0 [.own (.slice x0 z0.length s0) 5 1 z0.length K0, .blk bs3 (.cells #[.slice q0 v0.length y0, .slice x0 z0.length s0] 25), .own (.slice q0 v0.length y0) 41 1 v0.length m0, .blk bxr (.cells #[.slice aybxr_0l6 ybxr_0l6.length cybxr_0l6] 59), .blk bs2 (.cells #[.slice none ([] : List (List TS)).length 0, .slice none ([] : List Int).length 0] 25), .own (.slice none ([] : List Int).length 0) 5 1 ([] : List Int).length ([]), .own (.slice none ([] : List (List TS)).length 0) 41 1 ([] : List (List TS)).length ([])] gl6 W ∧ pthl6 N K k z0 v0 ybxr_0l6) k ?_ ?_
 ·
  exact fun a W hA hW => ⟨g5, (Gext.r w0 g5), none, 0, ([] : List Int), [], (some ⟨b6, 0, none⟩), 1, ([(stpR xr).1] : List (List TS)), ([.slice T2 ((stpR xr).1).length L2] : List Value), a5_2, c5_2, (stpR xr).2, hL10, hL6, hR5_2, hA.sub kr, hW.sub (.cons_cons _ (.cons_cons _ (.cons _ (.cons _ (.cons_cons _ (.cons_cons _ (.cons_cons _ (.cons_cons _ (.cons_cons _ .slnil))))))))), hF⟩
 clear hF
 rintro k6 a W ⟨gl6, G1, x0, s0, z0, K0, q0, y0, v0, m0, aybxr_0l6, cybxr_0l6, ybxr_0l6, p0, t0, hRybxr_0l6, hA, hW, hF⟩
 cases k6 with
 | zero => exact (hF : False).elim
 | succ k6 =>
  refine (?_ : Ok _ _ _ _ _ _) a W hA hW
  clear hA hW
  replace hL1 := hL1.mono G1.1
  replace hL2 := hL2.mono G1.1
  replace hG0 := hG0.mono G1.1
  refine Ok.block (Ok.sr ((Ok.b 1 [0, 2, 3] [(10, pv bxr 0)] ?_)))
  refine Ok.e [3, 0, 1, 2, 4, 5, 6] [.blk bxr (.cells #[.slice aybxr_0l6 ybxr_0l6.length cybxr_0l6] 59), .own (.slice x0 z0.length s0) 5 1 z0.length K0, .blk bs3 (.cells #[.slice q0 v0.length y0, .slice x0 z0.length s0] 25), .own (.slice q0 v0.length y0) 41 1 v0.length m0, .blk bs2 (.cells #[.slice none ([] : List (List TS)).length 0, .slice none ([] : List Int).length 0] 25), .own (.slice none ([] : List Int).length 0) 5 1 ([] : List Int).length ([]), .own (.slice none ([] : List (List TS)).length 0) 41 1 ([] : List (List TS)).length ([])] dc rfl (Ok.op rfl (OpOk.callH [_] _ enr rfl (gap_c ybxr_0l6 hRybxr_0l6) rfl fun g11 _ _ Z1 hV11 => ?_))
  obtain ⟨a11_0, c11_0, rfl, hR11_0, rfl⟩ := hV11
  replace p0 := p0.mono Z1.1
  replace t0 := t0.mono Z1.1
  replace hL1 := hL1.mono Z1.1
  replace hL2 := hL2.mono Z1.1
  replace hG0 := hG0.mono Z1.1
  refine Ok.B 1 [(0, pv bxr 0), (2, pv bs2 0), (3, pv bs3 0), (4, .bool (gapS ybxr_0l6).1)] kr (Ok.nt ((Ok.sr ((Ok.b 1 [0, 2, 3, 4] [(12, pv bxr 0)] ?_)))))
  refine Ok.op rfl (OpOk.callH [_] _ enr rfl (pek_c (gapS ybxr_0l6).2 hR11_0) rfl fun g12 _ _ A0 V3 => ?_)
  obtain ⟨R0, T0, rfl, C0, rfl⟩ := V3
  replace p0 := p0.mono A0.1
  replace t0 := t0.mono A0.1
  replace hL1 := hL1.mono A0.1
  replace hL2 := hL2.mono A0.1
  replace hG0 := hG0.mono A0.1
  refine Ok.op rfl (OpOk.a (z := .agg zK) (cs := zK) kr kr rfl fun bs5 => ?_)
  refine Ok.op rfl (OpOk.sto (k := 4) (v := .agg (aK (pekS (gapS ybxr_0l6).2).1)) 0 (aK (pekS (gapS ybxr_0l6).2).1) rfl rfl rfl ?_)
  refine Ok.nt ((Ok.cut (fun a W => ∃ M2 : Ghost, Gext w0 g12 M2 ∧ ∃ (aybxr_0j12 : Option Addr) (cybxr_0j12 : Nat) (a0 : Option Addr) (i0 : Nat) (Q0 : List Value), Rep M2 (.slice yK) [.slice aybxr_0j12 (pthV6 ybxr_0l6).length cybxr_0j12] (pthV6 ybxr_0l6) ∧ RepL M2 yb Q0 (pthV7 z0 ybxr_0l6) ∧ StA 70 [(0, pv bxr 0), (2, pv bs2 0), (3, pv bs3 0)] a ∧ StW w0 [.blk bxr (.cells #[.slice aybxr_0j12 (pthV6 ybxr_0l6).length cybxr_0j12] 59), .own (.slice a0 (pthV7 z0 ybxr_0l6).length i0) 5 1 (pthV7 z0 ybxr_0l6).length Q0, .blk bs3 (.cells #[.slice q0 v0.length y0, .slice a0 (pthV7 z0 ybxr_0l6).length i0] 25), .own (.slice q0 v0.length y0) 41 1 v0.length m0, .blk bs2 (.cells #[.slice none ([] : List (List TS)).length 0, .slice none ([] : List Int).length 0] 25), .own (.slice none ([] : List Int).length 0) 5 1 ([] : List Int).length ([]), .own (.slice none ([] : List (List TS)).length 0) 41 1 ([] : List (List TS)).length ([])] M2 W ∧ pthj12 N z0 v0 ybxr_0l6 (pthl6 N K k6)) ?_ ?_))
  ·
   refine Ok.block (Ok.cut (fun a W => ∃ f1 : Ghost, Gext w0 g12 f1 ∧ StA 70 [(0, pv bxr 0), (2, pv bs2 0), (3, pv bs3 0), (4, .bool (gapS ybxr_0l6).1), (5, pv bs5 0), (15, .bool (pthV4 ybxr_0l6))] a ∧ StW w0 [.blk bs5 (.cells (aK (pekS (gapS ybxr_0l6).2).1) 78), .blk bxr (.cells #[.slice R0 ((pekS (gapS ybxr_0l6).2).2).length T0] 59), .own (.slice x0 z0.length s0) 5 1 z0.length K0, .blk bs3 (.cells #[.slice q0 v0.length y0, .slice x0 z0.length s0] 25), .own (.slice q0 v0.length y0) 41 1 v0.length m0, .blk bs2 (.cells #[.slice none ([] : List (List TS)).length 0, .slice none ([] : List Int).length 0] 25), .own (.slice none ([] : List Int).length 0) 5 1 ([] : List Int).length ([]), .own (.slice none ([] : List (List TS)).length 0) 41 1 ([] : List (List TS)).length ([])] f1 W ∧ pthj14 N K z0 v0 ybxr_0l6 (pthl6 N K k6)) ?_ ?_)
   ·
    refine Ok.r (Ok.b 1 [0, 2, 3, 4] [(5, pv bs5 0), (16, pv bs5 1)] ?_)
    refine Ok.op rfl (OpOk.s (v := sv ((pekS (gapS ybxr_0l6).2).1.2.1)) (Yields.l 0 rfl rfl Tryz.underlying9 rfl kr) rfl rfl (Ok.op rfl (OpOk.s (v := .bool ((pekS (gapS ybxr_0l6).2).1.2.1 == ([62] : Bs))) (Yields.sc (f := .eql) (a := (pekS (gapS ybxr_0l6).2).1.2.1) (b := ([62] : Bs)) kr kr rfl) rfl rfl (Ok.b 1 [0, 2, 3, 4, 5] [(19, .bool ((pekS (gapS ybxr_0l6).2).1.2.1 == ([62] : Bs)))] ?_))))
    refine Ok.a 19 (((pekS (gapS ybxr_0l6).2).1.2.1 == ([62] : Bs))) rfl (fun K2 => ?_) (fun K2 => ?_)
    ·replace hF := hF.1 K2
     refine Ok.b 10 [0, 2, 3, 4, 5] [(15, .bool true)] ?_
     refine Ok.nt ((Ok.v 15 rfl (show (.bool true : Value) = .bool (pthV4 ybxr_0l6) from congrArg (Value.bool) (mor_t K2)) ?_))
     exact fun a W hA hW => ⟨g12, (Gext.r w0 g12), hA.sub kr, hW, hF⟩
    replace hF := hF.2 K2
    refine Ok.b 1 [0, 2, 3, 4, 5] [(19, .bool false), (20, pv bs5 1)] ?_
    refine Ok.y (j := 3) (d := 19) (want := false) (b := false) rfl kr kr rfl (OpOk.s (v := sv ((pekS (gapS ybxr_0l6).2).1.2.1)) (Yields.l 0 rfl rfl Tryz.underlying9 rfl kr) rfl rfl (Ok.y (j := 3) (d := 19) (want := false) (b := false) rfl kr kr rfl (OpOk.s (v := .bool ((pekS (gapS ybxr_0l6).2).1.2.1 == ([43] : Bs))) (Yields.sc (f := .eql) (a := (pekS (gapS ybxr_0l6).2).1.2.1) (b := ([43] : Bs)) kr kr rfl) rfl rfl (Ok.b 2 [0, 2, 3, 4, 5] [(24, .bool ((pekS (gapS ybxr_0l6).2).1.2.1 == ([43] : Bs)))] ?_))))
    refine Ok.a 24 (((pekS (gapS ybxr_0l6).2).1.2.1 == ([43] : Bs))) rfl (fun D1 => ?_) (fun D1 => ?_)
    ·replace hF := hF.1 D1
     refine Ok.b 5 [0, 2, 3, 4, 5] [(15, .bool true)] ?_
     refine Ok.nt ((Ok.v 15 rfl (show (.bool true : Value) = .bool (pthV4 ybxr_0l6) from congrArg (Value.bool) ((Eq.trans (mor_t D1) (mor_f K2)))) ?_))
     exact fun a W hA hW => ⟨g12, (Gext.r w0 g12), hA.sub kr, hW, hF⟩
    replace hF := hF.2 D1
    refine Ok.b 1 [0, 2, 3, 4, 5] [(24, .bool false), (25, pv bs5 1)] ?_
    refine Ok.y (j := 8) (d := 24) (want := false) (b := false) rfl kr kr rfl (OpOk.s (v := sv ((pekS (gapS ybxr_0l6).2).1.2.1)) (Yields.l 0 rfl rfl Tryz.underlying9 rfl kr) rfl rfl (Ok.y (j := 8) (d := 24) (want := false) (b := false) rfl kr kr rfl (OpOk.s (v := .bool ((pekS (gapS ybxr_0l6).2).1.2.1 == ([126] : Bs))) (Yields.sc (f := .eql) (a := (pekS (gapS ybxr_0l6).2).1.2.1) (b := ([126] : Bs)) kr kr rfl) rfl rfl (Ok.b 2 [0, 2, 3, 4, 5] [(15, .bool ((pekS (gapS ybxr_0l6).2).1.2.1 == ([126] : Bs)))] ?_))))
    refine Ok.nt ((Ok.v 15 rfl (show (.bool ((pekS (gapS ybxr_0l6).2).1.2.1 == ([126] : Bs)) : Value) = .bool (pthV4 ybxr_0l6) from congrArg (Value.bool) ((Eq.trans (mor_f D1) (mor_f K2)))) ?_))
    exact fun a W hA hW => ⟨g12, (Gext.r w0 g12), hA.sub kr, hW, hF⟩
   clear hF
   rintro a W ⟨f1, v1, hA, hW, hF⟩
   refine (?_ : Ok _ _ _ _ _ _) a W hA hW
   clear hA hW
   replace C0 := C0.mono v1.1
   replace p0 := p0.mono v1.1
   replace t0 := t0.mono v1.1
   replace hL1 := hL1.mono v1.1
   replace hL2 := hL2.mono v1.1
   replace hG0 := hG0.mono v1.1
   refine Ok.cn hF rfl (fun H0 => ?_) (fun H0 => ?_)
   ·replace hF := hF.1 H0
    refine Ok.sr ((Ok.b 1 [0, 2, 3, 5] [(29, pv bxr 0)] ?_))
    refine Ok.op rfl (OpOk.i (args := #[pv bxr 0]) 20 [(0, pv bxr 0)] enr Tryz.func74 rfl rfl rfl rfl (Ok.sr ((Ok.op rfl (OpOk.a (z := .agg zK) (cs := zK) kr kr rfl fun J0 => ?_)))))
    refine Ok.nt ((Ok.sr ((Ok.b 1 [0] [(2, pv J0 0), (4, pv bxr 0)] ?_))))
    refine Ok.e [2, 0, 1, 3, 4, 5, 6, 7, 8] [.blk bxr (.cells #[.slice R0 ((pekS (gapS ybxr_0l6).2).2).length T0] 59), .blk J0 (.cells zK 78), .blk bs5 (.cells (aK (pekS (gapS ybxr_0l6).2).1) 78), .own (.slice x0 z0.length s0) 5 1 z0.length K0, .blk bs3 (.cells #[.slice q0 v0.length y0, .slice x0 z0.length s0] 25), .own (.slice q0 v0.length y0) 41 1 v0.length m0, .blk bs2 (.cells #[.slice none ([] : List (List TS)).length 0, .slice none ([] : List Int).length 0] 25), .own (.slice none ([] : List Int).length 0) 5 1 ([] : List Int).length ([]), .own (.slice none ([] : List (List TS)).length 0) 41 1 ([] : List (List TS)).length ([])] dc rfl (Ok.op rfl (OpOk.callH [_] _ enr rfl (pek_c (pekS (gapS ybxr_0l6).2).2 C0) rfl fun g20 _ _ W1 a3 => ?_))
    obtain ⟨p1, t1, rfl, z2, rfl⟩ := a3
    replace p0 := p0.mono W1.1
    replace t0 := t0.mono W1.1
    replace hL1 := hL1.mono W1.1
    replace hL2 := hL2.mono W1.1
    replace hG0 := hG0.mono W1.1
    refine Ok.op rfl (OpOk.a (z := .agg zK) (cs := zK) kr kr rfl fun S0 => ?_)
    refine Ok.op rfl (OpOk.sto (k := 4) (v := .agg #[iv (pekS (pekS (gapS ybxr_0l6).2).2).1.1, sv ((pekS (pekS (gapS ybxr_0l6).2).2).1.2.1), sv ((pekS (pekS (gapS ybxr_0l6).2).2).1.2.2.1), iv (pekS (pekS (gapS ybxr_0l6).2).2).1.2.2.2]) 0 #[iv (pekS (pekS (gapS ybxr_0l6).2).2).1.1, sv ((pekS (pekS (gapS ybxr_0l6).2).2).1.2.1), sv ((pekS (pekS (gapS ybxr_0l6).2).2).1.2.2.1), iv (pekS (pekS (gapS ybxr_0l6).2).2).1.2.2.2] rfl rfl rfl ?_)
    refine Ok.nt ((Ok.q (Ok.sr ((Ok.B 1 [(0, pv bxr 0), (2, pv J0 0), (3, pv S0 0), (6, pv S0 0)] kr (Ok.op rfl (OpOk.s (v := iv (pekS (pekS (gapS ybxr_0l6).2).2).1.1) (Yields.l 0 rfl rfl Tryz.underlying3 rfl kr) rfl rfl (Ok.b 1 [0, 2, 3] [(8, .bool ((pekS (pekS (gapS ybxr_0l6).2).2).1.1 == 0))] ?_))))))))
    refine Ok.nt ((Ok.cn hF rfl (fun y2 => ?_) (fun y2 => ?_)))
    ·replace hF := hF.1 y2
     exact False.elim hF
    replace hF := hF.2 y2
    refine Ok.k (Ok.t (Ok.sr ((Ok.b 4 [2, 3] [(11, pv bxr 0), (14, pv bxr 0)] ?_))))
    refine Ok.op rfl (OpOk.s (v := .slice p1 ((pekS (pekS (gapS ybxr_0l6).2).2).2).length t1) (Yields.l 1 rfl rfl Tryz.underlying56 rfl kr) rfl rfl ?_)
    obtain ⟨h023, h123, h223, hF⟩ := hF
    refine Ok.op rfl (OpOk.sliceRo (e := yK) (l := 1) (h := (((pekS (pekS (gapS ybxr_0l6).2).2).2).length : Int)) rfl Tryz.underlying56 kr (.inl ⟨_, _, rfl, rfl⟩) (.inr ⟨rfl, rfl⟩) z2 h023 h123 h223 rfl (((pekS (pekS (gapS ybxr_0l6).2).2).2).drop (Int.toNat 1)) (by rw [show ((((pekS (pekS (gapS ybxr_0l6).2).2).2).length : Int)).toNat = ((pekS (pekS (gapS ybxr_0l6).2).2).2).length from Int.toNat_natCast _, List.take_length]) fun a23 c23 hR23 => ?_)
    refine Ok.b 2 [2, 3] [(16, .slice a23 (((pekS (pekS (gapS ybxr_0l6).2).2).2).drop (Int.toNat 1)).length c23), (18, pv bxr 0)] ?_
    refine Ok.op rfl (OpOk.sto (k := 1) (v := .slice a23 (((pekS (pekS (gapS ybxr_0l6).2).2).2).drop (Int.toNat 1)).length c23) 1 #[.slice a23 (((pekS (pekS (gapS ybxr_0l6).2).2).2).drop (Int.toNat 1)).length c23] rfl rfl rfl ?_)
    refine Ok.nt ((Ok.sr ((Ok.op rfl (OpOk.s (v := .agg #[iv (pekS (pekS (gapS ybxr_0l6).2).2).1.1, sv ((pekS (pekS (gapS ybxr_0l6).2).2).1.2.1), sv ((pekS (pekS (gapS ybxr_0l6).2).2).1.2.2.1), iv (pekS (pekS (gapS ybxr_0l6).2).2).1.2.2.2]) (Yields.loadAgg 0 4 #[iv (pekS (pekS (gapS ybxr_0l6).2).2).1.1, sv ((pekS (pekS (gapS ybxr_0l6).2).2).1.2.1), sv ((pekS (pekS (gapS ybxr_0l6).2).2).1.2.2.1), iv (pekS (pekS (gapS ybxr_0l6).2).2).1.2.2.2] rfl rfl Tryz.underlying78 rfl kr kr kr) rfl rfl (Ok.op rfl (OpOk.sto (k := 4) (v := .agg #[iv (pekS (pekS (gapS ybxr_0l6).2).2).1.1, sv ((pekS (pekS (gapS ybxr_0l6).2).2).1.2.1), sv ((pekS (pekS (gapS ybxr_0l6).2).2).1.2.2.1), iv (pekS (pekS (gapS ybxr_0l6).2).2).1.2.2.2]) 2 #[iv (pekS (pekS (gapS ybxr_0l6).2).2).1.1, sv ((pekS (pekS (gapS ybxr_0l6).2).2).1.2.1), sv ((pekS (pekS (gapS ybxr_0l6).2).2).1.2.2.1), iv (pekS (pekS (gapS ybxr_0l6).2).2).1.2.2.2] rfl rfl rfl ?_)))))))
    refine Ok.nt ((Ok.ret (Ok.back (vs := [.agg #[iv (pekS (pekS (gapS ybxr_0l6).2).2).1.1, sv ((pekS (pekS (gapS ybxr_0l6).2).2).1.2.1), sv ((pekS (pekS (gapS ybxr_0l6).2).2).1.2.2.1), iv (pekS (pekS (gapS ybxr_0l6).2).2).1.2.2.2]]) (.inl rfl) rfl (.cons (.cellAgg 2 4 #[iv (pekS (pekS (gapS ybxr_0l6).2).2).1.1, sv ((pekS (pekS (gapS ybxr_0l6).2).2).1.2.1), sv ((pekS (pekS (gapS ybxr_0l6).2).2).1.2.2.1), iv (pekS (pekS (gapS ybxr_0l6).2).2).1.2.2.2] rfl rfl Tryz.underlying78 rfl kr kr kr) .nil) rfl (Ok.nt ((Ok.sr ((Ok.B 1 [(0, pv bxr 0), (2, pv bs2 0), (3, pv bs3 0), (5, pv bs5 0), (31, pv bxr 0)] kr (Ok.e [1, 0, 2, 3, 4, 5, 6, 7, 8, 9] [.blk bxr (.cells #[.slice a23 (((pekS (pekS (gapS ybxr_0l6).2).2).2).drop (Int.toNat 1)).length c23] 59), .blk S0 (.cells #[iv (pekS (pekS (gapS ybxr_0l6).2).2).1.1, sv ((pekS (pekS (gapS ybxr_0l6).2).2).1.2.1), sv ((pekS (pekS (gapS ybxr_0l6).2).2).1.2.2.1), iv (pekS (pekS (gapS ybxr_0l6).2).2).1.2.2.2] 78), .blk J0 (.cells #[iv (pekS (pekS (gapS ybxr_0l6).2).2).1.1, sv ((pekS (pekS (gapS ybxr_0l6).2).2).1.2.1), sv ((pekS (pekS (gapS ybxr_0l6).2).2).1.2.2.1), iv (pekS (pekS (gapS ybxr_0l6).2).2).1.2.2.2] 78), .blk bs5 (.cells (aK (pekS (gapS ybxr_0l6).2).1) 78), .own (.slice x0 z0.length s0) 5 1 z0.length K0, .blk bs3 (.cells #[.slice q0 v0.length y0, .slice x0 z0.length s0] 25), .own (.slice q0 v0.length y0) 41 1 v0.length m0, .blk bs2 (.cells #[.slice none ([] : List (List TS)).length 0, .slice none ([] : List Int).length 0] 25), .own (.slice none ([] : List Int).length 0) 5 1 ([] : List Int).length ([]), .own (.slice none ([] : List (List TS)).length 0) 41 1 ([] : List (List TS)).length ([])] dc rfl (Ok.op rfl (OpOk.callH [_] _ enr rfl (gap_c (((pekS (pekS (gapS ybxr_0l6).2).2).2).drop (Int.toNat 1)) hR23) rfl fun g24 _ _ B1 Y3 => ?_)))))))))))
    obtain ⟨N0, O0, rfl, j2, rfl⟩ := Y3
    replace p0 := p0.mono B1.1
    replace t0 := t0.mono B1.1
    replace hL1 := hL1.mono B1.1
    replace hL2 := hL2.mono B1.1
    replace hG0 := hG0.mono B1.1
    refine Ok.nt ((Ok.mix [0, 1, 3, 4] [5] [.blk bxr (.cells #[.slice N0 ((gapS (((pekS (pekS (gapS ybxr_0l6).2).2).2).drop (Int.toNat 1))).2).length O0] 59), .blk S0 (.cells #[iv (pekS (pekS (gapS ybxr_0l6).2).2).1.1, sv ((pekS (pekS (gapS ybxr_0l6).2).2).1.2.1), sv ((pekS (pekS (gapS ybxr_0l6).2).2).1.2.2.1), iv (pekS (pekS (gapS ybxr_0l6).2).2).1.2.2.2] 78), .blk J0 (.cells #[iv (pekS (pekS (gapS ybxr_0l6).2).2).1.1, sv ((pekS (pekS (gapS ybxr_0l6).2).2).1.2.1), sv ((pekS (pekS (gapS ybxr_0l6).2).2).1.2.2.1), iv (pekS (pekS (gapS ybxr_0l6).2).2).1.2.2.2] 78), .blk bs5 (.cells (aK (pekS (gapS ybxr_0l6).2).1) 78), .own (.slice q0 v0.length y0) 41 1 v0.length m0, .blk bs2 (.cells #[.slice none ([] : List (List TS)).length 0, .slice none ([] : List Int).length 0] 25), .own (.slice none ([] : List Int).length 0) 5 1 ([] : List Int).length ([]), .own (.slice none ([] : List (List TS)).length 0) 41 1 ([] : List (List TS)).length ([])] [(0, true), (1, true), (2, true), (3, true), (4, true), (5, false), (6, false), (7, true), (8, false)] kr kr (.cons_cons _ (.cons_cons _ (.cons_cons _ (.cons_cons _ (.cons _ (.cons _ (.cons_cons _ (.cons_cons _ (.cons_cons _ (.cons_cons _ .slnil)))))))))) (OkM.B 1 [(0, pv bxr 0), (2, pv bs2 0), (3, pv bs3 0), (5, pv bs5 0), (33, pv bs3 1)] kr (OkM.h rfl rfl (show _ = [.blk bxr (.cells #[.slice N0 ((gapS (((pekS (pekS (gapS ybxr_0l6).2).2).2).drop (Int.toNat 1))).2).length O0] 59), .blk S0 (.cells #[iv (pekS (pekS (gapS ybxr_0l6).2).2).1.1, sv ((pekS (pekS (gapS ybxr_0l6).2).2).1.2.1), sv ((pekS (pekS (gapS ybxr_0l6).2).2).1.2.2.1), iv (pekS (pekS (gapS ybxr_0l6).2).2).1.2.2.2] 78), .blk J0 (.cells #[iv (pekS (pekS (gapS ybxr_0l6).2).2).1.1, sv ((pekS (pekS (gapS ybxr_0l6).2).2).1.2.1), sv ((pekS (pekS (gapS ybxr_0l6).2).2).1.2.2.1), iv (pekS (pekS (gapS ybxr_0l6).2).2).1.2.2.2] 78), .blk bs5 (.cells (aK (pekS (gapS ybxr_0l6).2).1) 78), .own (.slice x0 z0.length s0) 5 1 z0.length K0, .blk bs3 (.cells #[.slice q0 v0.length y0, .slice x0 z0.length s0] 25), .own (.slice q0 v0.length y0) 41 1 v0.length m0, .blk bs2 (.cells #[.slice none ([] : List (List TS)).length 0, .slice none ([] : List Int).length 0] 25), .own (.slice none ([] : List Int).length 0) 5 1 ([] : List Int).length ([]), .own (.slice none ([] : List (List TS)).length 0) 41 1 ([] : List (List TS)).length ([])] from rfl) (OpQ.s (v := .slice x0 z0.length s0) (Yields.l 5 rfl rfl Tryz.underlying23 rfl kr) rfl rfl (OkM.b 1 [0, 2, 3] [(34, .slice x0 z0.length s0), (35, pv bs5 1)] ?_))))))
    refine OkM.h rfl rfl (show _ = [.blk bxr (.cells #[.slice N0 ((gapS (((pekS (pekS (gapS ybxr_0l6).2).2).2).drop (Int.toNat 1))).2).length O0] 59), .blk S0 (.cells #[iv (pekS (pekS (gapS ybxr_0l6).2).2).1.1, sv ((pekS (pekS (gapS ybxr_0l6).2).2).1.2.1), sv ((pekS (pekS (gapS ybxr_0l6).2).2).1.2.2.1), iv (pekS (pekS (gapS ybxr_0l6).2).2).1.2.2.2] 78), .blk J0 (.cells #[iv (pekS (pekS (gapS ybxr_0l6).2).2).1.1, sv ((pekS (pekS (gapS ybxr_0l6).2).2).1.2.1), sv ((pekS (pekS (gapS ybxr_0l6).2).2).1.2.2.1), iv (pekS (pekS (gapS ybxr_0l6).2).2).1.2.2.2] 78), .blk bs5 (.cells (aK (pekS (gapS ybxr_0l6).2).1) 78), .own (.slice x0 z0.length s0) 5 1 z0.length K0, .blk bs3 (.cells #[.slice q0 v0.length y0, .slice x0 z0.length s0] 25), .own (.slice q0 v0.length y0) 41 1 v0.length m0, .blk bs2 (.cells #[.slice none ([] : List (List TS)).length 0, .slice none ([] : List Int).length 0] 25), .own (.slice none ([] : List Int).length 0) 5 1 ([] : List Int).length ([]), .own (.slice none ([] : List (List TS)).length 0) 41 1 ([] : List (List TS)).length ([])] from rfl) (OpQ.s (v := sv ((pekS (gapS ybxr_0l6).2).1.2.1)) (Yields.l 3 rfl rfl Tryz.underlying9 rfl kr) rfl rfl ?_)
    obtain ⟨h025, h125, hF⟩ := hF
    have x4 := get_of (l := (pekS (gapS ybxr_0l6).2).1.2.1) (0 : UInt8) h125
    generalize hg25 : (((pekS (gapS ybxr_0l6).2).1.2.1).getD (Int.toNat 0) 0) = e25 at x4 hF ⊢
    refine OkM.h rfl rfl (show _ = [.blk bxr (.cells #[.slice N0 ((gapS (((pekS (pekS (gapS ybxr_0l6).2).2).2).drop (Int.toNat 1))).2).length O0] 59), .blk S0 (.cells #[iv (pekS (pekS (gapS ybxr_0l6).2).2).1.1, sv ((pekS (pekS (gapS ybxr_0l6).2).2).1.2.1), sv ((pekS (pekS (gapS ybxr_0l6).2).2).1.2.2.1), iv (pekS (pekS (gapS ybxr_0l6).2).2).1.2.2.2] 78), .blk J0 (.cells #[iv (pekS (pekS (gapS ybxr_0l6).2).2).1.1, sv ((pekS (pekS (gapS ybxr_0l6).2).2).1.2.1), sv ((pekS (pekS (gapS ybxr_0l6).2).2).1.2.2.1), iv (pekS (pekS (gapS ybxr_0l6).2).2).1.2.2.2] 78), .blk bs5 (.cells (aK (pekS (gapS ybxr_0l6).2).1) 78), .own (.slice x0 z0.length s0) 5 1 z0.length K0, .blk bs3 (.cells #[.slice q0 v0.length y0, .slice x0 z0.length s0] 25), .own (.slice q0 v0.length y0) 41 1 v0.length m0, .blk bs2 (.cells #[.slice none ([] : List (List TS)).length 0, .slice none ([] : List Int).length 0] 25), .own (.slice none ([] : List Int).length 0) 5 1 ([] : List Int).length ([]), .own (.slice none ([] : List (List TS)).length 0) 41 1 ([] : List (List TS)).length ([])] from rfl) (OpQ.s (v := .int .u8 (e25.toNat : Int)) (Yields.ix (k := .i64) (i := 0) (s := (pekS (gapS ybxr_0l6).2).1.2.1) (b := e25) kr kr Tryz.underlying9 h025 x4) rfl rfl ?_)
    have s4 : RepL g24 yb ([.int .u8 (e25.toNat : Int)] : List Value) ([(e25.toNat : Int)] : List Int) := (RepL.consN (c := [.int .u8 (e25.toNat : Int)]) rfl rfl)
    refine OkM.t rfl rfl (OpOk.lit (E := 5) yb ([(e25.toNat : Int)] : List Int) ([.int .u8 (e25.toNat : Int)] : List Value) kr kr rfl kr s4 rfl fun b26 => ?_)
    refine OkM.l (i := 5) (show _ = [.blk bxr (.cells #[.slice N0 ((gapS (((pekS (pekS (gapS ybxr_0l6).2).2).2).drop (Int.toNat 1))).2).length O0] 59), .blk S0 (.cells #[iv (pekS (pekS (gapS ybxr_0l6).2).2).1.1, sv ((pekS (pekS (gapS ybxr_0l6).2).2).1.2.1), sv ((pekS (pekS (gapS ybxr_0l6).2).2).1.2.2.1), iv (pekS (pekS (gapS ybxr_0l6).2).2).1.2.2.2] 78), .blk J0 (.cells #[iv (pekS (pekS (gapS ybxr_0l6).2).2).1.1, sv ((pekS (pekS (gapS ybxr_0l6).2).2).1.2.1), sv ((pekS (pekS (gapS ybxr_0l6).2).2).1.2.2.1), iv (pekS (pekS (gapS ybxr_0l6).2).2).1.2.2.2] 78), .blk bs5 (.cells (aK (pekS (gapS ybxr_0l6).2).1) 78), .own (.slice x0 z0.length s0) 5 1 z0.length K0, .blk bs3 (.cells #[.slice q0 v0.length y0, .slice x0 z0.length s0] 25), .own (.slice q0 v0.length y0) 41 1 v0.length m0, .blk bs2 (.cells #[.slice none ([] : List (List TS)).length 0, .slice none ([] : List Int).length 0] 25), .own (.slice none ([] : List Int).length 0) 5 1 ([] : List Int).length ([]), .own (.slice none ([] : List (List TS)).length 0) 41 1 ([] : List (List TS)).length ([])] from rfl) (Gle.refl _) (.cons _ (.cons_cons _ (.cons_cons _ (.cons_cons _ (.cons_cons _ (.cons_cons _ (.cons_cons _ (.cons_cons _ (.cons_cons _ (.cons_cons _ (.cons_cons _ .slnil))))))))))) ?_
    obtain ⟨hb27, hF⟩ := hF
    refine OkM.t rfl rfl (OpOk.append' (e := .int .u8) 1 140737488355328 5 0 rfl rfl rfl rfl p0 s4 Tryz.underlying23 kr kr kr hb27 rfl fun a27 c27 A2 hL27 => ?_)
    refine OkM.l (i := 6) (show _ = [.blk bxr (.cells #[.slice N0 ((gapS (((pekS (pekS (gapS ybxr_0l6).2).2).2).drop (Int.toNat 1))).2).length O0] 59), .blk S0 (.cells #[iv (pekS (pekS (gapS ybxr_0l6).2).2).1.1, sv ((pekS (pekS (gapS ybxr_0l6).2).2).1.2.1), sv ((pekS (pekS (gapS ybxr_0l6).2).2).1.2.2.1), iv (pekS (pekS (gapS ybxr_0l6).2).2).1.2.2.2] 78), .blk J0 (.cells #[iv (pekS (pekS (gapS ybxr_0l6).2).2).1.1, sv ((pekS (pekS (gapS ybxr_0l6).2).2).1.2.1), sv ((pekS (pekS (gapS ybxr_0l6).2).2).1.2.2.1), iv (pekS (pekS (gapS ybxr_0l6).2).2).1.2.2.2] 78), .blk bs5 (.cells (aK (pekS (gapS ybxr_0l6).2).1) 78), .own (.slice q0 v0.length y0) 41 1 v0.length m0, .blk bs2 (.cells #[.slice none ([] : List (List TS)).length 0, .slice none ([] : List Int).length 0] 25), .own (.slice none ([] : List Int).length 0) 5 1 ([] : List Int).length ([]), .own (.slice none ([] : List (List TS)).length 0) 41 1 ([] : List (List TS)).length ([])] from rfl) (Gle.refl _) (.cons _ (.cons_cons _ (.cons_cons _ (.cons_cons _ (.cons_cons _ (.cons _ (.cons _ (.cons_cons _ (.cons_cons _ (.cons_cons _ (.cons_cons _ .slnil))))))))))) (OkM.b 1 [0, 2, 3] [(39, .slice a27 (z0 ++ ([(e25.toNat : Int)] : List Int)).length c27), (40, pv bs3 1)] ?_)
    refine OkM.t rfl rfl (OpOk.sto (k := 1) (v := .slice a27 (z0 ++ ([(e25.toNat : Int)] : List Int)).length c27) 6 #[.slice q0 v0.length y0, .slice a27 (z0 ++ ([(e25.toNat : Int)] : List Int)).length c27] rfl rfl rfl ?_)
    refine OkM.l (i := 8) (show _ = [.blk bxr (.cells #[.slice N0 ((gapS (((pekS (pekS (gapS ybxr_0l6).2).2).2).drop (Int.toNat 1))).2).length O0] 59), .blk S0 (.cells #[iv (pekS (pekS (gapS ybxr_0l6).2).2).1.1, sv ((pekS (pekS (gapS ybxr_0l6).2).2).1.2.1), sv ((pekS (pekS (gapS ybxr_0l6).2).2).1.2.2.1), iv (pekS (pekS (gapS ybxr_0l6).2).2).1.2.2.2] 78), .blk J0 (.cells #[iv (pekS (pekS (gapS ybxr_0l6).2).2).1.1, sv ((pekS (pekS (gapS ybxr_0l6).2).2).1.2.1), sv ((pekS (pekS (gapS ybxr_0l6).2).2).1.2.2.1), iv (pekS (pekS (gapS ybxr_0l6).2).2).1.2.2.2] 78), .blk bs5 (.cells (aK (pekS (gapS ybxr_0l6).2).1) 78), .own (.slice q0 v0.length y0) 41 1 v0.length m0, .blk bs2 (.cells #[.slice none ([] : List (List TS)).length 0, .slice none ([] : List Int).length 0] 25), .own (.slice none ([] : List Int).length 0) 5 1 ([] : List Int).length ([]), .own (.slice none ([] : List (List TS)).length 0) 41 1 ([] : List (List TS)).length ([])] from rfl) (Gle.refl _) (.cons _ (.cons_cons _ (.cons_cons _ (.cons_cons _ (.cons_cons _ (.cons _ (.cons _ (.cons_cons _ (.cons_cons _ (.cons_cons _ (.cons_cons _ .slnil))))))))))) (OkM.nil (Ok.kn (Ok.t ?_)))
    subst hg25
    refine Ok.heapEq (H' := [.own (.slice (some ⟨b26, 0, none⟩) ([((((pekS (gapS ybxr_0l6).2).1.2.1).getD (Int.toNat 0) 0).toNat : Int)] : List Int).length 1) 5 1 ([((((pekS (gapS ybxr_0l6).2).1.2.1).getD (Int.toNat 0) 0).toNat : Int)] : List Int).length ([.int .u8 ((((pekS (gapS ybxr_0l6).2).1.2.1).getD (Int.toNat 0) 0).toNat : Int)] : List Value), .blk bxr (.cells #[.slice N0 (pthV6 ybxr_0l6).length O0] 59), .blk S0 (.cells #[iv (pekS (pekS (gapS ybxr_0l6).2).2).1.1, sv ((pekS (pekS (gapS ybxr_0l6).2).2).1.2.1), sv ((pekS (pekS (gapS ybxr_0l6).2).2).1.2.2.1), iv (pekS (pekS (gapS ybxr_0l6).2).2).1.2.2.2] 78), .blk J0 (.cells #[iv (pekS (pekS (gapS ybxr_0l6).2).2).1.1, sv ((pekS (pekS (gapS ybxr_0l6).2).2).1.2.1), sv ((pekS (pekS (gapS ybxr_0l6).2).2).1.2.2.1), iv (pekS (pekS (gapS ybxr_0l6).2).2).1.2.2.2] 78), .blk bs5 (.cells (aK (pekS (gapS ybxr_0l6).2).1) 78), .own (.slice a27 (pthV7 z0 ybxr_0l6).length c27) 5 1 (pthV7 z0 ybxr_0l6).length A2, .blk bs3 (.cells #[.slice q0 v0.length y0, .slice a27 (pthV7 z0 ybxr_0l6).length c27] 25), .own (.slice q0 v0.length y0) 41 1 v0.length m0, .blk bs2 (.cells #[.slice none ([] : List (List TS)).length 0, .slice none ([] : List Int).length 0] 25), .own (.slice none ([] : List Int).length 0) 5 1 ([] : List Int).length ([]), .own (.slice none ([] : List (List TS)).length 0) 41 1 ([] : List (List TS)).length ([])]) (econs (rfl) (econs (congrArg (fun l : List Value => Ent.blk bxr (.cells ⟨l⟩ 59)) (lcons (congrArg (fun l : List KT => Value.slice N0 l.length O0) ((if_t H0).symm)) rfl)) (econs (rfl) (econs (rfl) (econs (rfl) (econs (congrArg (fun l : List Int => Ent.own (.slice a27 l.length c27) 5 1 l.length A2) ((if_t H0).symm)) (econs (congrArg (fun l : List Value => Ent.blk bs3 (.cells ⟨l⟩ 25)) (lcons (rfl) (lcons (congrArg (fun l : List Int => Value.slice a27 l.length c27) ((if_t H0).symm)) rfl))) (econs (rfl) (econs (rfl) (econs (rfl) (econs (rfl) rfl))))))))))) ?_
    exact fun a W hA hW => ⟨g24, ((v1.trans W1).trans B1), N0, O0, a27, c27, A2, (Eq.mp (congrArg (fun l : List KT => Rep g24 (.slice yK) [.slice N0 l.length O0] l) ((if_t H0).symm)) j2), (Eq.mp (congrArg (fun l : List Int => RepL g24 yb A2 l) ((if_t H0).symm)) hL27), hA.sub kr, hW.sub (.cons _ (.cons_cons _ (.cons _ (.cons _ (.cons _ (.cons_cons _ (.cons_cons _ (.cons_cons _ (.cons_cons _ (.cons_cons _ (.cons_cons _ .slnil))))))))))), hF⟩
   replace hF := hF.2 H0
   refine Ok.cut (fun a W => ∃ d2 : Ghost, Gext w0 f1 d2 ∧ StA 70 [(0, pv bxr 0), (2, pv bs2 0), (3, pv bs3 0), (41, .bool (pthV5 ybxr_0l6))] a ∧ StW w0 [.blk bxr (.cells #[.slice R0 ((pekS (gapS ybxr_0l6).2).2).length T0] 59), .own (.slice x0 z0.length s0) 5 1 z0.length K0, .blk bs3 (.cells #[.slice q0 v0.length y0, .slice x0 z0.length s0] 25), .own (.slice q0 v0.length y0) 41 1 v0.length m0, .blk bs2 (.cells #[.slice none ([] : List (List TS)).length 0, .slice none ([] : List Int).length 0] 25), .own (.slice none ([] : List Int).length 0) 5 1 ([] : List Int).length ([]), .own (.slice none ([] : List (List TS)).length 0) 41 1 ([] : List (List TS)).length ([])] d2 W ∧ pthj22 N K z0 v0 ybxr_0l6 (pthl6 N K k6)) ?_ ?_
   ·
    refine Ok.r (Ok.b 2 [0, 2, 3, 5] [(43, .bool (gapS ybxr_0l6).1)] ?_)
    refine Ok.a 43 (gapS ybxr_0l6).1 rfl (fun i1 => ?_) (fun i1 => ?_)
    ·replace hF := hF.1 i1
     refine Ok.b 1 [0, 2, 3, 5] [(43, .bool true), (44, pv bs5 0)] ?_
     refine Ok.y (j := 1) (d := 43) (want := true) (b := true) rfl kr kr rfl (OpOk.s (v := iv (pekS (gapS ybxr_0l6).2).1.1) (Yields.l 0 rfl rfl Tryz.underlying3 rfl kr) rfl rfl (Ok.b 3 [0, 2, 3, 5] [(48, .bool ((pekS (gapS ybxr_0l6).2).1.1 != 0))] ?_))
     refine Ok.a 48 (((pekS (gapS ybxr_0l6).2).1.1 != 0)) rfl (fun Y2 => ?_) (fun Y2 => ?_)
     ·replace hF := hF.1 Y2
      refine Ok.b 1 [0, 2, 3, 5] [(48, .bool true), (49, pv bs5 1)] ?_
      refine Ok.y (j := 6) (d := 48) (want := true) (b := true) rfl kr kr rfl (OpOk.s (v := sv ((pekS (gapS ybxr_0l6).2).1.2.1)) (Yields.l 0 rfl rfl Tryz.underlying9 rfl kr) rfl rfl (Ok.y (j := 6) (d := 48) (want := true) (b := true) rfl kr kr rfl (OpOk.s (v := .bool (!((pekS (gapS ybxr_0l6).2).1.2.1 == ([44] : Bs)))) (Yields.sc (f := .neq) (a := (pekS (gapS ybxr_0l6).2).1.2.1) (b := ([44] : Bs)) kr kr rfl) rfl rfl (Ok.b 2 [0, 2, 3, 5] [(53, .bool (!((pekS (gapS ybxr_0l6).2).1.2.1 == ([44] : Bs))))] ?_))))
      refine Ok.a 53 (!((pekS (gapS ybxr_0l6).2).1.2.1 == ([44] : Bs))) rfl (fun N2 => ?_) (fun N2 => ?_)
      ·replace hF := hF.1 N2
       refine Ok.b 1 [0, 2, 3] [(53, .bool true), (54, pv bs5 1)] ?_
       refine Ok.y (j := 11) (d := 53) (want := true) (b := true) rfl kr kr rfl (OpOk.s (v := sv ((pekS (gapS ybxr_0l6).2).1.2.1)) (Yields.l 0 rfl rfl Tryz.underlying9 rfl kr) rfl rfl (Ok.y (j := 11) (d := 53) (want := true) (b := true) rfl kr kr rfl (OpOk.s (v := .bool (!((pekS (gapS ybxr_0l6).2).1.2.1 == ([41] : Bs)))) (Yields.sc (f := .neq) (a := (pekS (gapS ybxr_0l6).2).1.2.1) (b := ([41] : Bs)) kr kr rfl) rfl rfl (Ok.b 2 [0, 2, 3] [(41, .bool (!((pekS (gapS ybxr_0l6).2).1.2.1 == ([41] : Bs))))] ?_))))
       refine Ok.nt ((Ok.v 41 rfl (show (.bool (!((pekS (gapS ybxr_0l6).2).1.2.1 == ([41] : Bs))) : Value) = .bool (pthV5 ybxr_0l6) from congrArg (Value.bool) ((Eq.trans ((Eq.trans (mand_t N2) (mand_t Y2))) (mand_t i1)))) ?_))
       exact fun a W hA hW => ⟨f1, (Gext.r w0 f1), hA.sub kr, hW.sub (.cons _ (.cons_cons _ (.cons_cons _ (.cons_cons _ (.cons_cons _ (.cons_cons _ (.cons_cons _ (.cons_cons _ .slnil)))))))), hF⟩
      replace hF := hF.2 N2
      refine Ok.b 5 [0, 2, 3] [(41, .bool false)] ?_
      refine Ok.nt ((Ok.v 41 rfl (show (.bool false : Value) = .bool (pthV5 ybxr_0l6) from congrArg (Value.bool) ((Eq.trans ((Eq.trans (mand_f N2) (mand_t Y2))) (mand_t i1)))) ?_))
      exact fun a W hA hW => ⟨f1, (Gext.r w0 f1), hA.sub kr, hW.sub (.cons _ (.cons_cons _ (.cons_cons _ (.cons_cons _ (.cons_cons _ (.cons_cons _ (.cons_cons _ (.cons_cons _ .slnil)))))))), hF⟩
     replace hF := hF.2 Y2
     refine Ok.b 10 [0, 2, 3] [(41, .bool false)] ?_
     refine Ok.nt ((Ok.v 41 rfl (show (.bool false : Value) = .bool (pthV5 ybxr_0l6) from congrArg (Value.bool) ((Eq.trans (mand_f Y2) (mand_t i1)))) ?_))
     exact fun a W hA hW => ⟨f1, (Gext.r w0 f1), hA.sub kr, hW.sub (.cons _ (.cons_cons _ (.cons_cons _ (.cons_cons _ (.cons_cons _ (.cons_cons _ (.cons_cons _ (.cons_cons _ .slnil)))))))), hF⟩
    replace hF := hF.2 i1
    refine Ok.b 15 [0, 2, 3] [(41, .bool false)] ?_
    refine Ok.nt ((Ok.v 41 rfl (show (.bool false : Value) = .bool (pthV5 ybxr_0l6) from congrArg (Value.bool) (mand_f i1)) ?_))
    exact fun a W hA hW => ⟨f1, (Gext.r w0 f1), hA.sub kr, hW.sub (.cons _ (.cons_cons _ (.cons_cons _ (.cons_cons _ (.cons_cons _ (.cons_cons _ (.cons_cons _ (.cons_cons _ .slnil)))))))), hF⟩
   clear hF
   rintro a W ⟨d2, c1, hA, hW, hF⟩
   refine (?_ : Ok _ _ _ _ _ _) a W hA hW
   clear hA hW
   replace C0 := C0.mono c1.1
   replace p0 := p0.mono c1.1
   replace t0 := t0.mono c1.1
   replace hL1 := hL1.mono c1.1
   replace hL2 := hL2.mono c1.1
   replace hG0 := hG0.mono c1.1
   refine Ok.cn hF rfl (fun J1 => ?_) (fun J1 => ?_)
   ·replace hF := hF.1 J1
    refine Ok.r (Ok.b 1 [0, 2, 3] [(58, pv bs3 1)] ?_)
    refine Ok.op rfl (OpOk.s (v := .slice x0 z0.length s0) (Yields.l 2 rfl rfl Tryz.underlying23 rfl kr) rfl rfl ?_)
    have b4 : RepL d2 yb ([.int .u8 32] : List Value) ([32] : List Int) := (RepL.consN (c := [.int .u8 32]) rfl rfl)
    refine Ok.op rfl (OpOk.lit (E := 5) yb ([32] : List Int) ([.int .u8 32] : List Value) kr kr rfl kr b4 rfl fun b29 => ?_)
    obtain ⟨hb30, hF⟩ := hF
    refine Ok.op rfl (OpOk.append' (e := .int .u8) 1 140737488355328 2 0 rfl rfl rfl rfl p0 b4 Tryz.underlying23 kr kr kr hb30 rfl fun a30 c30 I2 hL30 => ?_)
    refine Ok.b 1 [0, 2, 3] [(61, .slice a30 (z0 ++ ([32] : List Int)).length c30), (62, pv bs3 1)] ?_
    refine Ok.op rfl (OpOk.sto (k := 1) (v := .slice a30 (z0 ++ ([32] : List Int)).length c30) 3 #[.slice q0 v0.length y0, .slice a30 (z0 ++ ([32] : List Int)).length c30] rfl rfl rfl ?_)
    refine Ok.j (Ok.kn (Ok.t (Ok.heapEq (H' := [.own (.slice (some ⟨b29, 0, none⟩) ([32] : List Int).length 1) 5 1 ([32] : List Int).length ([.int .u8 32] : List Value), .blk bxr (.cells #[.slice R0 (pthV6 ybxr_0l6).length T0] 59), .own (.slice a30 (pthV7 z0 ybxr_0l6).length c30) 5 1 (pthV7 z0 ybxr_0l6).length I2, .blk bs3 (.cells #[.slice q0 v0.length y0, .slice a30 (pthV7 z0 ybxr_0l6).length c30] 25), .own (.slice q0 v0.length y0) 41 1 v0.length m0, .blk bs2 (.cells #[.slice none ([] : List (List TS)).length 0, .slice none ([] : List Int).length 0] 25), .own (.slice none ([] : List Int).length 0) 5 1 ([] : List Int).length ([]), .own (.slice none ([] : List (List TS)).length 0) 41 1 ([] : List (List TS)).length ([])]) (econs (rfl) (econs (congrArg (fun l : List Value => Ent.blk bxr (.cells ⟨l⟩ 59)) (lcons (congrArg (fun l : List KT => Value.slice R0 l.length T0) ((if_f H0).symm)) rfl)) (econs (congrArg (fun l : List Int => Ent.own (.slice a30 l.length c30) 5 1 l.length I2) ((if_f H0).symm)) (econs (congrArg (fun l : List Value => Ent.blk bs3 (.cells ⟨l⟩ 25)) (lcons (rfl) (lcons (congrArg (fun l : List Int => Value.slice a30 l.length c30) ((if_f H0).symm)) rfl))) (econs (rfl) (econs (rfl) (econs (rfl) (econs (rfl) rfl)))))))) ?_)))
    exact fun a W hA hW => ⟨d2, (v1.trans c1), R0, T0, a30, c30, I2, (Eq.mp (congrArg (fun l : List KT => Rep d2 (.slice yK) [.slice R0 l.length T0] l) ((if_f H0).symm)) C0), (Eq.mp (congrArg (fun l : List Int => RepL d2 yb I2 l) ((if_f H0).symm)) hL30), hA.sub kr, hW.sub (.cons _ (.cons_cons _ (.cons_cons _ (.cons_cons _ (.cons_cons _ (.cons_cons _ (.cons_cons _ (.cons_cons _ .slnil)))))))), hF⟩
   replace hF := hF.2 J1
   refine Ok.sr ((Ok.op rfl (OpOk.s (v := .agg #[.slice q0 v0.length y0, .slice x0 z0.length s0]) (Yields.loadAgg 2 2 #[.slice q0 v0.length y0, .slice x0 z0.length s0] rfl rfl Tryz.underlying25 rfl kr kr kr) rfl rfl (Ok.op rfl (OpOk.sto (k := 2) (v := .agg #[.slice q0 v0.length y0, .slice x0 z0.length s0]) 4 #[.slice q0 v0.length y0, .slice x0 z0.length s0] rfl rfl rfl ?_)))))
   refine Ok.nt ((Ok.ret (Ok.kr (Ok.tr (Ok.kr (Ok.tr (Ok.kr (Ok.frz 3 rfl t0 fun g31 U2 O2 => ?_))))))))
   replace p0 := p0.mono U2.1
   replace C0 := C0.mono U2.1
   replace hL2 := hL2.mono U2.1
   replace hL1 := hL1.mono U2.1
   replace hG0 := hG0.mono U2.1
   refine Ok.frz 1 rfl p0 fun g32 J2 hRf32 => ?_
   replace O2 := O2.mono J2.1
   replace C0 := C0.mono J2.1
   replace hL2 := hL2.mono J2.1
   replace hL1 := hL1.mono J2.1
   replace hG0 := hG0.mono J2.1
   exact Ok.p (vs := [.agg #[.slice q0 v0.length y0, .slice x0 z0.length s0]]) [0] [.blk bxr (.cells #[.slice R0 ((pekS (gapS ybxr_0l6).2).2).length T0] 59)] dc rfl (.inl rfl) rfl (.cons (.cellAgg 2 2 #[.slice q0 v0.length y0, .slice x0 z0.length s0] rfl rfl Tryz.underlying25 rfl kr kr kr) .nil) (((((((hx5.trans G1).trans Z1).trans A0).trans v1).trans c1).trans U2).trans J2) ⟨(v0, z0), (pekS (gapS ybxr_0l6).2).2, q0, y0, x0, s0, R0, T0, rfl, O2, hRf32, C0, rfl, hF⟩
  clear hF
  rintro a W ⟨M2, T1, aybxr_0j12, cybxr_0j12, a0, i0, Q0, hRybxr_0j12, M0, hA, hW, hF⟩
  refine (?_ : Ok _ _ _ _ _ _) a W hA hW
  clear hA hW
  replace t0 := t0.mono T1.1
  replace hL1 := hL1.mono T1.1
  replace hL2 := hL2.mono T1.1
  replace hG0 := hG0.mono T1.1
  refine Ok.mixs [0, 1, 2] [3, 4] [.own (.slice a0 (pthV7 z0 ybxr_0l6).length i0) 5 1 (pthV7 z0 ybxr_0l6).length Q0, .blk bs3 (.cells #[.slice q0 v0.length y0, .slice a0 (pthV7 z0 ybxr_0l6).length i0] 25), .own (.slice q0 v0.length y0) 41 1 v0.length m0, .blk bs2 (.cells #[.slice none ([] : List (List TS)).length 0, .slice none ([] : List Int).length 0] 25), .own (.slice none ([] : List Int).length 0) 5 1 ([] : List Int).length ([]), .own (.slice none ([] : List (List TS)).length 0) 41 1 ([] : List (List TS)).length ([])] [.own (.slice a0 (pthV7 z0 ybxr_0l6).length i0) 5 1 (pthV7 z0 ybxr_0l6).length Q0, .blk bs2 (.cells #[.slice none ([] : List (List TS)).length 0, .slice none ([] : List Int).length 0] 25), .own (.slice none ([] : List Int).length 0) 5 1 ([] : List Int).length ([]), .own (.slice none ([] : List (List TS)).length 0) 41 1 ([] : List (List TS)).length ([])] [(0, true), (1, true), (2, true), (3, false), (4, false), (5, false), (6, true), (7, false)] kr kr (.cons_cons _ (.cons _ (.cons _ (.cons_cons _ (.cons_cons _ (.cons_cons _ .slnil)))))) (.cons _ (.cons_cons _ (.cons_cons _ (.cons_cons _ (.cons_cons _ (.cons_cons _ (.cons_cons _ .slnil))))))) (OkM.B 1 [(0, pv bxr 0), (2, pv bs2 0), (3, pv bs3 0), (63, pv bs3 0)] kr (OkM.h rfl rfl (show _ = [.own (.slice a0 (pthV7 z0 ybxr_0l6).length i0) 5 1 (pthV7 z0 ybxr_0l6).length Q0, .blk bs3 (.cells #[.slice q0 v0.length y0, .slice a0 (pthV7 z0 ybxr_0l6).length i0] 25), .own (.slice q0 v0.length y0) 41 1 v0.length m0, .blk bs2 (.cells #[.slice none ([] : List (List TS)).length 0, .slice none ([] : List Int).length 0] 25), .own (.slice none ([] : List Int).length 0) 5 1 ([] : List Int).length ([]), .own (.slice none ([] : List (List TS)).length 0) 41 1 ([] : List (List TS)).length ([])] from rfl) (OpQ.s (v := .slice q0 v0.length y0) (Yields.l 1 rfl rfl Tryz.underlying22 rfl kr) rfl rfl (OkM.b 1 [0, 2, 3] [(64, .slice q0 v0.length y0), (65, pv bxr 0)] ?_))))
  obtain ⟨N3, hF⟩ := hF
  refine OkM.t rfl rfl (OpOk.callH [_] _ enr rfl (ih_stp _ (pthV6 ybxr_0l6) hRybxr_0j12 hG0 N3) rfl fun g15 _ _ I0 O3 => ?_)
  obtain ⟨d1, e1, a15_2, c15_2, rfl, f2, hR15_2, rfl⟩ := O3
  replace t0 := t0.mono I0.1
  replace M0 := M0.mono I0.1
  replace hL1 := hL1.mono I0.1
  replace hL2 := hL2.mono I0.1
  replace hG0 := hG0.mono I0.1
  refine OkM.l (i := 3) (show _ = [.own (.slice a0 (pthV7 z0 ybxr_0l6).length i0) 5 1 (pthV7 z0 ybxr_0l6).length Q0, .blk bs3 (.cells #[.slice q0 v0.length y0, .slice a0 (pthV7 z0 ybxr_0l6).length i0] 25), .own (.slice q0 v0.length y0) 41 1 v0.length m0, .blk bs2 (.cells #[.slice none ([] : List (List TS)).length 0, .slice none ([] : List Int).length 0] 25), .own (.slice none ([] : List Int).length 0) 5 1 ([] : List Int).length ([]), .own (.slice none ([] : List (List TS)).length 0) 41 1 ([] : List (List TS)).length ([])] from rfl) I0.1 (.cons _ (.cons_cons _ (.cons_cons _ (.cons_cons _ (.cons_cons _ (.cons_cons _ (.cons_cons _ .slnil))))))) ?_
  have c4 : RepL g15 (.slice yS) ([.slice d1 ((stpR (pthV6 ybxr_0l6)).1).length e1] : List Value) ([(stpR (pthV6 ybxr_0l6)).1] : List (List TS)) := (RepL.consN (c := [.slice d1 ((stpR (pthV6 ybxr_0l6)).1).length e1]) f2 rfl)
  refine OkM.t rfl rfl (OpOk.lit (E := 41) (.slice yS) ([(stpR (pthV6 ybxr_0l6)).1] : List (List TS)) ([.slice d1 ((stpR (pthV6 ybxr_0l6)).1).length e1] : List Value) kr kr rfl kr c4 rfl fun b16 => ?_)
  refine OkM.l (i := 4) (show _ = [.own (.slice a0 (pthV7 z0 ybxr_0l6).length i0) 5 1 (pthV7 z0 ybxr_0l6).length Q0, .blk bs3 (.cells #[.slice q0 v0.length y0, .slice a0 (pthV7 z0 ybxr_0l6).length i0] 25), .own (.slice q0 v0.length y0) 41 1 v0.length m0, .blk bs2 (.cells #[.slice none ([] : List (List TS)).length 0, .slice none ([] : List Int).length 0] 25), .own (.slice none ([] : List Int).length 0) 5 1 ([] : List Int).length ([]), .own (.slice none ([] : List (List TS)).length 0) 41 1 ([] : List (List TS)).length ([])] from rfl) I0.1 (.cons _ (.cons _ (.cons_cons _ (.cons_cons _ (.cons_cons _ (.cons_cons _ (.cons_cons _ (.cons_cons _ .slnil)))))))) ?_
  obtain ⟨hb17, hF⟩ := hF
  refine OkM.t rfl rfl (OpOk.append' (e := .slice yS) 24 5864062014805 4 0 rfl rfl rfl rfl t0 c4 Tryz.underlying22 kr kr kr hb17 rfl fun a17 c17 xs17 hL17 => ?_)
  refine OkM.l (i := 5) (show _ = [.own (.slice a0 (pthV7 z0 ybxr_0l6).length i0) 5 1 (pthV7 z0 ybxr_0l6).length Q0, .blk bs2 (.cells #[.slice none ([] : List (List TS)).length 0, .slice none ([] : List Int).length 0] 25), .own (.slice none ([] : List Int).length 0) 5 1 ([] : List Int).length ([]), .own (.slice none ([] : List (List TS)).length 0) 41 1 ([] : List (List TS)).length ([])] from rfl) I0.1 (.cons _ (.cons _ (.cons_cons _ (.cons _ (.cons _ (.cons_cons _ (.cons_cons _ (.cons_cons _ .slnil)))))))) (OkM.b 1 [0, 2, 3] [(68, .slice a17 (v0 ++ ([(stpR (pthV6 ybxr_0l6)).1] : List (List TS))).length c17), (69, pv bs3 0)] ?_)
  refine OkM.t rfl rfl (OpOk.sto (k := 1) (v := .slice a17 (v0 ++ ([(stpR (pthV6 ybxr_0l6)).1] : List (List TS))).length c17) 3 #[.slice a17 (v0 ++ ([(stpR (pthV6 ybxr_0l6)).1] : List (List TS))).length c17, .slice a0 (pthV7 z0 ybxr_0l6).length i0] rfl rfl rfl ?_)
  refine OkM.l (i := 7) (show _ = [.own (.slice a0 (pthV7 z0 ybxr_0l6).length i0) 5 1 (pthV7 z0 ybxr_0l6).length Q0, .blk bs2 (.cells #[.slice none ([] : List (List TS)).length 0, .slice none ([] : List Int).length 0] 25), .own (.slice none ([] : List Int).length 0) 5 1 ([] : List Int).length ([]), .own (.slice none ([] : List (List TS)).length 0) 41 1 ([] : List (List TS)).length ([])] from rfl) I0.1 (.cons _ (.cons _ (.cons_cons _ (.cons _ (.cons _ (.cons_cons _ (.cons_cons _ (.cons_cons _ .slnil)))))))) (OkM.nil (Ok.kn (Ok.t ?_)))
  exact fun a W hA hW => ⟨k6, Nat.lt_succ_self _, g15, ((((G1.trans Z1).trans A0).trans T1).trans I0), a0, i0, (pthV7 z0 ybxr_0l6), Q0, a17, c17, (v0 ++ ([(stpR (pthV6 ybxr_0l6)).1] : List (List TS))), xs17, a15_2, c15_2, (stpR (pthV6 ybxr_0l6)).2, M0, hL17, hR15_2, hA.sub kr, hW.pick [2, 3, 4, 1, 5, 6, 7] _ dc rfl, hF⟩
theorem pth_0 (r : Rd) : ¬ pthP 0 r := fun ⟨_, _, _, _, _, _, _, _, _, _, _, h, _⟩ => absurd h (Nat.not_lt_zero _)
theorem pth_loop (N : Nat) (K : Ph → Rd → Prop) : ∀ (p : List (List Ts)) (js : List Int) (ts : List Tok) (rest : Rd) (S : List (List Ts)) (J : List Int), ok2 p = true → (∀ z ∈ js, jnB z = true) → p.length = js.length → Tr2 p js ts → endR rest = true → 8 * ts.length + 4 < N → BigR (ts ++ rest) → S.length + ts.length ≤ 1001 → J.length + ts.length ≤ 1001 → K (S ++ p, J ++ js) rest → pthl6 N K (p.length + 1) J S (ts ++ rest)
 | [], [], ts, rest, S, J, ho, hj, hl, h, hr, hN, hB, hS, hJ, hK => by
  rw [Tr2] at h; subst h
  rw [List.append_nil, List.append_nil] at hK
  rw [List.nil_append, pthl6]
  have hg := gap_end hr
  rcases end_cases hr with rfl | ⟨q, rfl | rfl⟩
  all_goals simp [pthl6b, pthj14, pthj22, pthV4, pthV5, hg, pekS, hK]
 | s :: p, z :: js, ts, rest, S, J, ho, hj, hl, h, hr, hN, hB, hS, hJ, hK => by
  rw [ok2, Bool.and_eq_true, Bool.and_eq_true] at ho
  obtain ⟨ho1, ho2, ho3⟩ := ho
  have hne : s ≠ [] := fun e => by rw [e] at ho2; cases ho2
  rw [Tr2] at h
  obtain ⟨a, b, ha, hb, rfl⟩ := h
  have hb : Tr2 p js b := hb
  obtain ⟨x, q, hxa, hx⟩ := tk1_head hne ho1 ha
  have hjl : 1 ≤ (jnT z).length := by unfold jnT; split <;> simp
  have hN : 8 * (jnT z ++ (a ++ b)).length + 4 < N := hN
  have hB : BigR ((jnT z ++ (a ++ b)) ++ rest) := hB
  have hS : S.length + (jnT z ++ (a ++ b)).length ≤ 1001 := hS
  have hJ : J.length + (jnT z ++ (a ++ b)).length ≤ 1001 := hJ
  simp only [List.length_append] at hN hS hJ
  have hB1 : BigR (a ++ (b ++ rest)) := by
   rw [List.append_assoc, List.append_assoc] at hB
   exact hB.app
  have hs := stp_eq ho1 ha (tr2_nt hb hr)
  have hP : stpP N (a ++ (b ++ rest)) := ⟨s, _, a, b ++ rest, hne, ho1, ha, tr2_nt hb hr, rfl, by omega, hB1⟩
  have ih := pth_loop N K p js b rest (S ++ [s]) (J ++ [z]) ho3 (fun y hy => hj y (List.mem_cons_of_mem _ hy)) (by simpa using hl) hb hr om hB1.app (by rw [List.length_append, List.length_singleton]; omega) (by rw [List.length_append, List.length_singleton]; omega) (by rw [List.append_assoc, List.append_assoc]; exact hK)
  have e : (jnT z ++ (a ++ b)) ++ rest = jnT z ++ (x :: (q ++ (b ++ rest))) := by rw [hxa]; simp
  have e2 : a ++ (b ++ rest) = x :: (q ++ (b ++ rest)) := by rw [hxa]; simp
  rw [e2] at hs hP
  have hLs : (S ++ [s]).length ≤ 5864062014805 := by rw [List.length_append, List.length_singleton]; omega
  have hLj : (J ++ [z]).length ≤ 140737488355328 := by rw [List.length_append, List.length_singleton]; omega
  show pthl6 N K (p.length + 1 + 1) J S ((jnT z ++ (a ++ b)) ++ rest)
  rw [e, pthl6]
  obtain ⟨h1, h2, h3, h4, h5, h6, h7⟩ := hx
  have hx : hdT x := ⟨h1, h2, h3, h4, h5, h6, h7⟩
  have hgb := gap_bl (q := q ++ (b ++ rest)) hx
  clear e e2 hb ha hxa hB hB1
  generalize b ++ rest = w1 at *
  generalize q ++ w1 = w at *
  rcases jn_vals (hj z (List.mem_cons_self ..)) with rfl | rfl | rfl | rfl
  ·show pthl6b N K J S (bl :: x :: w) (pthl6 N K (p.length + 1))
   have hlj : J.length + 1 ≤ 140737488355328 := by omega
   have hls : S.length + 1 ≤ 5864062014805 := by omega
   simp [pthl6b, pthj14, pthj22, pthj12, pthV4, pthV5, pthV6, pthV7, hgb, pekS, h2, h3, h4, h5, h6, h7, hP, hs, ih, hlj, hls]
  ·show pthl6b N K J S (bl :: sg 62 :: bl :: x :: w) (pthl6 N K (p.length + 1))
   have hg : gapS (bl :: sg 62 :: bl :: x :: w) = (true, sg 62 :: bl :: x :: w) := by simp [gapS, silT]; omega
   have hlj : J.length + 1 ≤ 140737488355328 := by omega
   have hls : S.length + 1 ≤ 5864062014805 := by omega
   simp [pthl6b, pthj14, pthj22, pthj12, pthV4, pthV5, pthV6, pthV7, hg, hgb, pekS, hP, hs, ih, hlj, hls]
   try omega
  ·show pthl6b N K J S (bl :: sg 43 :: bl :: x :: w) (pthl6 N K (p.length + 1))
   have hg : gapS (bl :: sg 43 :: bl :: x :: w) = (true, sg 43 :: bl :: x :: w) := by simp [gapS, silT]; omega
   have hlj : J.length + 1 ≤ 140737488355328 := by omega
   have hls : S.length + 1 ≤ 5864062014805 := by omega
   simp [pthl6b, pthj14, pthj22, pthj12, pthV4, pthV5, pthV6, pthV7, hg, hgb, pekS, hP, hs, ih, hlj, hls]
   try omega
  show pthl6b N K J S (bl :: sg 126 :: bl :: x :: w) (pthl6 N K (p.length + 1))
  have hg : gapS (bl :: sg 126 :: bl :: x :: w) = (true, sg 126 :: bl :: x :: w) := by simp [gapS, silT]; omega
  have hlj : J.length + 1 ≤ 140737488355328 := by omega
  have hls : S.length + 1 ≤ 5864062014805 := by omega
  simp [pthl6b, pthj14, pthj22, pthj12, pthV4, pthV5, pthV6, pthV7, hg, hgb, pekS, hP, hs, ih, hlj, hls]
  try omega
theorem pth_F (N : Nat) (r : Rd) (h : pthP (N + 1) r) : pthF N r (fun a b => (a, b) = pthR r) := by
 obtain ⟨p, js, ts, rest, hne, ho, hj, hl, hts, hr, rfl, hN, hB⟩ := h
 rw [pth_eq ho hne hj hl hts hr]
 match p, hne with
 | s :: p, _ =>
  rw [ok2, Bool.and_eq_true, Bool.and_eq_true] at ho
  obtain ⟨ho1, ho2, ho3⟩ := ho
  have hne : s ≠ [] := fun e => by rw [e] at ho2; cases ho2
  rw [Tk2] at hts
  obtain ⟨a, b, ha, hb, rfl⟩ := hts
  rw [List.length_append] at hN
  rw [List.append_assoc] at hB ⊢
  have hs := stp_eq ho1 ha (tr2_nt hb hr)
  have hlb : b.length ≤ 1000 := by have := hB.app.1; rw [List.length_append] at this; omega
  refine ⟨⟨s, _, a, b ++ rest, hne, ho1, ha, tr2_nt hb hr, rfl, by omega, hB⟩, p.length + 1, ?_⟩
  rw [hs]
  exact pth_loop N _ p js b rest [s] [] ho3 hj (by simpa using hl.symm) hb hr om hB.app (by rw [List.length_singleton]; omega) (by rw [List.length_nil]; omega) rfl
def lstV1 (xend : Bs) (ybxr_0l6 : List KT) : List KT :=
 (if (xend == ([] : Bs)) = true then (rwS (gapS (pthR (gapS ybxr_0l6).2).2).2 ([44] : Bs)).2 else (rwS (rwS (gapS (pthR ((gapS ybxr_0l6).2)).2).2 ([44] : Bs)).2 xend).2)
def lstj20 (xend : Bs) (K : (List PH) → (List KT) → Prop) (g0 : List PH) (ybxr_0l6 : List KT) : Prop :=
 K (g0 ++ ([(pthR (gapS ybxr_0l6).2).1] : List PH)) (lstV1 xend ybxr_0l6)
def lstl6b (N : Nat) (xend : Bs) (K : (List PH) → (List KT) → Prop) (g0 : List PH) (ybxr_0l6 : List KT) (C6 : (List PH) → (List KT) → Prop) : Prop :=
 pthP N (gapS ybxr_0l6).2 ∧ (g0 ++ ([(pthR (gapS ybxr_0l6).2).1] : List PH)).length ≤ 2932031007402 ∧ rawP (gapS (pthR (gapS ybxr_0l6).2).2).2 ([44] : Bs) ∧ ((rwS (gapS (pthR ((gapS ybxr_0l6).2)).2).2 ([44] : Bs)).1 = true → C6 (g0 ++ ([(pthR (gapS ybxr_0l6).2).1] : List PH)) (rwS (gapS (pthR ((gapS ybxr_0l6).2)).2).2 ([44] : Bs)).2) ∧ ((rwS (gapS (pthR ((gapS ybxr_0l6).2)).2).2 ([44] : Bs)).1 = false → (((xend == ([] : Bs))) = true → ((!((((rwS (gapS (pthR (gapS ybxr_0l6).2).2).2 ([44] : Bs)).2).length : Int) == 0)) = true → False) ∧ ((!((((rwS (gapS (pthR (gapS ybxr_0l6).2).2).2 ([44] : Bs)).2).length : Int) == 0)) = false → lstj20 xend K g0 ybxr_0l6)) ∧ (((xend == ([] : Bs))) = false → rawP (rwS (gapS (pthR ((gapS ybxr_0l6).2)).2).2 ([44] : Bs)).2 xend ∧ ((!((rwS (rwS (gapS (pthR ((gapS ybxr_0l6).2)).2).2 ([44] : Bs)).2 xend).1)) = true → False) ∧ ((!((rwS (rwS (gapS (pthR ((gapS ybxr_0l6).2)).2).2 ([44] : Bs)).2 xend).1)) = false → lstj20 xend K g0 ybxr_0l6)))
def lstl6 (N : Nat) (xend : Bs) (K : (List PH) → (List KT) → Prop) : Nat → (List PH) → (List KT) → Prop
 | 0, _, _ => False
 | k + 1, g0, ybxr_0l6 => lstl6b N xend K g0 ybxr_0l6 (lstl6 N xend K k)
def lstF (N : Nat) (xr : List KT) (xend : Bs) (K : (List PH) → (List KT) → Prop) : Prop :=
 ∃ k, lstl6 N xend K k ([] : List PH) xr
theorem lst_ok {g : Ghost} (N : Nat) (ih_pss : pss_C N) (ih_one : one_C N) (ih_stp : stp_C N) (ih_pth : pth_C N) (ih_lst : lst_C N) {bxr : Nat} {axr_0 : Option Addr} {cxr_0 : Nat} (xr : List KT) (xend : Bs) (hRxr_0 : Rep g (.slice yK) [.slice axr_0 xr.length cxr_0] xr) (hG0 : SomeInt g 0) (K : (List PH) → (List KT) → Prop)
  (hF : lstF N xr xend K) : CallsH Tryz.prog 28 #[pv bxr 0, sv xend] g [.blk bxr (.cells #[.slice axr_0 xr.length cxr_0] 59)] (fun g' H' v => ∃ (r0 : List PH), ∃ (fxr : List KT), ∃ (Y0 : Option Addr) (U0 : Nat), ∃ (afxr_0 : Option Addr) (cfxr_0 : Nat), v = .slice Y0 r0.length U0 ∧ Rep g' (.slice yP) [.slice Y0 r0.length U0] r0 ∧ Rep g' (.slice yK) [.slice afxr_0 fxr.length cfxr_0] fxr ∧ H' = [.blk bxr (.cells #[.slice afxr_0 fxr.length cfxr_0] 59)] ∧ K r0 fxr) := by
 refine CallsH.enter 33 [(0, pv bxr 0), (1, sv xend)] Tryz.func28 rfl kr kr kr fun w0 => ?_
 refine Ok.sr ((Ok.B 1 [(0, pv bxr 0), (1, sv xend)] kr (Ok.nt ((Ok.sr ((Ok.b 1 [0, 1] [(5, .slice none 0 0)] ?_)))))))
 have hL1 : RepL g yP [] [] := rfl
 refine Ok.ownNil 25 2 (Ok.nt ((Ok.block ?_)))
 obtain ⟨k, hF⟩ := hF
 refine Ok.L (fun k a W => ∃ gl6 : Ghost, Gext w0 g gl6 ∧ ∃ (E0 : Option Addr) (F0 : Nat) (g0 : List PH) (G0 : List Value) (aybxr_0l6 : Option Addr) (cybxr_0l6 : Nat) (ybxr_0l6 : List KT), RepL gl6 yP G0 g0 ∧ Rep gl6 (.slice yK) [.slice aybxr_0l6 ybxr_0l6.length cybxr_0l6] ybxr_0l6 ∧ StA 33 [(0, pv bxr 0), (1, sv xend), (5, .slice E0 g0.length F0)] a ∧ StW w0 [.own (.slice E0 g0.length F0) 25 2 g0.length G0, .blk bxr (.cells #[.slice aybxr_0l6 ybxr_0l6.length cybxr_0l6] 59)] gl6 W ∧ lstl6 N xend K k g0 ybxr_0l6) k ?_ ?_
 ·
  exact fun a W hA hW => ⟨g, (Gext.r w0 g), none, 0, ([] : List PH), [], axr_0, cxr_0, xr, hL1, hRxr_0, hA.sub kr, hW, hF⟩
 clear hF
 rintro k6 a W ⟨gl6, G1, E0, F0, g0, G0, aybxr_0l6, cybxr_0l6, ybxr_0l6, D0, hRybxr_0l6, hA, hW, hF⟩
 cases k6 with
 | zero => exact (hF : False).elim
 | succ k6 =>
  refine (?_ : Ok _ _ _ _ _ _) a W hA hW
  clear hA hW
  replace hG0 := hG0.mono G1.1
  refine Ok.block (Ok.sr ((Ok.b 1 [0, 1, 5] [(6, pv bxr 0)] ?_)))
  refine Ok.e [1, 0] [.blk bxr (.cells #[.slice aybxr_0l6 ybxr_0l6.length cybxr_0l6] 59), .own (.slice E0 g0.length F0) 25 2 g0.length G0] dc rfl (Ok.op rfl (OpOk.callH [_] _ enr rfl (gap_c ybxr_0l6 hRybxr_0l6) rfl fun g2 _ _ hx2 hV2 => ?_))
  obtain ⟨X1, S1, rfl, z1, rfl⟩ := hV2
  replace D0 := D0.mono hx2.1
  replace hG0 := hG0.mono hx2.1
  refine Ok.nt ((Ok.sr ((Ok.B 2 [(0, pv bxr 0), (1, sv xend), (8, .slice E0 g0.length F0), (9, pv bxr 0)] kr ?_))))
  obtain ⟨hp3, hF⟩ := hF
  refine Ok.op rfl (OpOk.callH [_] _ enr rfl (ih_pth _ (gapS ybxr_0l6).2 z1 hG0 hp3) rfl fun g4 _ _ hx4 hV4 => ?_)
  obtain ⟨m2, n2, o2, p2, a4_4, c4_4, rfl, hR4_0, hR4_2, hR4_4, rfl⟩ := hV4
  replace D0 := D0.mono hx4.1
  replace hG0 := hG0.mono hx4.1
  have hL5 : RepL g4 yP ([.slice m2 ((pthR (gapS ybxr_0l6).2).1.1).length n2, .slice o2 ((pthR (gapS ybxr_0l6).2).1.2).length p2] : List Value) ([(pthR (gapS ybxr_0l6).2).1] : List PH) := (RepL.consN (c := [.slice m2 ((pthR (gapS ybxr_0l6).2).1.1).length n2, .slice o2 ((pthR (gapS ybxr_0l6).2).1.2).length p2]) ⟨[.slice m2 ((pthR (gapS ybxr_0l6).2).1.1).length n2], [.slice o2 ((pthR (gapS ybxr_0l6).2).1.2).length p2], rfl, hR4_0, hR4_2⟩ rfl)
  refine Ok.op rfl (OpOk.lit (E := 25) yP ([(pthR (gapS ybxr_0l6).2).1] : List PH) ([.slice m2 ((pthR (gapS ybxr_0l6).2).1.1).length n2, .slice o2 ((pthR (gapS ybxr_0l6).2).1.2).length p2] : List Value) kr kr rfl kr hL5 rfl fun b5 => ?_)
  obtain ⟨hb6, hF⟩ := hF
  refine Ok.op rfl (OpOk.append' (e := yP) 48 2932031007402 2 0 rfl rfl rfl rfl D0 hL5 Tryz.underlying29 kr kr kr hb6 rfl fun a6 c6 xs6 hL6 => ?_)
  refine Ok.b 1 [0, 1] [(5, .slice a6 (g0 ++ ([(pthR (gapS ybxr_0l6).2).1] : List PH)).length c6)] ?_
  refine Ok.nt ((Ok.sr ((Ok.b 1 [0, 1, 5] [(13, pv bxr 0)] ?_))))
  refine Ok.e [1, 0, 2] [.blk bxr (.cells #[.slice a4_4 ((pthR (gapS ybxr_0l6).2).2).length c4_4] 59), .own (.slice (some ⟨b5, 0, none⟩) ([(pthR (gapS ybxr_0l6).2).1] : List PH).length 1) 25 2 ([(pthR (gapS ybxr_0l6).2).1] : List PH).length ([.slice m2 ((pthR (gapS ybxr_0l6).2).1.1).length n2, .slice o2 ((pthR (gapS ybxr_0l6).2).1.2).length p2] : List Value), .own (.slice a6 (g0 ++ ([(pthR (gapS ybxr_0l6).2).1] : List PH)).length c6) 25 2 (g0 ++ ([(pthR (gapS ybxr_0l6).2).1] : List PH)).length xs6] dc rfl (Ok.op rfl (OpOk.callH [_] _ enr rfl (gap_c (pthR (gapS ybxr_0l6).2).2 hR4_4) rfl fun g7 _ _ hx7 hV7 => ?_))
  obtain ⟨a7_0, c7_0, rfl, hR7_0, rfl⟩ := hV7
  replace hL6 := hL6.mono hx7.1
  replace hL5 := hL5.mono hx7.1
  replace hG0 := hG0.mono hx7.1
  refine Ok.nt ((Ok.q (Ok.sr ((Ok.B 1 [(0, pv bxr 0), (1, sv xend), (5, .slice a6 (g0 ++ ([(pthR (gapS ybxr_0l6).2).1] : List PH)).length c6), (15, pv bxr 0)] kr ?_)))))
  obtain ⟨hp8, hF⟩ := hF
  refine Ok.op rfl (OpOk.callH [_] _ enr rfl (raw_c (gapS (pthR (gapS ybxr_0l6).2).2).2 ([44] : Bs) hR7_0 hp8) rfl fun g9 _ _ hx9 hV9 => ?_)
  obtain ⟨W2, X2, rfl, P2, rfl⟩ := hV9
  replace hL6 := hL6.mono hx9.1
  replace hL5 := hL5.mono hx9.1
  replace hG0 := hG0.mono hx9.1
  refine Ok.nt ((Ok.cn hF rfl (fun n1 => ?_) (fun n1 => ?_)))
  ·replace hF := hF.1 n1
   refine Ok.x (Ok.thenE (Ok.blockHit (Ok.t ?_)))
   exact fun a W hA hW => ⟨k6, Nat.lt_succ_self _, g9, ((((G1.trans hx2).trans hx4).trans hx7).trans hx9), a6, c6, (g0 ++ ([(pthR (gapS ybxr_0l6).2).1] : List PH)), xs6, W2, X2, (rwS (gapS (pthR (gapS ybxr_0l6).2).2).2 ([44] : Bs)).2, hL6, P2, hA.sub kr, hW.pick [2, 0] _ dc rfl, hF⟩
  replace hF := hF.2 n1
  refine Ok.k (Ok.t (Ok.cut (fun a W => ∃ z3 : Ghost, Gext w0 g9 z3 ∧ ∃ (aybxr_0j20 : Option Addr) (cybxr_0j20 : Nat), Rep z3 (.slice yK) [.slice aybxr_0j20 (lstV1 xend ybxr_0l6).length cybxr_0j20] (lstV1 xend ybxr_0l6) ∧ StA 33 [(5, .slice a6 (g0 ++ ([(pthR (gapS ybxr_0l6).2).1] : List PH)).length c6)] a ∧ StW w0 [.blk bxr (.cells #[.slice aybxr_0j20 (lstV1 xend ybxr_0l6).length cybxr_0j20] 59), .own (.slice a6 (g0 ++ ([(pthR (gapS ybxr_0l6).2).1] : List PH)).length c6) 25 2 (g0 ++ ([(pthR (gapS ybxr_0l6).2).1] : List PH)).length xs6] z3 W ∧ lstj20 xend K g0 ybxr_0l6) ?_ ?_))
  ·
   refine Ok.sr ((Ok.b 1 [0, 1, 5] [(17, sv xend)] ?_))
   refine Ok.op rfl (OpOk.s (v := .bool (xend == ([] : Bs))) (Yields.sc (f := .eql) (a := xend) (b := ([] : Bs)) kr kr rfl) rfl rfl (Ok.nt ((Ok.cn hF rfl (fun o1 => ?_) (fun o1 => ?_)))))
   ·replace hF := hF.1 o1
    refine Ok.r (Ok.b 4 [5] [(19, pv bxr 0), (22, pv bxr 0)] ?_)
    refine Ok.op rfl (OpOk.s (v := .slice W2 ((rwS (gapS (pthR (gapS ybxr_0l6).2).2).2 ([44] : Bs)).2).length X2) (Yields.l 0 rfl rfl Tryz.underlying56 rfl kr) rfl rfl (Ok.b 2 [5, 19] [(25, .bool ((((rwS (gapS (pthR (gapS ybxr_0l6).2).2).2 ([44] : Bs)).2).length : Int) == 0))] ?_))
    refine Ok.op rfl (OpOk.i (args := #[pv bxr 0, .bool ((((rwS (gapS (pthR (gapS ybxr_0l6).2).2).2 ([44] : Bs)).2).length : Int) == 0)]) 8 [(0, pv bxr 0), (1, .bool ((((rwS (gapS (pthR (gapS ybxr_0l6).2).2).2 ([44] : Bs)).2).length : Int) == 0))] enr Tryz.func47 rfl rfl rfl rfl (Ok.sr ((Ok.B 2 [(5, .bool (!((((rwS (gapS (pthR (gapS ybxr_0l6).2).2).2 ([44] : Bs)).2).length : Int) == 0)))] kr (Ok.nt ((Ok.cn hF rfl (fun A1 => ?_) (fun A1 => ?_))))))))
    ·replace hF := hF.1 A1
     exact False.elim hF
    replace hF := hF.2 A1
    refine Ok.k (Ok.back (vs := []) (.inr rfl) rfl .nil rfl (Ok.nt ((Ok.heapEq (H' := [.blk bxr (.cells #[.slice W2 (lstV1 xend ybxr_0l6).length X2] 59), .own (.slice (some ⟨b5, 0, none⟩) ([(pthR (gapS ybxr_0l6).2).1] : List PH).length 1) 25 2 ([(pthR (gapS ybxr_0l6).2).1] : List PH).length ([.slice m2 ((pthR (gapS ybxr_0l6).2).1.1).length n2, .slice o2 ((pthR (gapS ybxr_0l6).2).1.2).length p2] : List Value), .own (.slice a6 (g0 ++ ([(pthR (gapS ybxr_0l6).2).1] : List PH)).length c6) 25 2 (g0 ++ ([(pthR (gapS ybxr_0l6).2).1] : List PH)).length xs6]) (econs (congrArg (fun l : List Value => Ent.blk bxr (.cells ⟨l⟩ 59)) (lcons (congrArg (fun l : List KT => Value.slice W2 l.length X2) ((if_t o1).symm)) rfl)) (econs (rfl) (econs (rfl) rfl))) ?_))))
    exact fun a W hA hW => ⟨g9, (Gext.r w0 g9), W2, X2, (Eq.mp (congrArg (fun l : List KT => Rep g9 (.slice yK) [.slice W2 l.length X2] l) ((if_t o1).symm)) P2), hA.sub kr, hW.sub (.cons_cons _ (.cons _ (.cons_cons _ .slnil))), hF⟩
   replace hF := hF.2 o1
   refine Ok.r (Ok.b 3 [5] [(27, pv bxr 0), (28, pv bxr 0), (29, sv xend)] ?_)
   obtain ⟨N3, hF⟩ := hF
   refine Ok.op rfl (OpOk.callH [_] _ enr rfl (raw_c (rwS (gapS (pthR ((gapS ybxr_0l6).2)).2).2 ([44] : Bs)).2 xend P2 N3) rfl fun g15 _ _ I0 O3 => ?_)
   obtain ⟨d1, e1, rfl, f2, rfl⟩ := O3
   replace hL6 := hL6.mono I0.1
   replace hL5 := hL5.mono I0.1
   replace hG0 := hG0.mono I0.1
   refine Ok.op rfl (OpOk.i (args := #[pv bxr 0, .bool (rwS (rwS (gapS ((pthR ((gapS ybxr_0l6).2)).2)).2 ([44] : Bs)).2 xend).1]) 8 [(0, pv bxr 0), (1, .bool (rwS (rwS (gapS ((pthR ((gapS ybxr_0l6).2)).2)).2 ([44] : Bs)).2 xend).1)] enr Tryz.func47 rfl rfl rfl rfl (Ok.sr ((Ok.B 2 [(5, .bool (!((rwS (rwS (gapS (pthR ((gapS ybxr_0l6).2)).2).2 ([44] : Bs)).2 xend).1)))] kr (Ok.nt ((Ok.cn hF rfl (fun P3 => ?_) (fun P3 => ?_))))))))
   ·replace hF := hF.1 P3
    exact False.elim hF
   replace hF := hF.2 P3
   refine Ok.k (Ok.back (vs := []) (.inr rfl) rfl .nil rfl (Ok.nt ((Ok.heapEq (H' := [.blk bxr (.cells #[.slice d1 (lstV1 xend ybxr_0l6).length e1] 59), .own (.slice (some ⟨b5, 0, none⟩) ([(pthR (gapS ybxr_0l6).2).1] : List PH).length 1) 25 2 ([(pthR (gapS ybxr_0l6).2).1] : List PH).length ([.slice m2 ((pthR (gapS ybxr_0l6).2).1.1).length n2, .slice o2 ((pthR (gapS ybxr_0l6).2).1.2).length p2] : List Value), .own (.slice a6 (g0 ++ ([(pthR (gapS ybxr_0l6).2).1] : List PH)).length c6) 25 2 (g0 ++ ([(pthR (gapS ybxr_0l6).2).1] : List PH)).length xs6]) (econs (congrArg (fun l : List Value => Ent.blk bxr (.cells ⟨l⟩ 59)) (lcons (congrArg (fun l : List KT => Value.slice d1 l.length e1) ((if_f o1).symm)) rfl)) (econs (rfl) (econs (rfl) rfl))) ?_))))
   exact fun a W hA hW => ⟨g15, I0, d1, e1, (Eq.mp (congrArg (fun l : List KT => Rep g15 (.slice yK) [.slice d1 l.length e1] l) ((if_f o1).symm)) f2), hA.sub kr, hW.sub (.cons_cons _ (.cons _ (.cons_cons _ .slnil))), hF⟩
  clear hF
  rintro a W ⟨z3, R2, aybxr_0j20, cybxr_0j20, hRybxr_0j20, hA, hW, hF⟩
  refine (?_ : Ok _ _ _ _ _ _) a W hA hW
  clear hA hW
  replace hL6 := hL6.mono R2.1
  replace hG0 := hG0.mono R2.1
  refine Ok.sr ((Ok.B 2 [(4, .slice a6 (g0 ++ ([(pthR (gapS ybxr_0l6).2).1] : List PH)).length c6)] kr (Ok.nt ((Ok.ret (Ok.kr (Ok.tr (Ok.kr (Ok.frz 1 rfl hL6 fun g11 Z1 hRf11 => ?_)))))))))
  replace hRybxr_0j20 := hRybxr_0j20.mono Z1.1
  replace hG0 := hG0.mono Z1.1
  exact Ok.resH (vs := [.slice a6 (g0 ++ ([(pthR (gapS ybxr_0l6).2).1] : List PH)).length c6]) (.inl rfl) rfl (.cons (.tmp rfl) .nil) ((((((G1.trans hx2).trans hx4).trans hx7).trans hx9).trans R2).trans Z1) ⟨(g0 ++ ([(pthR (gapS ybxr_0l6).2).1] : List PH)), (lstV1 xend ybxr_0l6), a6, c6, aybxr_0j20, cybxr_0j20, rfl, hRf11, hRybxr_0j20, rfl, hF⟩
theorem lst_0 (r : Rd) (e : Bs) : ¬ lstP 0 r e := fun ⟨_, _, _, _, _, _, _, _, _, _, _, _, h, _⟩ => absurd h (Nat.not_lt_zero _)
theorem lst_loop (N : Nat) (e : Bs) (K : List Ph → Rd → Prop) : ∀ (l : List Ph) (p : List (List Ts)) (js : List Int) (a b : List Tok) (fin rest r : Rd) (acc : List Ph), ok3 ((p, js) :: l) = true → Tk2 p js a → Tr3 l b → LEnd e fin rest → (gapS r).2 = a ++ (b ++ fin) → 8 * (a.length + b.length) + 7 < N → BigR (a ++ (b ++ fin)) → acc.length + b.length ≤ 1000 → K (acc ++ (p, js) :: l) rest → lstl6 N e K (l.length + 1) acc r
 | [], p, js, a, b, fin, rest, r, acc, ho, ha, hb, hF, hg, hN, hB, hl, hK => by
  obtain ⟨⟨r1, r2⟩, r3, r4⟩ := ok3_first ho
  rw [Tr3] at hb; subst hb
  have hfin : endR fin = true := by rcases hF with ⟨-, rfl, -⟩ | ⟨-, rfl⟩ <;> rfl
  rw [List.nil_append] at hg hB
  have hp := pth_eq r3 r1 r4 r2 ha hfin
  have hP : pthP N (a ++ fin) := ⟨p, js, a, fin, r1, r3, r4, r2, ha, hfin, rfl, by simp at hN; omega, hB⟩
  have hl : acc.length + 1 ≤ 2932031007402 := by simp at hl; omega
  have hgf := gap_end hfin
  rw [lstl6]
  rcases hF with ⟨rfl, rfl, rfl⟩ | ⟨rfl, rfl⟩
  ·rw [List.append_nil] at hg hp hP
   simp [lstl6b, lstj20, lstV1, hg, hp, hP, hgf, hl, rawP, rwS, pekS, hK]
  simp [lstl6b, lstj20, lstV1, hg, hp, hP, hgf, hl, rawP, rwS, pekS, hK]
 | (p', js') :: l, p, js, a, b, fin, rest, r, acc, ho, ha, hb, hF, hg, hN, hB, hl, hK => by
  obtain ⟨⟨r1, r2⟩, r3, r4⟩ := ok3_first ho
  have hfin : endR fin = true := by rcases hF with ⟨-, rfl, -⟩ | ⟨-, rfl⟩ <;> rfl
  have hend := tr3_end hb hfin
  rw [Tr3] at hb
  obtain ⟨a', b', ha', hb', rfl⟩ := hb
  have ho3 := ho
  rw [ok3_cons, Bool.and_eq_true, Bool.and_eq_true, Bool.and_eq_true] at ho3
  have ho4 := ho3.2.2.2
  obtain ⟨⟨u1, u2⟩, u3, u4⟩ := ok3_first ho4
  obtain ⟨x, q, hxa, hx⟩ := tk2_head u1 u3 ha'
  have hp := pth_eq r3 r1 r4 r2 ha hend
  have hP : pthP N (a ++ (sg 44 :: bl :: (a' ++ b') ++ fin)) := ⟨p, js, a, _, r1, r3, r4, r2, ha, hend, rfl, by omega, hB⟩
  have hgf := gap_end hend
  have e2 : sg 44 :: bl :: (a' ++ b') ++ fin = sg 44 :: bl :: (a' ++ (b' ++ fin)) := by simp
  rw [e2] at hg hp hP hgf hB
  simp only [List.length_cons, List.length_append] at hN hl
  have ih := lst_loop N e K l p' js' a' b' fin rest (bl :: (a' ++ (b' ++ fin))) (acc ++ [(p, js)]) ho4 ha' hb' hF (by rw [hxa, List.cons_append, gap_bl hx]) om hB.app.tail.tail (by rw [List.length_append, List.length_singleton]; omega) (by rw [List.append_assoc]; exact hK)
  have hl : acc.length + 1 ≤ 2932031007402 := by omega
  rw [List.length_cons, lstl6]
  generalize a' ++ (b' ++ fin) = w at *
  generalize a ++ sg 44 :: bl :: w = w0 at *
  simp [lstl6b, hg, hp, hP, hgf, hl, rawP, rwS, pekS, ih]
theorem lst_F (N : Nat) (r : Rd) (e : Bs) (h : lstP (N + 1) r e) : lstF N r e (fun a b => (a, b) = lstR r e) := by
 obtain ⟨l, p, js, a, b, fin, rest, ho, ha, hb, hF, rfl, hN, hB⟩ := h
 rw [lst_eq ho ha hb hF]
 have hl : b.length ≤ 1000 := by have := hB.app.1; rw [List.length_append] at this; omega
 exact ⟨l.length + 1, lst_loop N e _ l p js a b fin rest _ [] ho ha hb hF (by rw [gap_first ho ha]) om hB (by simpa using hl) rfl⟩
theorem pss_rec : ∀ N, pss_C N ∧ one_C N ∧ stp_C N ∧ pth_C N ∧ lst_C N
 | 0 => ⟨(by intro g bxr axr_0 cxr_0 xr hRxr_0 hG0 hp; exact (pss_0 xr hp).elim), (by intro g bxr axr_0 cxr_0 xr hRxr_0 hG0 hp; exact (one_0 xr hp).elim), (by intro g bxr axr_0 cxr_0 xr hRxr_0 hG0 hp; exact (stp_0 xr hp).elim), (by intro g bxr axr_0 cxr_0 xr hRxr_0 hG0 hp; exact (pth_0 xr hp).elim), (by intro g bxr axr_0 cxr_0 xr xend hRxr_0 hG0 hp; exact (lst_0 xr xend hp).elim)⟩
 | N + 1 =>
  have ih := pss_rec N
  ⟨(by intro g bxr axr_0 cxr_0 xr hRxr_0 hG0 hp; exact (pss_ok N ih.1 ih.2.1 ih.2.2.1 ih.2.2.2.1 ih.2.2.2.2 xr hRxr_0 hG0 _ (pss_F N xr hp)).mono (by rintro g' H' v _ ⟨r0, fxr, Y0, U0, afxr_0, cfxr_0, rfl, P0, hRfxr_0, rfl, hK⟩; obtain ⟨rfl, rfl⟩ : r0 = (pssR xr).1 ∧ fxr = (pssR xr).2 := ⟨congrArg (fun z => z.1) hK, congrArg (fun z => z.2) hK⟩; exact ⟨Y0, U0, afxr_0, cfxr_0, rfl, P0, hRfxr_0, rfl⟩)), (by intro g bxr axr_0 cxr_0 xr hRxr_0 hG0 hp; exact (one_ok N ih.1 ih.2.1 ih.2.2.1 ih.2.2.2.1 ih.2.2.2.2 xr hRxr_0 hG0 _ (one_F N xr hp)).mono (by rintro g' H' v _ ⟨r0, r1, fxr, Y0, U0, afxr_0, cfxr_0, rfl, P0, hRfxr_0, rfl, hK⟩; obtain ⟨rfl, rfl, rfl⟩ : r0 = (oneR xr).1 ∧ r1 = (oneR xr).2.1 ∧ fxr = (oneR xr).2.2 := ⟨congrArg (fun z => z.1) hK, congrArg (fun z => z.2.1) hK, congrArg (fun z => z.2.2) hK⟩; exact ⟨Y0, U0, afxr_0, cfxr_0, rfl, P0, hRfxr_0, rfl⟩)), (by intro g bxr axr_0 cxr_0 xr hRxr_0 hG0 hp; exact (stp_ok N ih.1 ih.2.1 ih.2.2.1 ih.2.2.2.1 ih.2.2.2.2 xr hRxr_0 hG0 _ (stp_F N xr hp)).mono (by rintro g' H' v _ ⟨r0, fxr, Y0, U0, afxr_0, cfxr_0, rfl, P0, hRfxr_0, rfl, hK⟩; obtain ⟨rfl, rfl⟩ : r0 = (stpR xr).1 ∧ fxr = (stpR xr).2 := ⟨congrArg (fun z => z.1) hK, congrArg (fun z => z.2) hK⟩; exact ⟨Y0, U0, afxr_0, cfxr_0, rfl, P0, hRfxr_0, rfl⟩)), (by intro g bxr axr_0 cxr_0 xr hRxr_0 hG0 hp; exact (pth_ok N ih.1 ih.2.1 ih.2.2.1 ih.2.2.2.1 ih.2.2.2.2 xr hRxr_0 hG0 _ (pth_F N xr hp)).mono (by rintro g' H' v _ ⟨r0, fxr, Y0, U0, g1, m1, afxr_0, cfxr_0, rfl, P0, hRr0_1, hRfxr_0, rfl, hK⟩; obtain ⟨rfl, rfl⟩ : r0 = (pthR xr).1 ∧ fxr = (pthR xr).2 := ⟨congrArg (fun z => z.1) hK, congrArg (fun z => z.2) hK⟩; exact ⟨Y0, U0, g1, m1, afxr_0, cfxr_0, rfl, P0, hRr0_1, hRfxr_0, rfl⟩)), (by intro g bxr axr_0 cxr_0 xr xend hRxr_0 hG0 hp; exact (lst_ok N ih.1 ih.2.1 ih.2.2.1 ih.2.2.2.1 ih.2.2.2.2 xr xend hRxr_0 hG0 _ (lst_F N xr xend hp)).mono (by rintro g' H' v _ ⟨r0, fxr, Y0, U0, afxr_0, cfxr_0, rfl, P0, hRfxr_0, rfl, hK⟩; obtain ⟨rfl, rfl⟩ : r0 = (lstR xr xend).1 ∧ fxr = (lstR xr xend).2 := ⟨congrArg (fun z => z.1) hK, congrArg (fun z => z.2) hK⟩; exact ⟨Y0, U0, afxr_0, cfxr_0, rfl, P0, hRfxr_0, rfl⟩))⟩
def lstPE (xr : List KT) (xend : Bs) : Prop := ∃ N, lstP N xr xend
theorem lst_c {g : Ghost} {bxr : Nat} {axr_0 : Option Addr} {cxr_0 : Nat} (xr : List KT) (xend : Bs) (hRxr_0 : Rep g (.slice yK) [.slice axr_0 xr.length cxr_0] xr) (hG0 : SomeInt g 0)  (hp : lstPE xr xend) : CallsH Tryz.prog 28 #[pv bxr 0, sv xend] g [.blk bxr (.cells #[.slice axr_0 xr.length cxr_0] 59)] (fun g' H' v => ∃ (Y0 : Option Addr) (U0 : Nat), ∃ (afxr_0 : Option Addr) (cfxr_0 : Nat), v = .slice Y0 ((lstR xr xend).1).length U0 ∧ Rep g' (.slice yP) [.slice Y0 ((lstR xr xend).1).length U0] (lstR xr xend).1 ∧ Rep g' (.slice yK) [.slice afxr_0 ((lstR xr xend).2).length cfxr_0] (lstR xr xend).2 ∧ H' = [.blk bxr (.cells #[.slice afxr_0 ((lstR xr xend).2).length cfxr_0] 59)]) := by
 obtain ⟨N, hp⟩ := hp
 exact (pss_rec N).2.2.2.2 _ xr xend hRxr_0 hG0 hp
end Go.Proofs.YtcnhdkhkadiohaaGreatDoor.Se
