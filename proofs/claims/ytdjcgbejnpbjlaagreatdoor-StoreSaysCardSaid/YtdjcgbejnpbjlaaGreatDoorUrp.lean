/- Addresses: Parse and Origin. -/
import Derived.Test.YtdjcgbejnpbjlaaGreatDoorUru
namespace Go.Proofs.YtdjcgbejnpbjlaaGreatDoor.Ub
open Go Go.Eng Go.RowKit Go.Shelf Go.Proofs Bld Sp Ti Uc Ua Ui
set_option maxHeartbeats 4000000
set_option maxRecDepth 100000
set_option linter.unusedSimpArgs false
set_option linter.unusedVariables false
noncomputable section
def MK : Bs := [47, 63, 35]
def ju0 : JU := ([], [], 0, [], [], false, [], false)
def restS (s : Bs) : Bs × Bool := cpfM (schS s).2.1 [47, 47]
def parP (s : Bs) : Bool × JU := plcS ((schS s).1, [], 0, [], [], false, [], false) (prtS (restS s).1 MK).1
def parT (s : Bs) : Bs × Bool × JU := tailS (parP s).2 (prtS (restS s).1 MK).2
def parG (s : Bs) : List Bs × Bool := segS (tpfM (parT s).1 [47])
def parU (s : Bs) : JU := ((parT s).2.2.1, (parT s).2.2.2.1, (parT s).2.2.2.2.1, tidyS (parG s).1, (parT s).2.2.2.2.2.2)
def parS0 (s : Bs) : JU × Int := if decide ((s.length : Int) > 500) = true then (ju0, 2) else if (!((schS s).2.2) || !((restS s).2)) = true then (ju0, 3) else
 if (!((parP s).1)) = true then (ju0, 3) else if (!((parT s).2.1) || !((parG s).2)) = true then (ju0, 3) else (parU s, 0)
noncomputable def parS : Bs → JU × Int := Classical.choose (rigid parS0)
theorem parS_eq : parS = parS0 := Classical.choose_spec (rigid parS0)
theorem mk_marks (b : UInt8) : mk1 MK b = MK.contains b := by
 have := byte_all (p := fun b => mk1 MK b == MK.contains b) (by decide +kernel) b
 exact beq_iff_eq.1 this
theorem ixa_cases : ∀ l : Bs, (ixaS l MK = -1 ∧ prtS l MK = (l, [])) ∨ (ixaS l MK = ((prtS l MK).1.length : Int))
 | [] => .inl ⟨rfl, rfl⟩
 | b :: l => by
  have ih := ixa_cases l
  rw [prt_cons, mk_marks]
  show (Lib.indexAny (b :: l) MK = -1 ∧ _) ∨ Lib.indexAny (b :: l) MK = _
  rw [Lib.indexAny]
  by_cases hb : MK.contains b = true
  ·rw [if_t hb, if_t hb]; exact .inr rfl
  ·rw [if_neg hb, if_neg hb]
   rcases ih with ⟨h1, h2⟩ | h1
   ·refine .inl ⟨?_, by rw [h2]⟩
    rw [show Lib.indexAny l MK = -1 from h1]; rfl
   ·right
    have h1 : Lib.indexAny l MK = _ := h1
    rw [h1, if_neg (by simp)]
    simp
theorem prt_app (l m : Bs) : (prtS l m).1 ++ (prtS l m).2 = l := List.takeWhile_append_dropWhile
theorem ixa_cut (l : Bs) : 0 ≤ (if decide (ixaS l MK < 0) = true then (l.length : Int) else ixaS l MK) ∧ (if decide (ixaS l MK < 0) = true then (l.length : Int) else ixaS l MK) ≤ (l.length : Int) ∧
  l.take (Int.toNat (if decide (ixaS l MK < 0) = true then (l.length : Int) else ixaS l MK)) = (prtS l MK).1 ∧ l.drop (Int.toNat (if decide (ixaS l MK < 0) = true then (l.length : Int) else ixaS l MK)) = (prtS l MK).2 := by
 have hap := prt_app l MK
 rcases ixa_cases l with ⟨h1, h2⟩ | h1
 ·rw [h1, h2, if_pos (by decide)]
  refine ⟨by omega, by omega, ?_, ?_⟩
  ·rw [Int.toNat_natCast, List.take_length]
  ·rw [Int.toNat_natCast, List.drop_length]
 ·have hl := (prt_len l MK).1
  rw [h1, if_neg (by simp)]
  refine ⟨by omega, by omega, ?_, ?_⟩
  ·rw [Int.toNat_natCast]
   conv => lhs; rhs; rw [← hap]
   rw [List.take_left]
  ·rw [Int.toNat_natCast]
   conv => lhs; rhs; rw [← hap]
   rw [List.drop_left]
theorem cpf_len (s p : Bs) : (cpfM s p).1.length ≤ s.length := by
 unfold cpfM slcpM
 split <;> simp
theorem tpf_len (s p : Bs) : (tpfM s p).length ≤ s.length := by
 unfold tpfM sltpM
 split <;> simp
theorem sch_len (s : Bs) : (schS s).1.length ≤ s.length ∧ (schS s).2.1.length ≤ s.length := by
 have h1 := tw_len (ne1 58) s
 have h2 := dw_len (ne1 58) s
 rw [sch_eq]
 split
 ·refine ⟨?_, ?_⟩
  ·show (lowS _).length ≤ _
   unfold lowS; rw [List.length_map]; exact h1
  ·show (List.drop 1 _).length ≤ _
   rw [List.length_drop]; omega
 ·exact ⟨Nat.zero_le _, Nat.zero_le _⟩
theorem rest_len (s : Bs) : (restS s).1.length ≤ s.length := Nat.le_trans (cpf_len _ _) (sch_len s).2
theorem tail_len (u : JU) (s : Bs) : (tailS u s).1.length ≤ s.length := by
 have h1 := cutS_len 35 s
 have h2 := cutS_len 63 (cutS s [35]).1
 rw [tailS_eq]
 show (tailQ s).1.length ≤ _
 unfold tailQ
 omega
theorem tail_keep (u : JU) (s : Bs) : (tailS u s).2.2.1 = u.1 ∧ (tailS u s).2.2.2.1 = u.2.1 ∧ (tailS u s).2.2.2.2.1 = u.2.2.1 ∧ (tailS u s).2.2.2.2.2.1 = u.2.2.2.1 := by
 rw [tailS_eq]
 exact ⟨rfl, rfl, rfl, rfl⟩
theorem seg_len (s : Bs) : (segS s).1.length ≤ s.length + 1 := by
 have hl : (splS s [47]).length ≤ s.length + 1 := by rw [splC]; exact spC_len 47 s
 rw [segS_eq]
 unfold segS0
 rw [segO_eq]
 split
 ·simp only [List.nil_append, List.length_map]; exact hl
 ·exact Nat.zero_le _
def uparV0 (xs : Bs) : Int :=
 (ixaS (cpfM (schS xs).2.1 ([47, 47] : Bs)).1 ([47, 63, 35] : Bs))
def uparV1 (xs : Bs) : Int :=
 (if (decide ((uparV0 xs) < 0)) = true then ((cpfM (schS xs).2.1 ([47, 47] : Bs)).1.length : Int) else (uparV0 xs))
def uparV2 (xs : Bs) : Bool × (JU) :=
 (plcS ((schS xs).1, ([] : Bs), 0, [], ([] : Bs), false, ([] : Bs), false) ((cpfM (schS xs).2.1 ([47, 47] : Bs)).1.take (Int.toNat (uparV1 xs))))
def uparV3 (xs : Bs) : Bs × Bool × (JU) :=
 (tailS (uparV2 xs).2 ((cpfM (schS xs).2.1 ([47, 47] : Bs)).1.drop (Int.toNat (uparV1 xs))))
def uparj29 (xs : Bs) (K : (JU) → Int → Prop) : Prop :=
 (0 : Int) ≤ 0 ∧ (0 : Int) ≤ (uparV1 xs) ∧ (uparV1 xs) ≤ ((cpfM (schS xs).2.1 ([47, 47] : Bs)).1.length : Int) ∧ plcP ((schS xs).1, ([] : Bs), 0, [], ([] : Bs), false, ([] : Bs), false) ((cpfM (schS xs).2.1 ([47, 47] : Bs)).1.take (Int.toNat (uparV1 xs))) ∧ ((!(uparV2 xs).1) = true → K (([] : Bs), ([] : Bs), 0, [], ([] : Bs), false, ([] : Bs), false) 3) ∧ ((!(uparV2 xs).1) = false → (0 : Int) ≤ (uparV1 xs) ∧ ((uparV1 xs) : Int) ≤ ((cpfM (schS xs).2.1 ([47, 47] : Bs)).1.length : Int) ∧ ((cpfM (schS xs).2.1 ([47, 47] : Bs)).1.length : Int) ≤ ((cpfM (schS xs).2.1 ([47, 47] : Bs)).1.length : Int) ∧ tailP (uparV2 xs).2 ((cpfM (schS xs).2.1 ([47, 47] : Bs)).1.drop (Int.toNat (uparV1 xs))) ∧ smP (tpfM (uparV3 xs).1 ([47] : Bs)) ∧ ((((!(uparV3 xs).2.1) || (!(segS (tpfM (uparV3 xs).1 ([47] : Bs))).2))) = true → K (([] : Bs), ([] : Bs), 0, [], ([] : Bs), false, ([] : Bs), false) 3) ∧ ((((!(uparV3 xs).2.1) || (!(segS (tpfM (uparV3 xs).1 ([47] : Bs))).2))) = false → tidyP (segS (tpfM (uparV3 xs).1 ([47] : Bs))).1 ∧ K ((uparV3 xs).2.2.1, (uparV3 xs).2.2.2.1, (uparV3 xs).2.2.2.2.1, (tidyS (segS (tpfM (uparV3 xs).1 ([47] : Bs))).1), (uparV3 xs).2.2.2.2.2.2.1, (uparV3 xs).2.2.2.2.2.2.2.1, (uparV3 xs).2.2.2.2.2.2.2.2.1, (uparV3 xs).2.2.2.2.2.2.2.2.2) 0))
def uparF (xs : Bs) (K : (JU) → Int → Prop) : Prop :=
 ((decide ((xs.length : Int) > 500)) = true → K (([] : Bs), ([] : Bs), 0, [], ([] : Bs), false, ([] : Bs), false) 2) ∧ ((decide ((xs.length : Int) > 500)) = false → smP xs ∧ ((((!(schS xs).2.2) || (!(cpfM (schS xs).2.1 ([47, 47] : Bs)).2))) = true → K (([] : Bs), ([] : Bs), 0, [], ([] : Bs), false, ([] : Bs), false) 3) ∧ ((((!(schS xs).2.2) || (!(cpfM (schS xs).2.1 ([47, 47] : Bs)).2))) = false → ixaP (cpfM (schS xs).2.1 ([47, 47] : Bs)).1 ([47, 63, 35] : Bs) ∧ ((decide ((uparV0 xs) < 0)) = true → uparj29 xs K) ∧ ((decide ((uparV0 xs) < 0)) = false → uparj29 xs K)))
theorem upar_ok {g : Ghost} (xs : Bs) (hG0 : SomeInt g 0) (hG2 : SomeIf g 2) (hG3 : SomeIf g 3) (hG4 : GlobL g 4 (.int .u8) DFirst) (hG5 : GlobL g 5 (.pair (.int .u8) (.int .u8)) DAcc) (K : (JU) → Int → Prop)
  (hF : uparF xs K) : CallsH Tryz.prog 20 #[sv xs] g [] (fun g' H' v => ∃ (r0 : JU), ∃ (r1 : Int), ∃ (ar0_0 : Option Addr) (cr0_0 : Nat), v = .tuple #[.agg #[sv r0.1, sv r0.2.1, .int .i64 r0.2.2.1, .slice ar0_0 r0.2.2.2.1.length cr0_0, sv r0.2.2.2.2.1, .bool r0.2.2.2.2.2.1, sv r0.2.2.2.2.2.2.1, .bool r0.2.2.2.2.2.2.2], .int .i64 r1] ∧ Rep g' (.slice (.str)) [.slice ar0_0 r0.2.2.2.1.length cr0_0] r0.2.2.2.1 ∧ H' = [] ∧ K r0 r1) := by
 refine CallsH.enter 74 [(0, sv xs)] Tryz.func20 rfl (by kernel_rfl) (by kernel_rfl) (by kernel_rfl) fun w0 => ?_
 refine Ok.seq (Ok.region (Ok.op rfl (OpOk.alloc (z := .agg #[sv ([] : Bs), sv ([] : Bs), .int .i64 0, .slice none 0 0, sv ([] : Bs), .bool false, sv ([] : Bs), .bool false]) (cs := #[sv ([] : Bs), sv ([] : Bs), .int .i64 0, .slice none 0 0, sv ([] : Bs), .bool false, sv ([] : Bs), .bool false]) (by kernel_rfl) (by kernel_rfl) rfl fun bs2 => ?_)))
 refine Ok.batch 1 [(0, sv xs), (2, pv bs2 0)] (by kernel_rfl) (Ok.nil (Ok.thenN (Ok.seq (Ok.seq (Ok.region (Ok.bat 3 [0, 2] [(16, .bool (decide ((xs.length : Int) > 500)))] ?_))))))
 refine Ok.nil (Ok.thenN (Ok.cond (b := decide ((xs.length : Int) > 500)) rfl (fun hc2 => ?_) (fun hc2 => ?_)))
 ·replace hF := hF.1 hc2
  refine Ok.seq (Ok.region (Ok.bat 1 [2] [(17, .agg #[sv ([] : Bs), sv ([] : Bs), .int .i64 0, .slice none 0 0, sv ([] : Bs), .bool false, sv ([] : Bs), .bool false])] ?_))
  refine Ok.op rfl (OpOk.sto (k := 8) (v := .agg #[sv ([] : Bs), sv ([] : Bs), .int .i64 0, .slice none 0 0, sv ([] : Bs), .bool false, sv ([] : Bs), .bool false]) 0 #[sv ([] : Bs), sv ([] : Bs), .int .i64 0, .slice none 0 0, sv ([] : Bs), .bool false, sv ([] : Bs), .bool false] rfl rfl rfl ?_)
  refine Ok.bat 1 [2] [(3, .int .i64 2)] ?_
  refine Ok.nil (Ok.thenN (Ok.ret (Ok.thenR ?_)))
  exact Ok.resP (vs := [.agg #[sv ([] : Bs), sv ([] : Bs), .int .i64 0, .slice none 0 0, sv ([] : Bs), .bool false, sv ([] : Bs), .bool false], .int .i64 2]) [] [] (by decide) rfl (.inl rfl) rfl (.cons (.cellAgg 0 8 #[sv ([] : Bs), sv ([] : Bs), .int .i64 0, .slice none 0 0, sv ([] : Bs), .bool false, sv ([] : Bs), .bool false] rfl rfl Tryz.underlying46 rfl (by kernel_rfl) (by kernel_rfl) (by kernel_rfl)) (.cons (.tmp rfl) .nil)) (Gext.refl w0 g) ⟨(([] : Bs), ([] : Bs), 0, [], ([] : Bs), false, ([] : Bs), false), 2, none, 0, rfl, Rep.nil, rfl, hF⟩
 ·replace hF := hF.2 hc2
  refine Ok.skip (Ok.thenN (Ok.seq (Ok.region (Ok.op rfl (OpOk.alloc (z := .agg #[sv ([] : Bs), sv ([] : Bs), .int .i64 0, .slice none 0 0, sv ([] : Bs), .bool false, sv ([] : Bs), .bool false]) (cs := #[sv ([] : Bs), sv ([] : Bs), .int .i64 0, .slice none 0 0, sv ([] : Bs), .bool false, sv ([] : Bs), .bool false]) (by kernel_rfl) (by kernel_rfl) rfl fun bs4 => ?_)))))
  refine Ok.nil (Ok.thenN (Ok.seq (Ok.region (Ok.bat 1 [2] [(4, pv bs4 0), (19, sv xs)] ?_))))
  obtain ⟨hp4, hF⟩ := hF
  refine Ok.op rfl (OpOk.callG (v := .tuple #[sv ((schS xs).1), sv ((schS xs).2.1), .bool (schS xs).2.2]) enr (fun W hW => usch_c xs (hG4.mono hW.sees) (hG5.mono hW.sees) hp4) rfl ?_)
  refine Ok.bat 7 [2, 4] [(5, sv ((schS xs).1)), (6, sv ((schS xs).2.1)), (7, .bool (schS xs).2.2)] ?_
  refine Ok.nil (Ok.thenN (Ok.seq (Ok.region (Ok.bat 1 [2, 4, 5, 7] [(25, sv ((schS xs).2.1))] ?_))))
  refine Ok.op rfl (OpOk.callG (v := .tuple #[sv ((cpfM (schS xs).2.1 ([47, 47] : Bs)).1), .bool (cpfM (schS xs).2.1 ([47, 47] : Bs)).2]) enr (fun W hW => cpf_c (schS xs).2.1 ([47, 47] : Bs)) rfl ?_)
  refine Ok.bat 5 [2, 4, 5, 7] [(6, sv ((cpfM (schS xs).2.1 ([47, 47] : Bs)).1)), (8, .bool (cpfM (schS xs).2.1 ([47, 47] : Bs)).2)] ?_
  refine Ok.nil (Ok.thenN (Ok.seq (Ok.seq (Ok.region (Ok.bat 3 [2, 4, 5, 6, 8] [(31, .bool (!(schS xs).2.2))] ?_)))))
  refine Ok.midway 3 [(2, pv bs2 0), (4, pv bs4 0), (5, sv ((schS xs).1)), (6, sv ((cpfM (schS xs).2.1 ([47, 47] : Bs)).1)), (34, .bool ((!(schS xs).2.2) || (!(cpfM (schS xs).2.1 ([47, 47] : Bs)).2)))] (fun hR5 => ?_) ?_
  ·refine Ok.boolAt 31 (!(schS xs).2.2) rfl (fun hc6 => ?_) (fun hc6 => ?_)
   ·skip
    refine Ok.bat 3 [2, 4, 5, 6] [(34, .bool true)] ?_
    refine Ok.reval 34 rfl (show (.bool true : Value) = .bool ((!(schS xs).2.2) || (!(cpfM (schS xs).2.1 ([47, 47] : Bs)).2)) from congrArg Value.bool (mor_t hc6)) (Ok.bat 0 [2, 4, 5, 6] [(34, .bool ((!(schS xs).2.2) || (!(cpfM (schS xs).2.1 ([47, 47] : Bs)).2)))] ?_)
    exact hR5
   ·skip
    refine Ok.bat 3 [2, 4, 5, 6] [(34, .bool (!(cpfM (schS xs).2.1 ([47, 47] : Bs)).2))] ?_
    refine Ok.reval 34 rfl (show (.bool (!(cpfM (schS xs).2.1 ([47, 47] : Bs)).2) : Value) = .bool ((!(schS xs).2.2) || (!(cpfM (schS xs).2.1 ([47, 47] : Bs)).2)) from congrArg Value.bool (mor_f hc6)) (Ok.bat 0 [2, 4, 5, 6] [(34, .bool ((!(schS xs).2.2) || (!(cpfM (schS xs).2.1 ([47, 47] : Bs)).2)))] ?_)
    exact hR5
  refine Ok.nil (Ok.thenN (Ok.cond (b := ((!(schS xs).2.2) || (!(cpfM (schS xs).2.1 ([47, 47] : Bs)).2))) rfl (fun hc7 => ?_) (fun hc7 => ?_)))
  ·replace hF := hF.1 hc7
   refine Ok.seq (Ok.region (Ok.bat 1 [2] [(35, .agg #[sv ([] : Bs), sv ([] : Bs), .int .i64 0, .slice none 0 0, sv ([] : Bs), .bool false, sv ([] : Bs), .bool false])] ?_))
   refine Ok.op rfl (OpOk.sto (k := 8) (v := .agg #[sv ([] : Bs), sv ([] : Bs), .int .i64 0, .slice none 0 0, sv ([] : Bs), .bool false, sv ([] : Bs), .bool false]) 1 #[sv ([] : Bs), sv ([] : Bs), .int .i64 0, .slice none 0 0, sv ([] : Bs), .bool false, sv ([] : Bs), .bool false] rfl rfl rfl ?_)
   refine Ok.bat 1 [2] [(3, .int .i64 3)] ?_
   refine Ok.nil (Ok.thenN (Ok.ret (Ok.thenR ?_)))
   exact Ok.resP (vs := [.agg #[sv ([] : Bs), sv ([] : Bs), .int .i64 0, .slice none 0 0, sv ([] : Bs), .bool false, sv ([] : Bs), .bool false], .int .i64 3]) [] [] (by decide) rfl (.inl rfl) rfl (.cons (.cellAgg 1 8 #[sv ([] : Bs), sv ([] : Bs), .int .i64 0, .slice none 0 0, sv ([] : Bs), .bool false, sv ([] : Bs), .bool false] rfl rfl Tryz.underlying46 rfl (by kernel_rfl) (by kernel_rfl) (by kernel_rfl)) (.cons (.tmp rfl) .nil)) (Gext.refl w0 g) ⟨(([] : Bs), ([] : Bs), 0, [], ([] : Bs), false, ([] : Bs), false), 3, none, 0, rfl, Rep.nil, rfl, hF⟩
  ·replace hF := hF.2 hc7
   refine Ok.skip (Ok.thenN (Ok.seq (Ok.region (Ok.bat 2 [2, 4, 6] [(36, sv ((schS xs).1)), (37, pv bs4 0)] ?_))))
   refine Ok.op rfl (OpOk.sto (k := 1) (v := sv ((schS xs).1)) 0 #[sv ((schS xs).1), sv ([] : Bs), .int .i64 0, .slice none 0 0, sv ([] : Bs), .bool false, sv ([] : Bs), .bool false] rfl rfl rfl ?_)
   refine Ok.nil (Ok.thenN (Ok.seq (Ok.region (Ok.bat 1 [2, 4, 6] [(38, sv ((cpfM (schS xs).2.1 ([47, 47] : Bs)).1))] ?_))))
   obtain ⟨hp8, hF⟩ := hF
   refine Ok.op rfl (OpOk.callG (v := .int .i64 (uparV0 xs)) enr (fun W hW => ixa_c (cpfM (schS xs).2.1 ([47, 47] : Bs)).1 ([47, 63, 35] : Bs) hp8) rfl ?_)
   refine Ok.bat 1 [2, 4, 6] [(9, .int .i64 (uparV0 xs))] ?_
   refine Ok.nil (Ok.thenN (Ok.cut (fun a W => ∃ gj29 : Ghost, Gext w0 g gj29 ∧ StA 74 [(2, pv bs2 0), (4, pv bs4 0), (6, sv ((cpfM (schS xs).2.1 ([47, 47] : Bs)).1)), (9, .int .i64 (uparV1 xs))] a ∧ StW w0 [.blk bs4 (.cells #[sv ((schS xs).1), sv ([] : Bs), .int .i64 0, .slice none 0 0, sv ([] : Bs), .bool false, sv ([] : Bs), .bool false] 46), .blk bs2 (.cells #[sv ([] : Bs), sv ([] : Bs), .int .i64 0, .slice none 0 0, sv ([] : Bs), .bool false, sv ([] : Bs), .bool false] 46)] gj29 W ∧ uparj29 xs K) ?_ ?_))
   ·
    refine Ok.seq (Ok.region (Ok.bat 2 [2, 4, 6, 9] [(41, .bool (decide ((uparV0 xs) < 0)))] ?_))
    refine Ok.nil (Ok.thenN (Ok.cond (b := decide ((uparV0 xs) < 0)) rfl (fun hc23 => ?_) (fun hc23 => ?_)))
    ·replace hF := hF.1 hc23
     refine Ok.region (Ok.bat 3 [2, 4, 6] [(9, .int .i64 ((cpfM (schS xs).2.1 ([47, 47] : Bs)).1.length : Int))] ?_)
     refine Ok.nil (Ok.thenN (Ok.reval 9 rfl (show (.int .i64 ((cpfM (schS xs).2.1 ([47, 47] : Bs)).1.length : Int) : Value) = .int .i64 (uparV1 xs) from congrArg (Value.int .i64) ((if_t hc23).symm)) ?_))
     exact fun a W hA hW => ⟨g, (Gext.refl w0 g), hA.sub (by kernel_rfl), hW, hF⟩
    ·replace hF := hF.2 hc23
     refine Ok.skip (Ok.thenN (Ok.reval 9 rfl (show (.int .i64 (uparV0 xs) : Value) = .int .i64 (uparV1 xs) from congrArg (Value.int .i64) ((if_f hc23).symm)) ?_))
     exact fun a W hA hW => ⟨g, (Gext.refl w0 g), hA.sub (by kernel_rfl), hW, hF⟩
   ·
    clear hF
    rintro a W ⟨gj29, hxj29, hA, hW, hF⟩
    refine (?_ : Ok _ _ _ _ _ _) a W hA hW
    clear hA hW
    replace hG0 := hG0.mono hxj29.1
    replace hG2 := hG2.mono hxj29.1
    replace hG3 := hG3.mono hxj29.1
    replace hG4 := hG4.mono hxj29.1
    replace hG5 := hG5.mono hxj29.1
    refine Ok.seq (Ok.seq (Ok.region (Ok.bat 2 [2, 4, 6, 9] [(44, sv ((cpfM (schS xs).2.1 ([47, 47] : Bs)).1)), (45, .int .i64 (uparV1 xs))] ?_)))
    obtain ⟨h09, h19, h29, hF⟩ := hF
    refine Ok.op rfl (OpOk.step (v := sv ((cpfM (schS xs).2.1 ([47, 47] : Bs)).1.take (Int.toNat (uparV1 xs)))) (Yields.sliceStr (s := (cpfM (schS xs).2.1 ([47, 47] : Bs)).1) (l := 0) (h := (uparV1 xs)) (by kernel_rfl) Tryz.underlying9 (.inr ⟨rfl, rfl⟩) (.inl ⟨_, _, rfl, rfl⟩) h09 h19 h29 ((cpfM (schS xs).2.1 ([47, 47] : Bs)).1.take (Int.toNat (uparV1 xs))) (by simp)) rfl rfl ?_)
    obtain ⟨hp10, hF⟩ := hF
    refine Ok.op rfl (OpOk.callH [_] _ enr rfl (uplc_c ((schS xs).1, ([] : Bs), 0, [], ([] : Bs), false, ([] : Bs), false) ((cpfM (schS xs).2.1 ([47, 47] : Bs)).1.take (Int.toNat (uparV1 xs))) Rep.nil hG0 hG2 hG3 hG4 hG5 hp10) rfl fun g11 _ _ hx11 hV11 => ?_)
    obtain ⟨a11_0, c11_0, rfl, hR11_0, rfl⟩ := hV11
    replace hG0 := hG0.mono hx11.1
    replace hG2 := hG2.mono hx11.1
    replace hG3 := hG3.mono hx11.1
    replace hG4 := hG4.mono hx11.1
    replace hG5 := hG5.mono hx11.1
    refine Ok.bat 1 [2, 4, 6, 9] [(48, .bool (!(uparV2 xs).1))] ?_
    refine Ok.nil (Ok.thenN (Ok.cond (b := !(uparV2 xs).1) rfl (fun hc12 => ?_) (fun hc12 => ?_)))
    ·replace hF := hF.1 hc12
     refine Ok.seq (Ok.region (Ok.bat 1 [2] [(49, .agg #[sv ([] : Bs), sv ([] : Bs), .int .i64 0, .slice none 0 0, sv ([] : Bs), .bool false, sv ([] : Bs), .bool false])] ?_))
     refine Ok.op rfl (OpOk.sto (k := 8) (v := .agg #[sv ([] : Bs), sv ([] : Bs), .int .i64 0, .slice none 0 0, sv ([] : Bs), .bool false, sv ([] : Bs), .bool false]) 1 #[sv ([] : Bs), sv ([] : Bs), .int .i64 0, .slice none 0 0, sv ([] : Bs), .bool false, sv ([] : Bs), .bool false] rfl rfl rfl ?_)
     refine Ok.bat 1 [2] [(3, .int .i64 3)] ?_
     refine Ok.nil (Ok.thenN (Ok.ret (Ok.thenR ?_)))
     exact Ok.resP (vs := [.agg #[sv ([] : Bs), sv ([] : Bs), .int .i64 0, .slice none 0 0, sv ([] : Bs), .bool false, sv ([] : Bs), .bool false], .int .i64 3]) [] [] (by decide) rfl (.inl rfl) rfl (.cons (.cellAgg 1 8 #[sv ([] : Bs), sv ([] : Bs), .int .i64 0, .slice none 0 0, sv ([] : Bs), .bool false, sv ([] : Bs), .bool false] rfl rfl Tryz.underlying46 rfl (by kernel_rfl) (by kernel_rfl) (by kernel_rfl)) (.cons (.tmp rfl) .nil)) (hxj29.trans hx11) ⟨(([] : Bs), ([] : Bs), 0, [], ([] : Bs), false, ([] : Bs), false), 3, none, 0, rfl, Rep.nil, rfl, hF⟩
    ·replace hF := hF.2 hc12
     refine Ok.skip (Ok.thenN (Ok.seq (Ok.region (Ok.bat 2 [2, 4] [(51, sv ((cpfM (schS xs).2.1 ([47, 47] : Bs)).1)), (52, .int .i64 (uparV1 xs))] ?_))))
     obtain ⟨h013, h113, h213, hF⟩ := hF
     refine Ok.op rfl (OpOk.step (v := sv ((cpfM (schS xs).2.1 ([47, 47] : Bs)).1.drop (Int.toNat (uparV1 xs)))) (Yields.sliceStr (s := (cpfM (schS xs).2.1 ([47, 47] : Bs)).1) (l := (uparV1 xs)) (h := ((cpfM (schS xs).2.1 ([47, 47] : Bs)).1.length : Int)) (by kernel_rfl) Tryz.underlying9 (.inl ⟨_, _, rfl, rfl⟩) (.inr ⟨rfl, rfl⟩) h013 h113 h213 ((cpfM (schS xs).2.1 ([47, 47] : Bs)).1.drop (Int.toNat (uparV1 xs))) (by rw [show (((cpfM (schS xs).2.1 ([47, 47] : Bs)).1.length : Int)).toNat = (cpfM (schS xs).2.1 ([47, 47] : Bs)).1.length from Int.toNat_natCast _, List.take_length])) rfl rfl ?_)
     obtain ⟨hp14, hF⟩ := hF
     refine Ok.op rfl (OpOk.callH [_] _ enr rfl (utail_c (uparV2 xs).2 ((cpfM (schS xs).2.1 ([47, 47] : Bs)).1.drop (Int.toNat (uparV1 xs))) hR11_0 hG0 hp14) rfl fun g15 _ _ hx15 hV15 => ?_)
     obtain ⟨a15_0, c15_0, rfl, hR15_0, rfl⟩ := hV15
     replace hG0 := hG0.mono hx15.1
     replace hG2 := hG2.mono hx15.1
     replace hG3 := hG3.mono hx15.1
     replace hG4 := hG4.mono hx15.1
     replace hG5 := hG5.mono hx15.1
     refine Ok.bat 5 [2, 4] [(10, sv ((uparV3 xs).1)), (11, .bool (uparV3 xs).2.1)] ?_
     refine Ok.nil (Ok.thenN (Ok.seq (Ok.region (Ok.bat 1 [2, 4, 11] [(58, sv ((uparV3 xs).1))] ?_))))
     refine Ok.op rfl (OpOk.callG (v := sv (tpfM (uparV3 xs).1 ([47] : Bs))) enr (fun W hW => tpf_c (uparV3 xs).1 ([47] : Bs)) rfl ?_)
     obtain ⟨hp16, hF⟩ := hF
     refine Ok.op rfl (OpOk.callH [] _ enr rfl (useg_c (tpfM (uparV3 xs).1 ([47] : Bs)) hG0 hp16) rfl fun g17 _ _ hx17 hV17 => ?_)
     obtain ⟨a17_0, c17_0, rfl, hR17_0, rfl⟩ := hV17
     replace hR15_0 := hR15_0.mono hx17.1
     replace hG0 := hG0.mono hx17.1
     replace hG2 := hG2.mono hx17.1
     replace hG3 := hG3.mono hx17.1
     replace hG4 := hG4.mono hx17.1
     replace hG5 := hG5.mono hx17.1
     refine Ok.bat 5 [2, 4, 11] [(12, .slice a17_0 (segS (tpfM (uparV3 xs).1 ([47] : Bs))).1.length c17_0), (13, .bool (segS (tpfM (uparV3 xs).1 ([47] : Bs))).2)] ?_
     refine Ok.nil (Ok.thenN (Ok.seq (Ok.seq (Ok.region (Ok.bat 3 [2, 4, 12, 13] [(65, .bool (!(uparV3 xs).2.1))] ?_)))))
     refine Ok.midway 3 [(2, pv bs2 0), (4, pv bs4 0), (12, .slice a17_0 (segS (tpfM (uparV3 xs).1 ([47] : Bs))).1.length c17_0), (68, .bool ((!(uparV3 xs).2.1) || (!(segS (tpfM (uparV3 xs).1 ([47] : Bs))).2)))] (fun hR18 => ?_) ?_
     ·refine Ok.boolAt 65 (!(uparV3 xs).2.1) rfl (fun hc19 => ?_) (fun hc19 => ?_)
      ·skip
       refine Ok.bat 3 [2, 4, 12] [(68, .bool true)] ?_
       refine Ok.reval 68 rfl (show (.bool true : Value) = .bool ((!(uparV3 xs).2.1) || (!(segS (tpfM (uparV3 xs).1 ([47] : Bs))).2)) from congrArg Value.bool (mor_t hc19)) (Ok.bat 0 [2, 4, 12] [(68, .bool ((!(uparV3 xs).2.1) || (!(segS (tpfM (uparV3 xs).1 ([47] : Bs))).2)))] ?_)
       exact hR18
      ·skip
       refine Ok.bat 3 [2, 4, 12] [(68, .bool (!(segS (tpfM (uparV3 xs).1 ([47] : Bs))).2))] ?_
       refine Ok.reval 68 rfl (show (.bool (!(segS (tpfM (uparV3 xs).1 ([47] : Bs))).2) : Value) = .bool ((!(uparV3 xs).2.1) || (!(segS (tpfM (uparV3 xs).1 ([47] : Bs))).2)) from congrArg Value.bool (mor_f hc19)) (Ok.bat 0 [2, 4, 12] [(68, .bool ((!(uparV3 xs).2.1) || (!(segS (tpfM (uparV3 xs).1 ([47] : Bs))).2)))] ?_)
       exact hR18
     refine Ok.nil (Ok.thenN (Ok.cond (b := ((!(uparV3 xs).2.1) || (!(segS (tpfM (uparV3 xs).1 ([47] : Bs))).2))) rfl (fun hc20 => ?_) (fun hc20 => ?_)))
     ·replace hF := hF.1 hc20
      refine Ok.seq (Ok.region (Ok.bat 1 [2] [(69, .agg #[sv ([] : Bs), sv ([] : Bs), .int .i64 0, .slice none 0 0, sv ([] : Bs), .bool false, sv ([] : Bs), .bool false])] ?_))
      refine Ok.op rfl (OpOk.sto (k := 8) (v := .agg #[sv ([] : Bs), sv ([] : Bs), .int .i64 0, .slice none 0 0, sv ([] : Bs), .bool false, sv ([] : Bs), .bool false]) 1 #[sv ([] : Bs), sv ([] : Bs), .int .i64 0, .slice none 0 0, sv ([] : Bs), .bool false, sv ([] : Bs), .bool false] rfl rfl rfl ?_)
      refine Ok.bat 1 [2] [(3, .int .i64 3)] ?_
      refine Ok.nil (Ok.thenN (Ok.ret (Ok.thenR ?_)))
      exact Ok.resP (vs := [.agg #[sv ([] : Bs), sv ([] : Bs), .int .i64 0, .slice none 0 0, sv ([] : Bs), .bool false, sv ([] : Bs), .bool false], .int .i64 3]) [] [] (by decide) rfl (.inl rfl) rfl (.cons (.cellAgg 1 8 #[sv ([] : Bs), sv ([] : Bs), .int .i64 0, .slice none 0 0, sv ([] : Bs), .bool false, sv ([] : Bs), .bool false] rfl rfl Tryz.underlying46 rfl (by kernel_rfl) (by kernel_rfl) (by kernel_rfl)) (.cons (.tmp rfl) .nil)) (((hxj29.trans hx11).trans hx15).trans hx17) ⟨(([] : Bs), ([] : Bs), 0, [], ([] : Bs), false, ([] : Bs), false), 3, none, 0, rfl, Rep.nil, rfl, hF⟩
     ·replace hF := hF.2 hc20
      refine Ok.skip (Ok.thenN (Ok.seq (Ok.region (Ok.bat 1 [2, 4] [(70, .slice a17_0 (segS (tpfM (uparV3 xs).1 ([47] : Bs))).1.length c17_0)] ?_))))
      obtain ⟨hp21, hF⟩ := hF
      refine Ok.op rfl (OpOk.callH [] _ enr rfl (utidy_c (segS (tpfM (uparV3 xs).1 ([47] : Bs))).1 hR17_0 hp21) rfl fun g22 _ _ hx22 hV22 => ?_)
      obtain ⟨a22_0, c22_0, rfl, hR22_0, rfl⟩ := hV22
      replace hR17_0 := hR17_0.mono hx22.1
      replace hR15_0 := hR15_0.mono hx22.1
      replace hG0 := hG0.mono hx22.1
      replace hG2 := hG2.mono hx22.1
      replace hG3 := hG3.mono hx22.1
      replace hG4 := hG4.mono hx22.1
      replace hG5 := hG5.mono hx22.1
      refine Ok.bat 1 [2, 4] [(71, .slice a22_0 (tidyS (segS (tpfM (uparV3 xs).1 ([47] : Bs))).1).length c22_0), (72, pv bs4 3)] ?_
      refine Ok.op rfl (OpOk.sto (k := 1) (v := .slice a22_0 (tidyS (segS (tpfM (uparV3 xs).1 ([47] : Bs))).1).length c22_0) 0 #[sv ((uparV3 xs).2.2.1), sv ((uparV3 xs).2.2.2.1), .int .i64 (uparV3 xs).2.2.2.2.1, .slice a22_0 (tidyS (segS (tpfM (uparV3 xs).1 ([47] : Bs))).1).length c22_0, sv ((uparV3 xs).2.2.2.2.2.2.1), .bool (uparV3 xs).2.2.2.2.2.2.2.1, sv ((uparV3 xs).2.2.2.2.2.2.2.2.1), .bool (uparV3 xs).2.2.2.2.2.2.2.2.2] rfl rfl rfl ?_)
      refine Ok.nil (Ok.thenN (Ok.seq (Ok.region (Ok.op rfl (OpOk.step (v := .agg #[sv ((uparV3 xs).2.2.1), sv ((uparV3 xs).2.2.2.1), .int .i64 (uparV3 xs).2.2.2.2.1, .slice a22_0 (tidyS (segS (tpfM (uparV3 xs).1 ([47] : Bs))).1).length c22_0, sv ((uparV3 xs).2.2.2.2.2.2.1), .bool (uparV3 xs).2.2.2.2.2.2.2.1, sv ((uparV3 xs).2.2.2.2.2.2.2.2.1), .bool (uparV3 xs).2.2.2.2.2.2.2.2.2]) (Yields.loadAgg 0 8 #[sv ((uparV3 xs).2.2.1), sv ((uparV3 xs).2.2.2.1), .int .i64 (uparV3 xs).2.2.2.2.1, .slice a22_0 (tidyS (segS (tpfM (uparV3 xs).1 ([47] : Bs))).1).length c22_0, sv ((uparV3 xs).2.2.2.2.2.2.1), .bool (uparV3 xs).2.2.2.2.2.2.2.1, sv ((uparV3 xs).2.2.2.2.2.2.2.2.1), .bool (uparV3 xs).2.2.2.2.2.2.2.2.2] rfl rfl Tryz.underlying46 rfl (by kernel_rfl) (by kernel_rfl) (by kernel_rfl)) rfl rfl (Ok.op rfl (OpOk.sto (k := 8) (v := .agg #[sv ((uparV3 xs).2.2.1), sv ((uparV3 xs).2.2.2.1), .int .i64 (uparV3 xs).2.2.2.2.1, .slice a22_0 (tidyS (segS (tpfM (uparV3 xs).1 ([47] : Bs))).1).length c22_0, sv ((uparV3 xs).2.2.2.2.2.2.1), .bool (uparV3 xs).2.2.2.2.2.2.2.1, sv ((uparV3 xs).2.2.2.2.2.2.2.2.1), .bool (uparV3 xs).2.2.2.2.2.2.2.2.2]) 1 #[sv ((uparV3 xs).2.2.1), sv ((uparV3 xs).2.2.2.1), .int .i64 (uparV3 xs).2.2.2.2.1, .slice a22_0 (tidyS (segS (tpfM (uparV3 xs).1 ([47] : Bs))).1).length c22_0, sv ((uparV3 xs).2.2.2.2.2.2.1), .bool (uparV3 xs).2.2.2.2.2.2.2.1, sv ((uparV3 xs).2.2.2.2.2.2.2.2.1), .bool (uparV3 xs).2.2.2.2.2.2.2.2.2] rfl rfl rfl ?_)))))))
      refine Ok.bat 1 [2] [(3, .int .i64 0)] ?_
      refine Ok.nil (Ok.thenN (Ok.ret ?_))
      exact Ok.resP (vs := [.agg #[sv ((uparV3 xs).2.2.1), sv ((uparV3 xs).2.2.2.1), .int .i64 (uparV3 xs).2.2.2.2.1, .slice a22_0 (tidyS (segS (tpfM (uparV3 xs).1 ([47] : Bs))).1).length c22_0, sv ((uparV3 xs).2.2.2.2.2.2.1), .bool (uparV3 xs).2.2.2.2.2.2.2.1, sv ((uparV3 xs).2.2.2.2.2.2.2.2.1), .bool (uparV3 xs).2.2.2.2.2.2.2.2.2], .int .i64 0]) [] [] (by decide) rfl (.inl rfl) rfl (.cons (.cellAgg 1 8 #[sv ((uparV3 xs).2.2.1), sv ((uparV3 xs).2.2.2.1), .int .i64 (uparV3 xs).2.2.2.2.1, .slice a22_0 (tidyS (segS (tpfM (uparV3 xs).1 ([47] : Bs))).1).length c22_0, sv ((uparV3 xs).2.2.2.2.2.2.1), .bool (uparV3 xs).2.2.2.2.2.2.2.1, sv ((uparV3 xs).2.2.2.2.2.2.2.2.1), .bool (uparV3 xs).2.2.2.2.2.2.2.2.2] rfl rfl Tryz.underlying46 rfl (by kernel_rfl) (by kernel_rfl) (by kernel_rfl)) (.cons (.tmp rfl) .nil)) ((((hxj29.trans hx11).trans hx15).trans hx17).trans hx22) ⟨((uparV3 xs).2.2.1, (uparV3 xs).2.2.2.1, (uparV3 xs).2.2.2.2.1, (tidyS (segS (tpfM (uparV3 xs).1 ([47] : Bs))).1), (uparV3 xs).2.2.2.2.2.2.1, (uparV3 xs).2.2.2.2.2.2.2.1, (uparV3 xs).2.2.2.2.2.2.2.2.1, (uparV3 xs).2.2.2.2.2.2.2.2.2), 0, a22_0, c22_0, rfl, hR22_0, rfl, hF⟩
theorem upar_F (s : Bs) : uparF s (fun a b => (a, b) = parS s) := by
 rw [parS_eq]
 unfold parS0
 refine ⟨fun h => by rw [if_t h]; rfl, fun h => ?_⟩
 rw [if_f h]
 have h5 := of_decide_eq_false h
 refine ⟨by unfold smP; omega, fun h => ?_, fun h => ?_⟩
 ·rw [if_pos (show (!((schS s).2.2) || !((restS s).2)) = true from h)]; rfl
 ·rw [if_f (show (!((schS s).2.2) || !((restS s).2)) = false from h)]
  have hr := rest_len s
  obtain ⟨i1, i2, i3, i4⟩ := ixa_cut (restS s).1
  have hl := prt_len (restS s).1 MK
  have e1 : ((restS s).1.take (Int.toNat (uparV1 s))) = (prtS (restS s).1 MK).1 := i3
  have e2 : ((restS s).1.drop (Int.toNat (uparV1 s))) = (prtS (restS s).1 MK).2 := i4
  have v2 : uparV2 s = parP s := by
   show plcS _ ((restS s).1.take (Int.toNat (uparV1 s))) = _
   rw [e1]; rfl
  have v3 : uparV3 s = parT s := by
   show tailS (uparV2 s).2 ((restS s).1.drop (Int.toNat (uparV1 s))) = _
   rw [e2, v2]; rfl
  have htl : (parT s).1.length ≤ (prtS (restS s).1 MK).2.length := tail_len _ _
  have htp := tpf_len (parT s).1 [47]
  have hsg := seg_len (tpfM (parT s).1 [47])
  have j29 : uparj29 s (fun a b => (a, b) = if (!((parP s).1)) = true then (ju0, 3) else if (!((parT s).2.1) || !((parG s).2)) = true then (ju0, 3) else (parU s, 0)) := by
   unfold uparj29
   rw [v2, v3]
   refine ⟨by omega, i1, i2, ?_, fun h => by rw [if_t h]; rfl, fun h => ?_⟩
   ·show (List.take (Int.toNat (uparV1 s)) (restS s).1).length ≤ 1000
    rw [e1]; omega
   ·rw [if_f h]
    refine ⟨i1, i2, by omega, ?_, ?_, fun h2 => ?_, fun h2 => ⟨?_, ?_⟩⟩
    ·show (List.drop (Int.toNat (uparV1 s)) (restS s).1).length ≤ 4000
     rw [e2]; omega
    ·unfold smP; omega
    ·rw [if_pos (show (!((parT s).2.1) || !((parG s).2)) = true from h2)]; rfl
    ·unfold tidyP; omega
    ·rw [if_f (show (!((parT s).2.1) || !((parG s).2)) = false from h2)]; rfl
  exact ⟨⟨by show (restS s).1.length ≤ _; omega, rfl⟩, fun _ => j29, fun _ => j29⟩
theorem upar_c {g : Ghost} (xs : Bs) (hG0 : SomeInt g 0) (hG2 : SomeIf g 2) (hG3 : SomeIf g 3) (hG4 : GlobL g 4 (.int .u8) DFirst) (hG5 : GlobL g 5 (.pair (.int .u8) (.int .u8)) DAcc)  : CallsH Tryz.prog 20 #[sv xs] g [] (fun g' H' v => ∃ (ar0_0 : Option Addr) (cr0_0 : Nat), v = .tuple #[.agg #[sv ((parS xs).1.1), sv ((parS xs).1.2.1), .int .i64 (parS xs).1.2.2.1, .slice ar0_0 (parS xs).1.2.2.2.1.length cr0_0, sv ((parS xs).1.2.2.2.2.1), .bool (parS xs).1.2.2.2.2.2.1, sv ((parS xs).1.2.2.2.2.2.2.1), .bool (parS xs).1.2.2.2.2.2.2.2], .int .i64 (parS xs).2] ∧ Rep g' (.slice (.str)) [.slice ar0_0 (parS xs).1.2.2.2.1.length cr0_0] (parS xs).1.2.2.2.1 ∧ H' = []) :=
 (upar_ok xs hG0 hG2 hG3 hG4 hG5 _ (upar_F xs)).mono (by rintro g' H' v _ ⟨r0, r1, ar0_0, cr0_0, rfl, hRr0_0, rfl, hK⟩; obtain ⟨rfl, rfl⟩ : r0 = (parS xs).1 ∧ r1 = (parS xs).2 := ⟨congrArg (fun z => z.1) hK, congrArg (fun z => z.2) hK⟩; exact ⟨ar0_0, cr0_0, rfl, hRr0_0, rfl⟩)
/-! Origin -/
theorem plc_ori (u : JU) (s : Bs) (h1 : u.1.length ≤ 1000) (h2 : s.length ≤ 1000) (h3 : u.2.2.1 = 0) : oriP (plcS u s).2 := by
 have hc := cutS_len 58 s
 have hsl := small_len (cutS s [58]).1
 have hh : (plcH s).length ≤ 100000000 := by unfold plcH; omega
 have base : oriP (u.1, plcH s, u.2.2) := ⟨by show u.1.length ≤ _; omega, hh, by show itoaP u.2.2.1; rw [h3]; exact ⟨by decide, by decide⟩⟩
 rw [plcS_eq]
 unfold plcS0
 split
 ·exact base
 ·split
  ·exact base
  ·split
   ·exact base
   ·split
    ·exact base
    ·rename_i hb
     have hb : badN (atoiS (cutS s [58]).2.1).1 = false := by simpa using hb
     unfold badN at hb
     rw [Bool.or_eq_false_iff] at hb
     have b1 := of_decide_eq_false hb.1
     have b2 := of_decide_eq_false hb.2
     refine ⟨by show u.1.length ≤ _; omega, hh, ?_⟩
     show itoaP (if _ then _ else _)
     split
     ·exact ⟨by omega, by omega⟩
     ·rw [h3]; exact ⟨by decide, by decide⟩
theorem ju0_ori : oriP ju0 := ⟨by decide, by decide, by decide, by decide⟩
theorem par_ori (s : Bs) : oriP (parS s).1 := by
 rw [parS_eq]
 unfold parS0
 split
 ·exact ju0_ori
 ·rename_i h
  have h5 : s.length ≤ 500 := by
   have h : decide ((s.length : Int) > 500) = false := by simpa using h
   have := of_decide_eq_false h; omega
  split
  ·exact ju0_ori
  ·split
   ·exact ju0_ori
   ·split
    ·exact ju0_ori
    ·have hr := rest_len s
     have hl := prt_len (restS s).1 MK
     have hs := sch_len s
     have h := plc_ori ((schS s).1, [], 0, [], [], false, [], false) (prtS (restS s).1 MK).1 (by show (schS s).1.length ≤ _; omega) (by omega) rfl
     obtain ⟨k1, k2, k3, -⟩ := tail_keep (parP s).2 (prtS (restS s).1 MK).2
     refine ⟨?_, ?_, ?_⟩
     ·show (parT s).2.2.1.length ≤ _
      rw [show (parT s).2.2.1 = (parP s).2.1 from k1]; exact h.1
     ·show (parT s).2.2.2.1.length ≤ _
      rw [show (parT s).2.2.2.1 = (parP s).2.2.1 from k2]; exact h.2.1
     ·show itoaP (parT s).2.2.2.2.1
      rw [show (parT s).2.2.2.2.1 = (parP s).2.2.2.1 from k3]; exact h.2.2
end
end Go.Proofs.YtdjcgbejnpbjlaaGreatDoor.Ub
