/- csstok: a number with its unit. -/
import Derived.Test.YtcnhdkhkadiohaaGreatDoorCst
namespace Go.Proofs.YtcnhdkhkadiohaaGreatDoor.Css
open Go Go.Eng Bld Trm
set_option maxHeartbeats 4000000
set_option maxRecDepth 100000
set_option linter.unusedSimpArgs false
set_option linter.unusedVariables false
def numberP (s : Bs) (_ : Int) (a : Int) : Prop := nameP s ∧ 0 ≤ a ∧ a ≤ s.length
theorem lowerP_name {s : Bs} (h : nameP s) : lowerP (nameS s).1 := nameS_val h
theorem hp_one {s : Bs} {a : Int} (h : hpM (s.drop a.toNat) ([37] : Bs) = true) (h0 : 0 ≤ a) (h1 : nameP s) : w6 (a + 1) ≤ s.length ∧ 0 ≤ w6 (a + 1) := by
 have := slhp_len (s := s.drop a.toNat) (p := [37]) h
 rw [List.length_drop] at this
 simp at this
 unfold nameP at h1
 rw [w64 (by omega)]
 omega
def numberV0 (xs : Bs) (xn : Int) : Bs :=
 (if (hpM (xs.drop (Int.toNat xn)) ([37] : Bs)) = true then xs.take (Int.toNat (w6 (xn + 1))) else (if (begM (xs.drop (Int.toNat xn))) = true then xs.take (Int.toNat (w6 (xn + (nameS (xs.drop (Int.toNat xn))).2))) else xs.take (Int.toNat xn)))
def numberV1 (xs : Bs) (xn : Int) : Bs :=
 (if (hpM (xs.drop (Int.toNat xn)) ([37] : Bs)) = true then ([37] : Bs) else (if (begM (xs.drop (Int.toNat xn))) = true then (lowerS (nameS (xs.drop (Int.toNat xn))).1) else ([] : Bs)))
def numberj5 (xs : Bs) (xnum : Int) (xn : Int) (K : (Int × Bs × Bs × Int) → Prop) : Prop :=
 K (7, (numberV0 xs xn), (numberV1 xs xn), xnum)
def numberF (xs : Bs) (xnum : Int) (xn : Int) (K : (Int × Bs × Bs × Int) → Prop) : Prop :=
 (0 : Int) ≤ 0 ∧ (0 : Int) ≤ xn ∧ xn ≤ (xs.length : Int) ∧ (0 : Int) ≤ xn ∧ (xn : Int) ≤ (xs.length : Int) ∧ (xs.length : Int) ≤ (xs.length : Int) ∧ (((hpM (xs.drop (Int.toNat xn)) ([37] : Bs))) = true → (0 : Int) ≤ 0 ∧ (0 : Int) ≤ (w6 (xn + 1)) ∧ (w6 (xn + 1)) ≤ (xs.length : Int) ∧ numberj5 xs xnum xn K) ∧ (((hpM (xs.drop (Int.toNat xn)) ([37] : Bs))) = false → (((begM (xs.drop (Int.toNat xn)))) = true → nameP (xs.drop (Int.toNat xn)) ∧ (0 : Int) ≤ 0 ∧ (0 : Int) ≤ (w6 (xn + (nameS (xs.drop (Int.toNat xn))).2)) ∧ (w6 (xn + (nameS (xs.drop (Int.toNat xn))).2)) ≤ (xs.length : Int) ∧ lowerP (nameS (xs.drop (Int.toNat xn))).1 ∧ numberj5 xs xnum xn K) ∧ (((begM (xs.drop (Int.toNat xn)))) = false → numberj5 xs xnum xn K))
theorem number_ok {g : Ghost} (xs : Bs) (xnum : Int) (xn : Int) (K : (Int × Bs × Bs × Int) → Prop)
  (hF : numberF xs xnum xn K) : CallsH Tryz.prog 70 #[sv xs, .int .i64 xnum, .int .i64 xn] g [] (fun g' H' v => ∃ (r0 : Int × Bs × Bs × Int), v = .agg #[.int .i64 r0.1, sv r0.2.1, sv r0.2.2.1, .int .i64 r0.2.2.2] ∧ H' = [] ∧ K r0) := by
 refine CallsH.enter 44 [(0, sv xs), (1, .int .i64 xnum), (2, .int .i64 xn)] Tryz.func70 rfl (by kernel_rfl) (by kernel_rfl) (by kernel_rfl) fun w0 => ?_
 refine Ok.seq (Ok.region (Ok.op rfl (OpOk.alloc (z := .agg #[.int .i64 0, sv ([] : Bs), sv ([] : Bs), .int .i64 0]) (cs := #[.int .i64 0, sv ([] : Bs), sv ([] : Bs), .int .i64 0]) (by kernel_rfl) (by kernel_rfl) rfl fun bs6 => ?_)))
 refine Ok.nil (Ok.thenN (Ok.seq (Ok.region (Ok.batch 2 [(0, sv xs), (1, .int .i64 xnum), (2, .int .i64 xn), (6, pv bs6 0), (11, sv xs), (12, .int .i64 xn)] (by kernel_rfl) ?_))))
 obtain ⟨h02, h12, h22, hF⟩ := hF
 refine Ok.op rfl (OpOk.step (v := sv (xs.take (Int.toNat xn))) (Yields.sliceStr (s := xs) (l := 0) (h := xn) (by kernel_rfl) Tryz.underlying9 (.inr ⟨rfl, rfl⟩) (.inl ⟨_, _, rfl, rfl⟩) h02 h12 h22 (xs.take (Int.toNat xn)) (by simp)) rfl rfl (Ok.bat 2 [0, 2, 6] [(15, .agg #[.int .i64 7, sv (xs.take (Int.toNat xn)), sv ([] : Bs), .int .i64 xnum])] ?_))
 refine Ok.op rfl (OpOk.alloc (z := .agg #[.int .i64 0, sv ([] : Bs), sv ([] : Bs), .int .i64 0]) (cs := #[.int .i64 0, sv ([] : Bs), sv ([] : Bs), .int .i64 0]) (by kernel_rfl) (by kernel_rfl) rfl fun bs7 => ?_)
 refine Ok.op rfl (OpOk.sto (k := 4) (v := .agg #[.int .i64 7, sv (xs.take (Int.toNat xn)), sv ([] : Bs), .int .i64 xnum]) 0 #[.int .i64 7, sv (xs.take (Int.toNat xn)), sv ([] : Bs), .int .i64 xnum] rfl rfl rfl ?_)
 refine Ok.nil (Ok.thenN (Ok.cut (fun a W => StA 44 [(6, pv bs6 0), (7, pv bs7 0)] a ∧ StW w0 [.blk bs7 (.cells #[.int .i64 7, sv (numberV0 xs xn), sv (numberV1 xs xn), .int .i64 xnum] 78), .blk bs6 (.cells #[.int .i64 0, sv ([] : Bs), sv ([] : Bs), .int .i64 0] 78)] g W ∧ numberj5 xs xnum xn K) ?_ ?_))
 ·
  refine Ok.seq (Ok.region (Ok.bat 2 [0, 2, 6] [(7, pv bs7 0), (16, sv xs), (17, .int .i64 xn)] ?_))
  obtain ⟨h04, h14, h24, hF⟩ := hF
  refine Ok.op rfl (OpOk.step (v := sv (xs.drop (Int.toNat xn))) (Yields.sliceStr (s := xs) (l := xn) (h := (xs.length : Int)) (by kernel_rfl) Tryz.underlying9 (.inl ⟨_, _, rfl, rfl⟩) (.inr ⟨rfl, rfl⟩) h04 h14 h24 (xs.drop (Int.toNat xn)) (by rw [show ((xs.length : Int)).toNat = xs.length from Int.toNat_natCast _, List.take_length])) rfl rfl (Ok.bat 1 [0, 2, 6, 7] [(8, sv (xs.drop (Int.toNat xn)))] ?_))
  refine Ok.nil (Ok.thenN (Ok.seq (Ok.region (Ok.bat 1 [0, 2, 6, 7, 8] [(19, sv (xs.drop (Int.toNat xn)))] ?_))))
  refine Ok.op rfl (OpOk.callG (v := .bool (hpM (xs.drop (Int.toNat xn)) ([37] : Bs))) enr (fun W hW => hp_c (xs.drop (Int.toNat xn)) ([37] : Bs)) rfl ?_)
  refine Ok.nil (Ok.thenN (Ok.cond (b := (hpM (xs.drop (Int.toNat xn)) ([37] : Bs))) rfl (fun hc5 => ?_) (fun hc5 => ?_)))
  ·replace hF := hF.1 hc5
   refine Ok.region (Ok.bat 3 [6, 7] [(21, sv xs), (23, .int .i64 (w6 (xn + 1)))] ?_)
   obtain ⟨h06, h16, h26, hF⟩ := hF
   refine Ok.op rfl (OpOk.step (v := sv (xs.take (Int.toNat (w6 (xn + 1))))) (Yields.sliceStr (s := xs) (l := 0) (h := (w6 (xn + 1))) (by kernel_rfl) Tryz.underlying9 (.inr ⟨rfl, rfl⟩) (.inl ⟨_, _, rfl, rfl⟩) h06 h16 h26 (xs.take (Int.toNat (w6 (xn + 1)))) (by simp)) rfl rfl (Ok.bat 1 [6, 7] [(24, sv (xs.take (Int.toNat (w6 (xn + 1))))), (25, pv bs7 1)] ?_))
   refine Ok.op rfl (OpOk.sto (k := 1) (v := sv (xs.take (Int.toNat (w6 (xn + 1))))) 0 #[.int .i64 7, sv (xs.take (Int.toNat (w6 (xn + 1)))), sv ([] : Bs), .int .i64 xnum] rfl rfl rfl ?_)
   refine Ok.bat 1 [6, 7] [(26, pv bs7 2)] ?_
   refine Ok.op rfl (OpOk.sto (k := 1) (v := sv ([37] : Bs)) 0 #[.int .i64 7, sv (xs.take (Int.toNat (w6 (xn + 1)))), sv ([37] : Bs), .int .i64 xnum] rfl rfl rfl ?_)
   refine Ok.nil (Ok.thenN (Ok.heapEq (H' := [.blk bs7 (.cells #[.int .i64 7, sv (numberV0 xs xn), sv (numberV1 xs xn), .int .i64 xnum] 78), .blk bs6 (.cells #[.int .i64 0, sv ([] : Bs), sv ([] : Bs), .int .i64 0] 78)]) (econs (congrArg (fun l : List Value => Ent.blk bs7 (.cells ⟨l⟩ 78)) (lcons (rfl) (lcons (congrArg ((fun s : Bs => Value.string ⟨⟨s⟩⟩)) ((if_t hc5).symm)) (lcons (congrArg ((fun s : Bs => Value.string ⟨⟨s⟩⟩)) ((if_t hc5).symm)) (lcons (rfl) rfl))))) (econs (rfl) rfl)) ?_))
   exact fun a W hA hW => ⟨hA.sub (by kernel_rfl), hW, hF⟩
  ·replace hF := hF.2 hc5
   refine Ok.seq (Ok.region (Ok.bat 1 [0, 2, 6, 7, 8] [(27, sv (xs.drop (Int.toNat xn)))] ?_))
   refine Ok.op rfl (OpOk.callG (v := .bool (begM (xs.drop (Int.toNat xn)))) enr (fun W hW => beg_c (xs.drop (Int.toNat xn))) rfl ?_)
   refine Ok.nil (Ok.thenN (Ok.cond (b := (begM (xs.drop (Int.toNat xn)))) rfl (fun hc7 => ?_) (fun hc7 => ?_)))
   ·replace hF := hF.1 hc7
    refine Ok.seq (Ok.region (Ok.bat 1 [0, 2, 6, 7] [(30, sv (xs.drop (Int.toNat xn)))] ?_))
    obtain ⟨hp8, hF⟩ := hF
    refine Ok.op rfl (OpOk.callG (v := .tuple #[sv ((nameS (xs.drop (Int.toNat xn))).1), .int .i64 (nameS (xs.drop (Int.toNat xn))).2]) enr (fun W hW => name_c (xs.drop (Int.toNat xn)) hp8) rfl ?_)
    refine Ok.bat 5 [0, 2, 6, 7] [(9, sv ((nameS (xs.drop (Int.toNat xn))).1)), (10, .int .i64 (nameS (xs.drop (Int.toNat xn))).2)] ?_
    refine Ok.nil (Ok.thenN (Ok.mix [] [] [.blk bs6 (.cells #[.int .i64 0, sv ([] : Bs), sv ([] : Bs), .int .i64 0] 78)] [(0, true), (1, true), (2, true), (3, true), (4, true), (5, true), (6, true), (7, true), (8, false), (9, true), (10, false)] (by kernel_rfl) (by kernel_rfl) (.cons _ (.cons_cons _ .slnil)) (OkM.bat 4 [6, 7, 9] [(34, sv xs), (37, .int .i64 (w6 (xn + (nameS (xs.drop (Int.toNat xn))).2)))] ?_)))
    obtain ⟨h09, h19, h29, hF⟩ := hF
    refine OkM.head rfl rfl (show _ = [.blk bs6 (.cells #[.int .i64 0, sv ([] : Bs), sv ([] : Bs), .int .i64 0] 78)] from rfl) (OpQ.step (v := sv (xs.take (Int.toNat (w6 (xn + (nameS (xs.drop (Int.toNat xn))).2))))) (Yields.sliceStr (s := xs) (l := 0) (h := (w6 (xn + (nameS (xs.drop (Int.toNat xn))).2))) (by kernel_rfl) Tryz.underlying9 (.inr ⟨rfl, rfl⟩) (.inl ⟨_, _, rfl, rfl⟩) h09 h19 h29 (xs.take (Int.toNat (w6 (xn + (nameS (xs.drop (Int.toNat xn))).2)))) (by simp)) rfl rfl (OkM.bat 1 [6, 7] [(38, sv (xs.take (Int.toNat (w6 (xn + (nameS (xs.drop (Int.toNat xn))).2))))), (39, sv ((nameS (xs.drop (Int.toNat xn))).1))] ?_))
    obtain ⟨hp10, hF⟩ := hF
    refine OkM.head rfl rfl (show _ = [.blk bs6 (.cells #[.int .i64 0, sv ([] : Bs), sv ([] : Bs), .int .i64 0] 78)] from rfl) (OpQ.callG (v := sv (lowerS (nameS (xs.drop (Int.toNat xn))).1)) enr (fun W hW => lower_c (nameS (xs.drop (Int.toNat xn))).1 hp10) rfl ?_)
    refine OkM.bat 1 [6, 7, 38] [(40, sv (lowerS (nameS (xs.drop (Int.toNat xn))).1)), (41, pv bs7 1)] ?_
    refine OkM.tail rfl rfl (OpOk.sto (k := 1) (v := sv (xs.take (Int.toNat (w6 (xn + (nameS (xs.drop (Int.toNat xn))).2))))) 0 #[.int .i64 7, sv (xs.take (Int.toNat (w6 (xn + (nameS (xs.drop (Int.toNat xn))).2)))), sv ([] : Bs), .int .i64 xnum] rfl rfl rfl ?_)
    refine OkM.leaf (i := 8) (show _ = [.blk bs6 (.cells #[.int .i64 0, sv ([] : Bs), sv ([] : Bs), .int .i64 0] 78)] from rfl) (Gle.refl _) (.cons _ (.cons_cons _ .slnil)) (OkM.bat 1 [6, 7, 40] [(42, pv bs7 2)] ?_)
    refine OkM.tail rfl rfl (OpOk.sto (k := 1) (v := sv (lowerS (nameS (xs.drop (Int.toNat xn))).1)) 0 #[.int .i64 7, sv (xs.take (Int.toNat (w6 (xn + (nameS (xs.drop (Int.toNat xn))).2)))), sv (lowerS (nameS (xs.drop (Int.toNat xn))).1), .int .i64 xnum] rfl rfl rfl ?_)
    refine OkM.leaf (i := 10) (show _ = [.blk bs6 (.cells #[.int .i64 0, sv ([] : Bs), sv ([] : Bs), .int .i64 0] 78)] from rfl) (Gle.refl _) (.cons _ (.cons_cons _ .slnil)) (OkM.nil (Ok.thenN (Ok.heapEq (H' := [.blk bs7 (.cells #[.int .i64 7, sv (numberV0 xs xn), sv (numberV1 xs xn), .int .i64 xnum] 78), .blk bs6 (.cells #[.int .i64 0, sv ([] : Bs), sv ([] : Bs), .int .i64 0] 78)]) (econs (congrArg (fun l : List Value => Ent.blk bs7 (.cells ⟨l⟩ 78)) (lcons (rfl) (lcons (congrArg ((fun s : Bs => Value.string ⟨⟨s⟩⟩)) ((Eq.trans ((if_t hc7).symm) ((if_f hc5).symm)))) (lcons (congrArg ((fun s : Bs => Value.string ⟨⟨s⟩⟩)) ((Eq.trans ((if_t hc7).symm) ((if_f hc5).symm)))) (lcons (rfl) rfl))))) (econs (rfl) rfl)) ?_)))
    exact fun a W hA hW => ⟨hA.sub (by kernel_rfl), hW, hF⟩
   ·replace hF := hF.2 hc7
    refine Ok.skip (Ok.thenN (Ok.heapEq (H' := [.blk bs7 (.cells #[.int .i64 7, sv (numberV0 xs xn), sv (numberV1 xs xn), .int .i64 xnum] 78), .blk bs6 (.cells #[.int .i64 0, sv ([] : Bs), sv ([] : Bs), .int .i64 0] 78)]) (econs (congrArg (fun l : List Value => Ent.blk bs7 (.cells ⟨l⟩ 78)) (lcons (rfl) (lcons (congrArg ((fun s : Bs => Value.string ⟨⟨s⟩⟩)) ((Eq.trans ((if_f hc7).symm) ((if_f hc5).symm)))) (lcons (congrArg ((fun s : Bs => Value.string ⟨⟨s⟩⟩)) ((Eq.trans ((if_f hc7).symm) ((if_f hc5).symm)))) (lcons (rfl) rfl))))) (econs (rfl) rfl)) ?_))
    exact fun a W hA hW => ⟨hA.sub (by kernel_rfl), hW, hF⟩
 ·
  clear hF
  rintro a W ⟨hA, hW, hF⟩
  refine (?_ : Ok _ _ _ _ _ _) a W hA hW
  clear hA hW
  refine Ok.seq (Ok.region (Ok.op rfl (OpOk.step (v := .agg #[.int .i64 7, sv (numberV0 xs xn), sv (numberV1 xs xn), .int .i64 xnum]) (Yields.loadAgg 0 4 #[.int .i64 7, sv (numberV0 xs xn), sv (numberV1 xs xn), .int .i64 xnum] rfl rfl Tryz.underlying78 rfl (by kernel_rfl) (by kernel_rfl) (by kernel_rfl)) rfl rfl (Ok.op rfl (OpOk.sto (k := 4) (v := .agg #[.int .i64 7, sv (numberV0 xs xn), sv (numberV1 xs xn), .int .i64 xnum]) 1 #[.int .i64 7, sv (numberV0 xs xn), sv (numberV1 xs xn), .int .i64 xnum] rfl rfl rfl ?_)))))
  refine Ok.nil (Ok.thenN (Ok.ret ?_))
  exact Ok.resP (vs := [.agg #[.int .i64 7, sv (numberV0 xs xn), sv (numberV1 xs xn), .int .i64 xnum]]) [] [] (by decide) rfl (.inl rfl) rfl (.cons (.cellAgg 1 4 #[.int .i64 7, sv (numberV0 xs xn), sv (numberV1 xs xn), .int .i64 xnum] rfl rfl Tryz.underlying78 rfl (by kernel_rfl) (by kernel_rfl) (by kernel_rfl)) .nil) (Gext.refl w0 g) ⟨(7, (numberV0 xs xn), (numberV1 xs xn), xnum), rfl, rfl, hF⟩
def numberj5M (xs : Bs) (xnum : Int) (xn : Int) : (Int × Bs × Bs × Int) := (7, (numberV0 xs xn), (numberV1 xs xn), xnum)
theorem numberj5_A (xs : Bs) (xnum : Int) (xn : Int) (P : (Int × Bs × Bs × Int) → Prop) (h : P (numberj5M xs xnum xn)) : numberj5 xs xnum xn (fun k0 => P k0) := by
 unfold numberj5M at h
 unfold numberj5
 exact h
def numberM (xs : Bs) (xnum : Int) (xn : Int) : (Int × Bs × Bs × Int) := (numberj5M xs xnum xn)
theorem numberF_A (xs : Bs) (xnum : Int) (xn : Int) (hp : numberP xs xnum xn) (P : (Int × Bs × Bs × Int) → Prop) (h : P (numberM xs xnum xn)) : numberF xs xnum xn (fun k0 => P k0) := by
 unfold numberM at h
 unfold numberF
 refine ⟨?_, ?_, ?_, ?_⟩
 ·first | exact hp.2.2 | exact hp.2.1 | exact (hp_one hc0 hp.2.1 hp.1).2 | exact (hp_one hc0 hp.2.1 hp.1).1 | exact (ahead_ok hp.1 hp.2.1 hp.2.2).2 | exact (ahead_ok hp.1 hp.2.1 hp.2.2).1 | exact lowerP_name (nameP_drop hp.1 _) | exact nameP_drop hp.1 _ | omega | assumption | exact trivial | (have h0 := List.length_pos_iff.mpr (by assumption); omega) | (simp; omega) | (simp at *; omega)
 ·first | exact hp.2.2 | exact hp.2.1 | exact (hp_one hc0 hp.2.1 hp.1).2 | exact (hp_one hc0 hp.2.1 hp.1).1 | exact (ahead_ok hp.1 hp.2.1 hp.2.2).2 | exact (ahead_ok hp.1 hp.2.1 hp.2.2).1 | exact lowerP_name (nameP_drop hp.1 _) | exact nameP_drop hp.1 _ | omega | assumption | exact trivial | (have h0 := List.length_pos_iff.mpr (by assumption); omega) | (simp; omega) | (simp at *; omega)
 ·first | exact hp.2.2 | exact hp.2.1 | exact (hp_one hc0 hp.2.1 hp.1).2 | exact (hp_one hc0 hp.2.1 hp.1).1 | exact (ahead_ok hp.1 hp.2.1 hp.2.2).2 | exact (ahead_ok hp.1 hp.2.1 hp.2.2).1 | exact lowerP_name (nameP_drop hp.1 _) | exact nameP_drop hp.1 _ | omega | assumption | exact trivial | (have h0 := List.length_pos_iff.mpr (by assumption); omega) | (simp; omega) | (simp at *; omega)
 refine ⟨?_, ?_, ?_, ?_⟩
 ·first | exact hp.2.2 | exact hp.2.1 | exact (hp_one hc0 hp.2.1 hp.1).2 | exact (hp_one hc0 hp.2.1 hp.1).1 | exact (ahead_ok hp.1 hp.2.1 hp.2.2).2 | exact (ahead_ok hp.1 hp.2.1 hp.2.2).1 | exact lowerP_name (nameP_drop hp.1 _) | exact nameP_drop hp.1 _ | omega | assumption | exact trivial | (have h0 := List.length_pos_iff.mpr (by assumption); omega) | (simp; omega) | (simp at *; omega)
 ·first | exact hp.2.2 | exact hp.2.1 | exact (hp_one hc0 hp.2.1 hp.1).2 | exact (hp_one hc0 hp.2.1 hp.1).1 | exact (ahead_ok hp.1 hp.2.1 hp.2.2).2 | exact (ahead_ok hp.1 hp.2.1 hp.2.2).1 | exact lowerP_name (nameP_drop hp.1 _) | exact nameP_drop hp.1 _ | omega | assumption | exact trivial | (have h0 := List.length_pos_iff.mpr (by assumption); omega) | (simp; omega) | (simp at *; omega)
 ·first | exact hp.2.2 | exact hp.2.1 | exact (hp_one hc0 hp.2.1 hp.1).2 | exact (hp_one hc0 hp.2.1 hp.1).1 | exact (ahead_ok hp.1 hp.2.1 hp.2.2).2 | exact (ahead_ok hp.1 hp.2.1 hp.2.2).1 | exact lowerP_name (nameP_drop hp.1 _) | exact nameP_drop hp.1 _ | omega | assumption | exact trivial | (have h0 := List.length_pos_iff.mpr (by assumption); omega) | (simp; omega) | (simp at *; omega)
 refine ⟨fun hc0 => ?_, fun hc0 => ?_⟩
 ·skip
  refine ⟨?_, ?_, ?_, ?_⟩
  ·first | exact hp.2.2 | exact hp.2.1 | exact (hp_one hc0 hp.2.1 hp.1).2 | exact (hp_one hc0 hp.2.1 hp.1).1 | exact (ahead_ok hp.1 hp.2.1 hp.2.2).2 | exact (ahead_ok hp.1 hp.2.1 hp.2.2).1 | exact lowerP_name (nameP_drop hp.1 _) | exact nameP_drop hp.1 _ | omega | assumption | exact trivial | (have h0 := List.length_pos_iff.mpr (by assumption); omega) | (simp; omega) | (simp at *; omega)
  ·first | exact hp.2.2 | exact hp.2.1 | exact (hp_one hc0 hp.2.1 hp.1).2 | exact (hp_one hc0 hp.2.1 hp.1).1 | exact (ahead_ok hp.1 hp.2.1 hp.2.2).2 | exact (ahead_ok hp.1 hp.2.1 hp.2.2).1 | exact lowerP_name (nameP_drop hp.1 _) | exact nameP_drop hp.1 _ | omega | assumption | exact trivial | (have h0 := List.length_pos_iff.mpr (by assumption); omega) | (simp; omega) | (simp at *; omega)
  ·first | exact hp.2.2 | exact hp.2.1 | exact (hp_one hc0 hp.2.1 hp.1).2 | exact (hp_one hc0 hp.2.1 hp.1).1 | exact (ahead_ok hp.1 hp.2.1 hp.2.2).2 | exact (ahead_ok hp.1 hp.2.1 hp.2.2).1 | exact lowerP_name (nameP_drop hp.1 _) | exact nameP_drop hp.1 _ | omega | assumption | exact trivial | (have h0 := List.length_pos_iff.mpr (by assumption); omega) | (simp; omega) | (simp at *; omega)
  exact numberj5_A xs xnum xn _ h
 ·skip
  refine ⟨fun hc1 => ?_, fun hc1 => ?_⟩
  ·skip
   refine ⟨?_, ?_⟩
   ·first | exact hp.2.2 | exact hp.2.1 | exact (hp_one hc0 hp.2.1 hp.1).2 | exact (hp_one hc0 hp.2.1 hp.1).1 | exact (ahead_ok hp.1 hp.2.1 hp.2.2).2 | exact (ahead_ok hp.1 hp.2.1 hp.2.2).1 | exact lowerP_name (nameP_drop hp.1 _) | exact nameP_drop hp.1 _ | omega | assumption | exact trivial | (have h0 := List.length_pos_iff.mpr (by assumption); omega) | (simp; omega) | (simp at *; omega)
   refine ⟨?_, ?_, ?_, ?_⟩
   ·first | exact hp.2.2 | exact hp.2.1 | exact (hp_one hc0 hp.2.1 hp.1).2 | exact (hp_one hc0 hp.2.1 hp.1).1 | exact (ahead_ok hp.1 hp.2.1 hp.2.2).2 | exact (ahead_ok hp.1 hp.2.1 hp.2.2).1 | exact lowerP_name (nameP_drop hp.1 _) | exact nameP_drop hp.1 _ | omega | assumption | exact trivial | (have h0 := List.length_pos_iff.mpr (by assumption); omega) | (simp; omega) | (simp at *; omega)
   ·first | exact hp.2.2 | exact hp.2.1 | exact (hp_one hc0 hp.2.1 hp.1).2 | exact (hp_one hc0 hp.2.1 hp.1).1 | exact (ahead_ok hp.1 hp.2.1 hp.2.2).2 | exact (ahead_ok hp.1 hp.2.1 hp.2.2).1 | exact lowerP_name (nameP_drop hp.1 _) | exact nameP_drop hp.1 _ | omega | assumption | exact trivial | (have h0 := List.length_pos_iff.mpr (by assumption); omega) | (simp; omega) | (simp at *; omega)
   ·first | exact hp.2.2 | exact hp.2.1 | exact (hp_one hc0 hp.2.1 hp.1).2 | exact (hp_one hc0 hp.2.1 hp.1).1 | exact (ahead_ok hp.1 hp.2.1 hp.2.2).2 | exact (ahead_ok hp.1 hp.2.1 hp.2.2).1 | exact lowerP_name (nameP_drop hp.1 _) | exact nameP_drop hp.1 _ | omega | assumption | exact trivial | (have h0 := List.length_pos_iff.mpr (by assumption); omega) | (simp; omega) | (simp at *; omega)
   refine ⟨?_, ?_⟩
   ·first | exact hp.2.2 | exact hp.2.1 | exact (hp_one hc0 hp.2.1 hp.1).2 | exact (hp_one hc0 hp.2.1 hp.1).1 | exact (ahead_ok hp.1 hp.2.1 hp.2.2).2 | exact (ahead_ok hp.1 hp.2.1 hp.2.2).1 | exact lowerP_name (nameP_drop hp.1 _) | exact nameP_drop hp.1 _ | omega | assumption | exact trivial | (have h0 := List.length_pos_iff.mpr (by assumption); omega) | (simp; omega) | (simp at *; omega)
   exact numberj5_A xs xnum xn _ h
  ·skip
   exact numberj5_A xs xnum xn _ h
theorem number_F (xs : Bs) (xnum : Int) (xn : Int) (hp : numberP xs xnum xn) : numberF xs xnum xn (fun k0 => k0 = numberM xs xnum xn) :=
 numberF_A xs xnum xn hp (fun z => z = numberM xs xnum xn) rfl
theorem number_c {g : Ghost} (xs : Bs) (xnum : Int) (xn : Int)  (hp : numberP xs xnum xn) : CallsG Tryz.prog 70 #[sv xs, .int .i64 xnum, .int .i64 xn] g (.agg #[.int .i64 (numberM xs xnum xn).1, sv ((numberM xs xnum xn).2.1), sv ((numberM xs xnum xn).2.2.1), .int .i64 (numberM xs xnum xn).2.2.2]) :=
 (number_ok xs xnum xn _ (number_F xs xnum xn hp)).gives (by rintro g' H' v _ ⟨r0, rfl, rfl, hK⟩; subst hK; rfl)
end Go.Proofs.YtcnhdkhkadiohaaGreatDoor.Css
