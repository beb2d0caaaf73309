/- csstok: a number with its unit. -/
import Derived.Test.YtcnhdkhkadiohaaGreatDoorCst
namespace Go.Proofs.YtcnhdkhkadiohaaGreatDoor.Css
open Go Go.Eng Bld Trm
theorem sdCsma {p : Prop} (h : p := by first | exact hp.2.2 | exact hp.2.1 | exact (hp_one hc0 hp.2.1 hp.1).2 | exact (hp_one hc0 hp.2.1 hp.1).1 | exact (ahead_ok hp.1 hp.2.1 hp.2.2).2 | exact (ahead_ok hp.1 hp.2.1 hp.2.2).1 | exact lowerP_name (nameP_drop hp.1 _) | exact nameP_drop hp.1 _ | omega | assumption | exact trivial | (have h0 := List.length_pos_iff.mpr asm; omega) | (simp; omega) | (simp at *; omega)) : p := h
set_option maxHeartbeats 4000000
set_option maxRecDepth 100000
set_option linter.unusedSimpArgs false
set_option linter.unusedVariables false
def numberP (s : Bs) (_ : Int) (a : Int) : Prop := nameP s ∧ 0 ≤ a ∧ a ≤ s.length
theorem lowerP_name {s : Bs} (h : nameP s) : lowerP (nameS s).1 := nameS_val h
theorem hp_one {s : Bs} {a : Int} (h : hpM (s.drop a.toNat) ([37] : Bs) = true) (h0 : 0 ≤ a) (h1 : nameP s) : w6 (a + 1) ≤ s.length ∧ 0 ≤ w6 (a + 1) := by
 have := slhp_len (s := s.drop a.toNat) (p := [37]) h
 rw [List.length_drop] at this
 simp at this
 unfold nameP at h1
 rw [w64 om]
 omega
def numberV0 (xs : Bs) (xn : Int) : Bs :=
 (if (hpM (xs.drop (Int.toNat xn)) ([37] : Bs)) = true then xs.take (Int.toNat (w6 (xn + 1))) else (if (begM (xs.drop (Int.toNat xn))) = true then xs.take (Int.toNat (w6 (xn + (nameS (xs.drop (Int.toNat xn))).2))) else xs.take (Int.toNat xn)))
def numberV1 (xs : Bs) (xn : Int) : Bs :=
 (if (hpM (xs.drop (Int.toNat xn)) ([37] : Bs)) = true then ([37] : Bs) else (if (begM (xs.drop (Int.toNat xn))) = true then (lowerS (nameS (xs.drop (Int.toNat xn))).1) else ([] : Bs)))
def numberj5 (xs : Bs) (xnum : Int) (xn : Int) (K : KT → Prop) : Prop :=
 K (7, (numberV0 xs xn), (numberV1 xs xn), xnum)
def numberF (xs : Bs) (xnum : Int) (xn : Int) (K : KT → Prop) : Prop :=
 (0 : Int) ≤ 0 ∧ 0 ≤ xn ∧ xn ≤ (xs.length : Int) ∧ 0 ≤ xn ∧ (xn : Int) ≤ (xs.length : Int) ∧ (xs.length : Int) ≤ (xs.length : Int) ∧ (((hpM (xs.drop (Int.toNat xn)) ([37] : Bs))) = true → (0 : Int) ≤ 0 ∧ 0 ≤ (w6 (xn + 1)) ∧ (w6 (xn + 1)) ≤ (xs.length : Int) ∧ numberj5 xs xnum xn K) ∧ (((hpM (xs.drop (Int.toNat xn)) ([37] : Bs))) = false → (((begM (xs.drop (Int.toNat xn)))) = true → nameP (xs.drop (Int.toNat xn)) ∧ (0 : Int) ≤ 0 ∧ 0 ≤ (w6 (xn + (nameS (xs.drop (Int.toNat xn))).2)) ∧ (w6 (xn + (nameS (xs.drop (Int.toNat xn))).2)) ≤ (xs.length : Int) ∧ lowerP (nameS (xs.drop (Int.toNat xn))).1 ∧ numberj5 xs xnum xn K) ∧ (((begM (xs.drop (Int.toNat xn)))) = false → numberj5 xs xnum xn K))
theorem number_ok {g : Ghost} (xs : Bs) (xnum : Int) (xn : Int) (K : KT → Prop)
  (hF : numberF xs xnum xn K) : CallsH Tryz.prog 70 #[sv xs, iv xnum, iv xn] g [] (fun g' H' v => ∃ (r0 : Int × Bs × Bs × Int), v = .agg (aK r0) ∧ H' = [] ∧ K r0) := by
 refine CallsH.enter 44 [(0, sv xs), (1, iv xnum), (2, iv xn)] Tryz.func70 rfl kr kr kr fun w0 => ?_
 refine Ok.sr ((Ok.op rfl (OpOk.a (z := .agg zK) (cs := zK) kr kr rfl fun bs6 => ?_)))
 refine Ok.nt ((Ok.sr ((Ok.B 2 [(0, sv xs), (1, iv xnum), (2, iv xn), (6, pv bs6 0), (11, sv xs), (12, iv xn)] kr ?_))))
 obtain ⟨h02, h12, h22, hF⟩ := hF
 refine Ok.op rfl (OpOk.s (v := sv (xs.take (Int.toNat xn))) (Yields.ss (s := xs) (l := 0) (h := xn) kr Tryz.underlying9 (.inr ⟨rfl, rfl⟩) (.inl ⟨_, _, rfl, rfl⟩) h02 h12 h22 (xs.take (Int.toNat xn)) (by simp)) rfl rfl (Ok.b 2 [0, 2, 6] [(15, .agg #[iv 7, sv (xs.take (Int.toNat xn)), sv ([] : Bs), iv xnum])] ?_))
 refine Ok.op rfl (OpOk.a (z := .agg zK) (cs := zK) kr kr rfl fun bs7 => ?_)
 refine Ok.op rfl (OpOk.sto (k := 4) (v := .agg #[iv 7, sv (xs.take (Int.toNat xn)), sv ([] : Bs), iv xnum]) 0 #[iv 7, sv (xs.take (Int.toNat xn)), sv ([] : Bs), iv xnum] rfl rfl rfl ?_)
 refine Ok.nt ((Ok.cut (fun a W => StA 44 [(6, pv bs6 0), (7, pv bs7 0)] a ∧ StW w0 [.blk bs7 (.cells #[iv 7, sv (numberV0 xs xn), sv (numberV1 xs xn), iv xnum] 78), .blk bs6 (.cells zK 78)] g W ∧ numberj5 xs xnum xn K) ?_ ?_))
 ·
  refine Ok.sr ((Ok.b 2 [0, 2, 6] [(7, pv bs7 0), (16, sv xs), (17, iv xn)] ?_))
  obtain ⟨h04, h14, h24, hF⟩ := hF
  refine Ok.op rfl (OpOk.s (v := sv (xs.drop (Int.toNat xn))) (Yields.ss (s := xs) (l := xn) (h := (xs.length : Int)) kr Tryz.underlying9 (.inl ⟨_, _, rfl, rfl⟩) (.inr ⟨rfl, rfl⟩) h04 h14 h24 (xs.drop (Int.toNat xn)) (by rw [show ((xs.length : Int)).toNat = xs.length from Int.toNat_natCast _, List.take_length])) rfl rfl (Ok.b 1 [0, 2, 6, 7] [(8, sv (xs.drop (Int.toNat xn)))] ?_))
  refine Ok.nt ((Ok.sr ((Ok.b 1 [0, 2, 6, 7, 8] [(19, sv (xs.drop (Int.toNat xn)))] ?_))))
  refine Ok.op rfl (OpOk.f enr (fun W hW => hp_c (xs.drop (Int.toNat xn)) ([37] : Bs)) rfl ?_)
  refine Ok.nt ((Ok.cn hF rfl (fun hc5 => ?_) (fun hc5 => ?_)))
  ·replace hF := hF.1 hc5
   refine Ok.r (Ok.b 3 [6, 7] [(21, sv xs), (23, iv (w6 (xn + 1)))] ?_)
   obtain ⟨h06, h16, h26, hF⟩ := hF
   refine Ok.op rfl (OpOk.s (v := sv (xs.take (Int.toNat (w6 (xn + 1))))) (Yields.ss (s := xs) (l := 0) (h := (w6 (xn + 1))) kr Tryz.underlying9 (.inr ⟨rfl, rfl⟩) (.inl ⟨_, _, rfl, rfl⟩) h06 h16 h26 (xs.take (Int.toNat (w6 (xn + 1)))) (by simp)) rfl rfl (Ok.b 1 [6, 7] [(24, sv (xs.take (Int.toNat (w6 (xn + 1))))), (25, pv bs7 1)] ?_))
   refine Ok.op rfl (OpOk.sto (k := 1) (v := sv (xs.take (Int.toNat (w6 (xn + 1))))) 0 #[iv 7, sv (xs.take (Int.toNat (w6 (xn + 1)))), sv ([] : Bs), iv xnum] rfl rfl rfl ?_)
   refine Ok.b 1 [6, 7] [(26, pv bs7 2)] ?_
   refine Ok.op rfl (OpOk.sto (k := 1) (v := sv ([37] : Bs)) 0 #[iv 7, sv (xs.take (Int.toNat (w6 (xn + 1)))), sv ([37] : Bs), iv xnum] rfl rfl rfl ?_)
   refine Ok.nt ((Ok.heapEq (H' := [.blk bs7 (.cells #[iv 7, sv (numberV0 xs xn), sv (numberV1 xs xn), iv xnum] 78), .blk bs6 (.cells zK 78)]) (econs (congrArg (fun l : List Value => Ent.blk bs7 (.cells ⟨l⟩ 78)) (lcons (rfl) (lcons (congrArg ((fun s : Bs => Value.string ⟨⟨s⟩⟩)) ((if_t hc5).symm)) (lcons (congrArg ((fun s : Bs => Value.string ⟨⟨s⟩⟩)) ((if_t hc5).symm)) (lcons (rfl) rfl))))) (econs (rfl) rfl)) ?_))
   exact fun a W hA hW => ⟨hA.sub kr, hW, hF⟩
  replace hF := hF.2 hc5
  refine Ok.sr ((Ok.b 1 [0, 2, 6, 7, 8] [(27, sv (xs.drop (Int.toNat xn)))] ?_))
  refine Ok.op rfl (OpOk.f enr (fun W hW => beg_c (xs.drop (Int.toNat xn))) rfl ?_)
  refine Ok.nt ((Ok.cn hF rfl (fun hc7 => ?_) (fun hc7 => ?_)))
  ·replace hF := hF.1 hc7
   refine Ok.sr ((Ok.b 1 [0, 2, 6, 7] [(30, sv (xs.drop (Int.toNat xn)))] ?_))
   obtain ⟨hp8, hF⟩ := hF
   refine Ok.op rfl (OpOk.f enr (fun W hW => name_c (xs.drop (Int.toNat xn)) hp8) rfl ?_)
   refine Ok.b 5 [0, 2, 6, 7] [(9, sv ((nameS (xs.drop (Int.toNat xn))).1)), (10, iv (nameS (xs.drop (Int.toNat xn))).2)] ?_
   refine Ok.nt ((Ok.mix [] [] [.blk bs6 (.cells zK 78)] [(0, true), (1, true), (2, true), (3, true), (4, true), (5, true), (6, true), (7, true), (8, false), (9, true), (10, false)] kr kr (.cons _ (.cons_cons _ .slnil)) (OkM.b 4 [6, 7, 9] [(34, sv xs), (37, iv (w6 (xn + (nameS (xs.drop (Int.toNat xn))).2)))] ?_)))
   obtain ⟨h09, h19, h29, hF⟩ := hF
   refine OkM.h rfl rfl (show _ = [.blk bs6 (.cells zK 78)] from rfl) (OpQ.s (v := sv (xs.take (Int.toNat (w6 (xn + (nameS (xs.drop (Int.toNat xn))).2))))) (Yields.ss (s := xs) (l := 0) (h := (w6 (xn + (nameS (xs.drop (Int.toNat xn))).2))) kr Tryz.underlying9 (.inr ⟨rfl, rfl⟩) (.inl ⟨_, _, rfl, rfl⟩) h09 h19 h29 (xs.take (Int.toNat (w6 (xn + (nameS (xs.drop (Int.toNat xn))).2)))) (by simp)) rfl rfl (OkM.b 1 [6, 7] [(38, sv (xs.take (Int.toNat (w6 (xn + (nameS (xs.drop (Int.toNat xn))).2))))), (39, sv ((nameS (xs.drop (Int.toNat xn))).1))] ?_))
   obtain ⟨hp10, hF⟩ := hF
   refine OkM.h rfl rfl (show _ = [.blk bs6 (.cells zK 78)] from rfl) (OpQ.f enr (fun W hW => lower_c (nameS (xs.drop (Int.toNat xn))).1 hp10) rfl ?_)
   refine OkM.b 1 [6, 7, 38] [(40, sv (lowerS (nameS (xs.drop (Int.toNat xn))).1)), (41, pv bs7 1)] ?_
   refine OkM.t rfl rfl (OpOk.sto (k := 1) (v := sv (xs.take (Int.toNat (w6 (xn + (nameS (xs.drop (Int.toNat xn))).2))))) 0 #[iv 7, sv (xs.take (Int.toNat (w6 (xn + (nameS (xs.drop (Int.toNat xn))).2)))), sv ([] : Bs), iv xnum] rfl rfl rfl ?_)
   refine OkM.l (i := 8) (show _ = [.blk bs6 (.cells zK 78)] from rfl) (Gle.refl _) (.cons _ (.cons_cons _ .slnil)) (OkM.b 1 [6, 7, 40] [(42, pv bs7 2)] ?_)
   refine OkM.t rfl rfl (OpOk.sto (k := 1) (v := sv (lowerS (nameS (xs.drop (Int.toNat xn))).1)) 0 #[iv 7, sv (xs.take (Int.toNat (w6 (xn + (nameS (xs.drop (Int.toNat xn))).2)))), sv (lowerS (nameS (xs.drop (Int.toNat xn))).1), iv xnum] rfl rfl rfl ?_)
   refine OkM.l (i := 10) (show _ = [.blk bs6 (.cells zK 78)] from rfl) (Gle.refl _) (.cons _ (.cons_cons _ .slnil)) (OkM.nil (Ok.t (Ok.heapEq (H' := [.blk bs7 (.cells #[iv 7, sv (numberV0 xs xn), sv (numberV1 xs xn), iv xnum] 78), .blk bs6 (.cells zK 78)]) (econs (congrArg (fun l : List Value => Ent.blk bs7 (.cells ⟨l⟩ 78)) (lcons (rfl) (lcons (congrArg ((fun s : Bs => Value.string ⟨⟨s⟩⟩)) ((Eq.trans ((if_t hc7).symm) ((if_f hc5).symm)))) (lcons (congrArg ((fun s : Bs => Value.string ⟨⟨s⟩⟩)) ((Eq.trans ((if_t hc7).symm) ((if_f hc5).symm)))) (lcons (rfl) rfl))))) (econs (rfl) rfl)) ?_)))
   exact fun a W hA hW => ⟨hA.sub kr, hW, hF⟩
  replace hF := hF.2 hc7
  refine Ok.k (Ok.t (Ok.heapEq (H' := [.blk bs7 (.cells #[iv 7, sv (numberV0 xs xn), sv (numberV1 xs xn), iv xnum] 78), .blk bs6 (.cells zK 78)]) (econs (congrArg (fun l : List Value => Ent.blk bs7 (.cells ⟨l⟩ 78)) (lcons (rfl) (lcons (congrArg ((fun s : Bs => Value.string ⟨⟨s⟩⟩)) ((Eq.trans ((if_f hc7).symm) ((if_f hc5).symm)))) (lcons (congrArg ((fun s : Bs => Value.string ⟨⟨s⟩⟩)) ((Eq.trans ((if_f hc7).symm) ((if_f hc5).symm)))) (lcons (rfl) rfl))))) (econs (rfl) rfl)) ?_))
  exact fun a W hA hW => ⟨hA.sub kr, hW, hF⟩
 clear hF
 rintro a W ⟨hA, hW, hF⟩
 refine (?_ : Ok _ _ _ _ _ _) a W hA hW
 clear hA hW
 refine Ok.sr ((Ok.op rfl (OpOk.s (v := .agg #[iv 7, sv (numberV0 xs xn), sv (numberV1 xs xn), iv xnum]) (Yields.loadAgg 0 4 #[iv 7, sv (numberV0 xs xn), sv (numberV1 xs xn), iv xnum] rfl rfl Tryz.underlying78 rfl kr kr kr) rfl rfl (Ok.op rfl (OpOk.sto (k := 4) (v := .agg #[iv 7, sv (numberV0 xs xn), sv (numberV1 xs xn), iv xnum]) 1 #[iv 7, sv (numberV0 xs xn), sv (numberV1 xs xn), iv xnum] rfl rfl rfl ?_)))))
 refine Ok.nt ((Ok.ret ?_))
 exact Ok.p (vs := [.agg #[iv 7, sv (numberV0 xs xn), sv (numberV1 xs xn), iv xnum]]) [] [] dc rfl (.inl rfl) rfl (.cons (.cellAgg 1 4 #[iv 7, sv (numberV0 xs xn), sv (numberV1 xs xn), iv xnum] rfl rfl Tryz.underlying78 rfl kr kr kr) .nil) (Gext.r w0 g) ⟨(7, (numberV0 xs xn), (numberV1 xs xn), xnum), rfl, rfl, hF⟩
def numberj5M (xs : Bs) (xnum : Int) (xn : Int) : KT := (7, (numberV0 xs xn), (numberV1 xs xn), xnum)
theorem numberj5_A (xs : Bs) (xnum : Int) (xn : Int) (P : KT → Prop) (h : P (numberj5M xs xnum xn)) : numberj5 xs xnum xn (fun k0 => P k0) := by
 unfold numberj5M at h
 unfold numberj5
 exact h
def numberM (xs : Bs) (xnum : Int) (xn : Int) : KT := (numberj5M xs xnum xn)
theorem numberF_A (xs : Bs) (xnum : Int) (xn : Int) (hp : numberP xs xnum xn) (P : KT → Prop) (h : P (numberM xs xnum xn)) : numberF xs xnum xn (fun k0 => P k0) := by
 unfold numberM at h
 unfold numberF
 refine ⟨?_, ?_, ?_, ?_⟩
 ·exact sdCsma
 ·exact sdCsma
 ·exact sdCsma
 refine ⟨?_, ?_, ?_, ?_⟩
 ·exact sdCsma
 ·exact sdCsma
 ·exact sdCsma
 refine ⟨fun hc0 => ?_, fun hc0 => ?_⟩
 ·skip
  refine ⟨?_, ?_, ?_, ?_⟩
  ·exact sdCsma
  ·exact sdCsma
  ·exact sdCsma
  exact numberj5_A xs xnum xn _ h
 skip
 refine ⟨fun hc1 => ?_, fun hc1 => ?_⟩
 ·skip
  refine ⟨?_, ?_⟩
  ·exact sdCsma
  refine ⟨?_, ?_, ?_, ?_⟩
  ·exact sdCsma
  ·exact sdCsma
  ·exact sdCsma
  refine ⟨?_, ?_⟩
  ·exact sdCsma
  exact numberj5_A xs xnum xn _ h
 skip
 exact numberj5_A xs xnum xn _ h
theorem number_F (xs : Bs) (xnum : Int) (xn : Int) (hp : numberP xs xnum xn) : numberF xs xnum xn (fun k0 => k0 = numberM xs xnum xn) :=
 numberF_A xs xnum xn hp (fun z => z = numberM xs xnum xn) rfl
theorem number_c {g : Ghost} (xs : Bs) (xnum : Int) (xn : Int)  (hp : numberP xs xnum xn) : CallsG Tryz.prog 70 #[sv xs, iv xnum, iv xn] g (.agg (aK (numberM xs xnum xn))) :=
 (number_ok xs xnum xn _ (number_F xs xnum xn hp)).gives (by rintro g' H' v _ ⟨r0, rfl, rfl, hK⟩; subst hK; rfl)
end Go.Proofs.YtcnhdkhkadiohaaGreatDoor.Css
