/- csstok: a number with its unit. -/
import Derived.Test.YtjehllphdpkjeaaGreatDoorCst
namespace Go.Proofs.YtjehllphdpkjeaaGreatDoor.Css
open Go Go.Eng Bld Trm
set_option linter.unusedVariables false
def numberP (s : List UInt8) (_ : Int) (a : Int) : Prop := nameP s ∧ 0 ≤ a ∧ a ≤ s.length
theorem lowerP_name {s : List UInt8} (h : nameP s) : lowerP (nameS s).1 := nameS_val h
theorem hp_one {s : List UInt8} {a : Int} (h : hpM (s.drop a.toNat) ([37] : List UInt8) = true) (h0 : 0 ≤ a) (h1 : nameP s) : IntKind.wrap .i64 (a + 1) ≤ s.length ∧ 0 ≤ IntKind.wrap .i64 (a + 1) := by
  have := slhp_len (s := s.drop a.toNat) (p := [37]) h
  rw [List.length_drop] at this
  simp at this
  unfold nameP at h1
  rw [w64 (by omega)]
  omega
def numberV0 (xs : List UInt8) (xn : Int) : List UInt8 :=
  (if (hpM (xs.drop (Int.toNat xn)) ([37] : List UInt8)) = true then xs.take (Int.toNat (IntKind.wrap .i64 (xn + 1))) else (if (begM (xs.drop (Int.toNat xn))) = true then xs.take (Int.toNat (IntKind.wrap .i64 (xn + ((nameS (xs.drop (Int.toNat xn))).2)))) else xs.take (Int.toNat xn)))
def numberV1 (xs : List UInt8) (xn : Int) : List UInt8 :=
  (if (hpM (xs.drop (Int.toNat xn)) ([37] : List UInt8)) = true then ([37] : List UInt8) else (if (begM (xs.drop (Int.toNat xn))) = true then (lowerS ((nameS (xs.drop (Int.toNat xn))).1)) else ([] : List UInt8)))
def numberj5 (xs : List UInt8) (xnum : Int) (xn : Int) (K : (Int × List UInt8 × List UInt8 × Int) → Prop) : Prop :=
  K (7, (numberV0 xs xn), (numberV1 xs xn), xnum)
def numberF (xs : List UInt8) (xnum : Int) (xn : Int) (K : (Int × List UInt8 × List UInt8 × Int) → Prop) : Prop :=
  (0 : Int) ≤ 0 ∧ (0 : Int) ≤ xn ∧ xn ≤ (xs.length : Int) ∧ (0 : Int) ≤ xn ∧ (xn : Int) ≤ (xs.length : Int) ∧ (xs.length : Int) ≤ (xs.length : Int) ∧ (((hpM (xs.drop (Int.toNat xn)) ([37] : List UInt8))) = true → (0 : Int) ≤ 0 ∧ (0 : Int) ≤ (IntKind.wrap .i64 (xn + 1)) ∧ (IntKind.wrap .i64 (xn + 1)) ≤ (xs.length : Int) ∧ numberj5 xs xnum xn K) ∧ (((hpM (xs.drop (Int.toNat xn)) ([37] : List UInt8))) = false → (((begM (xs.drop (Int.toNat xn)))) = true → nameP (xs.drop (Int.toNat xn)) ∧ (0 : Int) ≤ 0 ∧ (0 : Int) ≤ (IntKind.wrap .i64 (xn + ((nameS (xs.drop (Int.toNat xn))).2))) ∧ (IntKind.wrap .i64 (xn + ((nameS (xs.drop (Int.toNat xn))).2))) ≤ (xs.length : Int) ∧ lowerP ((nameS (xs.drop (Int.toNat xn))).1) ∧ numberj5 xs xnum xn K) ∧ (((begM (xs.drop (Int.toNat xn)))) = false → numberj5 xs xnum xn K))
set_option maxHeartbeats 4000000 in
set_option maxRecDepth 100000 in
set_option linter.unusedVariables false in
theorem number_ok {g : Ghost} (xs : List UInt8) (xnum : Int) (xn : Int) (K : (Int × List UInt8 × List UInt8 × Int) → Prop)
    (hF : numberF xs xnum xn K) : CallsH Tryz.prog 36 #[.string ⟨⟨xs⟩⟩, .int .i64 xnum, .int .i64 xn] g [] (fun g' H' v => ∃ (r0 : Int × List UInt8 × List UInt8 × Int), v = .agg #[.int .i64 r0.1, .string ⟨⟨r0.2.1⟩⟩, .string ⟨⟨r0.2.2.1⟩⟩, .int .i64 r0.2.2.2] ∧ H' = [] ∧ K r0) := by
  refine CallsH.enter 44 [(0, .string ⟨⟨xs⟩⟩), (1, .int .i64 xnum), (2, .int .i64 xn)] Tryz.func36 rfl (by kernel_rfl) (by kernel_rfl) (by kernel_rfl) fun w0 => ?_
  refine Ok.seq ?_
  refine Ok.region ?_
  refine Ok.op rfl (OpOk.alloc (z := .agg #[.int .i64 0, .string ⟨⟨([] : List UInt8)⟩⟩, .string ⟨⟨([] : List UInt8)⟩⟩, .int .i64 0]) (cs := #[.int .i64 0, .string ⟨⟨([] : List UInt8)⟩⟩, .string ⟨⟨([] : List UInt8)⟩⟩, .int .i64 0]) (by kernel_rfl) (by kernel_rfl) rfl fun bs6 => ?_)
  refine Ok.nil ?_
  refine Ok.thenN ?_
  refine Ok.seq ?_
  refine Ok.region ?_
  refine Ok.batch 2 [(0, .string ⟨⟨xs⟩⟩), (1, .int .i64 xnum), (2, .int .i64 xn), (6, .pointer (some ⟨bs6, 0, none⟩)), (11, .string ⟨⟨xs⟩⟩), (12, .int .i64 xn)] (by kernel_rfl) ?_
  obtain ⟨h02, h12, h22, hF⟩ := hF
  refine Ok.op rfl (OpOk.step (v := .string ⟨⟨xs.take (Int.toNat xn)⟩⟩) (Yields.sliceStr (s := xs) (l := 0) (h := xn) (by kernel_rfl) Tryz.underlying9 (.inr ⟨rfl, rfl⟩) (.inl ⟨_, _, rfl, rfl⟩) h02 h12 h22 (xs.take (Int.toNat xn)) (by simp)) rfl rfl ?_)
  refine Ok.batch 2 [(0, .string ⟨⟨xs⟩⟩), (2, .int .i64 xn), (6, .pointer (some ⟨bs6, 0, none⟩)), (15, .agg #[.int .i64 7, .string ⟨⟨xs.take (Int.toNat xn)⟩⟩, .string ⟨⟨([] : List UInt8)⟩⟩, .int .i64 xnum])] (by kernel_rfl) ?_
  refine Ok.op rfl (OpOk.alloc (z := .agg #[.int .i64 0, .string ⟨⟨([] : List UInt8)⟩⟩, .string ⟨⟨([] : List UInt8)⟩⟩, .int .i64 0]) (cs := #[.int .i64 0, .string ⟨⟨([] : List UInt8)⟩⟩, .string ⟨⟨([] : List UInt8)⟩⟩, .int .i64 0]) (by kernel_rfl) (by kernel_rfl) rfl fun bs7 => ?_)
  refine Ok.op rfl (OpOk.store (k := 4) (v := .agg #[.int .i64 7, .string ⟨⟨xs.take (Int.toNat xn)⟩⟩, .string ⟨⟨([] : List UInt8)⟩⟩, .int .i64 xnum]) (H' := [.blk bs7 (.cells #[.int .i64 7, .string ⟨⟨xs.take (Int.toNat xn)⟩⟩, .string ⟨⟨([] : List UInt8)⟩⟩, .int .i64 xnum] 55), .blk bs6 (.cells #[.int .i64 0, .string ⟨⟨([] : List UInt8)⟩⟩, .string ⟨⟨([] : List UInt8)⟩⟩, .int .i64 0] 55)]) 0 rfl rfl rfl (by kernel_rfl) (by kernel_rfl) (by kernel_rfl) (by kernel_rfl) (by kernel_rfl) ?_)
  refine Ok.nil ?_
  refine Ok.thenN ?_
  refine Ok.cut (fun a W => StA 44 [(6, .pointer (some ⟨bs6, 0, none⟩)), (7, .pointer (some ⟨bs7, 0, none⟩))] a ∧ StW w0 [.blk bs7 (.cells #[.int .i64 7, .string ⟨⟨(numberV0 xs xn)⟩⟩, .string ⟨⟨(numberV1 xs xn)⟩⟩, .int .i64 xnum] 55), .blk bs6 (.cells #[.int .i64 0, .string ⟨⟨([] : List UInt8)⟩⟩, .string ⟨⟨([] : List UInt8)⟩⟩, .int .i64 0] 55)] g W ∧ numberj5 xs xnum xn K) ?_ ?_
  ·
    refine Ok.seq ?_
    refine Ok.region ?_
    refine Ok.batch 2 [(0, .string ⟨⟨xs⟩⟩), (2, .int .i64 xn), (6, .pointer (some ⟨bs6, 0, none⟩)), (7, .pointer (some ⟨bs7, 0, none⟩)), (16, .string ⟨⟨xs⟩⟩), (17, .int .i64 xn)] (by kernel_rfl) ?_
    obtain ⟨h04, h14, h24, hF⟩ := hF
    refine Ok.op rfl (OpOk.step (v := .string ⟨⟨xs.drop (Int.toNat xn)⟩⟩) (Yields.sliceStr (s := xs) (l := xn) (h := (xs.length : Int)) (by kernel_rfl) Tryz.underlying9 (.inl ⟨_, _, rfl, rfl⟩) (.inr ⟨rfl, rfl⟩) h04 h14 h24 (xs.drop (Int.toNat xn)) (by rw [show ((xs.length : Int)).toNat = xs.length from Int.toNat_natCast _, List.take_length])) rfl rfl ?_)
    refine Ok.batch 1 [(0, .string ⟨⟨xs⟩⟩), (2, .int .i64 xn), (6, .pointer (some ⟨bs6, 0, none⟩)), (7, .pointer (some ⟨bs7, 0, none⟩)), (8, .string ⟨⟨xs.drop (Int.toNat xn)⟩⟩)] (by kernel_rfl) ?_
    refine Ok.nil ?_
    refine Ok.thenN ?_
    refine Ok.seq ?_
    refine Ok.region ?_
    refine Ok.batch 1 [(0, .string ⟨⟨xs⟩⟩), (2, .int .i64 xn), (6, .pointer (some ⟨bs6, 0, none⟩)), (7, .pointer (some ⟨bs7, 0, none⟩)), (8, .string ⟨⟨xs.drop (Int.toNat xn)⟩⟩), (19, .string ⟨⟨xs.drop (Int.toNat xn)⟩⟩)] (by kernel_rfl) ?_
    refine Ok.op rfl (OpOk.callG (v := .bool (hpM (xs.drop (Int.toNat xn)) ([37] : List UInt8))) (enters (by kernel_rfl) (fun _ => by kernel_rfl)) (fun W hW => hp_c (xs.drop (Int.toNat xn)) ([37] : List UInt8)) rfl ?_)
    refine Ok.nil ?_
    refine Ok.thenN ?_
    refine Ok.cond (b := (hpM (xs.drop (Int.toNat xn)) ([37] : List UInt8))) rfl (fun hc5 => ?_) (fun hc5 => ?_)
    · replace hF := hF.1 hc5
      refine Ok.region ?_
      refine Ok.batch 3 [(6, .pointer (some ⟨bs6, 0, none⟩)), (7, .pointer (some ⟨bs7, 0, none⟩)), (21, .string ⟨⟨xs⟩⟩), (23, .int .i64 (IntKind.wrap .i64 (xn + 1)))] (by kernel_rfl) ?_
      obtain ⟨h06, h16, h26, hF⟩ := hF
      refine Ok.op rfl (OpOk.step (v := .string ⟨⟨xs.take (Int.toNat (IntKind.wrap .i64 (xn + 1)))⟩⟩) (Yields.sliceStr (s := xs) (l := 0) (h := (IntKind.wrap .i64 (xn + 1))) (by kernel_rfl) Tryz.underlying9 (.inr ⟨rfl, rfl⟩) (.inl ⟨_, _, rfl, rfl⟩) h06 h16 h26 (xs.take (Int.toNat (IntKind.wrap .i64 (xn + 1)))) (by simp)) rfl rfl ?_)
      refine Ok.batch 1 [(6, .pointer (some ⟨bs6, 0, none⟩)), (7, .pointer (some ⟨bs7, 0, none⟩)), (24, .string ⟨⟨xs.take (Int.toNat (IntKind.wrap .i64 (xn + 1)))⟩⟩), (25, .pointer (some ⟨bs7, 1, none⟩))] (by kernel_rfl) ?_
      refine Ok.op rfl (OpOk.store (k := 1) (v := .string ⟨⟨xs.take (Int.toNat (IntKind.wrap .i64 (xn + 1)))⟩⟩) (H' := [.blk bs7 (.cells #[.int .i64 7, .string ⟨⟨xs.take (Int.toNat (IntKind.wrap .i64 (xn + 1)))⟩⟩, .string ⟨⟨([] : List UInt8)⟩⟩, .int .i64 xnum] 55), .blk bs6 (.cells #[.int .i64 0, .string ⟨⟨([] : List UInt8)⟩⟩, .string ⟨⟨([] : List UInt8)⟩⟩, .int .i64 0] 55)]) 0 rfl rfl rfl (by kernel_rfl) (by kernel_rfl) (by kernel_rfl) (by kernel_rfl) (by kernel_rfl) ?_)
      refine Ok.batch 1 [(6, .pointer (some ⟨bs6, 0, none⟩)), (7, .pointer (some ⟨bs7, 0, none⟩)), (26, .pointer (some ⟨bs7, 2, none⟩))] (by kernel_rfl) ?_
      refine Ok.op rfl (OpOk.store (k := 1) (v := .string ⟨⟨([37] : List UInt8)⟩⟩) (H' := [.blk bs7 (.cells #[.int .i64 7, .string ⟨⟨xs.take (Int.toNat (IntKind.wrap .i64 (xn + 1)))⟩⟩, .string ⟨⟨([37] : List UInt8)⟩⟩, .int .i64 xnum] 55), .blk bs6 (.cells #[.int .i64 0, .string ⟨⟨([] : List UInt8)⟩⟩, .string ⟨⟨([] : List UInt8)⟩⟩, .int .i64 0] 55)]) 0 rfl rfl rfl (by kernel_rfl) (by kernel_rfl) (by kernel_rfl) (by kernel_rfl) (by kernel_rfl) ?_)
      refine Ok.nil ?_
      refine Ok.thenN ?_
      refine Ok.heapEq (H' := [.blk bs7 (.cells #[.int .i64 7, .string ⟨⟨(numberV0 xs xn)⟩⟩, .string ⟨⟨(numberV1 xs xn)⟩⟩, .int .i64 xnum] 55), .blk bs6 (.cells #[.int .i64 0, .string ⟨⟨([] : List UInt8)⟩⟩, .string ⟨⟨([] : List UInt8)⟩⟩, .int .i64 0] 55)]) (econs (congrArg (fun l : List Value => Ent.blk bs7 (.cells ⟨l⟩ 55)) (lcons (rfl) (lcons (congrArg ((fun s : List UInt8 => Value.string ⟨⟨s⟩⟩)) ((if_t hc5).symm)) (lcons (congrArg ((fun s : List UInt8 => Value.string ⟨⟨s⟩⟩)) ((if_t hc5).symm)) (lcons (rfl) rfl))))) (econs (rfl) rfl)) ?_
      exact fun a W hA hW => ⟨hA.sub (by kernel_rfl), hW, hF⟩
    · replace hF := hF.2 hc5
      refine Ok.seq ?_
      refine Ok.region ?_
      refine Ok.batch 1 [(0, .string ⟨⟨xs⟩⟩), (2, .int .i64 xn), (6, .pointer (some ⟨bs6, 0, none⟩)), (7, .pointer (some ⟨bs7, 0, none⟩)), (8, .string ⟨⟨xs.drop (Int.toNat xn)⟩⟩), (27, .string ⟨⟨xs.drop (Int.toNat xn)⟩⟩)] (by kernel_rfl) ?_
      refine Ok.op rfl (OpOk.callG (v := .bool (begM (xs.drop (Int.toNat xn)))) (enters (by kernel_rfl) (fun _ => by kernel_rfl)) (fun W hW => beg_c (xs.drop (Int.toNat xn))) rfl ?_)
      refine Ok.nil ?_
      refine Ok.thenN ?_
      refine Ok.cond (b := (begM (xs.drop (Int.toNat xn)))) rfl (fun hc7 => ?_) (fun hc7 => ?_)
      · replace hF := hF.1 hc7
        refine Ok.seq ?_
        refine Ok.region ?_
        refine Ok.batch 1 [(0, .string ⟨⟨xs⟩⟩), (2, .int .i64 xn), (6, .pointer (some ⟨bs6, 0, none⟩)), (7, .pointer (some ⟨bs7, 0, none⟩)), (30, .string ⟨⟨xs.drop (Int.toNat xn)⟩⟩)] (by kernel_rfl) ?_
        obtain ⟨hp8, hF⟩ := hF
        refine Ok.op rfl (OpOk.callG (v := .tuple #[.string ⟨⟨(nameS (xs.drop (Int.toNat xn))).1⟩⟩, .int .i64 ((nameS (xs.drop (Int.toNat xn))).2)]) (enters (by kernel_rfl) (fun _ => by kernel_rfl)) (fun W hW => name_c (xs.drop (Int.toNat xn)) hp8) rfl ?_)
        refine Ok.batch 5 [(0, .string ⟨⟨xs⟩⟩), (2, .int .i64 xn), (6, .pointer (some ⟨bs6, 0, none⟩)), (7, .pointer (some ⟨bs7, 0, none⟩)), (9, .string ⟨⟨(nameS (xs.drop (Int.toNat xn))).1⟩⟩), (10, .int .i64 ((nameS (xs.drop (Int.toNat xn))).2))] (by kernel_rfl) ?_
        refine Ok.nil ?_
        refine Ok.thenN ?_
        refine Ok.mix [] [] [.blk bs6 (.cells #[.int .i64 0, .string ⟨⟨([] : List UInt8)⟩⟩, .string ⟨⟨([] : List UInt8)⟩⟩, .int .i64 0] 55)] [(0, true), (1, true), (2, true), (3, true), (4, true), (5, true), (6, true), (7, true), (8, false), (9, true), (10, false)] (by kernel_rfl) (by kernel_rfl) (.cons _ (.cons_cons _ .slnil)) ?_
        refine OkM.batch 4 [(6, .pointer (some ⟨bs6, 0, none⟩)), (7, .pointer (some ⟨bs7, 0, none⟩)), (9, .string ⟨⟨(nameS (xs.drop (Int.toNat xn))).1⟩⟩), (34, .string ⟨⟨xs⟩⟩), (37, .int .i64 (IntKind.wrap .i64 (xn + ((nameS (xs.drop (Int.toNat xn))).2))))] (by kernel_rfl) ?_
        obtain ⟨h09, h19, h29, hF⟩ := hF
        refine OkM.head rfl rfl (show _ = [.blk bs6 (.cells #[.int .i64 0, .string ⟨⟨([] : List UInt8)⟩⟩, .string ⟨⟨([] : List UInt8)⟩⟩, .int .i64 0] 55)] from rfl) (OpQ.step (v := .string ⟨⟨xs.take (Int.toNat (IntKind.wrap .i64 (xn + ((nameS (xs.drop (Int.toNat xn))).2))))⟩⟩) (Yields.sliceStr (s := xs) (l := 0) (h := (IntKind.wrap .i64 (xn + ((nameS (xs.drop (Int.toNat xn))).2)))) (by kernel_rfl) Tryz.underlying9 (.inr ⟨rfl, rfl⟩) (.inl ⟨_, _, rfl, rfl⟩) h09 h19 h29 (xs.take (Int.toNat (IntKind.wrap .i64 (xn + ((nameS (xs.drop (Int.toNat xn))).2))))) (by simp)) rfl rfl ?_)
        refine OkM.batch 1 [(6, .pointer (some ⟨bs6, 0, none⟩)), (7, .pointer (some ⟨bs7, 0, none⟩)), (38, .string ⟨⟨xs.take (Int.toNat (IntKind.wrap .i64 (xn + ((nameS (xs.drop (Int.toNat xn))).2))))⟩⟩), (39, .string ⟨⟨(nameS (xs.drop (Int.toNat xn))).1⟩⟩)] (by kernel_rfl) ?_
        obtain ⟨hp10, hF⟩ := hF
        refine OkM.head rfl rfl (show _ = [.blk bs6 (.cells #[.int .i64 0, .string ⟨⟨([] : List UInt8)⟩⟩, .string ⟨⟨([] : List UInt8)⟩⟩, .int .i64 0] 55)] from rfl) (OpQ.callG (v := .string ⟨⟨(lowerS ((nameS (xs.drop (Int.toNat xn))).1))⟩⟩) (enters (by kernel_rfl) (fun _ => by kernel_rfl)) (fun W hW => lower_c ((nameS (xs.drop (Int.toNat xn))).1) hp10) rfl ?_)
        refine OkM.batch 1 [(6, .pointer (some ⟨bs6, 0, none⟩)), (7, .pointer (some ⟨bs7, 0, none⟩)), (38, .string ⟨⟨xs.take (Int.toNat (IntKind.wrap .i64 (xn + ((nameS (xs.drop (Int.toNat xn))).2))))⟩⟩), (40, .string ⟨⟨(lowerS ((nameS (xs.drop (Int.toNat xn))).1))⟩⟩), (41, .pointer (some ⟨bs7, 1, none⟩))] (by kernel_rfl) ?_
        refine OkM.tail rfl rfl (OpOk.store (k := 1) (v := .string ⟨⟨xs.take (Int.toNat (IntKind.wrap .i64 (xn + ((nameS (xs.drop (Int.toNat xn))).2))))⟩⟩) (H' := [.blk bs7 (.cells #[.int .i64 7, .string ⟨⟨xs.take (Int.toNat (IntKind.wrap .i64 (xn + ((nameS (xs.drop (Int.toNat xn))).2))))⟩⟩, .string ⟨⟨([] : List UInt8)⟩⟩, .int .i64 xnum] 55), .blk bs6 (.cells #[.int .i64 0, .string ⟨⟨([] : List UInt8)⟩⟩, .string ⟨⟨([] : List UInt8)⟩⟩, .int .i64 0] 55)]) 0 rfl rfl rfl (by kernel_rfl) (by kernel_rfl) (by kernel_rfl) (by kernel_rfl) (by kernel_rfl) ?_)
        refine OkM.leaf (i := 8) (show _ = [.blk bs6 (.cells #[.int .i64 0, .string ⟨⟨([] : List UInt8)⟩⟩, .string ⟨⟨([] : List UInt8)⟩⟩, .int .i64 0] 55)] from rfl) (Gle.refl _) (.cons _ (.cons_cons _ .slnil)) ?_
        refine OkM.batch 1 [(6, .pointer (some ⟨bs6, 0, none⟩)), (7, .pointer (some ⟨bs7, 0, none⟩)), (40, .string ⟨⟨(lowerS ((nameS (xs.drop (Int.toNat xn))).1))⟩⟩), (42, .pointer (some ⟨bs7, 2, none⟩))] (by kernel_rfl) ?_
        refine OkM.tail rfl rfl (OpOk.store (k := 1) (v := .string ⟨⟨(lowerS ((nameS (xs.drop (Int.toNat xn))).1))⟩⟩) (H' := [.blk bs7 (.cells #[.int .i64 7, .string ⟨⟨xs.take (Int.toNat (IntKind.wrap .i64 (xn + ((nameS (xs.drop (Int.toNat xn))).2))))⟩⟩, .string ⟨⟨(lowerS ((nameS (xs.drop (Int.toNat xn))).1))⟩⟩, .int .i64 xnum] 55), .blk bs6 (.cells #[.int .i64 0, .string ⟨⟨([] : List UInt8)⟩⟩, .string ⟨⟨([] : List UInt8)⟩⟩, .int .i64 0] 55)]) 0 rfl rfl rfl (by kernel_rfl) (by kernel_rfl) (by kernel_rfl) (by kernel_rfl) (by kernel_rfl) ?_)
        refine OkM.leaf (i := 10) (show _ = [.blk bs6 (.cells #[.int .i64 0, .string ⟨⟨([] : List UInt8)⟩⟩, .string ⟨⟨([] : List UInt8)⟩⟩, .int .i64 0] 55)] from rfl) (Gle.refl _) (.cons _ (.cons_cons _ .slnil)) ?_
        refine OkM.nil ?_
        refine Ok.thenN ?_
        refine Ok.heapEq (H' := [.blk bs7 (.cells #[.int .i64 7, .string ⟨⟨(numberV0 xs xn)⟩⟩, .string ⟨⟨(numberV1 xs xn)⟩⟩, .int .i64 xnum] 55), .blk bs6 (.cells #[.int .i64 0, .string ⟨⟨([] : List UInt8)⟩⟩, .string ⟨⟨([] : List UInt8)⟩⟩, .int .i64 0] 55)]) (econs (congrArg (fun l : List Value => Ent.blk bs7 (.cells ⟨l⟩ 55)) (lcons (rfl) (lcons (congrArg ((fun s : List UInt8 => Value.string ⟨⟨s⟩⟩)) ((Eq.trans ((if_t hc7).symm) ((if_f hc5).symm)))) (lcons (congrArg ((fun s : List UInt8 => Value.string ⟨⟨s⟩⟩)) ((Eq.trans ((if_t hc7).symm) ((if_f hc5).symm)))) (lcons (rfl) rfl))))) (econs (rfl) rfl)) ?_
        exact fun a W hA hW => ⟨hA.sub (by kernel_rfl), hW, hF⟩
      · replace hF := hF.2 hc7
        refine Ok.skip ?_
        refine Ok.thenN ?_
        refine Ok.heapEq (H' := [.blk bs7 (.cells #[.int .i64 7, .string ⟨⟨(numberV0 xs xn)⟩⟩, .string ⟨⟨(numberV1 xs xn)⟩⟩, .int .i64 xnum] 55), .blk bs6 (.cells #[.int .i64 0, .string ⟨⟨([] : List UInt8)⟩⟩, .string ⟨⟨([] : List UInt8)⟩⟩, .int .i64 0] 55)]) (econs (congrArg (fun l : List Value => Ent.blk bs7 (.cells ⟨l⟩ 55)) (lcons (rfl) (lcons (congrArg ((fun s : List UInt8 => Value.string ⟨⟨s⟩⟩)) ((Eq.trans ((if_f hc7).symm) ((if_f hc5).symm)))) (lcons (congrArg ((fun s : List UInt8 => Value.string ⟨⟨s⟩⟩)) ((Eq.trans ((if_f hc7).symm) ((if_f hc5).symm)))) (lcons (rfl) rfl))))) (econs (rfl) rfl)) ?_
        exact fun a W hA hW => ⟨hA.sub (by kernel_rfl), hW, hF⟩
  ·
    clear hF
    rintro a W ⟨hA, hW, hF⟩
    refine (?_ : Ok _ _ _ _ _ _) a W hA hW
    clear hA hW
    refine Ok.seq ?_
    refine Ok.region ?_
    refine Ok.op rfl (OpOk.step (v := .agg #[.int .i64 7, .string ⟨⟨(numberV0 xs xn)⟩⟩, .string ⟨⟨(numberV1 xs xn)⟩⟩, .int .i64 xnum]) (Yields.loadAgg 0 4 #[.int .i64 7, .string ⟨⟨(numberV0 xs xn)⟩⟩, .string ⟨⟨(numberV1 xs xn)⟩⟩, .int .i64 xnum] rfl rfl Tryz.underlying55 rfl (by kernel_rfl) (by kernel_rfl) (by kernel_rfl)) rfl rfl ?_)
    refine Ok.op rfl (OpOk.store (k := 4) (v := .agg #[.int .i64 7, .string ⟨⟨(numberV0 xs xn)⟩⟩, .string ⟨⟨(numberV1 xs xn)⟩⟩, .int .i64 xnum]) (H' := [.blk bs7 (.cells #[.int .i64 7, .string ⟨⟨(numberV0 xs xn)⟩⟩, .string ⟨⟨(numberV1 xs xn)⟩⟩, .int .i64 xnum] 55), .blk bs6 (.cells #[.int .i64 7, .string ⟨⟨(numberV0 xs xn)⟩⟩, .string ⟨⟨(numberV1 xs xn)⟩⟩, .int .i64 xnum] 55)]) 1 rfl rfl rfl (by kernel_rfl) (by kernel_rfl) (by kernel_rfl) (by kernel_rfl) (by kernel_rfl) ?_)
    refine Ok.nil ?_
    refine Ok.thenN ?_
    refine Ok.ret ?_
    exact Ok.resP (vs := [.agg #[.int .i64 7, .string ⟨⟨(numberV0 xs xn)⟩⟩, .string ⟨⟨(numberV1 xs xn)⟩⟩, .int .i64 xnum]]) [] [] (by decide) rfl (.inl rfl) rfl (.cons (.cellAgg 1 4 #[.int .i64 7, .string ⟨⟨(numberV0 xs xn)⟩⟩, .string ⟨⟨(numberV1 xs xn)⟩⟩, .int .i64 xnum] rfl rfl Tryz.underlying55 rfl (by kernel_rfl) (by kernel_rfl) (by kernel_rfl)) .nil) (Gext.refl w0 g) ⟨(7, (numberV0 xs xn), (numberV1 xs xn), xnum), rfl, rfl, hF⟩
def numberj5M (xs : List UInt8) (xnum : Int) (xn : Int) : (Int × List UInt8 × List UInt8 × Int) := (7, (numberV0 xs xn), (numberV1 xs xn), xnum)
set_option linter.unusedSimpArgs false in
set_option linter.unusedVariables false in
theorem numberj5_A (xs : List UInt8) (xnum : Int) (xn : Int) (P : (Int × List UInt8 × List UInt8 × Int) → Prop) (h : P (numberj5M xs xnum xn)) : numberj5 xs xnum xn (fun k0 => P k0) := by
  unfold numberj5M at h
  unfold numberj5
  exact h
def numberM (xs : List UInt8) (xnum : Int) (xn : Int) : (Int × List UInt8 × List UInt8 × Int) := (numberj5M xs xnum xn)
set_option linter.unusedSimpArgs false in
set_option linter.unusedVariables false in
theorem numberF_A (xs : List UInt8) (xnum : Int) (xn : Int) (hp : numberP xs xnum xn) (P : (Int × List UInt8 × List UInt8 × Int) → Prop) (h : P (numberM xs xnum xn)) : numberF xs xnum xn (fun k0 => P k0) := by
  unfold numberM at h
  unfold numberF
  refine ⟨?_, ?_, ?_, ?_⟩
  · first | exact hp.2.2 | exact hp.2.1 | exact (hp_one hc0 hp.2.1 hp.1).2 | exact (hp_one hc0 hp.2.1 hp.1).1 | exact (ahead_ok hp.1 hp.2.1 hp.2.2).2 | exact (ahead_ok hp.1 hp.2.1 hp.2.2).1 | exact lowerP_name (nameP_drop hp.1 _) | exact nameP_drop hp.1 _ | omega | assumption | exact trivial | (have h0 := List.length_pos_iff.mpr (by assumption); omega) | (simp; omega) | (simp at *; omega)
  · first | exact hp.2.2 | exact hp.2.1 | exact (hp_one hc0 hp.2.1 hp.1).2 | exact (hp_one hc0 hp.2.1 hp.1).1 | exact (ahead_ok hp.1 hp.2.1 hp.2.2).2 | exact (ahead_ok hp.1 hp.2.1 hp.2.2).1 | exact lowerP_name (nameP_drop hp.1 _) | exact nameP_drop hp.1 _ | omega | assumption | exact trivial | (have h0 := List.length_pos_iff.mpr (by assumption); omega) | (simp; omega) | (simp at *; omega)
  · first | exact hp.2.2 | exact hp.2.1 | exact (hp_one hc0 hp.2.1 hp.1).2 | exact (hp_one hc0 hp.2.1 hp.1).1 | exact (ahead_ok hp.1 hp.2.1 hp.2.2).2 | exact (ahead_ok hp.1 hp.2.1 hp.2.2).1 | exact lowerP_name (nameP_drop hp.1 _) | exact nameP_drop hp.1 _ | omega | assumption | exact trivial | (have h0 := List.length_pos_iff.mpr (by assumption); omega) | (simp; omega) | (simp at *; omega)
  refine ⟨?_, ?_, ?_, ?_⟩
  · first | exact hp.2.2 | exact hp.2.1 | exact (hp_one hc0 hp.2.1 hp.1).2 | exact (hp_one hc0 hp.2.1 hp.1).1 | exact (ahead_ok hp.1 hp.2.1 hp.2.2).2 | exact (ahead_ok hp.1 hp.2.1 hp.2.2).1 | exact lowerP_name (nameP_drop hp.1 _) | exact nameP_drop hp.1 _ | omega | assumption | exact trivial | (have h0 := List.length_pos_iff.mpr (by assumption); omega) | (simp; omega) | (simp at *; omega)
  · first | exact hp.2.2 | exact hp.2.1 | exact (hp_one hc0 hp.2.1 hp.1).2 | exact (hp_one hc0 hp.2.1 hp.1).1 | exact (ahead_ok hp.1 hp.2.1 hp.2.2).2 | exact (ahead_ok hp.1 hp.2.1 hp.2.2).1 | exact lowerP_name (nameP_drop hp.1 _) | exact nameP_drop hp.1 _ | omega | assumption | exact trivial | (have h0 := List.length_pos_iff.mpr (by assumption); omega) | (simp; omega) | (simp at *; omega)
  · first | exact hp.2.2 | exact hp.2.1 | exact (hp_one hc0 hp.2.1 hp.1).2 | exact (hp_one hc0 hp.2.1 hp.1).1 | exact (ahead_ok hp.1 hp.2.1 hp.2.2).2 | exact (ahead_ok hp.1 hp.2.1 hp.2.2).1 | exact lowerP_name (nameP_drop hp.1 _) | exact nameP_drop hp.1 _ | omega | assumption | exact trivial | (have h0 := List.length_pos_iff.mpr (by assumption); omega) | (simp; omega) | (simp at *; omega)
  refine ⟨fun hc0 => ?_, fun hc0 => ?_⟩
  · skip
    refine ⟨?_, ?_, ?_, ?_⟩
    · first | exact hp.2.2 | exact hp.2.1 | exact (hp_one hc0 hp.2.1 hp.1).2 | exact (hp_one hc0 hp.2.1 hp.1).1 | exact (ahead_ok hp.1 hp.2.1 hp.2.2).2 | exact (ahead_ok hp.1 hp.2.1 hp.2.2).1 | exact lowerP_name (nameP_drop hp.1 _) | exact nameP_drop hp.1 _ | omega | assumption | exact trivial | (have h0 := List.length_pos_iff.mpr (by assumption); omega) | (simp; omega) | (simp at *; omega)
    · first | exact hp.2.2 | exact hp.2.1 | exact (hp_one hc0 hp.2.1 hp.1).2 | exact (hp_one hc0 hp.2.1 hp.1).1 | exact (ahead_ok hp.1 hp.2.1 hp.2.2).2 | exact (ahead_ok hp.1 hp.2.1 hp.2.2).1 | exact lowerP_name (nameP_drop hp.1 _) | exact nameP_drop hp.1 _ | omega | assumption | exact trivial | (have h0 := List.length_pos_iff.mpr (by assumption); omega) | (simp; omega) | (simp at *; omega)
    · first | exact hp.2.2 | exact hp.2.1 | exact (hp_one hc0 hp.2.1 hp.1).2 | exact (hp_one hc0 hp.2.1 hp.1).1 | exact (ahead_ok hp.1 hp.2.1 hp.2.2).2 | exact (ahead_ok hp.1 hp.2.1 hp.2.2).1 | exact lowerP_name (nameP_drop hp.1 _) | exact nameP_drop hp.1 _ | omega | assumption | exact trivial | (have h0 := List.length_pos_iff.mpr (by assumption); omega) | (simp; omega) | (simp at *; omega)
    exact numberj5_A xs xnum xn _ h
  · skip
    refine ⟨fun hc1 => ?_, fun hc1 => ?_⟩
    · skip
      refine ⟨?_, ?_⟩
      · first | exact hp.2.2 | exact hp.2.1 | exact (hp_one hc0 hp.2.1 hp.1).2 | exact (hp_one hc0 hp.2.1 hp.1).1 | exact (ahead_ok hp.1 hp.2.1 hp.2.2).2 | exact (ahead_ok hp.1 hp.2.1 hp.2.2).1 | exact lowerP_name (nameP_drop hp.1 _) | exact nameP_drop hp.1 _ | omega | assumption | exact trivial | (have h0 := List.length_pos_iff.mpr (by assumption); omega) | (simp; omega) | (simp at *; omega)
      refine ⟨?_, ?_, ?_, ?_⟩
      · first | exact hp.2.2 | exact hp.2.1 | exact (hp_one hc0 hp.2.1 hp.1).2 | exact (hp_one hc0 hp.2.1 hp.1).1 | exact (ahead_ok hp.1 hp.2.1 hp.2.2).2 | exact (ahead_ok hp.1 hp.2.1 hp.2.2).1 | exact lowerP_name (nameP_drop hp.1 _) | exact nameP_drop hp.1 _ | omega | assumption | exact trivial | (have h0 := List.length_pos_iff.mpr (by assumption); omega) | (simp; omega) | (simp at *; omega)
      · first | exact hp.2.2 | exact hp.2.1 | exact (hp_one hc0 hp.2.1 hp.1).2 | exact (hp_one hc0 hp.2.1 hp.1).1 | exact (ahead_ok hp.1 hp.2.1 hp.2.2).2 | exact (ahead_ok hp.1 hp.2.1 hp.2.2).1 | exact lowerP_name (nameP_drop hp.1 _) | exact nameP_drop hp.1 _ | omega | assumption | exact trivial | (have h0 := List.length_pos_iff.mpr (by assumption); omega) | (simp; omega) | (simp at *; omega)
      · first | exact hp.2.2 | exact hp.2.1 | exact (hp_one hc0 hp.2.1 hp.1).2 | exact (hp_one hc0 hp.2.1 hp.1).1 | exact (ahead_ok hp.1 hp.2.1 hp.2.2).2 | exact (ahead_ok hp.1 hp.2.1 hp.2.2).1 | exact lowerP_name (nameP_drop hp.1 _) | exact nameP_drop hp.1 _ | omega | assumption | exact trivial | (have h0 := List.length_pos_iff.mpr (by assumption); omega) | (simp; omega) | (simp at *; omega)
      refine ⟨?_, ?_⟩
      · first | exact hp.2.2 | exact hp.2.1 | exact (hp_one hc0 hp.2.1 hp.1).2 | exact (hp_one hc0 hp.2.1 hp.1).1 | exact (ahead_ok hp.1 hp.2.1 hp.2.2).2 | exact (ahead_ok hp.1 hp.2.1 hp.2.2).1 | exact lowerP_name (nameP_drop hp.1 _) | exact nameP_drop hp.1 _ | omega | assumption | exact trivial | (have h0 := List.length_pos_iff.mpr (by assumption); omega) | (simp; omega) | (simp at *; omega)
      exact numberj5_A xs xnum xn _ h
    · skip
      exact numberj5_A xs xnum xn _ h
theorem number_F (xs : List UInt8) (xnum : Int) (xn : Int) (hp : numberP xs xnum xn) : numberF xs xnum xn (fun k0 => k0 = numberM xs xnum xn) :=
  numberF_A xs xnum xn hp (fun z => z = numberM xs xnum xn) rfl
set_option linter.unusedVariables false in
theorem number_c {g : Ghost} (xs : List UInt8) (xnum : Int) (xn : Int)  (hp : numberP xs xnum xn) : CallsG Tryz.prog 36 #[.string ⟨⟨xs⟩⟩, .int .i64 xnum, .int .i64 xn] g (.agg #[.int .i64 (numberM xs xnum xn).1, .string ⟨⟨(numberM xs xnum xn).2.1⟩⟩, .string ⟨⟨(numberM xs xnum xn).2.2.1⟩⟩, .int .i64 (numberM xs xnum xn).2.2.2]) :=
  (number_ok xs xnum xn _ (number_F xs xnum xn hp)).gives (by rintro g' H' v _ ⟨r0, rfl, rfl, hK⟩; subst hK; rfl)
end Go.Proofs.YtjehllphdpkjeaaGreatDoor.Css
