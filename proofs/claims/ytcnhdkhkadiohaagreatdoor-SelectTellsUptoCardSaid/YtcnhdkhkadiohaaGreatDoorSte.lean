/- SelectTells: Text; the law. -/
import Derived.Test.YtcnhdkhkadiohaaGreatDoorStd
import Derived.Test.YtcnhdkhkadiohaaGreatDoorSfs
namespace Go.Proofs.YtcnhdkhkadiohaaGreatDoor.Se
open Go Go.Eng Go.RowKit Bld Trm Css Tk Ti Me Rp Qu
set_option maxHeartbeats 4000000
set_option maxRecDepth 100000
set_option linter.unusedSimpArgs false
set_option linter.unusedVariables false
def sxtF (xl : List PH) (K : Bs → Int → Prop) : Prop :=
 chkP xl ∧ ((((chkS xl) != 0)) = true → K ([] : Bs) (chkS xl)) ∧ ((((chkS xl) != 0)) = false → stxPE xl ∧ ((decide (((tx3 xl).length : Int) > 400)) = true → K ([] : Bs) 2) ∧ ((decide (((tx3 xl).length : Int) > 400)) = false → K (tx3 xl) 0))
theorem sxt_ok {g : Ghost} {axl_0 : Option Addr} {cxl_0 : Nat} (xl : List PH) (hRxl_0 : Rep g (.slice yP) [.slice axl_0 xl.length cxl_0] xl) (hG0 : SomeInt g 0) (hG3 : GlobL g 3 (.int .u64) DPow) (K : Bs → Int → Prop)
  (hF : sxtF xl K) : CallsH Tryz.prog 12 #[.slice axl_0 xl.length cxl_0] g [] (fun g' H' v => ∃ (r0 : Bs), ∃ (r1 : Int), v = .tuple #[sv r0, iv r1] ∧ H' = [] ∧ K r0 r1) := by
 refine CallsH.enter 17 [(0, .slice axl_0 xl.length cxl_0)] Tryz.func12 rfl kr kr kr fun w0 => ?_
 refine Ok.sr ((Ok.B 2 [(0, .slice axl_0 xl.length cxl_0)] kr (Ok.nt ((Ok.q (Ok.sr ((Ok.b 1 [0] [(6, .slice axl_0 xl.length cxl_0)] ?_))))))))
 obtain ⟨hp1, hF⟩ := hF
 refine Ok.op rfl (OpOk.f enr (fun W hW => chk_c xl (hRxl_0.mono hW.sees) (hG0.mono hW.sees) hp1) rfl ?_)
 refine Ok.b 1 [0] [(4, iv (chkS xl))] ?_
 refine Ok.nt ((Ok.sr ((Ok.b 2 [0, 4] [(9, .bool ((chkS xl) != 0))] ?_))))
 refine Ok.nt ((Ok.cn hF rfl (fun hc2 => ?_) (fun hc2 => ?_)))
 ·replace hF := hF.1 hc2
  refine Ok.sr ((Ok.B 3 [(2, sv ([] : Bs)), (3, iv (chkS xl))] kr (Ok.nt ((Ok.ret (Ok.tr ?_))))))
  exact Ok.resH (vs := [sv ([] : Bs), iv (chkS xl)]) (.inl rfl) rfl (.cons (.tmp rfl) (.cons (.tmp rfl) .nil)) (Gext.r w0 g) ⟨([] : Bs), (chkS xl), rfl, rfl, hF⟩
 replace hF := hF.2 hc2
 refine Ok.k (Ok.t (Ok.sr ((Ok.B 1 [(11, .slice axl_0 xl.length cxl_0)] kr ?_))))
 obtain ⟨hp3, hF⟩ := hF
 refine Ok.op rfl (OpOk.f enr (fun W hW => stx_c xl (hRxl_0.mono hW.sees) (hG3.mono hW.sees) hp3) rfl ?_)
 refine Ok.B 1 [(5, sv (tx3 xl))] kr (Ok.nt ((Ok.q (Ok.sr ((Ok.b 3 [5] [(15, .bool (decide (((tx3 xl).length : Int) > 400)))] ?_))))))
 refine Ok.nt ((Ok.cn hF rfl (fun hc4 => ?_) (fun hc4 => ?_)))
 ·replace hF := hF.1 hc4
  refine Ok.sr ((Ok.B 2 [(2, sv ([] : Bs)), (3, iv 2)] kr (Ok.nt ((Ok.ret (Ok.tr ?_))))))
  exact Ok.resH (vs := [sv ([] : Bs), iv 2]) (.inl rfl) rfl (.cons (.tmp rfl) (.cons (.tmp rfl) .nil)) (Gext.r w0 g) ⟨([] : Bs), 2, rfl, rfl, hF⟩
 replace hF := hF.2 hc4
 refine Ok.k (Ok.t (Ok.sr ((Ok.B 3 [(2, sv (tx3 xl)), (3, iv 0)] kr (Ok.nt ((Ok.ret ?_)))))))
 exact Ok.resH (vs := [sv (tx3 xl), iv 0]) (.inl rfl) rfl (.cons (.tmp rfl) (.cons (.tmp rfl) .nil)) (Gext.r w0 g) ⟨(tx3 xl), 0, rfl, rfl, hF⟩
def sxtS (l : List Ph) : Bs × Int := if (chkS l != 0) = true then ([], chkS l) else if decide (((tx3 l).length : Int) > 400) = true then ([], 2) else (tx3 l, 0)
theorem chk_ok3 {l : List Ph} (h : chkS l = 0) : ok3 l = true ∧ l ≠ [] := by
 unfold chkS at h
 split at h
 ·cases h
 split at h
 ·cases h
 rename_i h2
 simp only [ptsS, Bool.not_eq_true', Bool.and_eq_false_iff, not_or, Bool.not_eq_false, decide_eq_true_eq] at h2
 refine ⟨h2.1, fun e => ?_⟩
 have := h2.2
 rw [e] at this
 simp at this
theorem stx_at {l : List Ph} (hp : chkP l) (h : chkS l = 0) : stxPE l := ⟨b3 l + 1, by omega, hp.1, hp.2, (chk_ok3 h).1⟩
theorem sxt_F (l : List Ph) (hp : chkP l) : sxtF l (fun r e => (r, e) = sxtS l) := by
 unfold sxtS
 refine ⟨hp, fun h => by rw [if_t h], fun h => ⟨stx_at hp (by simpa using h), fun h2 => ?_, fun h2 => ?_⟩⟩
 ·rw [if_f h, if_t h2]
 rw [if_f h, if_f h2]
theorem sxt_c {g : Ghost} {axl_0 : Option Addr} {cxl_0 : Nat} (xl : List PH) (hRxl_0 : Rep g (.slice yP) [.slice axl_0 xl.length cxl_0] xl) (hG0 : SomeInt g 0) (hG3 : GlobL g 3 (.int .u64) DPow)  (hp : chkP xl) : CallsG Tryz.prog 12 #[.slice axl_0 xl.length cxl_0] g (.tuple #[sv ((sxtS xl).1), iv (sxtS xl).2]) :=
 (sxt_ok xl hRxl_0 hG0 hG3 _ (sxt_F xl hp)).gives (by rintro g' H' v _ ⟨r0, r1, rfl, rfl, hK⟩; obtain ⟨rfl, rfl⟩ : r0 = (sxtS xl).1 ∧ r1 = (sxtS xl).2 := ⟨congrArg (fun z => z.1) hK, congrArg (fun z => z.2) hK⟩; rfl)
def lsxV0 (xl : List PH) : Bs :=
 (if ((chkS xl) == 0) = true then (tx3 xl) else ([] : Bs))
def lsxV1 (xl : List PH) : Int :=
 (if (decide (((lsxV0 xl).length : Int) > 400)) = true then 2 else (chkS xl))
def lsxV2 (xl : List PH) : Bs :=
 (if (decide (((lsxV0 xl).length : Int) > 400)) = true then ([] : Bs) else (lsxV0 xl))
def lsxV3 (xl : List PH) : Bool :=
 (true && (((sxtS xl).1 == (lsxV2 xl)) && ((lsxV1 xl) == (sxtS xl).2)))
def lsxj25 (xl : List PH) (K : Bool → Prop) : Prop :=
 K (lsxV3 xl)
def lsxj15 (xl : List PH) (K : Bool → Prop) : Prop :=
 chkP xl ∧ ((true) = true → lsxj25 xl K) ∧ ((true) = false → lsxj25 xl K)
def lsxj9 (xl : List PH) (K : Bool → Prop) : Prop :=
 ((decide (((lsxV0 xl).length : Int) > 400)) = true → lsxj15 xl K) ∧ ((decide (((lsxV0 xl).length : Int) > 400)) = false → lsxj15 xl K)
def lsxF (xl : List PH) (K : Bool → Prop) : Prop :=
 chkP xl ∧ ((((chkS xl) == 0)) = true → rpxPE xl ∧ lsxj9 xl K) ∧ ((((chkS xl) == 0)) = false → lsxj9 xl K)
theorem lsx_ok {g : Ghost} {axl_0 : Option Addr} {cxl_0 : Nat} (xl : List PH) (hRxl_0 : Rep g (.slice yP) [.slice axl_0 xl.length cxl_0] xl) (hG0 : SomeInt g 0) (hG3 : GlobL g 3 (.int .u64) DPow) (K : Bool → Prop)
  (hF : lsxF xl K) : CallsH Tryz.prog 4 #[.slice axl_0 xl.length cxl_0] g [] (fun g' H' v => ∃ (r0 : Bool), v = .bool r0 ∧ H' = [] ∧ K r0) := by
 refine CallsH.enter 34 [(0, .slice axl_0 xl.length cxl_0)] Tryz.func4 rfl kr kr kr fun w0 => ?_
 refine Ok.sr ((Ok.B 1 [(0, .slice axl_0 xl.length cxl_0)] kr (Ok.nt ((Ok.sr ((Ok.op rfl (OpOk.f enr (fun W hW => lsd_c  (hG0.mono hW.sees)) rfl ?_))))))))
 refine Ok.b 1 [0] [(3, .bool true)] ?_
 refine Ok.nt ((Ok.sr ((Ok.b 1 [0, 3] [(9, .slice axl_0 xl.length cxl_0)] ?_))))
 obtain ⟨hp1, hF⟩ := hF
 refine Ok.op rfl (OpOk.f enr (fun W hW => pfl_c xl (hRxl_0.mono hW.sees) (hG0.mono hW.sees) hp1) rfl ?_)
 refine Ok.b 1 [0, 3] [(4, iv (chkS xl))] ?_
 refine Ok.nt ((Ok.sr ((Ok.b 1 [0, 3, 4] [(5, sv ([] : Bs))] ?_))))
 refine Ok.nt ((Ok.cut (fun a W => StA 34 [(0, .slice axl_0 xl.length cxl_0), (3, .bool true), (4, iv (chkS xl)), (5, sv (lsxV0 xl))] a ∧ StW w0 [] g W ∧ lsxj9 xl K) ?_ ?_))
 ·
  refine Ok.sr ((Ok.b 2 [0, 3, 4, 5] [(12, .bool ((chkS xl) == 0))] ?_))
  refine Ok.nt ((Ok.cn hF rfl (fun hc7 => ?_) (fun hc7 => ?_)))
  ·replace hF := hF.1 hc7
   refine Ok.r (Ok.b 1 [0, 3, 4] [(13, .slice axl_0 xl.length cxl_0)] ?_)
   obtain ⟨hp8, hF⟩ := hF
   refine Ok.op rfl (OpOk.f enr (fun W hW => rpx_c xl (hRxl_0.mono hW.sees) hp8) rfl ?_)
   refine Ok.b 1 [0, 3, 4] [(5, sv (tx3 xl))] ?_
   refine Ok.nt ((Ok.v 5 rfl (show (sv (tx3 xl) : Value) = sv (lsxV0 xl) from congrArg ((fun s : Bs => Value.string ⟨⟨s⟩⟩)) ((if_t hc7).symm)) ?_))
   exact fun a W hA hW => ⟨hA.sub kr, hW, hF⟩
  replace hF := hF.2 hc7
  refine Ok.k (Ok.t (Ok.v 5 rfl (show (sv ([] : Bs) : Value) = sv (lsxV0 xl) from congrArg ((fun s : Bs => Value.string ⟨⟨s⟩⟩)) ((if_f hc7).symm)) ?_))
  exact fun a W hA hW => ⟨hA.sub kr, hW, hF⟩
 clear hF
 rintro a W ⟨hA, hW, hF⟩
 refine (?_ : Ok _ _ _ _ _ _) a W hA hW
 clear hA hW
 refine Ok.cut (fun a W => StA 34 [(0, .slice axl_0 xl.length cxl_0), (3, .bool true), (4, iv (lsxV1 xl)), (5, sv (lsxV2 xl))] a ∧ StW w0 [] g W ∧ lsxj15 xl K) ?_ ?_
 ·
  refine Ok.sr ((Ok.b 3 [0, 3, 4, 5] [(17, .bool (decide (((lsxV0 xl).length : Int) > 400)))] ?_))
  refine Ok.nt ((Ok.cn hF rfl (fun hc6 => ?_) (fun hc6 => ?_)))
  ·replace hF := hF.1 hc6
   refine Ok.sr ((Ok.b 1 [0, 3] [(5, sv ([] : Bs))] ?_))
   refine Ok.nt ((Ok.r (Ok.b 1 [0, 3, 5] [(4, iv 2)] ?_)))
   refine Ok.nt ((Ok.v 4 rfl (show (iv 2 : Value) = iv (lsxV1 xl) from congrArg (Value.int .i64) ((if_t hc6).symm)) (Ok.v 5 rfl (show (sv ([] : Bs) : Value) = sv (lsxV2 xl) from congrArg ((fun s : Bs => Value.string ⟨⟨s⟩⟩)) ((if_t hc6).symm)) ?_)))
   exact fun a W hA hW => ⟨hA.sub kr, hW, hF⟩
  replace hF := hF.2 hc6
  refine Ok.k (Ok.t (Ok.v 4 rfl (show (iv (chkS xl) : Value) = iv (lsxV1 xl) from congrArg (Value.int .i64) ((if_f hc6).symm)) (Ok.v 5 rfl (show (sv (lsxV0 xl) : Value) = sv (lsxV2 xl) from congrArg ((fun s : Bs => Value.string ⟨⟨s⟩⟩)) ((if_f hc6).symm)) ?_)))
  exact fun a W hA hW => ⟨hA.sub kr, hW, hF⟩
 clear hF
 rintro a W ⟨hA, hW, hF⟩
 refine (?_ : Ok _ _ _ _ _ _) a W hA hW
 clear hA hW
 refine Ok.sr ((Ok.b 1 [3, 4, 5] [(19, .slice axl_0 xl.length cxl_0)] ?_))
 obtain ⟨hp2, hF⟩ := hF
 refine Ok.op rfl (OpOk.f enr (fun W hW => sxt_c xl (hRxl_0.mono hW.sees) (hG0.mono hW.sees) (hG3.mono hW.sees) hp2) rfl ?_)
 refine Ok.b 5 [3, 4, 5] [(6, sv ((sxtS xl).1)), (7, iv (sxtS xl).2)] ?_
 refine Ok.nt ((Ok.cut (fun a W => StA 34 [(2, .bool (lsxV3 xl))] a ∧ StW w0 [] g W ∧ lsxj25 xl K) ?_ ?_))
 ·
  refine Ok.r (Ok.b 2 [4, 5, 6, 7] [(24, .bool true)] ?_)
  refine Ok.a 24 (true) rfl (fun hc3 => ?_) (fun hc3 => ?_)
  ·replace hF := hF.1 hc3
   refine Ok.b 2 [4, 7, 24] [(25, sv ((sxtS xl).1)), (26, sv (lsxV2 xl))] ?_
   refine Ok.y (j := 1) (d := 24) (want := true) (b := true) rfl kr kr rfl (OpOk.s (v := .bool ((sxtS xl).1 == (lsxV2 xl))) (Yields.sc (f := .eql) (a := (sxtS xl).1) (b := (lsxV2 xl)) kr kr rfl) rfl rfl (Ok.b 2 [4, 7] [(29, .bool ((sxtS xl).1 == (lsxV2 xl)))] ?_))
   refine Ok.w 4 [(33, .bool (((sxtS xl).1 == (lsxV2 xl)) && ((lsxV1 xl) == (sxtS xl).2)))] (fun hR4 => ?_) ?_
   ·refine Ok.a 29 (((sxtS xl).1 == (lsxV2 xl))) rfl (fun hc5 => ?_) (fun hc5 => ?_)
    ·skip
     refine Ok.B 4 [(33, .bool ((lsxV1 xl) == (sxtS xl).2))] kr (Ok.v 33 rfl (show (.bool ((lsxV1 xl) == (sxtS xl).2) : Value) = .bool (((sxtS xl).1 == (lsxV2 xl)) && ((lsxV1 xl) == (sxtS xl).2)) from congrArg Value.bool (mand_t hc5)) (Ok.B 0 [(33, .bool (((sxtS xl).1 == (lsxV2 xl)) && ((lsxV1 xl) == (sxtS xl).2)))] kr ?_))
     exact hR4
    skip
    refine Ok.B 4 [(33, .bool false)] kr (Ok.v 33 rfl (show (.bool false : Value) = .bool (((sxtS xl).1 == (lsxV2 xl)) && ((lsxV1 xl) == (sxtS xl).2)) from congrArg Value.bool (mand_f hc5)) (Ok.B 0 [(33, .bool (((sxtS xl).1 == (lsxV2 xl)) && ((lsxV1 xl) == (sxtS xl).2)))] kr ?_))
    exact hR4
   refine Ok.B 1 [(2, .bool (((sxtS xl).1 == (lsxV2 xl)) && ((lsxV1 xl) == (sxtS xl).2)))] kr (Ok.nt ((Ok.v 2 rfl (show (.bool (((sxtS xl).1 == (lsxV2 xl)) && ((lsxV1 xl) == (sxtS xl).2)) : Value) = .bool (lsxV3 xl) from congrArg (Value.bool) (mand_t hc3)) ?_)))
   exact fun a W hA hW => ⟨hA.sub kr, hW, hF⟩
  replace hF := hF.2 hc3
  refine Ok.B 10 [(2, .bool false)] kr (Ok.nt ((Ok.v 2 rfl (show (.bool false : Value) = .bool (lsxV3 xl) from congrArg (Value.bool) (mand_f hc3)) ?_)))
  exact fun a W hA hW => ⟨hA.sub kr, hW, hF⟩
 clear hF
 rintro a W ⟨hA, hW, hF⟩
 refine (?_ : Ok _ _ _ _ _ _) a W hA hW
 clear hA hW
 refine Ok.ret ?_
 exact Ok.resH (vs := [.bool (lsxV3 xl)]) (.inl rfl) rfl (.cons (.tmp rfl) .nil) (Gext.r w0 g) ⟨(lsxV3 xl), rfl, rfl, hF⟩
def lsxP (l : List Ph) : Prop := DomU (.slice yP) l
theorem lsx_F (l : List Ph) (h : lsxP l) : lsxF l (fun r => r = true) := by
 have hc := chkU h
 have j25 : lsxj25 l (fun r => r = true) := by
  show lsxV3 l = true
  unfold lsxV3 lsxV2 lsxV1 lsxV0 sxtS
  by_cases h0 : chkS l = 0
  ·rw [h0, if_pos (by rfl : ((0 : Int) == 0) = true), if_neg (by decide : ¬ ((0 : Int) != 0) = true)]
   by_cases h4 : decide (((tx3 l).length : Int) > 400) = true
   ·rw [if_pos h4, if_pos h4, if_pos h4]; simp
   rw [if_neg h4, if_neg h4, if_neg h4]; simp
  have e1 : (chkS l == 0) = false := by simpa using h0
  have e2 : (chkS l != 0) = true := by simpa using h0
  rw [if_f e1, if_t e2]
  simp
 have j15 : lsxj15 l (fun r => r = true) := ⟨hc, fun _ => j25, fun _ => j25⟩
 have j9 : lsxj9 l (fun r => r = true) := ⟨fun _ => j15, fun _ => j15⟩
 exact ⟨hc, fun h0 => ⟨stx_at hc (eq_of_beq h0), j9⟩, fun _ => j9⟩
theorem lsx_c {g : Ghost} {axl_0 : Option Addr} {cxl_0 : Nat} (xl : List PH) (hRxl_0 : Rep g (.slice yP) [.slice axl_0 xl.length cxl_0] xl) (hG0 : SomeInt g 0) (hG3 : GlobL g 3 (.int .u64) DPow)  (hp : lsxP xl) : CallsG Tryz.prog 4 #[.slice axl_0 xl.length cxl_0] g (.bool true) :=
 (lsx_ok xl hRxl_0 hG0 hG3 _ (lsx_F xl hp)).gives (by rintro g' H' v _ ⟨r0, rfl, rfl, hK⟩; subst hK; rfl)
end Go.Proofs.YtcnhdkhkadiohaaGreatDoor.Se
