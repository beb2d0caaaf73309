/- selector: Read of a text that is told; the law's own fact. -/
import Derived.Test.YtcnhdkhkadiohaaGreatDoorSyf
namespace Go.Proofs.YtcnhdkhkadiohaaGreatDoor.Se
open Go Go.Eng Go.RowKit Go.Shelf Go.Proofs Bld Trm Css Tk Rp Qu Me Ti
set_option maxHeartbeats 4000000
set_option maxRecDepth 100000
set_option linter.unusedSimpArgs false
set_option linter.unusedVariables false
theorem idle26 (p q : Value) : Idle Tryz.prog 26 #[p, q] := by
 intro W
 refine callsD_of_wpS Tryz.func26 rfl fun c₀ cs hu => ?_
 apply wpS_seq
 apply wpS_region
 simp [wpOpsS, go_sem, recoverD, hu, Exit.thenS]
 apply wpS_seq
 apply wpS_region
 simp [wpOpsS, go_sem, Exit.thenS]
 refine wpS_cond (t := false) (by simp [Act.eval, Array.replicate]) ?_
 simp only [Bool.false_eq_true, if_false]
 refine wpS_of_wp (wp_skip ?_)
 exact ⟨rfl, .returning, by cases c₀; simp_all, .tuple #[], by simp [results, Tryz.results26], ⟨_, rfl⟩, rfl, Below.refl _ _⟩
def Told (l : List Ph) : Prop := chkP l ∧ chkS l = 0 ∧ (tx3 l).length ≤ 400
def rdP (s : Bs) : Prop := ∃ l, Told l ∧ s = tx3 l
def rdS (s : Bs) : List Ph × Int := ((lstR (cutS s) []).1, 0)
theorem cuts_big {s : Bs} {ts : List Tok} (h : Cuts s ts) : ts.length ≤ s.length ∧ ∀ t ∈ ts, t.2.1.length ≤ s.length := by
 induction h with
 | nil => exact ⟨Nat.le_refl _, fun t h => (by cases h)⟩
 | @cons w r t ts hw h ht hr ih =>
  have : 1 ≤ w.length := by cases w with
   | nil => exact absurd rfl hw
   | cons c w => simp
  refine ⟨by rw [List.length_cons, List.length_append]; omega, fun y hy => ?_⟩
  rw [List.length_append]
  rcases List.mem_cons.1 hy with rfl | hy
  ·rw [ht]; omega
  have := ih.2 y hy; omega
theorem told_ok {l : List Ph} (h : Told l) : ok3 l = true ∧ l ≠ [] := by
 have h := h.2.1
 unfold chkS at h
 split at h
 ·cases h
 split at h
 ·cases h
 rename_i h2
 simp only [ptsS, Bool.not_eq_true', Bool.and_eq_false_iff, not_or, Bool.not_eq_false, decide_eq_true_eq] at h2
 refine ⟨h2.1, fun e => ?_⟩
 have := h2.2
 rw [e] at this
 simp at this
theorem told_parts {l : List Ph} (h : Told l) : ∃ p js l' a b, l = (p, js) :: l' ∧ ok3 ((p, js) :: l') = true ∧ Tk2 p js a ∧ Tr3 l' b ∧ cutS (tx3 l) = a ++ (b ++ []) ∧ BigR (cutS (tx3 l)) := by
 obtain ⟨h1, h2⟩ := told_ok h
 obtain ⟨ht, hc⟩ := text_toks h1 h.1.2 (Nat.le_trans h.2.2 dc)
 have hb := cuts_big hc
 have hl := h.2.2
 match l, h2 with
 | (p, js) :: l, _ =>
  rw [Tk3] at ht
  obtain ⟨a, b, ha, hb', e⟩ := ht
  exact ⟨p, js, l, a, b, rfl, h1, ha, hb', by rw [List.append_nil]; exact e, by omega, fun t ht => by have := hb.2 t ht; omega⟩
theorem rd_eq {l : List Ph} (h : Told l) : rdS (tx3 l) = (l, 0) := by
 obtain ⟨p, js, l', a, b, rfl, ho, ha, hb, e, -⟩ := told_parts h
 unfold rdS
 rw [e, lst_eq ho ha hb (e := []) (fin := []) (rest := []) (.inl ⟨rfl, rfl, rfl⟩)]
def rdF (xs : Bs) (K : (List PH) → Int → Prop) : Prop :=
 ((decide ((xs.length : Int) > 400)) = true → K ([]) 2) ∧ ((decide ((xs.length : Int) > 400)) = false → cutP xs ∧ lstPE (cutS xs) ([] : Bs) ∧ chkP (lstR (cutS xs) ([] : Bs)).1 ∧ ((((chkS (lstR (cutS xs) ([] : Bs)).1) != 0)) = true → K ([]) 4) ∧ ((((chkS (lstR (cutS xs) ([] : Bs)).1) != 0)) = false → K (lstR (cutS xs) ([] : Bs)).1 0))
theorem rd_ok {g : Ghost} (xs : Bs) (hG0 : SomeInt g 0) (K : (List PH) → Int → Prop)
  (hF : rdF xs K) : CallsH Tryz.prog 16 #[sv xs] g [] (fun g' H' v => ∃ (r0 : List PH), ∃ (r1 : Int), ∃ (z0 : Option Addr) (v0 : Nat), v = .tuple #[.slice z0 r0.length v0, iv r1] ∧ Rep g' (.slice yP) [.slice z0 r0.length v0] r0 ∧ H' = [] ∧ K r0 r1) := by
 refine CallsH.enterD 19 [(0, sv xs)] Tryz.func16 rfl kr kr kr fun w0 => ?_
 refine Ok.sr ((Ok.op rfl (OpOk.a (z := .slice none 0 0) (cs := #[.slice none 0 0]) kr kr rfl fun bs2 => ?_)))
 refine Ok.op rfl (OpOk.a (z := iv 0) (cs := #[iv 0]) kr kr rfl fun bs3 => ?_)
 refine Ok.nt ((Ok.q (Ok.sr ((Ok.B 3 [(0, sv xs), (2, pv bs2 0), (3, pv bs3 0), (7, .bool (decide ((xs.length : Int) > 400)))] kr (Ok.nt ((Ok.cn hF rfl (fun hc3 => ?_) (fun hc3 => ?_)))))))))
 ·replace hF := hF.1 hc3
  refine Ok.sr ((Ok.op rfl (OpOk.sto (k := 1) (v := .slice none 0 0) 1 #[.slice none 0 0] rfl rfl rfl ?_)))
  refine Ok.op rfl (OpOk.sto (k := 1) (v := iv 2) 0 #[iv 2] rfl rfl rfl ?_)
  refine Ok.nt ((Ok.ret (Ok.tr ?_)))
  exact Ok.resD0 (vs := [.slice none 0 0, iv 2]) rfl [] [] dc rfl (.inl rfl) rfl (.cons (.cellOne 1 rfl rfl Tryz.underlying29 rfl kr) (.cons (.cellOne 0 rfl rfl Tryz.underlying27 rfl kr) .nil)) (Gext.r w0 g) ⟨([]), 2, none, 0, rfl, Rep.nil, rfl, hF⟩
 replace hF := hF.2 hc3
 refine Ok.k (Ok.t (Ok.sr ((Ok.b 1 [0, 2, 3] [(8, .func (.func 26) #[] #[pv bs2 0, pv bs3 0])] ?_))))
 refine Ok.op rfl (OpOk.defer ⟨.fn (.func 26) #[pv bs2 0, pv bs3 0], #[]⟩ kr (fun _ => by kernel_rfl) rfl ?_)
 refine Ok.nt ((Ok.sr ((Ok.b 1 [2, 3] [(9, sv xs)] ?_))))
 obtain ⟨hp4, hF⟩ := hF
 refine Ok.op rfl (OpOk.callH [] _ enr rfl (cut_c xs hG0 hp4) rfl fun g5 _ _ hx5 hV5 => ?_)
 obtain ⟨e0, f0, rfl, hR5_0, rfl⟩ := hV5
 replace hG0 := hG0.mono hx5.1
 refine Ok.b 1 [2, 3] [(11, .agg #[.slice e0 (cutS xs).length f0])] ?_
 refine Ok.op rfl (OpOk.box (v := .agg #[.slice e0 (cutS xs).length f0]) (cs := #[.slice e0 (cutS xs).length f0]) rfl kr rfl fun i0 => ?_)
 refine Ok.b 1 [2, 3] [(4, pv i0 0)] ?_
 refine Ok.nt ((Ok.sr ((Ok.b 1 [2, 3] [(13, pv i0 0)] ?_))))
 obtain ⟨hp7, hF⟩ := hF
 refine Ok.op rfl (OpOk.callH [_] _ enr rfl (lst_c (cutS xs) ([] : Bs) hR5_0 hG0 hp7) rfl fun g8 _ _ hx8 hV8 => ?_)
 obtain ⟨q0, k0, a8_2, c8_2, rfl, c0, hR8_2, rfl⟩ := hV8
 replace hG0 := hG0.mono hx8.1
 refine Ok.op rfl (OpOk.sto (k := 1) (v := .slice q0 ((lstR (cutS xs) ([] : Bs)).1).length k0) 2 #[.slice q0 ((lstR (cutS xs) ([] : Bs)).1).length k0] rfl rfl rfl ?_)
 refine Ok.nt ((Ok.q (Ok.sr ((Ok.op rfl (OpOk.s (v := .slice q0 ((lstR (cutS xs) ([] : Bs)).1).length k0) (Yields.l 2 rfl rfl Tryz.underlying29 rfl kr) rfl rfl ?_))))))
 obtain ⟨hp9, hF⟩ := hF
 refine Ok.op rfl (OpOk.f enr (fun W hW => chk_c (lstR (cutS xs) ([] : Bs)).1 (c0.mono hW.sees) (hG0.mono hW.sees) hp9) rfl ?_)
 refine Ok.b 1 [2, 3] [(17, .bool ((chkS (lstR (cutS xs) ([] : Bs)).1) != 0))] ?_
 refine Ok.nt ((Ok.cn hF rfl (fun g0 => ?_) (fun g0 => ?_)))
 ·replace hF := hF.1 g0
  refine Ok.sr ((Ok.op rfl (OpOk.sto (k := 1) (v := .slice none 0 0) 2 #[.slice none 0 0] rfl rfl rfl ?_)))
  refine Ok.op rfl (OpOk.sto (k := 1) (v := iv 4) 1 #[iv 4] rfl rfl rfl ?_)
  refine Ok.nt ((Ok.ret (Ok.tr ?_)))
  exact Ok.resD (vs := [.slice none 0 0, iv 4]) (args := #[pv bs2 0, pv bs3 0]) (idle26 _ _) rfl (fun _ => by kernel_rfl) [] [] dc rfl (.inl rfl) rfl (.cons (.cellOne 2 rfl rfl Tryz.underlying29 rfl kr) (.cons (.cellOne 1 rfl rfl Tryz.underlying27 rfl kr) .nil)) (hx5.trans hx8) ⟨([]), 4, none, 0, rfl, Rep.nil, rfl, hF⟩
 replace hF := hF.2 g0
 refine Ok.k (Ok.t (Ok.sr ((Ok.op rfl (OpOk.s (v := .slice q0 ((lstR (cutS xs) ([] : Bs)).1).length k0) (Yields.l 2 rfl rfl Tryz.underlying29 rfl kr) rfl rfl (Ok.op rfl (OpOk.sto (k := 1) (v := .slice q0 ((lstR (cutS xs) ([] : Bs)).1).length k0) 2 #[.slice q0 ((lstR (cutS xs) ([] : Bs)).1).length k0] rfl rfl rfl ?_)))))))
 refine Ok.op rfl (OpOk.sto (k := 1) (v := iv 0) 1 #[iv 0] rfl rfl rfl ?_)
 refine Ok.nt ((Ok.ret ?_))
 exact Ok.resD (vs := [.slice q0 ((lstR (cutS xs) ([] : Bs)).1).length k0, iv 0]) (args := #[pv bs2 0, pv bs3 0]) (idle26 _ _) rfl (fun _ => by kernel_rfl) [] [] dc rfl (.inl rfl) rfl (.cons (.cellOne 2 rfl rfl Tryz.underlying29 rfl kr) (.cons (.cellOne 1 rfl rfl Tryz.underlying27 rfl kr) .nil)) (hx5.trans hx8) ⟨(lstR (cutS xs) ([] : Bs)).1, 0, q0, k0, rfl, c0, rfl, hF⟩
theorem rd_F (s : Bs) (hp : rdP s) : rdF s (fun a c => (a, c) = rdS s) := by
 obtain ⟨l, h, rfl⟩ := hp
 rw [rd_eq h]
 obtain ⟨p, js, l', a, b, el, ho, ha, hb, e, hB⟩ := told_parts h
 have e1 : (lstR (cutS (tx3 l)) []).1 = l := congrArg Prod.fst (rd_eq h)
 have hN : lstPE (cutS (tx3 l)) [] := ⟨_, l', p, js, a, b, [], [], ho, ha, hb, .inl ⟨rfl, rfl, rfl⟩, e, Nat.lt_succ_self _, hB⟩
 have hc : cutP (tx3 l) := by have := h.2.2; show (tx3 l).length < 4294967281; omega
 have hl := h.2.2
 unfold rdF
 rw [e1]
 refine ⟨fun h => absurd (of_decide_eq_true h) om, fun _ => ⟨hc, hN, h.1, ?_⟩⟩
 show (((chkS l != 0)) = true → _) ∧ (((chkS l != 0)) = false → _)
 rw [h.2.1]
 exact ⟨fun h => absurd h dc, fun _ => rfl⟩
theorem rd_c {g : Ghost} (xs : Bs) (hG0 : SomeInt g 0)  (hp : rdP xs) : CallsH Tryz.prog 16 #[sv xs] g [] (fun g' H' v => ∃ (z0 : Option Addr) (v0 : Nat), v = .tuple #[.slice z0 ((rdS xs).1).length v0, iv (rdS xs).2] ∧ Rep g' (.slice yP) [.slice z0 ((rdS xs).1).length v0] (rdS xs).1 ∧ H' = []) :=
 (rd_ok xs hG0 _ (rd_F xs hp)).mono (by rintro g' H' v _ ⟨r0, r1, z0, v0, rfl, hRr0_0, rfl, hK⟩; obtain ⟨rfl, rfl⟩ : r0 = (rdS xs).1 ∧ r1 = (rdS xs).2 := ⟨congrArg (fun z => z.1) hK, congrArg (fun z => z.2) hK⟩; exact ⟨z0, v0, rfl, hRr0_0, rfl⟩)
def pA : Ph := ([[.mk (2, [97], 0, [], 0, 0) []], [.mk (4, [98], 0, [], 0, 0) []]], [62])
theorem told_A : Told [pA] := by
 refine ⟨⟨by decide +kernel, fun q hq => ?_⟩, by decide +kernel, by decide +kernel⟩
 obtain rfl := List.mem_singleton.1 hq
 have ok : ∀ k n, okB (.mk (k, n, 0, [], 0, 0) []) := fun k n => Tst.all_mk.2 ⟨⟨⟨by show (0 : Int) ≤ 0; decide, by show (0 : Int) ≤ 255; decide⟩, fun q hq => (by cases hq)⟩, fun q hq => (by cases hq)⟩
 refine ⟨fun z hz => ?_, fun s hs t ht => ?_⟩
 ·obtain rfl := List.mem_singleton.1 hz
  exact ⟨by decide, by decide⟩
 rcases List.mem_cons.1 hs with rfl | hs
 ·obtain rfl := List.mem_singleton.1 ht
  exact ok _ _
 obtain rfl := List.mem_singleton.1 hs
 obtain rfl := List.mem_singleton.1 ht
 exact ok _ _
theorem tx_A : tx3 [pA] = [97, 32, 62, 32, 46, 98] := by decide +kernel
theorem rd_A : rdS [97, 32, 62, 32, 46, 98] = ([pA], 0) := by rw [← tx_A]; exact rd_eq told_A
def lsdV0 : Bool :=
 ((((rdS ([97, 32, 62, 32, 46, 98] : Bs)).2 == 0) && ((((rdS ([97, 32, 62, 32, 46, 98] : Bs)).1).length : Int) == 1)) && ((((((rdS ([97, 32, 62, 32, 46, 98] : Bs)).1).getD (Int.toNat 0) default).1.length : Int) == 2) && ((bytesOf (((rdS ([97, 32, 62, 32, 46, 98] : Bs)).1).getD (Int.toNat 0) default).2) == ([62] : Bs))))
def lsdj5 (K : Bool → Prop) : Prop :=
 K lsdV0
def lsdF (K : Bool → Prop) : Prop :=
 rdP ([97, 32, 62, 32, 46, 98] : Bs) ∧ (((((rdS ([97, 32, 62, 32, 46, 98] : Bs)).2 == 0) && ((((rdS ([97, 32, 62, 32, 46, 98] : Bs)).1).length : Int) == 1))) = true → (0 : Int) ≤ 0 ∧ Int.toNat 0 < ((rdS ([97, 32, 62, 32, 46, 98] : Bs)).1).length ∧ (((((((rdS ([97, 32, 62, 32, 46, 98] : Bs)).1).getD (Int.toNat 0) default).1.length : Int) == 2)) = true → lsdj5 K) ∧ (((((((rdS ([97, 32, 62, 32, 46, 98] : Bs)).1).getD (Int.toNat 0) default).1.length : Int) == 2)) = false → lsdj5 K)) ∧ (((((rdS ([97, 32, 62, 32, 46, 98] : Bs)).2 == 0) && ((((rdS ([97, 32, 62, 32, 46, 98] : Bs)).1).length : Int) == 1))) = false → lsdj5 K)
theorem lsd_ok {g : Ghost}  (hG0 : SomeInt g 0) (K : Bool → Prop)
  (hF : lsdF K) : CallsH Tryz.prog 7 #[] g [] (fun g' H' v => ∃ (r0 : Bool), v = .bool r0 ∧ H' = [] ∧ K r0) := by
 refine CallsH.enter 30 [] Tryz.func7 rfl kr kr kr fun w0 => ?_
 refine Ok.sr ((Ok.B 1 [] kr (Ok.nt ((Ok.q (Ok.r ?_))))))
 obtain ⟨hp1, hF⟩ := hF
 refine Ok.op rfl (OpOk.callH [] _ enr rfl (rd_c ([97, 32, 62, 32, 46, 98] : Bs) hG0 hp1) rfl fun g2 _ _ hx2 hV2 => ?_)
 obtain ⟨y0, u0, rfl, d0, rfl⟩ := hV2
 replace hG0 := hG0.mono hx2.1
 refine Ok.B 5 [(1, .slice y0 ((rdS ([97, 32, 62, 32, 46, 98] : Bs)).1).length u0), (2, iv (rdS ([97, 32, 62, 32, 46, 98] : Bs)).2)] kr (Ok.nt ((Ok.cut (fun a W => ∃ gj5 : Ghost, Gext w0 g2 gj5 ∧ StA 30 [(0, .bool lsdV0)] a ∧ StW w0 [] gj5 W ∧ lsdj5 K) ?_ ?_)))
 ·
  refine Ok.r (Ok.b 3 [1] [(9, .bool ((rdS ([97, 32, 62, 32, 46, 98] : Bs)).2 == 0))] ?_)
  refine Ok.w 4 [(1, .slice y0 ((rdS ([97, 32, 62, 32, 46, 98] : Bs)).1).length u0), (13, .bool (((rdS ([97, 32, 62, 32, 46, 98] : Bs)).2 == 0) && ((((rdS ([97, 32, 62, 32, 46, 98] : Bs)).1).length : Int) == 1)))] (fun hR3 => ?_) ?_
  ·refine Ok.a 9 (((rdS ([97, 32, 62, 32, 46, 98] : Bs)).2 == 0)) rfl (fun hc4 => ?_) (fun hc4 => ?_)
   ·skip
    refine Ok.b 4 [1] [(13, .bool ((((rdS ([97, 32, 62, 32, 46, 98] : Bs)).1).length : Int) == 1))] ?_
    refine Ok.v 13 rfl (show (.bool ((((rdS ([97, 32, 62, 32, 46, 98] : Bs)).1).length : Int) == 1) : Value) = .bool (((rdS ([97, 32, 62, 32, 46, 98] : Bs)).2 == 0) && ((((rdS ([97, 32, 62, 32, 46, 98] : Bs)).1).length : Int) == 1)) from congrArg Value.bool (mand_t hc4)) (Ok.b 0 [1] [(13, .bool (((rdS ([97, 32, 62, 32, 46, 98] : Bs)).2 == 0) && ((((rdS ([97, 32, 62, 32, 46, 98] : Bs)).1).length : Int) == 1)))] ?_)
    exact hR3
   skip
   refine Ok.b 4 [1] [(13, .bool false)] ?_
   refine Ok.v 13 rfl (show (.bool false : Value) = .bool (((rdS ([97, 32, 62, 32, 46, 98] : Bs)).2 == 0) && ((((rdS ([97, 32, 62, 32, 46, 98] : Bs)).1).length : Int) == 1)) from congrArg Value.bool (mand_f hc4)) (Ok.b 0 [1] [(13, .bool (((rdS ([97, 32, 62, 32, 46, 98] : Bs)).2 == 0) && ((((rdS ([97, 32, 62, 32, 46, 98] : Bs)).1).length : Int) == 1)))] ?_)
   exact hR3
  refine Ok.b 1 [1] [(14, .bool (((rdS ([97, 32, 62, 32, 46, 98] : Bs)).2 == 0) && ((((rdS ([97, 32, 62, 32, 46, 98] : Bs)).1).length : Int) == 1)))] ?_
  refine Ok.a 14 ((((rdS ([97, 32, 62, 32, 46, 98] : Bs)).2 == 0) && ((((rdS ([97, 32, 62, 32, 46, 98] : Bs)).1).length : Int) == 1))) rfl (fun hc5 => ?_) (fun hc5 => ?_)
  ·replace hF := hF.1 hc5
   refine Ok.b 1 [1] [(14, .bool true), (15, .slice y0 ((rdS ([97, 32, 62, 32, 46, 98] : Bs)).1).length u0)] ?_
   obtain ⟨h07, h17, hF⟩ := hF
   have he7 := get_of (l := (rdS ([97, 32, 62, 32, 46, 98] : Bs)).1) (default : PH) h17
   generalize hg7 : (((rdS ([97, 32, 62, 32, 46, 98] : Bs)).1).getD (Int.toNat 0) default) = e7 at he7 hF ⊢
   refine Ok.y (j := 7) (d := 14) (want := true) (b := true) rfl kr kr rfl (OpOk.indexRo (e := yP) (i := 0) (el := e7) rfl rfl Tryz.underlying29 kr d0 h07 he7 rfl fun q6 o6 cs6 _ m0 hr6 => ?_)
   obtain ⟨_, _, rfl, ⟨j0, x0, rfl, hm6_0, hr6_0⟩, ⟨n0, o0, rfl, hm6_1, hr6_1⟩⟩ := hr6
   have hR6_0 : Rep g2 (.slice (.slice yS)) [.slice j0 e7.1.length x0] e7.1 := ⟨j0, x0, rfl, hm6_0, hr6_0⟩
   have hR6_1 : Rep g2 (.slice yb) [.slice n0 e7.2.length o0] e7.2 := ⟨n0, o0, rfl, hm6_1, hr6_1⟩
   replace m0 : At g2 q6 o6 [.slice j0 e7.1.length x0, .slice n0 e7.2.length o0] := m0
   refine Ok.b 1 [1, 14] [(17, pv q6 o6)] ?_
   refine Ok.y (j := 7) (d := 14) (want := true) (b := true) rfl kr kr rfl (OpOk.s (v := .slice j0 e7.1.length x0) (Yields.lr 0 m0 kr Tryz.underlying22 rfl kr) rfl rfl (Ok.b 4 [1] [(22, .bool ((e7.1.length : Int) == 2))] ?_))
   refine Ok.a 22 (((e7.1.length : Int) == 2)) rfl (fun hc8 => ?_) (fun hc8 => ?_)
   ·replace hF := hF.1 hc8
    refine Ok.B 1 [(22, .bool true), (23, .slice y0 ((rdS ([97, 32, 62, 32, 46, 98] : Bs)).1).length u0)] kr (Ok.y (j := 15) (d := 22) (want := true) (b := true) rfl kr kr rfl (OpOk.indexRo (e := yP) (i := 0) (el := e7) rfl rfl Tryz.underlying29 kr d0 h07 he7 rfl fun q9 o9 cs9 _ p0 hr9 => ?_))
    obtain ⟨_, _, rfl, ⟨t0, a0, rfl, hm9_0, hr9_0⟩, ⟨s0, b0, rfl, hm9_1, hr9_1⟩⟩ := hr9
    have hR9_0 : Rep g2 (.slice (.slice yS)) [.slice t0 e7.1.length a0] e7.1 := ⟨t0, a0, rfl, hm9_0, hr9_0⟩
    have hR9_1 : Rep g2 (.slice yb) [.slice s0 e7.2.length b0] e7.2 := ⟨s0, b0, rfl, hm9_1, hr9_1⟩
    replace p0 : At g2 q9 o9 [.slice t0 e7.1.length a0, .slice s0 e7.2.length b0] := p0
    refine Ok.b 1 [22] [(25, .pointer (some ⟨q9, o9 + 1, none⟩))] ?_
    refine Ok.y (j := 15) (d := 22) (want := true) (b := true) rfl kr kr rfl (OpOk.s (v := .slice s0 e7.2.length b0) (Yields.lr 1 p0 kr Tryz.underlying23 rfl kr) rfl rfl (Ok.y (j := 15) (d := 22) (want := true) (b := true) rfl kr kr rfl (OpOk.s (v := sv (bytesOf e7.2)) (Yields.strOfRo kr rfl hR9_1 Tryz.underlying23 Tryz.underlying9 Tryz.underlying5) rfl rfl (Ok.y (j := 15) (d := 22) (want := true) (b := true) rfl kr kr rfl (OpOk.s (v := .bool ((bytesOf e7.2) == ([62] : Bs))) (Yields.sc (f := .eql) (a := (bytesOf e7.2)) (b := ([62] : Bs)) kr kr rfl) rfl rfl (Ok.B 2 [(0, .bool ((bytesOf e7.2) == ([62] : Bs)))] kr (Ok.j (Ok.t ?_))))))))
    subst hg7
    refine Ok.v 0 rfl (show (.bool ((bytesOf (((rdS ([97, 32, 62, 32, 46, 98] : Bs)).1).getD (Int.toNat 0) default).2) == ([62] : Bs)) : Value) = .bool lsdV0 from congrArg (Value.bool) ((Eq.trans (mand_t hc8) (mand_t hc5)))) ?_
    exact fun a W hA hW => ⟨g2, (Gext.r w0 g2), hA.sub kr, hW, hF⟩
   replace hF := hF.2 hc8
   refine Ok.B 8 [(0, .bool false)] kr (Ok.j (Ok.t ?_))
   subst hg7
   refine Ok.v 0 rfl (show (.bool false : Value) = .bool lsdV0 from congrArg (Value.bool) ((Eq.trans (mand_f hc8) (mand_t hc5)))) ?_
   exact fun a W hA hW => ⟨g2, (Gext.r w0 g2), hA.sub kr, hW, hF⟩
  replace hF := hF.2 hc5
  refine Ok.B 16 [(0, .bool false)] kr (Ok.nt ((Ok.v 0 rfl (show (.bool false : Value) = .bool lsdV0 from congrArg (Value.bool) (mand_f hc5)) ?_)))
  exact fun a W hA hW => ⟨g2, (Gext.r w0 g2), hA.sub kr, hW, hF⟩
 clear hF
 rintro a W ⟨gj5, Z0, hA, hW, hF⟩
 refine (?_ : Ok _ _ _ _ _ _) a W hA hW
 clear hA hW
 replace hG0 := hG0.mono Z0.1
 refine Ok.ret ?_
 exact Ok.resH (vs := [.bool lsdV0]) (.inl rfl) rfl (.cons (.tmp rfl) .nil) (hx2.trans Z0) ⟨lsdV0, rfl, rfl, hF⟩
theorem lsd_F : lsdF (fun r => r = true) := by
 have j : lsdj5 (fun r => r = true) := by show lsdV0 = true; unfold lsdV0; rw [rd_A]; decide +kernel
 have h0 : rdP [97, 32, 62, 32, 46, 98] := ⟨_, told_A, tx_A.symm⟩
 unfold lsdF
 rw [rd_A]
 exact ⟨h0, fun _ => ⟨by decide, by decide +kernel, fun _ => j, fun _ => j⟩, fun _ => j⟩
theorem lsd_c {g : Ghost}  (hG0 : SomeInt g 0)  : CallsG Tryz.prog 7 #[] g (.bool true) :=
 (lsd_ok  hG0 _ (lsd_F )).gives (by rintro g' H' v _ ⟨r0, rfl, rfl, hK⟩; subst hK; rfl)
theorem bt_wf {z : Int} (h : (Lit.int .u8 z).wf = true) : btN z := by
 have h1 : IntKind.u8.min ≤ z ∧ z ≤ IntKind.u8.max := by simpa [Lit.wf] using h
 have h2 : IntKind.u8.min = 0 := rfl
 have h3 : IntKind.u8.max = 255 := rfl
 exact ⟨by omega, by omega⟩
theorem okB_dom : ∀ t : Ts, Dom yS t → okB t := by
 refine Tst.ind ?_
 intro x l ih hd
 have hd := Tst.all_mk.1 hd
 refine Tst.all_mk.2 ⟨⟨bt_wf hd.1.1.2.2.1, fun q hq z hz => bt_wf ((hd.1.2.2 q hq).2.2 z hz)⟩, fun q hq s hs k hk => ih q hq s hs k hk (hd.2 q hq s hs k hk)⟩
theorem okB3_dom {l : List Ph} (h : Dom (.slice yP) l) : okB3 l := fun q hq =>
 ⟨fun z hz => bt_wf ((h.2 q hq).2.2 z hz), fun s hs t ht => okB_dom t (((h.2 q hq).1.2 s hs).2 t ht)⟩
theorem chkU {l : List Ph} (h : DomU (.slice yP) l) : chkP l := ⟨Nat.le_trans h.2 dc, okB3_dom h.1.1⟩
end Go.Proofs.YtcnhdkhkadiohaaGreatDoor.Se
