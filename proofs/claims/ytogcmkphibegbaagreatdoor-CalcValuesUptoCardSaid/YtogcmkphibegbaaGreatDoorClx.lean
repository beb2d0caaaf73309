/- calc: the value of a term, by the program and by the document. -/
import Derived.Test.YtogcmkphibegbaaGreatDoorClw
namespace Go.Proofs.YtogcmkphibegbaaGreatDoor.Cl
open Go Go.Eng Go.RowKit Go.Shelf Go.Proofs Bld Trm Css Tk Dm Jo Co
set_option maxHeartbeats 4000000
set_option maxRecDepth 100000
set_option linter.unusedSimpArgs false
set_option linter.unusedVariables false
mutual
def evS' (k : Sc) : Tm → Vl × Int
 | .mk x l => if (x.1 == 1) = true then rnumM x.2 k else evA k (cbS x.1) l []
def evA (k : Sc) (f : List Vl → Vl × Int) : List Tm → List Vl → Vl × Int
 | [], acc => f acc
 | t :: l, acc => if ((evS' k t).2 != 0) = true then ((0, 0), (evS' k t).2) else evA k f l (acc ++ [(evS' k t).1])
end
def evS (t : Tm) (k : Sc) : Vl × Int := evS' k t
theorem evS_eq (t : Tm) (k : Sc) : evS t k = if (t.lab.1 == 1) = true then rnumM t.lab.2 k else evA k (cbS t.lab.1) t.kids [] := by
 obtain ⟨x, l⟩ := t
 unfold evS
 rw [evS']; rfl
theorem evA_cons (k : Sc) (f : List Vl → Vl × Int) (t : Tm) (l : List Tm) (acc : List Vl) : evA k f (t :: l) acc = if ((evS t k).2 != 0) = true then ((0, 0), (evS t k).2) else evA k f l (acc ++ [(evS t k).1]) := by
 rw [evA]; rfl
mutual
def okT : Tm → Bool
 | .mk x l => shpM (.mk x l) && okL l
def okL : List Tm → Bool
 | [] => true
 | t :: l => okT t && okL l
end
theorem okL_in : ∀ {l : List Tm} {t : Tm}, okL l = true → t ∈ l → okT t = true
 | x :: l, t, h, hm => by
  rw [okL, Bool.and_eq_true] at h
  rcases List.mem_cons.1 hm with rfl | hm
  ·exact h.1
  ·exact okL_in h.2 hm
def vlP (N : Nat) (t : Tm) (k : Sc) : Prop := wt t < N ∧ wt t ≤ 1048576 ∧ okT t = true ∧ Tree.All (fun x _ => numOk x.2) t
theorem vlO {N : Nat} {t : Tm} {k : Sc} (h : vlP N t k) : shpM t = true := by
 obtain ⟨x, l⟩ := t
 have h := h.2.2.1
 rw [okT, Bool.and_eq_true] at h
 exact h.1
theorem vl_num {N : Nat} {t : Tm} {k : Sc} (h : vlP N t k) : numOk t.lab.2 := by
 obtain ⟨x, l⟩ := t
 have h := h.2.2.2
 rw [Tree.All] at h
 exact h.1
theorem vl_kid {N : Nat} {t : Tm} {k : Sc} {i : Nat} (h : vlP (N + 1) t k) (hi : i < t.kids.length) : vlP N (t.kids.getD i default) k := by
 have hw := wt_kid hi
 obtain ⟨h1, h2, h3, h4⟩ := h
 obtain ⟨x, l⟩ := t
 rw [okT, Bool.and_eq_true] at h3
 rw [Tree.All] at h4
 exact ⟨by omega, by omega, okL_in h3.2 (getD_in hi), Tree.allL_iff.1 h4.2 _ (getD_in hi)⟩
theorem shp_cases {t : Tm} (h : shpM t = true) (h1 : (t.lab.1 == 1) = false) : (2 ≤ t.lab.1 ∧ t.lab.1 ≤ 5) ∧ t.kids.length = 2 ∨ (t.lab.1 = 6 ∨ t.lab.1 = 7) ∧ 1 ≤ t.kids.length ∨ t.lab.1 = 8 ∧ t.kids.length = 3 := by
 rw [← may_eq] at h
 unfold rmayM rmayj14M rmayj22M at h
 rw [if_neg (by rw [h1]; simp)] at h
 split at h
 ·rename_i hc
  rw [Bool.and_eq_true, decide_eq_true_eq, decide_eq_true_eq] at hc
  have : t.kids.length = 2 := by simp at h; omega
  exact .inl ⟨hc, this⟩
 ·split at h
  ·rename_i hc
   rw [Bool.or_eq_true, beq_iff_eq, beq_iff_eq] at hc
   exact .inr (.inl ⟨hc, by have := of_decide_eq_true h; omega⟩)
  ·rw [Bool.and_eq_true, beq_iff_eq, beq_iff_eq] at h
   exact .inr (.inr ⟨h.1, by omega⟩)
theorem cb_bd {k : Int} {l : List Vl} (h : ∀ v ∈ l, bd v) (hl : 1 ≤ l.length) : bd (cbS k l).1 := by
 have pl : ∀ (l : List Vl) (v : Vl), bd v → bd (prL k v l).1 := by
  intro l
  induction l with
  | nil => intro v hv; exact hv
  | cons w l ih =>
   intro v hv
   rw [prL]
   split
   ·exact ⟨show (-16777216 : Int) ≤ 0 by decide, show (0 : Int) ≤ 16777216 by decide⟩
   ·exact ih _ (prv_bd _ _ _)
 unfold cbS
 split
 ·split
  ·exact ⟨show (-16777216 : Int) ≤ 0 by decide, show (0 : Int) ≤ 16777216 by decide⟩
  ·exact prv_bd _ _ _
 ·exact pl _ _ (bd_at h (by omega))
theorem ev_bd : ∀ (t : Tm) (k : Sc), okT t = true → bd (evS t k).1 := by
 refine Tree.ind fun x l ih k hok => ?_
 rw [evS_eq]
 show bd (if (x.1 == 1) = true then rnumM x.2 k else evA k (cbS x.1) l []).1
 split
 ·exact rnum_bd _ _
 ·rename_i h1
  have hs : 1 ≤ l.length := by
   rw [okT, Bool.and_eq_true] at hok
   have := shp_cases hok.1 (show (x.1 == 1) = false by simpa using h1)
   have : 1 ≤ (Tree.mk x l).kids.length := by omega
   exact this
  rw [okT, Bool.and_eq_true] at hok
  have : ∀ (l : List Tm) (acc : List Vl), (∀ t ∈ l, ∀ k, okT t = true → bd (evS t k).1) → okL l = true → (∀ v ∈ acc, bd v) → 1 ≤ acc.length + l.length → bd (evA k (cbS x.1) l acc).1 := by
   intro l
   induction l with
   | nil => intro acc _ _ ha hl; rw [evA]; exact cb_bd ha (by simpa using hl)
   | cons t l ihl =>
    intro acc ih ho ha hl
    rw [okL, Bool.and_eq_true] at ho
    rw [evA_cons]
    split
    ·exact ⟨show (-16777216 : Int) ≤ 0 by decide, show (0 : Int) ≤ 16777216 by decide⟩
    ·refine ihl _ (fun t ht => ih t (List.mem_cons_of_mem _ ht)) ho.2 (fun v hv => ?_) (by rw [List.length_append, List.length_singleton]; omega)
     rcases List.mem_append.1 hv with hv | hv
     ·exact ha v hv
     ·rw [List.mem_singleton] at hv
      subst hv
      exact ih t (List.mem_cons_self ..) k ho.1
  exact this l [] ih hok.2 (fun v hv => by cases hv) (by simpa using hs)
theorem cb_two {k : Int} {l : List Vl} (hk : (k == 8) = false) (hl : l.length = 2) : cbS k l = prvS k (l.getD 0 default) (l.getD 1 default) := by
 obtain ⟨a, b, rfl⟩ : ∃ a b, l = [a, b] := by
  match l, hl with
  | [a, b], _ => exact ⟨a, b, rfl⟩
 unfold cbS
 rw [hk, if_neg (by simp)]
 show prL k a [b] = prvS k a b
 rw [prL, prL]
 cases h : ((prvS k a b).2 != 0)
 ·rw [if_neg (by simp)]; exact (prvO h).symm
 ·rw [if_pos rfl]; exact (prvE h).symm
def vl_C (N : Nat) : Prop := ∀ (g : Ghost) {axt_0 : Option Addr} {cxt_0 : Nat} (xt : Tree (Int × Int × Bs)) (xk : Int × Int × Int × Int) (hRxt_0 : Rep g (.slice (.tree (.pair (.int .i64) (.pair (.int .i64) (.str))))) [.slice axt_0 xt.kids.length cxt_0] xt.kids)  (hp : vlP N xt xk), CallsG Tryz.prog 11 #[.agg #[.int .i64 xt.lab.1, .int .i64 xt.lab.2.1, sv xt.lab.2.2, .slice axt_0 xt.kids.length cxt_0], .agg #[.int .i64 xk.1, .int .i64 xk.2.1, .int .i64 xk.2.2.1, .int .i64 xk.2.2.2]] g (.tuple #[.agg #[.int .i64 (evS xt xk).1.1, .int .i64 (evS xt xk).1.2], .int .i64 (evS xt xk).2])
def vll17b (N : Nat) (xt : Tree (Int × Int × Bs)) (xk : Int × Int × Int × Int) (K : (Int × Int) → Int → Prop) (x23l17 : Int) (yown5_0l17 : List (Int × Int)) (C17 : Int → (List (Int × Int)) → Prop) : Prop :=
 ((decide (x23l17 < (xt.kids.length : Int))) = true → (0 : Int) ≤ x23l17 ∧ Int.toNat x23l17 < xt.kids.length ∧ vlP N (xt.kids.getD (Int.toNat x23l17) default) xk ∧ ((((evS (xt.kids.getD (Int.toNat x23l17) default) xk).2 != 0)) = true → K (0, 0) (evS (xt.kids.getD (Int.toNat x23l17) default) xk).2) ∧ ((((evS (xt.kids.getD (Int.toNat x23l17) default) xk).2 != 0)) = false → (yown5_0l17 ++ ([(evS (xt.kids.getD (Int.toNat x23l17) default) xk).1] : List (Int × Int))).length ≤ 8796093022208 ∧ C17 (w6 (x23l17 + 1)) (yown5_0l17 ++ ([(evS (xt.kids.getD (Int.toNat x23l17) default) xk).1] : List (Int × Int))))) ∧ ((decide (x23l17 < (xt.kids.length : Int))) = false → (((xt.lab.1 == 4)) = true → (0 : Int) ≤ 0 ∧ Int.toNat 0 < yown5_0l17.length ∧ (0 : Int) ≤ 1 ∧ Int.toNat 1 < yown5_0l17.length ∧ K (timM (yown5_0l17.getD (Int.toNat 0) default) (yown5_0l17.getD (Int.toNat 1) default)).1 (timM (yown5_0l17.getD (Int.toNat 0) default) (yown5_0l17.getD (Int.toNat 1) default)).2) ∧ (((xt.lab.1 == 4)) = false → (((xt.lab.1 == 5)) = true → (0 : Int) ≤ 0 ∧ Int.toNat 0 < yown5_0l17.length ∧ (0 : Int) ≤ 1 ∧ Int.toNat 1 < yown5_0l17.length ∧ K (dvS (yown5_0l17.getD (Int.toNat 0) default) (yown5_0l17.getD (Int.toNat 1) default)).1 (dvS (yown5_0l17.getD (Int.toNat 0) default) (yown5_0l17.getD (Int.toNat 1) default)).2) ∧ (((xt.lab.1 == 5)) = false → alP xt.lab.1 yown5_0l17 ∧ K (cbS xt.lab.1 yown5_0l17).1 (cbS xt.lab.1 yown5_0l17).2)))
def vll17 (N : Nat) (xt : Tree (Int × Int × Bs)) (xk : Int × Int × Int × Int) (K : (Int × Int) → Int → Prop) : Nat → Int → (List (Int × Int)) → Prop
 | 0, _, _ => False
 | k + 1, x23l17, yown5_0l17 => vll17b N xt xk K x23l17 yown5_0l17 (vll17 N xt xk K k)
def vlF (N : Nat) (xt : Tree (Int × Int × Bs)) (xk : Int × Int × Int × Int) (K : (Int × Int) → Int → Prop) : Prop :=
 (((xt.lab.1 == 1)) = true → K (numM xt.lab.2 xk).1 (numM xt.lab.2 xk).2) ∧ (((xt.lab.1 == 1)) = false → ∃ k, vll17 N xt xk K k 0 ([] : List (Int × Int)))
theorem vl_ok {g : Ghost} (N : Nat) (ih_vl : vl_C N) {axt_0 : Option Addr} {cxt_0 : Nat} (xt : Tree (Int × Int × Bs)) (xk : Int × Int × Int × Int) (hRxt_0 : Rep g (.slice (.tree (.pair (.int .i64) (.pair (.int .i64) (.str))))) [.slice axt_0 xt.kids.length cxt_0] xt.kids) (K : (Int × Int) → Int → Prop)
  (hF : vlF N xt xk K) : CallsH Tryz.prog 11 #[.agg #[.int .i64 xt.lab.1, .int .i64 xt.lab.2.1, sv xt.lab.2.2, .slice axt_0 xt.kids.length cxt_0], .agg #[.int .i64 xk.1, .int .i64 xk.2.1, .int .i64 xk.2.2.1, .int .i64 xk.2.2.2]] g [] (fun g' H' v => ∃ (r0 : Int × Int), ∃ (r1 : Int), v = .tuple #[.agg #[.int .i64 r0.1, .int .i64 r0.2], .int .i64 r1] ∧ H' = [] ∧ K r0 r1) := by
 refine CallsH.enter 72 [(0, .agg #[.int .i64 xt.lab.1, .int .i64 xt.lab.2.1, sv xt.lab.2.2, .slice axt_0 xt.kids.length cxt_0]), (1, .agg #[.int .i64 xk.1, .int .i64 xk.2.1, .int .i64 xk.2.2.1, .int .i64 xk.2.2.2])] Tryz.func11 rfl (by kernel_rfl) (by kernel_rfl) (by kernel_rfl) fun w0 => ?_
 refine Ok.seq (Ok.region (Ok.op rfl (OpOk.box (v := .agg #[.int .i64 xt.lab.1, .int .i64 xt.lab.2.1, sv xt.lab.2.2, .slice axt_0 xt.kids.length cxt_0]) (cs := #[.int .i64 xt.lab.1, .int .i64 xt.lab.2.1, sv xt.lab.2.2, .slice axt_0 xt.kids.length cxt_0]) rfl (by kernel_rfl) rfl fun bs2 => ?_)))
 refine Ok.op rfl (OpOk.box (v := .agg #[.int .i64 xk.1, .int .i64 xk.2.1, .int .i64 xk.2.2.1, .int .i64 xk.2.2.2]) (cs := #[.int .i64 xk.1, .int .i64 xk.2.1, .int .i64 xk.2.2.1, .int .i64 xk.2.2.2]) rfl (by kernel_rfl) rfl fun bs3 => ?_)
 refine Ok.op rfl (OpOk.alloc (z := .agg #[.int .i64 0, .int .i64 0]) (cs := #[.int .i64 0, .int .i64 0]) (by kernel_rfl) (by kernel_rfl) rfl fun bs4 => ?_)
 refine Ok.batch 1 [(2, pv bs2 0), (3, pv bs3 0), (4, pv bs4 0)] (by kernel_rfl) (Ok.nil (Ok.thenN (Ok.seq (Ok.seq (Ok.region (Ok.bat 1 [2, 3, 4] [(11, pv bs2 0)] ?_))))))
 refine Ok.op rfl (OpOk.step (v := .int .i64 xt.lab.1) (Yields.load 2 rfl rfl Tryz.underlying3 rfl (by kernel_rfl)) rfl rfl (Ok.bat 1 [2, 3, 4] [(13, .bool (xt.lab.1 == 1))] ?_))
 refine Ok.nil (Ok.thenN (Ok.cond (b := (xt.lab.1 == 1)) rfl (fun hc4 => ?_) (fun hc4 => ?_)))
 ·replace hF := hF.1 hc4
  refine Ok.seq (Ok.region (Ok.bat 1 [3, 4] [(14, pv bs2 1)] ?_))
  refine Ok.op rfl (OpOk.step (v := .agg #[.int .i64 xt.lab.2.1, sv xt.lab.2.2]) (Yields.loadAgg 2 2 #[.int .i64 xt.lab.2.1, sv xt.lab.2.2] rfl rfl Tryz.underlying23 rfl (by kernel_rfl) (by kernel_rfl) (by kernel_rfl)) rfl rfl (Ok.op rfl (OpOk.step (v := .agg #[.int .i64 xk.1, .int .i64 xk.2.1, .int .i64 xk.2.2.1, .int .i64 xk.2.2.2]) (Yields.loadAgg 1 4 #[.int .i64 xk.1, .int .i64 xk.2.1, .int .i64 xk.2.2.1, .int .i64 xk.2.2.2] rfl rfl Tryz.underlying28 rfl (by kernel_rfl) (by kernel_rfl) (by kernel_rfl)) rfl rfl (Ok.op rfl (OpOk.callG (v := .tuple #[.agg #[.int .i64 (numM xt.lab.2 xk).1.1, .int .i64 (numM xt.lab.2 xk).1.2], .int .i64 (numM xt.lab.2 xk).2]) enr (fun W hW => num_c xt.lab.2 xk) rfl ?_)))))
  refine Ok.bat 2 [4] [(18, .agg #[.int .i64 (numM xt.lab.2 xk).1.1, .int .i64 (numM xt.lab.2 xk).1.2]), (19, .int .i64 (numM xt.lab.2 xk).2)] ?_
  refine Ok.op rfl (OpOk.sto (k := 2) (v := .agg #[.int .i64 (numM xt.lab.2 xk).1.1, .int .i64 (numM xt.lab.2 xk).1.2]) 0 #[.int .i64 (numM xt.lab.2 xk).1.1, .int .i64 (numM xt.lab.2 xk).1.2] rfl rfl rfl ?_)
  refine Ok.bat 1 [4] [(5, .int .i64 (numM xt.lab.2 xk).2)] ?_
  refine Ok.nil (Ok.thenN (Ok.ret (Ok.thenR ?_)))
  exact Ok.resP (vs := [.agg #[.int .i64 (numM xt.lab.2 xk).1.1, .int .i64 (numM xt.lab.2 xk).1.2], .int .i64 (numM xt.lab.2 xk).2]) [] [] (by decide) rfl (.inl rfl) rfl (.cons (.cellAgg 0 2 #[.int .i64 (numM xt.lab.2 xk).1.1, .int .i64 (numM xt.lab.2 xk).1.2] rfl rfl Tryz.underlying31 rfl (by kernel_rfl) (by kernel_rfl) (by kernel_rfl)) (.cons (.tmp rfl) .nil)) (Gext.refl w0 g) ⟨(numM xt.lab.2 xk).1, (numM xt.lab.2 xk).2, rfl, rfl, hF⟩
 ·replace hF := hF.2 hc4
  refine Ok.skip (Ok.thenN (Ok.seq (Ok.region (Ok.bat 1 [2, 3, 4] [(6, .slice none 0 0)] ?_))))
  have hL5 : RepL g (.pair (.int .i64) (.int .i64)) [] [] := rfl
  refine Ok.ownNil 31 2 (Ok.nil (Ok.thenN (Ok.seq (Ok.seq (Ok.region (Ok.bat 1 [2, 3, 4] [(6, .slice none ([] : List (Int × Int)).length 0), (20, pv bs2 3)] ?_))))))
  refine Ok.op rfl (OpOk.step (v := .slice axt_0 xt.kids.length cxt_0) (Yields.load 3 rfl rfl Tryz.underlying24 rfl (by kernel_rfl)) rfl rfl (Ok.bat 2 [2, 3, 4, 6] [(21, .slice axt_0 xt.kids.length cxt_0), (22, .int .i64 (xt.kids.length : Int)), (23, .int .i64 0)] ?_))
  refine Ok.nil (Ok.thenN (Ok.block ?_))
  obtain ⟨k, hF⟩ := hF
  refine Ok.loop (fun k a W => ∃ gl17 : Ghost, Gext w0 g gl17 ∧ ∃ (x23l17 : Int) (ayown5_0l17 : Option Addr) (cyown5_0l17 : Nat) (yown5_0l17 : List (Int × Int)) (xsyown5_0l17 : List Value), RepL gl17 (.pair (.int .i64) (.int .i64)) xsyown5_0l17 yown5_0l17 ∧ StA 72 [(2, pv bs2 0), (3, pv bs3 0), (4, pv bs4 0), (6, .slice ayown5_0l17 yown5_0l17.length cyown5_0l17), (21, .slice axt_0 xt.kids.length cxt_0), (22, .int .i64 (xt.kids.length : Int)), (23, .int .i64 x23l17)] a ∧ StW w0 [.own (.slice ayown5_0l17 yown5_0l17.length cyown5_0l17) 31 2 yown5_0l17.length xsyown5_0l17, .blk bs4 (.cells #[.int .i64 0, .int .i64 0] 31), .blk bs3 (.cells #[.int .i64 xk.1, .int .i64 xk.2.1, .int .i64 xk.2.2.1, .int .i64 xk.2.2.2] 28), .blk bs2 (.cells #[.int .i64 xt.lab.1, .int .i64 xt.lab.2.1, sv xt.lab.2.2, .slice axt_0 xt.kids.length cxt_0] 26)] gl17 W ∧ vll17 N xt xk K k x23l17 yown5_0l17) k ?_ ?_
  ·
   exact fun a W hA hW => ⟨g, (Gext.refl w0 g), 0, none, 0, ([] : List (Int × Int)), [], hL5, hA.sub (by kernel_rfl), hW, hF⟩
  ·
   clear hF
   rintro k17 a W ⟨gl17, hxl17, x23l17, ayown5_0l17, cyown5_0l17, yown5_0l17, xsyown5_0l17, hLyown5_0l17, hA, hW, hF⟩
   cases k17 with
   | zero => exact (hF : False).elim
   | succ k17 =>
    refine (?_ : Ok _ _ _ _ _ _) a W hA hW
    clear hA hW
    replace hRxt_0 := hRxt_0.mono hxl17.1
    refine Ok.seq (Ok.region (Ok.bat 1 [2, 3, 4, 6, 21, 22, 23] [(24, .bool (decide (x23l17 < (xt.kids.length : Int))))] ?_))
    refine Ok.nil (Ok.thenN (Ok.seq (Ok.cond (b := decide (x23l17 < (xt.kids.length : Int))) rfl (fun hc6 => ?_) (fun hc6 => ?_))))
    ·replace hF := hF.1 hc6
     refine Ok.skip (Ok.thenN (Ok.seq (Ok.block (Ok.seq (Ok.region ?_)))))
     obtain ⟨h08, h18, hF⟩ := hF
     have he8 := get_of (l := xt.kids) (default : Tree (Int × Int × Bs)) h18
     generalize hg8 : (xt.kids.getD (Int.toNat x23l17) default) = e8 at he8 hF ⊢
     refine Ok.op rfl (OpOk.indexRo (e := .tree (.pair (.int .i64) (.pair (.int .i64) (.str)))) (i := x23l17) (el := e8) rfl rfl Tryz.underlying24 (by kernel_rfl) hRxt_0 h08 he8 rfl fun q7 o7 cs7 _ hat7 hr7 => ?_)
     have hT7_0 := hr7
     replace hT7_0 := Rep.tree.1 hT7_0
     obtain ⟨_, _, rfl, ⟨_, _, rfl, rfl, ⟨_, _, rfl, rfl, rfl⟩⟩, ⟨a7_3, c7_3, rfl, hm7_3, hr7_3⟩⟩ := hT7_0
     have hR7_3 : Rep gl17 (.slice (.tree (.pair (.int .i64) (.pair (.int .i64) (.str))))) [.slice a7_3 e8.kids.length c7_3] e8.kids := ⟨a7_3, c7_3, rfl, hm7_3, hr7_3⟩
     replace hat7 : At gl17 q7 o7 [.int .i64 e8.lab.1, .int .i64 e8.lab.2.1, sv e8.lab.2.2, .slice a7_3 e8.kids.length c7_3] := hat7
     refine Ok.op rfl (OpOk.step (v := .agg #[.int .i64 e8.lab.1, .int .i64 e8.lab.2.1, sv e8.lab.2.2, .slice a7_3 e8.kids.length c7_3]) (Yields.loadAggRo 0 4 #[.int .i64 e8.lab.1, .int .i64 e8.lab.2.1, sv e8.lab.2.2, .slice a7_3 e8.kids.length c7_3] hat7 (by kernel_rfl) Tryz.underlying26 rfl (by kernel_rfl) (by kernel_rfl) (by kernel_rfl)) rfl rfl (Ok.op rfl (OpOk.alloc (z := .agg #[.int .i64 0, .int .i64 0, sv ([] : Bs), .slice none 0 0]) (cs := #[.int .i64 0, .int .i64 0, sv ([] : Bs), .slice none 0 0]) (by kernel_rfl) (by kernel_rfl) rfl fun bs8 => ?_)))
     refine Ok.op rfl (OpOk.sto (k := 4) (v := .agg #[.int .i64 e8.lab.1, .int .i64 e8.lab.2.1, sv e8.lab.2.2, .slice a7_3 e8.kids.length c7_3]) 0 #[.int .i64 e8.lab.1, .int .i64 e8.lab.2.1, sv e8.lab.2.2, .slice a7_3 e8.kids.length c7_3] rfl rfl rfl ?_)
     refine Ok.nil (Ok.thenN (Ok.seq (Ok.region (Ok.op rfl (OpOk.step (v := .agg #[.int .i64 e8.lab.1, .int .i64 e8.lab.2.1, sv e8.lab.2.2, .slice a7_3 e8.kids.length c7_3]) (Yields.loadAgg 0 4 #[.int .i64 e8.lab.1, .int .i64 e8.lab.2.1, sv e8.lab.2.2, .slice a7_3 e8.kids.length c7_3] rfl rfl Tryz.underlying26 rfl (by kernel_rfl) (by kernel_rfl) (by kernel_rfl)) rfl rfl (Ok.op rfl (OpOk.step (v := .agg #[.int .i64 xk.1, .int .i64 xk.2.1, .int .i64 xk.2.2.1, .int .i64 xk.2.2.2]) (Yields.loadAgg 3 4 #[.int .i64 xk.1, .int .i64 xk.2.1, .int .i64 xk.2.2.1, .int .i64 xk.2.2.2] rfl rfl Tryz.underlying28 rfl (by kernel_rfl) (by kernel_rfl) (by kernel_rfl)) rfl rfl ?_)))))))
     obtain ⟨hp10, hF⟩ := hF
     refine Ok.op rfl (OpOk.callG (v := .tuple #[.agg #[.int .i64 (evS e8 xk).1.1, .int .i64 (evS e8 xk).1.2], .int .i64 (evS e8 xk).2]) enr (fun W hW => ih_vl _ e8 xk (hR7_3.mono hW.sees) hp10) rfl ?_)
     refine Ok.bat 3 [2, 3, 4, 6, 21, 22, 23] [(31, .agg #[.int .i64 (evS e8 xk).1.1, .int .i64 (evS e8 xk).1.2]), (32, .int .i64 (evS e8 xk).2)] ?_
     refine Ok.op rfl (OpOk.alloc (z := .agg #[.int .i64 0, .int .i64 0]) (cs := #[.int .i64 0, .int .i64 0]) (by kernel_rfl) (by kernel_rfl) rfl fun bs9 => ?_)
     refine Ok.op rfl (OpOk.sto (k := 2) (v := .agg #[.int .i64 (evS e8 xk).1.1, .int .i64 (evS e8 xk).1.2]) 0 #[.int .i64 (evS e8 xk).1.1, .int .i64 (evS e8 xk).1.2] rfl rfl rfl ?_)
     refine Ok.bat 1 [2, 3, 4, 6, 21, 22, 23] [(9, pv bs9 0), (10, .int .i64 (evS e8 xk).2)] ?_
     refine Ok.nil (Ok.thenN (Ok.seq (Ok.seq (Ok.region (Ok.bat 2 [2, 3, 4, 6, 9, 10, 21, 22, 23] [(34, .bool ((evS e8 xk).2 != 0))] ?_)))))
     refine Ok.nil (Ok.thenN (Ok.cond (b := ((evS e8 xk).2 != 0)) rfl (fun hc12 => ?_) (fun hc12 => ?_)))
     ·replace hF := hF.1 hc12
      refine Ok.seq (Ok.region (Ok.bat 2 [4] [(35, .agg #[.int .i64 0, .int .i64 0]), (36, .int .i64 (evS e8 xk).2)] ?_))
      refine Ok.op rfl (OpOk.sto (k := 2) (v := .agg #[.int .i64 0, .int .i64 0]) 3 #[.int .i64 0, .int .i64 0] rfl rfl rfl ?_)
      refine Ok.bat 1 [4] [(5, .int .i64 (evS e8 xk).2)] ?_
      refine Ok.nil (Ok.thenN (Ok.ret (Ok.thenR (Ok.blockR (Ok.thenR (Ok.thenR (Ok.blockR (Ok.thenR ?_))))))))
      exact Ok.resP (vs := [.agg #[.int .i64 0, .int .i64 0], .int .i64 (evS e8 xk).2]) [] [] (by decide) rfl (.inl rfl) rfl (.cons (.cellAgg 3 2 #[.int .i64 0, .int .i64 0] rfl rfl Tryz.underlying31 rfl (by kernel_rfl) (by kernel_rfl) (by kernel_rfl)) (.cons (.tmp rfl) .nil)) hxl17 ⟨(0, 0), (evS e8 xk).2, rfl, rfl, hF⟩
     ·replace hF := hF.2 hc12
      refine Ok.skip (Ok.thenN (Ok.region (Ok.bat 1 [2, 3, 4, 9, 21, 22, 23] [(37, .slice ayown5_0l17 yown5_0l17.length cyown5_0l17)] ?_)))
      refine Ok.op rfl (OpOk.step (v := .agg #[.int .i64 (evS e8 xk).1.1, .int .i64 (evS e8 xk).1.2]) (Yields.loadAgg 0 2 #[.int .i64 (evS e8 xk).1.1, .int .i64 (evS e8 xk).1.2] rfl rfl Tryz.underlying31 rfl (by kernel_rfl) (by kernel_rfl) (by kernel_rfl)) rfl rfl ?_)
      have hL13 : RepL gl17 (.pair (.int .i64) (.int .i64)) ([.int .i64 (evS e8 xk).1.1, .int .i64 (evS e8 xk).1.2] : List Value) ([(evS e8 xk).1] : List (Int × Int)) := (RepL.consN (c := [.int .i64 (evS e8 xk).1.1, .int .i64 (evS e8 xk).1.2]) ⟨[.int .i64 (evS e8 xk).1.1], [.int .i64 (evS e8 xk).1.2], rfl, rfl, rfl⟩ rfl)
      refine Ok.op rfl (OpOk.lit (E := 31) (.pair (.int .i64) (.int .i64)) ([(evS e8 xk).1] : List (Int × Int)) ([.int .i64 (evS e8 xk).1.1, .int .i64 (evS e8 xk).1.2] : List Value) (by kernel_rfl) (by kernel_rfl) rfl (by kernel_rfl) hL13 rfl fun b13 => ?_)
      obtain ⟨hb14, hF⟩ := hF
      refine Ok.op rfl (OpOk.append' (e := .pair (.int .i64) (.int .i64)) 16 8796093022208 3 0 rfl rfl rfl rfl hLyown5_0l17 hL13 Tryz.underlying44 (by kernel_rfl) (by kernel_rfl) (by kernel_rfl) hb14 rfl fun a14 c14 xs14 hL14 => ?_)
      refine Ok.bat 1 [2, 3, 4, 21, 22, 23] [(6, .slice a14 (yown5_0l17 ++ ([(evS e8 xk).1] : List (Int × Int))).length c14)] ?_
      refine Ok.nil (Ok.blockN (Ok.thenN (Ok.region (Ok.bat 2 [2, 3, 4, 6, 21, 22] [(23, .int .i64 (w6 (x23l17 + 1)))] ?_))))
      refine Ok.nil (Ok.thenN ?_)
      subst hg8
      exact fun a W hA hW => ⟨k17, Nat.lt_succ_self _, gl17, hxl17, w6 (x23l17 + 1), a14, c14, (yown5_0l17 ++ ([(evS (xt.kids.getD (Int.toNat x23l17) default) xk).1] : List (Int × Int))), xs14, hL14, hA.sub (by kernel_rfl), hW.sub (.cons _ (.cons _ (.cons _ (.cons_cons _ (.cons_cons _ (.cons_cons _ (.cons_cons _ .slnil))))))), hF⟩
    ·replace hF := hF.2 hc6
     refine Ok.exit (Ok.thenE (Ok.thenE (Ok.blockHit (Ok.thenN (Ok.seq (Ok.seq (Ok.region (Ok.bat 1 [2, 4, 6] [(42, pv bs2 0)] ?_))))))))
     refine Ok.op rfl (OpOk.step (v := .int .i64 xt.lab.1) (Yields.load 3 rfl rfl Tryz.underlying3 rfl (by kernel_rfl)) rfl rfl (Ok.nil (Ok.thenN (Ok.block (Ok.seq (Ok.region (Ok.bat 2 [2, 4, 6] [(43, .int .i64 xt.lab.1), (44, .bool (xt.lab.1 == 4))] ?_)))))))
     refine Ok.nil (Ok.thenN (Ok.cond (b := (xt.lab.1 == 4)) rfl (fun hc15 => ?_) (fun hc15 => ?_)))
     ·replace hF := hF.1 hc15
      refine Ok.seq (Ok.mix [] [] [.own (.slice ayown5_0l17 yown5_0l17.length cyown5_0l17) 31 2 yown5_0l17.length xsyown5_0l17, .blk bs3 (.cells #[.int .i64 xk.1, .int .i64 xk.2.1, .int .i64 xk.2.2.1, .int .i64 xk.2.2.2] 28), .blk bs2 (.cells #[.int .i64 xt.lab.1, .int .i64 xt.lab.2.1, sv xt.lab.2.2, .slice axt_0 xt.kids.length cxt_0] 26)] [(0, true), (1, true), (2, true), (3, true), (4, true), (5, true), (6, true), (7, true), (8, true), (9, false), (10, true)] (by kernel_rfl) (by kernel_rfl) (.cons_cons _ (.cons _ (.cons_cons _ (.cons_cons _ .slnil)))) (OkM.bat 1 [4, 6] [(46, .slice ayown5_0l17 yown5_0l17.length cyown5_0l17)] ?_))
      obtain ⟨h017, h117, hF⟩ := hF
      have he17 := get_of (l := yown5_0l17) (default : Int × Int) h117
      generalize hg17 : (yown5_0l17.getD (Int.toNat 0) default) = e17 at he17 hF ⊢
      refine OkM.head rfl rfl (show _ = [.own (.slice ayown5_0l17 yown5_0l17.length cyown5_0l17) 31 2 yown5_0l17.length xsyown5_0l17, .blk bs3 (.cells #[.int .i64 xk.1, .int .i64 xk.2.1, .int .i64 xk.2.2.1, .int .i64 xk.2.2.2] 28), .blk bs2 (.cells #[.int .i64 xt.lab.1, .int .i64 xt.lab.2.1, sv xt.lab.2.2, .slice axt_0 xt.kids.length cxt_0] 26)] from rfl) (OpQ.indexOwn (e := .pair (.int .i64) (.int .i64)) (q := 0) (el := e17) 0 rfl hLyown5_0l17 rfl rfl Tryz.underlying44 (by kernel_rfl) (by kernel_rfl) h017 he17 rfl fun cs16 _ hr16 hc16 => ?_)
      obtain ⟨_, _, rfl, rfl, rfl⟩ := hr16
      replace hc16 : ∀ j v, ([.int .i64 e17.1, .int .i64 e17.2] : List Value)[j]? = some v → xsyown5_0l17[Int.toNat 0 * 2 + j]? = some v := hc16
      refine OkM.head rfl rfl (show _ = [.own (.slice ayown5_0l17 yown5_0l17.length cyown5_0l17) 31 2 yown5_0l17.length xsyown5_0l17, .blk bs3 (.cells #[.int .i64 xk.1, .int .i64 xk.2.1, .int .i64 xk.2.2.1, .int .i64 xk.2.2.2] 28), .blk bs2 (.cells #[.int .i64 xt.lab.1, .int .i64 xt.lab.2.1, sv xt.lab.2.2, .slice axt_0 xt.kids.length cxt_0] 26)] from rfl) (OpQ.step (v := .agg #[.int .i64 e17.1, .int .i64 e17.2]) (Yields.loadAggOwn 0 0 2 #[.int .i64 e17.1, .int .i64 e17.2] rfl hc16 rfl Tryz.underlying31 rfl (by kernel_rfl) (by kernel_rfl) (by kernel_rfl)) rfl rfl (OkM.bat 1 [4] [(48, .agg #[.int .i64 e17.1, .int .i64 e17.2]), (49, .slice ayown5_0l17 yown5_0l17.length cyown5_0l17)] ?_))
      obtain ⟨h019, h119, hF⟩ := hF
      have he19 := get_of (l := yown5_0l17) (default : Int × Int) h119
      generalize hg19 : (yown5_0l17.getD (Int.toNat 1) default) = e19 at he19 hF ⊢
      refine OkM.head rfl rfl (show _ = [.own (.slice ayown5_0l17 yown5_0l17.length cyown5_0l17) 31 2 yown5_0l17.length xsyown5_0l17, .blk bs3 (.cells #[.int .i64 xk.1, .int .i64 xk.2.1, .int .i64 xk.2.2.1, .int .i64 xk.2.2.2] 28), .blk bs2 (.cells #[.int .i64 xt.lab.1, .int .i64 xt.lab.2.1, sv xt.lab.2.2, .slice axt_0 xt.kids.length cxt_0] 26)] from rfl) (OpQ.indexOwn (e := .pair (.int .i64) (.int .i64)) (q := 1) (el := e19) 0 rfl hLyown5_0l17 rfl rfl Tryz.underlying44 (by kernel_rfl) (by kernel_rfl) h019 he19 rfl fun cs18 _ hr18 hc18 => ?_)
      obtain ⟨_, _, rfl, rfl, rfl⟩ := hr18
      replace hc18 : ∀ j v, ([.int .i64 e19.1, .int .i64 e19.2] : List Value)[j]? = some v → xsyown5_0l17[Int.toNat 1 * 2 + j]? = some v := hc18
      refine OkM.head rfl rfl (show _ = [.own (.slice ayown5_0l17 yown5_0l17.length cyown5_0l17) 31 2 yown5_0l17.length xsyown5_0l17, .blk bs3 (.cells #[.int .i64 xk.1, .int .i64 xk.2.1, .int .i64 xk.2.2.1, .int .i64 xk.2.2.2] 28), .blk bs2 (.cells #[.int .i64 xt.lab.1, .int .i64 xt.lab.2.1, sv xt.lab.2.2, .slice axt_0 xt.kids.length cxt_0] 26)] from rfl) (OpQ.step (v := .agg #[.int .i64 e19.1, .int .i64 e19.2]) (Yields.loadAggOwn 0 0 2 #[.int .i64 e19.1, .int .i64 e19.2] rfl hc18 rfl Tryz.underlying31 rfl (by kernel_rfl) (by kernel_rfl) (by kernel_rfl)) rfl rfl (OkM.head rfl rfl (show _ = [.own (.slice ayown5_0l17 yown5_0l17.length cyown5_0l17) 31 2 yown5_0l17.length xsyown5_0l17, .blk bs3 (.cells #[.int .i64 xk.1, .int .i64 xk.2.1, .int .i64 xk.2.2.1, .int .i64 xk.2.2.2] 28), .blk bs2 (.cells #[.int .i64 xt.lab.1, .int .i64 xt.lab.2.1, sv xt.lab.2.2, .slice axt_0 xt.kids.length cxt_0] 26)] from rfl) (OpQ.callG (v := .tuple #[.agg #[.int .i64 (timM e17 e19).1.1, .int .i64 (timM e17 e19).1.2], .int .i64 (timM e17 e19).2]) enr (fun W hW => tim_c e17 e19) rfl ?_)))
      refine OkM.bat 2 [4] [(53, .agg #[.int .i64 (timM e17 e19).1.1, .int .i64 (timM e17 e19).1.2]), (54, .int .i64 (timM e17 e19).2)] ?_
      refine OkM.tail rfl rfl (OpOk.sto (k := 2) (v := .agg #[.int .i64 (timM e17 e19).1.1, .int .i64 (timM e17 e19).1.2]) 1 #[.int .i64 (timM e17 e19).1.1, .int .i64 (timM e17 e19).1.2] rfl rfl rfl ?_)
      refine OkM.leaf (i := 9) (show _ = [.own (.slice ayown5_0l17 yown5_0l17.length cyown5_0l17) 31 2 yown5_0l17.length xsyown5_0l17, .blk bs3 (.cells #[.int .i64 xk.1, .int .i64 xk.2.1, .int .i64 xk.2.2.1, .int .i64 xk.2.2.2] 28), .blk bs2 (.cells #[.int .i64 xt.lab.1, .int .i64 xt.lab.2.1, sv xt.lab.2.2, .slice axt_0 xt.kids.length cxt_0] 26)] from rfl) (Gle.refl _) (.cons_cons _ (.cons _ (.cons_cons _ (.cons_cons _ .slnil)))) (OkM.bat 1 [4] [(5, .int .i64 (timM e17 e19).2)] ?_)
      refine OkM.nil (Ok.thenN (Ok.ret (Ok.blockR (Ok.thenR ?_))))
      exact Ok.resP (vs := [.agg #[.int .i64 (timM e17 e19).1.1, .int .i64 (timM e17 e19).1.2], .int .i64 (timM e17 e19).2]) [] [] (by decide) rfl (.inl rfl) rfl (.cons (.cellAgg 1 2 #[.int .i64 (timM e17 e19).1.1, .int .i64 (timM e17 e19).1.2] rfl rfl Tryz.underlying31 rfl (by kernel_rfl) (by kernel_rfl) (by kernel_rfl)) (.cons (.tmp rfl) .nil)) hxl17 ⟨(timM e17 e19).1, (timM e17 e19).2, rfl, rfl, hF⟩
     ·replace hF := hF.2 hc15
      refine Ok.seq (Ok.region (Ok.bat 2 [2, 4, 6] [(55, .bool (xt.lab.1 == 5))] ?_))
      refine Ok.nil (Ok.thenN (Ok.cond (b := (xt.lab.1 == 5)) rfl (fun hc20 => ?_) (fun hc20 => ?_)))
      ·replace hF := hF.1 hc20
       refine Ok.seq (Ok.mix [] [] [.own (.slice ayown5_0l17 yown5_0l17.length cyown5_0l17) 31 2 yown5_0l17.length xsyown5_0l17, .blk bs3 (.cells #[.int .i64 xk.1, .int .i64 xk.2.1, .int .i64 xk.2.2.1, .int .i64 xk.2.2.2] 28), .blk bs2 (.cells #[.int .i64 xt.lab.1, .int .i64 xt.lab.2.1, sv xt.lab.2.2, .slice axt_0 xt.kids.length cxt_0] 26)] [(0, true), (1, true), (2, true), (3, true), (4, true), (5, true), (6, true), (7, true), (8, true), (9, false), (10, true)] (by kernel_rfl) (by kernel_rfl) (.cons_cons _ (.cons _ (.cons_cons _ (.cons_cons _ .slnil)))) (OkM.bat 1 [4, 6] [(57, .slice ayown5_0l17 yown5_0l17.length cyown5_0l17)] ?_))
       obtain ⟨h022, h122, hF⟩ := hF
       have he22 := get_of (l := yown5_0l17) (default : Int × Int) h122
       generalize hg22 : (yown5_0l17.getD (Int.toNat 0) default) = e22 at he22 hF ⊢
       refine OkM.head rfl rfl (show _ = [.own (.slice ayown5_0l17 yown5_0l17.length cyown5_0l17) 31 2 yown5_0l17.length xsyown5_0l17, .blk bs3 (.cells #[.int .i64 xk.1, .int .i64 xk.2.1, .int .i64 xk.2.2.1, .int .i64 xk.2.2.2] 28), .blk bs2 (.cells #[.int .i64 xt.lab.1, .int .i64 xt.lab.2.1, sv xt.lab.2.2, .slice axt_0 xt.kids.length cxt_0] 26)] from rfl) (OpQ.indexOwn (e := .pair (.int .i64) (.int .i64)) (q := 0) (el := e22) 0 rfl hLyown5_0l17 rfl rfl Tryz.underlying44 (by kernel_rfl) (by kernel_rfl) h022 he22 rfl fun cs21 _ hr21 hc21 => ?_)
       obtain ⟨_, _, rfl, rfl, rfl⟩ := hr21
       replace hc21 : ∀ j v, ([.int .i64 e22.1, .int .i64 e22.2] : List Value)[j]? = some v → xsyown5_0l17[Int.toNat 0 * 2 + j]? = some v := hc21
       refine OkM.head rfl rfl (show _ = [.own (.slice ayown5_0l17 yown5_0l17.length cyown5_0l17) 31 2 yown5_0l17.length xsyown5_0l17, .blk bs3 (.cells #[.int .i64 xk.1, .int .i64 xk.2.1, .int .i64 xk.2.2.1, .int .i64 xk.2.2.2] 28), .blk bs2 (.cells #[.int .i64 xt.lab.1, .int .i64 xt.lab.2.1, sv xt.lab.2.2, .slice axt_0 xt.kids.length cxt_0] 26)] from rfl) (OpQ.step (v := .agg #[.int .i64 e22.1, .int .i64 e22.2]) (Yields.loadAggOwn 0 0 2 #[.int .i64 e22.1, .int .i64 e22.2] rfl hc21 rfl Tryz.underlying31 rfl (by kernel_rfl) (by kernel_rfl) (by kernel_rfl)) rfl rfl (OkM.bat 1 [4] [(59, .agg #[.int .i64 e22.1, .int .i64 e22.2]), (60, .slice ayown5_0l17 yown5_0l17.length cyown5_0l17)] ?_))
       obtain ⟨h024, h124, hF⟩ := hF
       have he24 := get_of (l := yown5_0l17) (default : Int × Int) h124
       generalize hg24 : (yown5_0l17.getD (Int.toNat 1) default) = e24 at he24 hF ⊢
       refine OkM.head rfl rfl (show _ = [.own (.slice ayown5_0l17 yown5_0l17.length cyown5_0l17) 31 2 yown5_0l17.length xsyown5_0l17, .blk bs3 (.cells #[.int .i64 xk.1, .int .i64 xk.2.1, .int .i64 xk.2.2.1, .int .i64 xk.2.2.2] 28), .blk bs2 (.cells #[.int .i64 xt.lab.1, .int .i64 xt.lab.2.1, sv xt.lab.2.2, .slice axt_0 xt.kids.length cxt_0] 26)] from rfl) (OpQ.indexOwn (e := .pair (.int .i64) (.int .i64)) (q := 1) (el := e24) 0 rfl hLyown5_0l17 rfl rfl Tryz.underlying44 (by kernel_rfl) (by kernel_rfl) h024 he24 rfl fun cs23 _ hr23 hc23 => ?_)
       obtain ⟨_, _, rfl, rfl, rfl⟩ := hr23
       replace hc23 : ∀ j v, ([.int .i64 e24.1, .int .i64 e24.2] : List Value)[j]? = some v → xsyown5_0l17[Int.toNat 1 * 2 + j]? = some v := hc23
       refine OkM.head rfl rfl (show _ = [.own (.slice ayown5_0l17 yown5_0l17.length cyown5_0l17) 31 2 yown5_0l17.length xsyown5_0l17, .blk bs3 (.cells #[.int .i64 xk.1, .int .i64 xk.2.1, .int .i64 xk.2.2.1, .int .i64 xk.2.2.2] 28), .blk bs2 (.cells #[.int .i64 xt.lab.1, .int .i64 xt.lab.2.1, sv xt.lab.2.2, .slice axt_0 xt.kids.length cxt_0] 26)] from rfl) (OpQ.step (v := .agg #[.int .i64 e24.1, .int .i64 e24.2]) (Yields.loadAggOwn 0 0 2 #[.int .i64 e24.1, .int .i64 e24.2] rfl hc23 rfl Tryz.underlying31 rfl (by kernel_rfl) (by kernel_rfl) (by kernel_rfl)) rfl rfl (OkM.head rfl rfl (show _ = [.own (.slice ayown5_0l17 yown5_0l17.length cyown5_0l17) 31 2 yown5_0l17.length xsyown5_0l17, .blk bs3 (.cells #[.int .i64 xk.1, .int .i64 xk.2.1, .int .i64 xk.2.2.1, .int .i64 xk.2.2.2] 28), .blk bs2 (.cells #[.int .i64 xt.lab.1, .int .i64 xt.lab.2.1, sv xt.lab.2.2, .slice axt_0 xt.kids.length cxt_0] 26)] from rfl) (OpQ.callG (v := .tuple #[.agg #[.int .i64 (dvS e22 e24).1.1, .int .i64 (dvS e22 e24).1.2], .int .i64 (dvS e22 e24).2]) enr (fun W hW => dvd_c e22 e24) rfl ?_)))
       refine OkM.bat 2 [4] [(64, .agg #[.int .i64 (dvS e22 e24).1.1, .int .i64 (dvS e22 e24).1.2]), (65, .int .i64 (dvS e22 e24).2)] ?_
       refine OkM.tail rfl rfl (OpOk.sto (k := 2) (v := .agg #[.int .i64 (dvS e22 e24).1.1, .int .i64 (dvS e22 e24).1.2]) 1 #[.int .i64 (dvS e22 e24).1.1, .int .i64 (dvS e22 e24).1.2] rfl rfl rfl ?_)
       refine OkM.leaf (i := 9) (show _ = [.own (.slice ayown5_0l17 yown5_0l17.length cyown5_0l17) 31 2 yown5_0l17.length xsyown5_0l17, .blk bs3 (.cells #[.int .i64 xk.1, .int .i64 xk.2.1, .int .i64 xk.2.2.1, .int .i64 xk.2.2.2] 28), .blk bs2 (.cells #[.int .i64 xt.lab.1, .int .i64 xt.lab.2.1, sv xt.lab.2.2, .slice axt_0 xt.kids.length cxt_0] 26)] from rfl) (Gle.refl _) (.cons_cons _ (.cons _ (.cons_cons _ (.cons_cons _ .slnil)))) (OkM.bat 1 [4] [(5, .int .i64 (dvS e22 e24).2)] ?_)
       refine OkM.nil (Ok.thenN (Ok.ret (Ok.blockR (Ok.thenR ?_))))
       exact Ok.resP (vs := [.agg #[.int .i64 (dvS e22 e24).1.1, .int .i64 (dvS e22 e24).1.2], .int .i64 (dvS e22 e24).2]) [] [] (by decide) rfl (.inl rfl) rfl (.cons (.cellAgg 1 2 #[.int .i64 (dvS e22 e24).1.1, .int .i64 (dvS e22 e24).1.2] rfl rfl Tryz.underlying31 rfl (by kernel_rfl) (by kernel_rfl) (by kernel_rfl)) (.cons (.tmp rfl) .nil)) hxl17 ⟨(dvS e22 e24).1, (dvS e22 e24).2, rfl, rfl, hF⟩
      ·replace hF := hF.2 hc20
       refine Ok.skip (Ok.blockN (Ok.thenN (Ok.seq (Ok.region (Ok.bat 1 [4, 6] [(66, pv bs2 0)] ?_)))))
       refine Ok.op rfl (OpOk.step (v := .int .i64 xt.lab.1) (Yields.load 3 rfl rfl Tryz.underlying3 rfl (by kernel_rfl)) rfl rfl (Ok.bat 1 [4] [(67, .int .i64 xt.lab.1), (68, .slice ayown5_0l17 yown5_0l17.length cyown5_0l17)] ?_))
       obtain ⟨hp25, hF⟩ := hF
       refine Ok.op rfl (OpOk.callG (v := .tuple #[.agg #[.int .i64 (cbS xt.lab.1 yown5_0l17).1.1, .int .i64 (cbS xt.lab.1 yown5_0l17).1.2], .int .i64 (cbS xt.lab.1 yown5_0l17).2]) enr (fun W hW => alk_c xt.lab.1 yown5_0l17 (hW.seeOwn 0 rfl hLyown5_0l17) hp25) rfl ?_)
       refine Ok.bat 2 [4] [(70, .agg #[.int .i64 (cbS xt.lab.1 yown5_0l17).1.1, .int .i64 (cbS xt.lab.1 yown5_0l17).1.2]), (71, .int .i64 (cbS xt.lab.1 yown5_0l17).2)] ?_
       refine Ok.op rfl (OpOk.sto (k := 2) (v := .agg #[.int .i64 (cbS xt.lab.1 yown5_0l17).1.1, .int .i64 (cbS xt.lab.1 yown5_0l17).1.2]) 1 #[.int .i64 (cbS xt.lab.1 yown5_0l17).1.1, .int .i64 (cbS xt.lab.1 yown5_0l17).1.2] rfl rfl rfl ?_)
       refine Ok.bat 1 [4] [(5, .int .i64 (cbS xt.lab.1 yown5_0l17).2)] ?_
       refine Ok.nil (Ok.thenN (Ok.ret ?_))
       exact Ok.resP (vs := [.agg #[.int .i64 (cbS xt.lab.1 yown5_0l17).1.1, .int .i64 (cbS xt.lab.1 yown5_0l17).1.2], .int .i64 (cbS xt.lab.1 yown5_0l17).2]) [] [] (by decide) rfl (.inl rfl) rfl (.cons (.cellAgg 1 2 #[.int .i64 (cbS xt.lab.1 yown5_0l17).1.1, .int .i64 (cbS xt.lab.1 yown5_0l17).1.2] rfl rfl Tryz.underlying31 rfl (by kernel_rfl) (by kernel_rfl) (by kernel_rfl)) (.cons (.tmp rfl) .nil)) hxl17 ⟨(cbS xt.lab.1 yown5_0l17).1, (cbS xt.lab.1 yown5_0l17).2, rfl, rfl, hF⟩
theorem vl_0 (t : Tm) (k : Sc) : ¬ vlP 0 t k := fun h => absurd h.1 (Nat.not_lt_zero _)
theorem vl_F (N : Nat) (t : Tm) (k : Sc) (h : vlP (N + 1) t k) : vlF N t k (fun a b => (a, b) = evS t k) := by
 have hk := len_kids t
 have hw := h.2.1
 have e := evS_eq t k
 have hok := h.2.2.1
 refine ⟨fun h1 => ?_, fun h1 => ?_⟩
 ·rw [if_t h1] at e
  rw [num_eq _ _ (vl_num h), e]
 ·rw [if_f h1] at e
  have hsh := shp_cases (vlO h) h1
  have loop : ∀ (m i : Nat) (acc : List Vl), i + m = t.kids.length → acc.length = i → (∀ v ∈ acc, bd v) → evS t k = evA k (cbS t.lab.1) (t.kids.drop i) acc → vll17 N t k (fun a b => (a, b) = evS t k) (m + 1) (i : Int) acc := by
   intro m
   induction m with
   | zero =>
    intro i acc hi ha hb he
    rw [List.drop_of_length_le (by omega), evA] at he
    refine ⟨fun hc => absurd (of_decide_eq_true hc) (by omega), fun _ => ⟨fun h4 => ?_, fun h4 => ⟨fun h5 => ?_, fun h5 => ?_⟩⟩⟩
    ·have h4' : t.lab.1 = 4 := by simpa using h4
     have hl : acc.length = 2 := by omega
     rw [h4', cb_two rfl hl, ← tim_eq (bd_at hb (by omega)) (bd_at hb (by omega))] at he
     exact ⟨by omega, by rw [hl]; decide, by omega, by rw [hl]; decide, he.symm⟩
    ·have h5' : t.lab.1 = 5 := by simpa using h5
     have hl : acc.length = 2 := by omega
     rw [h5', cb_two rfl hl, ← dv_eq (bd_at hb (by omega)) (bd_at hb (by omega))] at he
     exact ⟨by omega, by rw [hl]; decide, by omega, by rw [hl]; decide, he.symm⟩
    ·have h4' : t.lab.1 ≠ 4 := by simpa using h4
     have h5' : t.lab.1 ≠ 5 := by simpa using h5
     exact ⟨⟨hb, by omega, by omega⟩, he.symm⟩
   | succ m ih =>
    intro i acc hi ha hb he
    have hi' : i < t.kids.length := by omega
    rw [drop_get (l := t.kids) default hi', evA_cons] at he
    refine ⟨fun _ => ⟨by omega, by rw [Int.toNat_natCast]; omega, ?_⟩, fun hc => absurd (of_decide_eq_false hc) (by omega)⟩
    rw [Int.toNat_natCast]
    refine ⟨vl_kid h hi', fun hc => by rw [if_t hc] at he; exact he.symm, fun hc => ⟨by rw [List.length_append, List.length_singleton]; omega, ?_⟩⟩
    rw [if_f hc] at he
    rw [w64 (by omega), show (i : Int) + 1 = ((i + 1 : Nat) : Int) by omega]
    refine ih (i + 1) _ (by omega) (by rw [List.length_append, List.length_singleton]; omega) (fun v hv => ?_) he
    rcases List.mem_append.1 hv with hv | hv
    ·exact hb v hv
    ·rw [List.mem_singleton] at hv
     subst hv
     exact ev_bd _ _ (vl_kid h hi').2.2.1
  exact ⟨_, loop t.kids.length 0 [] (by omega) rfl (fun v hv => by cases hv) (by rw [List.drop_zero]; exact e)⟩
theorem vl_rec : ∀ N, vl_C N
 | 0 => (by intro g axt_0 cxt_0 xt xk hRxt_0 hp; exact (vl_0 xt xk hp).elim)
 | N + 1 =>
  have ih := vl_rec N
  (by intro g axt_0 cxt_0 xt xk hRxt_0 hp; exact (vl_ok N ih xt xk hRxt_0 _ (vl_F N xt xk hp)).gives (by rintro g' H' v _ ⟨r0, r1, rfl, rfl, hK⟩; obtain ⟨rfl, rfl⟩ : r0 = (evS xt xk).1 ∧ r1 = (evS xt xk).2 := ⟨congrArg (fun z => z.1) hK, congrArg (fun z => z.2) hK⟩; rfl))
def vlPE (xt : Tree (Int × Int × Bs)) (xk : Int × Int × Int × Int) : Prop := ∃ N, vlP N xt xk
theorem vl_c {g : Ghost} {axt_0 : Option Addr} {cxt_0 : Nat} (xt : Tree (Int × Int × Bs)) (xk : Int × Int × Int × Int) (hRxt_0 : Rep g (.slice (.tree (.pair (.int .i64) (.pair (.int .i64) (.str))))) [.slice axt_0 xt.kids.length cxt_0] xt.kids)  (hp : vlPE xt xk) : CallsG Tryz.prog 11 #[.agg #[.int .i64 xt.lab.1, .int .i64 xt.lab.2.1, sv xt.lab.2.2, .slice axt_0 xt.kids.length cxt_0], .agg #[.int .i64 xk.1, .int .i64 xk.2.1, .int .i64 xk.2.2.1, .int .i64 xk.2.2.2]] g (.tuple #[.agg #[.int .i64 (evS xt xk).1.1, .int .i64 (evS xt xk).1.2], .int .i64 (evS xt xk).2]) := by
 obtain ⟨N, hp⟩ := hp
 exact (vl_rec N) _ xt xk hRxt_0 hp
def rvP (N : Nat) (t : Tm) (k : Sc) : Prop := vlP N t k
def rv_C (N : Nat) : Prop := ∀ (g : Ghost) {axt_0 : Option Addr} {cxt_0 : Nat} (xt : Tree (Int × Int × Bs)) (xk : Int × Int × Int × Int) (hRxt_0 : Rep g (.slice (.tree (.pair (.int .i64) (.pair (.int .i64) (.str))))) [.slice axt_0 xt.kids.length cxt_0] xt.kids)  (hp : rvP N xt xk), CallsG Tryz.prog 7 #[.agg #[.int .i64 xt.lab.1, .int .i64 xt.lab.2.1, sv xt.lab.2.2, .slice axt_0 xt.kids.length cxt_0], .agg #[.int .i64 xk.1, .int .i64 xk.2.1, .int .i64 xk.2.2.1, .int .i64 xk.2.2.2]] g (.tuple #[.agg #[.int .i64 (evS xt xk).1.1, .int .i64 (evS xt xk).1.2], .int .i64 (evS xt xk).2])
def rvV1 (yown5_0l17 : List (Int × Int)) (e23 : Int × Int) (e21 : Int × Int) : Bool :=
 (((prvS 6 e21 e23).2 != 0) || ((yown5_0l17.getD (Int.toNat 0) default).1 != e21.1))
def rvj45 (K : (Int × Int) → Int → Prop) (yown5_0l17 : List (Int × Int)) (e23 : Int × Int) (e21 : Int × Int) : Prop :=
 (((rvV1 yown5_0l17 e23 e21)) = true → K (0, 0) 7) ∧ (((rvV1 yown5_0l17 e23 e21)) = false → (0 : Int) ≤ 0 ∧ Int.toNat 0 < yown5_0l17.length ∧ prvP 7 (yown5_0l17.getD (Int.toNat 0) default) (prvS 6 e21 e23).1 ∧ K (prvS 7 (yown5_0l17.getD (Int.toNat 0) default) (prvS 6 e21 e23).1).1 (prvS 7 (yown5_0l17.getD (Int.toNat 0) default) (prvS 6 e21 e23).1).2)
def rvl62b (xt : Tree (Int × Int × Bs)) (K : (Int × Int) → Int → Prop) (yown5_0l17 : List (Int × Int)) (x13l62 : Int) (ybs12_0l62 : Int) (ybs12_1l62 : Int) (C62 : Int → Int → Int → Prop) : Prop :=
 ((decide (x13l62 < (yown5_0l17.length : Int))) = true → (0 : Int) ≤ x13l62 ∧ Int.toNat x13l62 < yown5_0l17.length ∧ prvP xt.lab.1 (ybs12_0l62, ybs12_1l62) (yown5_0l17.getD (Int.toNat x13l62) default) ∧ ((((prvS xt.lab.1 (ybs12_0l62, ybs12_1l62) (yown5_0l17.getD (Int.toNat x13l62) default)).2 != 0)) = true → K (0, 0) (prvS xt.lab.1 (ybs12_0l62, ybs12_1l62) (yown5_0l17.getD (Int.toNat x13l62) default)).2) ∧ ((((prvS xt.lab.1 (ybs12_0l62, ybs12_1l62) (yown5_0l17.getD (Int.toNat x13l62) default)).2 != 0)) = false → C62 (w6 (x13l62 + 1)) (prvS xt.lab.1 (ybs12_0l62, ybs12_1l62) (yown5_0l17.getD (Int.toNat x13l62) default)).1.1 (prvS xt.lab.1 (ybs12_0l62, ybs12_1l62) (yown5_0l17.getD (Int.toNat x13l62) default)).1.2)) ∧ ((decide (x13l62 < (yown5_0l17.length : Int))) = false → K (ybs12_0l62, ybs12_1l62) 0)
def rvl62 (xt : Tree (Int × Int × Bs)) (K : (Int × Int) → Int → Prop) (yown5_0l17 : List (Int × Int)) : Nat → Int → Int → Int → Prop
 | 0, _, _, _ => False
 | k + 1, x13l62, ybs12_0l62, ybs12_1l62 => rvl62b xt K yown5_0l17 x13l62 ybs12_0l62 ybs12_1l62 (rvl62 xt K yown5_0l17 k)
def rvl17b (N : Nat) (xt : Tree (Int × Int × Bs)) (xk : Int × Int × Int × Int) (K : (Int × Int) → Int → Prop) (x7l17 : Int) (yown5_0l17 : List (Int × Int)) (C17 : Int → (List (Int × Int)) → Prop) : Prop :=
 ((decide (x7l17 < (xt.kids.length : Int))) = true → (0 : Int) ≤ x7l17 ∧ Int.toNat x7l17 < xt.kids.length ∧ (rvP N (xt.kids.getD (Int.toNat x7l17) default) xk ∧ ((((evS (xt.kids.getD (Int.toNat x7l17) default) xk).2 != 0)) = true → K (0, 0) (evS (xt.kids.getD (Int.toNat x7l17) default) xk).2) ∧ ((((evS (xt.kids.getD (Int.toNat x7l17) default) xk).2 != 0)) = false → (yown5_0l17 ++ ([(evS (xt.kids.getD (Int.toNat x7l17) default) xk).1] : List (Int × Int))).length ≤ 8796093022208 ∧ C17 (w6 (x7l17 + 1)) (yown5_0l17 ++ ([(evS (xt.kids.getD (Int.toNat x7l17) default) xk).1] : List (Int × Int))))) ∧ (rvP N (xt.kids.getD (Int.toNat x7l17) default) xk ∧ ((((evS (xt.kids.getD (Int.toNat x7l17) default) xk).2 != 0)) = true → K (0, 0) (evS (xt.kids.getD (Int.toNat x7l17) default) xk).2) ∧ ((((evS (xt.kids.getD (Int.toNat x7l17) default) xk).2 != 0)) = false → (yown5_0l17 ++ ([(evS (xt.kids.getD (Int.toNat x7l17) default) xk).1] : List (Int × Int))).length ≤ 8796093022208 ∧ C17 (w6 (x7l17 + 1)) (yown5_0l17 ++ ([(evS (xt.kids.getD (Int.toNat x7l17) default) xk).1] : List (Int × Int)))))) ∧ ((decide (x7l17 < (xt.kids.length : Int))) = false → (((xt.lab.1 == 8)) = true → (0 : Int) ≤ 1 ∧ Int.toNat 1 < yown5_0l17.length ∧ (0 : Int) ≤ 2 ∧ Int.toNat 2 < yown5_0l17.length ∧ prvP 6 (yown5_0l17.getD (Int.toNat 1) default) (yown5_0l17.getD (Int.toNat 2) default) ∧ ((((prvS 6 (yown5_0l17.getD (Int.toNat 1) default) (yown5_0l17.getD (Int.toNat 2) default)).2 != 0)) = true → rvj45 K yown5_0l17 (yown5_0l17.getD (Int.toNat 2) default) (yown5_0l17.getD (Int.toNat 1) default)) ∧ ((((prvS 6 (yown5_0l17.getD (Int.toNat 1) default) (yown5_0l17.getD (Int.toNat 2) default)).2 != 0)) = false → (0 : Int) ≤ 0 ∧ Int.toNat 0 < yown5_0l17.length ∧ rvj45 K yown5_0l17 (yown5_0l17.getD (Int.toNat 2) default) (yown5_0l17.getD (Int.toNat 1) default))) ∧ (((xt.lab.1 == 8)) = false → (0 : Int) ≤ 0 ∧ Int.toNat 0 < yown5_0l17.length ∧ ∃ k, rvl62 xt K yown5_0l17 k 1 (yown5_0l17.getD (Int.toNat 0) default).1 (yown5_0l17.getD (Int.toNat 0) default).2))
def rvl17 (N : Nat) (xt : Tree (Int × Int × Bs)) (xk : Int × Int × Int × Int) (K : (Int × Int) → Int → Prop) : Nat → Int → (List (Int × Int)) → Prop
 | 0, _, _ => False
 | k + 1, x7l17, yown5_0l17 => rvl17b N xt xk K x7l17 yown5_0l17 (rvl17 N xt xk K k)
def rvF (N : Nat) (xt : Tree (Int × Int × Bs)) (xk : Int × Int × Int × Int) (K : (Int × Int) → Int → Prop) : Prop :=
 (((xt.lab.1 == 1)) = true → K (rnumM xt.lab.2 xk).1 (rnumM xt.lab.2 xk).2) ∧ (((xt.lab.1 == 1)) = false → ∃ k, rvl17 N xt xk K k 0 ([] : List (Int × Int)))
theorem rv_ok {g : Ghost} (N : Nat) (ih_rv : rv_C N) {axt_0 : Option Addr} {cxt_0 : Nat} (xt : Tree (Int × Int × Bs)) (xk : Int × Int × Int × Int) (hRxt_0 : Rep g (.slice (.tree (.pair (.int .i64) (.pair (.int .i64) (.str))))) [.slice axt_0 xt.kids.length cxt_0] xt.kids) (K : (Int × Int) → Int → Prop)
  (hF : rvF N xt xk K) : CallsH Tryz.prog 7 #[.agg #[.int .i64 xt.lab.1, .int .i64 xt.lab.2.1, sv xt.lab.2.2, .slice axt_0 xt.kids.length cxt_0], .agg #[.int .i64 xk.1, .int .i64 xk.2.1, .int .i64 xk.2.2.1, .int .i64 xk.2.2.2]] g [] (fun g' H' v => ∃ (r0 : Int × Int), ∃ (r1 : Int), v = .tuple #[.agg #[.int .i64 r0.1, .int .i64 r0.2], .int .i64 r1] ∧ H' = [] ∧ K r0 r1) := by
 refine CallsH.enter 110 [(0, .agg #[.int .i64 xt.lab.1, .int .i64 xt.lab.2.1, sv xt.lab.2.2, .slice axt_0 xt.kids.length cxt_0]), (1, .agg #[.int .i64 xk.1, .int .i64 xk.2.1, .int .i64 xk.2.2.1, .int .i64 xk.2.2.2])] Tryz.func7 rfl (by kernel_rfl) (by kernel_rfl) (by kernel_rfl) fun w0 => ?_
 refine Ok.seq (Ok.region (Ok.op rfl (OpOk.box (v := .agg #[.int .i64 xt.lab.1, .int .i64 xt.lab.2.1, sv xt.lab.2.2, .slice axt_0 xt.kids.length cxt_0]) (cs := #[.int .i64 xt.lab.1, .int .i64 xt.lab.2.1, sv xt.lab.2.2, .slice axt_0 xt.kids.length cxt_0]) rfl (by kernel_rfl) rfl fun bs2 => ?_)))
 refine Ok.op rfl (OpOk.box (v := .agg #[.int .i64 xk.1, .int .i64 xk.2.1, .int .i64 xk.2.2.1, .int .i64 xk.2.2.2]) (cs := #[.int .i64 xk.1, .int .i64 xk.2.1, .int .i64 xk.2.2.1, .int .i64 xk.2.2.2]) rfl (by kernel_rfl) rfl fun bs3 => ?_)
 refine Ok.op rfl (OpOk.alloc (z := .agg #[.int .i64 0, .int .i64 0]) (cs := #[.int .i64 0, .int .i64 0]) (by kernel_rfl) (by kernel_rfl) rfl fun bs4 => ?_)
 refine Ok.batch 1 [(2, pv bs2 0), (3, pv bs3 0), (4, pv bs4 0)] (by kernel_rfl) (Ok.nil (Ok.thenN (Ok.seq (Ok.seq (Ok.region (Ok.bat 1 [2, 3, 4] [(16, pv bs2 0)] ?_))))))
 refine Ok.op rfl (OpOk.step (v := .int .i64 xt.lab.1) (Yields.load 2 rfl rfl Tryz.underlying3 rfl (by kernel_rfl)) rfl rfl (Ok.bat 1 [2, 3, 4] [(18, .bool (xt.lab.1 == 1))] ?_))
 refine Ok.nil (Ok.thenN (Ok.cond (b := (xt.lab.1 == 1)) rfl (fun hc4 => ?_) (fun hc4 => ?_)))
 ·replace hF := hF.1 hc4
  refine Ok.seq (Ok.region (Ok.bat 1 [3, 4] [(19, pv bs2 1)] ?_))
  refine Ok.op rfl (OpOk.step (v := .agg #[.int .i64 xt.lab.2.1, sv xt.lab.2.2]) (Yields.loadAgg 2 2 #[.int .i64 xt.lab.2.1, sv xt.lab.2.2] rfl rfl Tryz.underlying23 rfl (by kernel_rfl) (by kernel_rfl) (by kernel_rfl)) rfl rfl (Ok.op rfl (OpOk.step (v := .agg #[.int .i64 xk.1, .int .i64 xk.2.1, .int .i64 xk.2.2.1, .int .i64 xk.2.2.2]) (Yields.loadAgg 1 4 #[.int .i64 xk.1, .int .i64 xk.2.1, .int .i64 xk.2.2.1, .int .i64 xk.2.2.2] rfl rfl Tryz.underlying28 rfl (by kernel_rfl) (by kernel_rfl) (by kernel_rfl)) rfl rfl (Ok.op rfl (OpOk.callG (v := .tuple #[.agg #[.int .i64 (rnumM xt.lab.2 xk).1.1, .int .i64 (rnumM xt.lab.2 xk).1.2], .int .i64 (rnumM xt.lab.2 xk).2]) enr (fun W hW => rnum_c xt.lab.2 xk) rfl ?_)))))
  refine Ok.bat 2 [4] [(23, .agg #[.int .i64 (rnumM xt.lab.2 xk).1.1, .int .i64 (rnumM xt.lab.2 xk).1.2]), (24, .int .i64 (rnumM xt.lab.2 xk).2)] ?_
  refine Ok.op rfl (OpOk.sto (k := 2) (v := .agg #[.int .i64 (rnumM xt.lab.2 xk).1.1, .int .i64 (rnumM xt.lab.2 xk).1.2]) 0 #[.int .i64 (rnumM xt.lab.2 xk).1.1, .int .i64 (rnumM xt.lab.2 xk).1.2] rfl rfl rfl ?_)
  refine Ok.bat 1 [4] [(5, .int .i64 (rnumM xt.lab.2 xk).2)] ?_
  refine Ok.nil (Ok.thenN (Ok.ret (Ok.thenR ?_)))
  exact Ok.resP (vs := [.agg #[.int .i64 (rnumM xt.lab.2 xk).1.1, .int .i64 (rnumM xt.lab.2 xk).1.2], .int .i64 (rnumM xt.lab.2 xk).2]) [] [] (by decide) rfl (.inl rfl) rfl (.cons (.cellAgg 0 2 #[.int .i64 (rnumM xt.lab.2 xk).1.1, .int .i64 (rnumM xt.lab.2 xk).1.2] rfl rfl Tryz.underlying31 rfl (by kernel_rfl) (by kernel_rfl) (by kernel_rfl)) (.cons (.tmp rfl) .nil)) (Gext.refl w0 g) ⟨(rnumM xt.lab.2 xk).1, (rnumM xt.lab.2 xk).2, rfl, rfl, hF⟩
 ·replace hF := hF.2 hc4
  refine Ok.skip (Ok.thenN (Ok.seq (Ok.region (Ok.bat 1 [2, 3, 4] [(6, .slice none 0 0)] ?_))))
  have hL5 : RepL g (.pair (.int .i64) (.int .i64)) [] [] := rfl
  refine Ok.ownNil 31 2 (Ok.nil (Ok.thenN (Ok.seq (Ok.seq (Ok.region (Ok.bat 1 [2, 3, 4] [(6, .slice none ([] : List (Int × Int)).length 0), (7, .int .i64 0)] ?_))))))
  refine Ok.nil (Ok.thenN (Ok.block ?_))
  obtain ⟨k, hF⟩ := hF
  refine Ok.loop (fun k a W => ∃ gl17 : Ghost, Gext w0 g gl17 ∧ ∃ (x7l17 : Int) (ayown5_0l17 : Option Addr) (cyown5_0l17 : Nat) (yown5_0l17 : List (Int × Int)) (xsyown5_0l17 : List Value), RepL gl17 (.pair (.int .i64) (.int .i64)) xsyown5_0l17 yown5_0l17 ∧ StA 110 [(2, pv bs2 0), (3, pv bs3 0), (4, pv bs4 0), (6, .slice ayown5_0l17 yown5_0l17.length cyown5_0l17), (7, .int .i64 x7l17)] a ∧ StW w0 [.own (.slice ayown5_0l17 yown5_0l17.length cyown5_0l17) 31 2 yown5_0l17.length xsyown5_0l17, .blk bs4 (.cells #[.int .i64 0, .int .i64 0] 31), .blk bs3 (.cells #[.int .i64 xk.1, .int .i64 xk.2.1, .int .i64 xk.2.2.1, .int .i64 xk.2.2.2] 28), .blk bs2 (.cells #[.int .i64 xt.lab.1, .int .i64 xt.lab.2.1, sv xt.lab.2.2, .slice axt_0 xt.kids.length cxt_0] 26)] gl17 W ∧ rvl17 N xt xk K k x7l17 yown5_0l17) k ?_ ?_
  ·
   exact fun a W hA hW => ⟨g, (Gext.refl w0 g), 0, none, 0, ([] : List (Int × Int)), [], hL5, hA.sub (by kernel_rfl), hW, hF⟩
  ·
   clear hF
   rintro k17 a W ⟨gl17, hxl17, x7l17, ayown5_0l17, cyown5_0l17, yown5_0l17, xsyown5_0l17, hLyown5_0l17, hA, hW, hF⟩
   cases k17 with
   | zero => exact (hF : False).elim
   | succ k17 =>
    refine (?_ : Ok _ _ _ _ _ _) a W hA hW
    clear hA hW
    replace hRxt_0 := hRxt_0.mono hxl17.1
    refine Ok.seq (Ok.seq (Ok.region (Ok.bat 2 [2, 3, 4, 6, 7] [(25, .int .i64 x7l17), (26, pv bs2 3)] ?_)))
    refine Ok.op rfl (OpOk.step (v := .slice axt_0 xt.kids.length cxt_0) (Yields.load 3 rfl rfl Tryz.underlying24 rfl (by kernel_rfl)) rfl rfl (Ok.bat 2 [2, 3, 4, 6, 7] [(29, .bool (decide (x7l17 < (xt.kids.length : Int))))] ?_))
    refine Ok.nil (Ok.thenN (Ok.cond (b := decide (x7l17 < (xt.kids.length : Int))) rfl (fun hc6 => ?_) (fun hc6 => ?_)))
    ·replace hF := hF.1 hc6
     refine Ok.skip (Ok.thenN (Ok.seq (Ok.block (Ok.seq (Ok.fork [] [] [.own (.slice ayown5_0l17 yown5_0l17.length cyown5_0l17) 31 2 yown5_0l17.length xsyown5_0l17, .blk bs4 (.cells #[.int .i64 0, .int .i64 0] 31), .blk bs3 (.cells #[.int .i64 xk.1, .int .i64 xk.2.1, .int .i64 xk.2.2.1, .int .i64 xk.2.2.2] 28), .blk bs2 (.cells #[.int .i64 xt.lab.1, .int .i64 xt.lab.2.1, sv xt.lab.2.2, .slice axt_0 xt.kids.length cxt_0] 26)] [(0, true), (1, true), (2, true), (3, true), (5, true)] 4 [(6, true), (7, true), (8, true), (9, true), (10, false), (11, false), (12, true)] 10 [(4, false), (6, true), (7, true), (8, true), (9, true), (11, false), (12, true)] (by kernel_rfl) (by kernel_rfl) (.cons_cons _ (.cons_cons _ (.cons_cons _ (.cons_cons _ .slnil)))) (OkM.bat 1 [2, 3, 4, 6, 7] [(33, pv bs2 3)] ?_))))))
     refine OkM.head rfl rfl (show _ = [.own (.slice ayown5_0l17 yown5_0l17.length cyown5_0l17) 31 2 yown5_0l17.length xsyown5_0l17, .blk bs4 (.cells #[.int .i64 0, .int .i64 0] 31), .blk bs3 (.cells #[.int .i64 xk.1, .int .i64 xk.2.1, .int .i64 xk.2.2.1, .int .i64 xk.2.2.2] 28), .blk bs2 (.cells #[.int .i64 xt.lab.1, .int .i64 xt.lab.2.1, sv xt.lab.2.2, .slice axt_0 xt.kids.length cxt_0] 26)] from rfl) (OpQ.step (v := .slice axt_0 xt.kids.length cxt_0) (Yields.load 3 rfl rfl Tryz.underlying24 rfl (by kernel_rfl)) rfl rfl (OkM.bat 1 [2, 3, 4, 6, 7] [(34, .slice axt_0 xt.kids.length cxt_0), (35, .int .i64 x7l17)] ?_))
     obtain ⟨h08, h18, hF⟩ := hF
     have he8 := get_of (l := xt.kids) (default : Tree (Int × Int × Bs)) h18
     generalize hg8 : (xt.kids.getD (Int.toNat x7l17) default) = e8 at he8 hF ⊢
     refine OkM.head rfl rfl (show _ = [.own (.slice ayown5_0l17 yown5_0l17.length cyown5_0l17) 31 2 yown5_0l17.length xsyown5_0l17, .blk bs4 (.cells #[.int .i64 0, .int .i64 0] 31), .blk bs3 (.cells #[.int .i64 xk.1, .int .i64 xk.2.1, .int .i64 xk.2.2.1, .int .i64 xk.2.2.2] 28), .blk bs2 (.cells #[.int .i64 xt.lab.1, .int .i64 xt.lab.2.1, sv xt.lab.2.2, .slice axt_0 xt.kids.length cxt_0] 26)] from rfl) (OpQ.indexRo (e := .tree (.pair (.int .i64) (.pair (.int .i64) (.str)))) (i := x7l17) (el := e8) rfl rfl Tryz.underlying24 (by kernel_rfl) hRxt_0 h08 he8 rfl fun q7 o7 cs7 _ hat7 hr7 => ?_)
     have hT7_0 := hr7
     replace hT7_0 := Rep.tree.1 hT7_0
     obtain ⟨_, _, rfl, ⟨_, _, rfl, rfl, ⟨_, _, rfl, rfl, rfl⟩⟩, ⟨a7_3, c7_3, rfl, hm7_3, hr7_3⟩⟩ := hT7_0
     have hR7_3 : Rep gl17 (.slice (.tree (.pair (.int .i64) (.pair (.int .i64) (.str))))) [.slice a7_3 e8.kids.length c7_3] e8.kids := ⟨a7_3, c7_3, rfl, hm7_3, hr7_3⟩
     replace hat7 : At gl17 q7 o7 [.int .i64 e8.lab.1, .int .i64 e8.lab.2.1, sv e8.lab.2.2, .slice a7_3 e8.kids.length c7_3] := hat7
     refine OkM.head rfl rfl (show _ = [.own (.slice ayown5_0l17 yown5_0l17.length cyown5_0l17) 31 2 yown5_0l17.length xsyown5_0l17, .blk bs4 (.cells #[.int .i64 0, .int .i64 0] 31), .blk bs3 (.cells #[.int .i64 xk.1, .int .i64 xk.2.1, .int .i64 xk.2.2.1, .int .i64 xk.2.2.2] 28), .blk bs2 (.cells #[.int .i64 xt.lab.1, .int .i64 xt.lab.2.1, sv xt.lab.2.2, .slice axt_0 xt.kids.length cxt_0] 26)] from rfl) (OpQ.step (v := .agg #[.int .i64 xk.1, .int .i64 xk.2.1, .int .i64 xk.2.2.1, .int .i64 xk.2.2.2]) (Yields.loadAgg 2 4 #[.int .i64 xk.1, .int .i64 xk.2.1, .int .i64 xk.2.2.1, .int .i64 xk.2.2.2] rfl rfl Tryz.underlying28 rfl (by kernel_rfl) (by kernel_rfl) (by kernel_rfl)) rfl rfl (OkM.nil (Ok.both ?_ ?_)))
     ·replace hF := hF.1
      refine OkM.tail rfl rfl (OpOk.step (v := .agg #[.int .i64 e8.lab.1, .int .i64 e8.lab.2.1, sv e8.lab.2.2, .slice a7_3 e8.kids.length c7_3]) (Yields.loadAggRo 0 4 #[.int .i64 e8.lab.1, .int .i64 e8.lab.2.1, sv e8.lab.2.2, .slice a7_3 e8.kids.length c7_3] hat7 (by kernel_rfl) Tryz.underlying26 rfl (by kernel_rfl) (by kernel_rfl) (by kernel_rfl)) rfl rfl (OkM.leaf (i := 4) (show _ = [.own (.slice ayown5_0l17 yown5_0l17.length cyown5_0l17) 31 2 yown5_0l17.length xsyown5_0l17, .blk bs4 (.cells #[.int .i64 0, .int .i64 0] 31), .blk bs3 (.cells #[.int .i64 xk.1, .int .i64 xk.2.1, .int .i64 xk.2.2.1, .int .i64 xk.2.2.2] 28), .blk bs2 (.cells #[.int .i64 xt.lab.1, .int .i64 xt.lab.2.1, sv xt.lab.2.2, .slice axt_0 xt.kids.length cxt_0] 26)] from rfl) (Gle.refl _) (.cons_cons _ (.cons_cons _ (.cons_cons _ (.cons_cons _ .slnil)))) ?_))
      obtain ⟨hp9, hF⟩ := hF
      refine OkM.head rfl rfl (show _ = [.own (.slice ayown5_0l17 yown5_0l17.length cyown5_0l17) 31 2 yown5_0l17.length xsyown5_0l17, .blk bs4 (.cells #[.int .i64 0, .int .i64 0] 31), .blk bs3 (.cells #[.int .i64 xk.1, .int .i64 xk.2.1, .int .i64 xk.2.2.1, .int .i64 xk.2.2.2] 28), .blk bs2 (.cells #[.int .i64 xt.lab.1, .int .i64 xt.lab.2.1, sv xt.lab.2.2, .slice axt_0 xt.kids.length cxt_0] 26)] from rfl) (OpQ.callG (v := .tuple #[.agg #[.int .i64 (evS e8 xk).1.1, .int .i64 (evS e8 xk).1.2], .int .i64 (evS e8 xk).2]) enr (fun W hW => ih_rv _ e8 xk (hR7_3.mono hW.sees) hp9) rfl ?_)
      refine OkM.bat 3 [2, 3, 4, 6, 7] [(40, .agg #[.int .i64 (evS e8 xk).1.1, .int .i64 (evS e8 xk).1.2]), (41, .int .i64 (evS e8 xk).2)] ?_
      refine OkM.tail rfl rfl (OpOk.alloc (z := .agg #[.int .i64 0, .int .i64 0]) (cs := #[.int .i64 0, .int .i64 0]) (by kernel_rfl) (by kernel_rfl) rfl fun bs8 => ?_)
      refine OkM.leaf (i := 10) (show _ = [.own (.slice ayown5_0l17 yown5_0l17.length cyown5_0l17) 31 2 yown5_0l17.length xsyown5_0l17, .blk bs4 (.cells #[.int .i64 0, .int .i64 0] 31), .blk bs3 (.cells #[.int .i64 xk.1, .int .i64 xk.2.1, .int .i64 xk.2.2.1, .int .i64 xk.2.2.2] 28), .blk bs2 (.cells #[.int .i64 xt.lab.1, .int .i64 xt.lab.2.1, sv xt.lab.2.2, .slice axt_0 xt.kids.length cxt_0] 26)] from rfl) (Gle.refl _) (.cons _ (.cons_cons _ (.cons_cons _ (.cons_cons _ (.cons_cons _ .slnil))))) (OkM.tail rfl rfl (OpOk.sto (k := 2) (v := .agg #[.int .i64 (evS e8 xk).1.1, .int .i64 (evS e8 xk).1.2]) 0 #[.int .i64 (evS e8 xk).1.1, .int .i64 (evS e8 xk).1.2] rfl rfl rfl ?_))
      refine OkM.leaf (i := 11) (show _ = [.own (.slice ayown5_0l17 yown5_0l17.length cyown5_0l17) 31 2 yown5_0l17.length xsyown5_0l17, .blk bs4 (.cells #[.int .i64 0, .int .i64 0] 31), .blk bs3 (.cells #[.int .i64 xk.1, .int .i64 xk.2.1, .int .i64 xk.2.2.1, .int .i64 xk.2.2.2] 28), .blk bs2 (.cells #[.int .i64 xt.lab.1, .int .i64 xt.lab.2.1, sv xt.lab.2.2, .slice axt_0 xt.kids.length cxt_0] 26)] from rfl) (Gle.refl _) (.cons _ (.cons_cons _ (.cons_cons _ (.cons_cons _ (.cons_cons _ .slnil))))) (OkM.bat 1 [2, 3, 4, 6, 7] [(8, pv bs8 0), (9, .int .i64 (evS e8 xk).2)] ?_)
      refine OkM.nil (Ok.thenN (Ok.seq (Ok.seq (Ok.region (Ok.bat 2 [2, 3, 4, 6, 7, 8, 9] [(43, .bool ((evS e8 xk).2 != 0))] ?_)))))
      refine Ok.nil (Ok.thenN (Ok.cond (b := ((evS e8 xk).2 != 0)) rfl (fun hc11 => ?_) (fun hc11 => ?_)))
      ·replace hF := hF.1 hc11
       refine Ok.seq (Ok.region (Ok.bat 2 [4] [(44, .agg #[.int .i64 0, .int .i64 0]), (45, .int .i64 (evS e8 xk).2)] ?_))
       refine Ok.op rfl (OpOk.sto (k := 2) (v := .agg #[.int .i64 0, .int .i64 0]) 2 #[.int .i64 0, .int .i64 0] rfl rfl rfl ?_)
       refine Ok.bat 1 [4] [(5, .int .i64 (evS e8 xk).2)] ?_
       refine Ok.nil (Ok.thenN (Ok.ret (Ok.thenR (Ok.blockR (Ok.thenR (Ok.thenR (Ok.blockR (Ok.thenR ?_))))))))
       exact Ok.resP (vs := [.agg #[.int .i64 0, .int .i64 0], .int .i64 (evS e8 xk).2]) [] [] (by decide) rfl (.inl rfl) rfl (.cons (.cellAgg 2 2 #[.int .i64 0, .int .i64 0] rfl rfl Tryz.underlying31 rfl (by kernel_rfl) (by kernel_rfl) (by kernel_rfl)) (.cons (.tmp rfl) .nil)) hxl17 ⟨(0, 0), (evS e8 xk).2, rfl, rfl, hF⟩
      ·replace hF := hF.2 hc11
       refine Ok.skip (Ok.thenN (Ok.region (Ok.bat 1 [2, 3, 4, 7, 8] [(46, .slice ayown5_0l17 yown5_0l17.length cyown5_0l17)] ?_)))
       refine Ok.op rfl (OpOk.step (v := .agg #[.int .i64 (evS e8 xk).1.1, .int .i64 (evS e8 xk).1.2]) (Yields.loadAgg 0 2 #[.int .i64 (evS e8 xk).1.1, .int .i64 (evS e8 xk).1.2] rfl rfl Tryz.underlying31 rfl (by kernel_rfl) (by kernel_rfl) (by kernel_rfl)) rfl rfl ?_)
       have hL12 : RepL gl17 (.pair (.int .i64) (.int .i64)) ([.int .i64 (evS e8 xk).1.1, .int .i64 (evS e8 xk).1.2] : List Value) ([(evS e8 xk).1] : List (Int × Int)) := (RepL.consN (c := [.int .i64 (evS e8 xk).1.1, .int .i64 (evS e8 xk).1.2]) ⟨[.int .i64 (evS e8 xk).1.1], [.int .i64 (evS e8 xk).1.2], rfl, rfl, rfl⟩ rfl)
       refine Ok.op rfl (OpOk.lit (E := 31) (.pair (.int .i64) (.int .i64)) ([(evS e8 xk).1] : List (Int × Int)) ([.int .i64 (evS e8 xk).1.1, .int .i64 (evS e8 xk).1.2] : List Value) (by kernel_rfl) (by kernel_rfl) rfl (by kernel_rfl) hL12 rfl fun b12 => ?_)
       obtain ⟨hb13, hF⟩ := hF
       refine Ok.op rfl (OpOk.append' (e := .pair (.int .i64) (.int .i64)) 16 8796093022208 2 0 rfl rfl rfl rfl hLyown5_0l17 hL12 Tryz.underlying44 (by kernel_rfl) (by kernel_rfl) (by kernel_rfl) hb13 rfl fun a13 c13 xs13 hL13 => ?_)
       refine Ok.bat 1 [2, 3, 4, 7] [(6, .slice a13 (yown5_0l17 ++ ([(evS e8 xk).1] : List (Int × Int))).length c13)] ?_
       refine Ok.nil (Ok.blockN (Ok.thenN (Ok.region (Ok.bat 3 [2, 3, 4, 6] [(7, .int .i64 (w6 (x7l17 + 1)))] ?_))))
       refine Ok.nil (Ok.thenN ?_)
       subst hg8
       exact fun a W hA hW => ⟨k17, Nat.lt_succ_self _, gl17, hxl17, w6 (x7l17 + 1), a13, c13, (yown5_0l17 ++ ([(evS (xt.kids.getD (Int.toNat x7l17) default) xk).1] : List (Int × Int))), xs13, hL13, hA.sub (by kernel_rfl), hW.sub (.cons _ (.cons _ (.cons_cons _ (.cons_cons _ (.cons_cons _ (.cons_cons _ .slnil)))))), hF⟩
     ·replace hF := hF.2
      refine OkM.tail rfl rfl (OpOk.alloc (z := .agg #[.int .i64 0, .int .i64 0]) (cs := #[.int .i64 0, .int .i64 0]) (by kernel_rfl) (by kernel_rfl) rfl fun bs8 => ?_)
      refine OkM.leaf (i := 10) (show _ = [.own (.slice ayown5_0l17 yown5_0l17.length cyown5_0l17) 31 2 yown5_0l17.length xsyown5_0l17, .blk bs4 (.cells #[.int .i64 0, .int .i64 0] 31), .blk bs3 (.cells #[.int .i64 xk.1, .int .i64 xk.2.1, .int .i64 xk.2.2.1, .int .i64 xk.2.2.2] 28), .blk bs2 (.cells #[.int .i64 xt.lab.1, .int .i64 xt.lab.2.1, sv xt.lab.2.2, .slice axt_0 xt.kids.length cxt_0] 26)] from rfl) (Gle.refl _) (.cons _ (.cons_cons _ (.cons_cons _ (.cons_cons _ (.cons_cons _ .slnil))))) (OkM.tail rfl rfl (OpOk.step (v := .agg #[.int .i64 e8.lab.1, .int .i64 e8.lab.2.1, sv e8.lab.2.2, .slice a7_3 e8.kids.length c7_3]) (Yields.loadAggRo 0 4 #[.int .i64 e8.lab.1, .int .i64 e8.lab.2.1, sv e8.lab.2.2, .slice a7_3 e8.kids.length c7_3] hat7 (by kernel_rfl) Tryz.underlying26 rfl (by kernel_rfl) (by kernel_rfl) (by kernel_rfl)) rfl rfl (OkM.leaf (i := 4) (show _ = [.own (.slice ayown5_0l17 yown5_0l17.length cyown5_0l17) 31 2 yown5_0l17.length xsyown5_0l17, .blk bs4 (.cells #[.int .i64 0, .int .i64 0] 31), .blk bs3 (.cells #[.int .i64 xk.1, .int .i64 xk.2.1, .int .i64 xk.2.2.1, .int .i64 xk.2.2.2] 28), .blk bs2 (.cells #[.int .i64 xt.lab.1, .int .i64 xt.lab.2.1, sv xt.lab.2.2, .slice axt_0 xt.kids.length cxt_0] 26)] from rfl) (Gle.refl _) (.cons _ (.cons_cons _ (.cons_cons _ (.cons_cons _ (.cons_cons _ .slnil))))) ?_)))
      obtain ⟨hp15, hF⟩ := hF
      refine OkM.head rfl rfl (show _ = [.own (.slice ayown5_0l17 yown5_0l17.length cyown5_0l17) 31 2 yown5_0l17.length xsyown5_0l17, .blk bs4 (.cells #[.int .i64 0, .int .i64 0] 31), .blk bs3 (.cells #[.int .i64 xk.1, .int .i64 xk.2.1, .int .i64 xk.2.2.1, .int .i64 xk.2.2.2] 28), .blk bs2 (.cells #[.int .i64 xt.lab.1, .int .i64 xt.lab.2.1, sv xt.lab.2.2, .slice axt_0 xt.kids.length cxt_0] 26)] from rfl) (OpQ.callG (v := .tuple #[.agg #[.int .i64 (evS e8 xk).1.1, .int .i64 (evS e8 xk).1.2], .int .i64 (evS e8 xk).2]) enr (fun W hW => ih_rv _ e8 xk (hR7_3.mono hW.sees) hp15) rfl ?_)
      refine OkM.bat 3 [2, 3, 4, 6, 7] [(8, pv bs8 0), (40, .agg #[.int .i64 (evS e8 xk).1.1, .int .i64 (evS e8 xk).1.2]), (41, .int .i64 (evS e8 xk).2)] ?_
      refine OkM.tail rfl rfl (OpOk.sto (k := 2) (v := .agg #[.int .i64 (evS e8 xk).1.1, .int .i64 (evS e8 xk).1.2]) 0 #[.int .i64 (evS e8 xk).1.1, .int .i64 (evS e8 xk).1.2] rfl rfl rfl ?_)
      refine OkM.leaf (i := 11) (show _ = [.own (.slice ayown5_0l17 yown5_0l17.length cyown5_0l17) 31 2 yown5_0l17.length xsyown5_0l17, .blk bs4 (.cells #[.int .i64 0, .int .i64 0] 31), .blk bs3 (.cells #[.int .i64 xk.1, .int .i64 xk.2.1, .int .i64 xk.2.2.1, .int .i64 xk.2.2.2] 28), .blk bs2 (.cells #[.int .i64 xt.lab.1, .int .i64 xt.lab.2.1, sv xt.lab.2.2, .slice axt_0 xt.kids.length cxt_0] 26)] from rfl) (Gle.refl _) (.cons _ (.cons_cons _ (.cons_cons _ (.cons_cons _ (.cons_cons _ .slnil))))) (OkM.bat 1 [2, 3, 4, 6, 7, 8] [(9, .int .i64 (evS e8 xk).2)] ?_)
      refine OkM.nil (Ok.thenN (Ok.seq (Ok.seq (Ok.region (Ok.bat 2 [2, 3, 4, 6, 7, 8, 9] [(43, .bool ((evS e8 xk).2 != 0))] ?_)))))
      refine Ok.nil (Ok.thenN (Ok.cond (b := ((evS e8 xk).2 != 0)) rfl (fun hc16 => ?_) (fun hc16 => ?_)))
      ·replace hF := hF.1 hc16
       refine Ok.seq (Ok.region (Ok.bat 2 [4] [(44, .agg #[.int .i64 0, .int .i64 0]), (45, .int .i64 (evS e8 xk).2)] ?_))
       refine Ok.op rfl (OpOk.sto (k := 2) (v := .agg #[.int .i64 0, .int .i64 0]) 2 #[.int .i64 0, .int .i64 0] rfl rfl rfl ?_)
       refine Ok.bat 1 [4] [(5, .int .i64 (evS e8 xk).2)] ?_
       refine Ok.nil (Ok.thenN (Ok.ret (Ok.thenR (Ok.blockR (Ok.thenR (Ok.thenR (Ok.blockR (Ok.thenR ?_))))))))
       exact Ok.resP (vs := [.agg #[.int .i64 0, .int .i64 0], .int .i64 (evS e8 xk).2]) [] [] (by decide) rfl (.inl rfl) rfl (.cons (.cellAgg 2 2 #[.int .i64 0, .int .i64 0] rfl rfl Tryz.underlying31 rfl (by kernel_rfl) (by kernel_rfl) (by kernel_rfl)) (.cons (.tmp rfl) .nil)) hxl17 ⟨(0, 0), (evS e8 xk).2, rfl, rfl, hF⟩
      ·replace hF := hF.2 hc16
       refine Ok.skip (Ok.thenN (Ok.region (Ok.bat 1 [2, 3, 4, 7, 8] [(46, .slice ayown5_0l17 yown5_0l17.length cyown5_0l17)] ?_)))
       refine Ok.op rfl (OpOk.step (v := .agg #[.int .i64 (evS e8 xk).1.1, .int .i64 (evS e8 xk).1.2]) (Yields.loadAgg 0 2 #[.int .i64 (evS e8 xk).1.1, .int .i64 (evS e8 xk).1.2] rfl rfl Tryz.underlying31 rfl (by kernel_rfl) (by kernel_rfl) (by kernel_rfl)) rfl rfl ?_)
       have hL17 : RepL gl17 (.pair (.int .i64) (.int .i64)) ([.int .i64 (evS e8 xk).1.1, .int .i64 (evS e8 xk).1.2] : List Value) ([(evS e8 xk).1] : List (Int × Int)) := (RepL.consN (c := [.int .i64 (evS e8 xk).1.1, .int .i64 (evS e8 xk).1.2]) ⟨[.int .i64 (evS e8 xk).1.1], [.int .i64 (evS e8 xk).1.2], rfl, rfl, rfl⟩ rfl)
       refine Ok.op rfl (OpOk.lit (E := 31) (.pair (.int .i64) (.int .i64)) ([(evS e8 xk).1] : List (Int × Int)) ([.int .i64 (evS e8 xk).1.1, .int .i64 (evS e8 xk).1.2] : List Value) (by kernel_rfl) (by kernel_rfl) rfl (by kernel_rfl) hL17 rfl fun b17 => ?_)
       obtain ⟨hb18, hF⟩ := hF
       refine Ok.op rfl (OpOk.append' (e := .pair (.int .i64) (.int .i64)) 16 8796093022208 2 0 rfl rfl rfl rfl hLyown5_0l17 hL17 Tryz.underlying44 (by kernel_rfl) (by kernel_rfl) (by kernel_rfl) hb18 rfl fun a18 c18 xs18 hL18 => ?_)
       refine Ok.bat 1 [2, 3, 4, 7] [(6, .slice a18 (yown5_0l17 ++ ([(evS e8 xk).1] : List (Int × Int))).length c18)] ?_
       refine Ok.nil (Ok.blockN (Ok.thenN (Ok.region (Ok.bat 3 [2, 3, 4, 6] [(7, .int .i64 (w6 (x7l17 + 1)))] ?_))))
       refine Ok.nil (Ok.thenN ?_)
       subst hg8
       exact fun a W hA hW => ⟨k17, Nat.lt_succ_self _, gl17, hxl17, w6 (x7l17 + 1), a18, c18, (yown5_0l17 ++ ([(evS (xt.kids.getD (Int.toNat x7l17) default) xk).1] : List (Int × Int))), xs18, hL18, hA.sub (by kernel_rfl), hW.sub (.cons _ (.cons _ (.cons_cons _ (.cons_cons _ (.cons_cons _ (.cons_cons _ .slnil)))))), hF⟩
    ·replace hF := hF.2 hc6
     refine Ok.exit (Ok.thenE (Ok.thenE (Ok.blockHit (Ok.thenN (Ok.seq (Ok.seq (Ok.region (Ok.bat 1 [2, 4, 6] [(50, pv bs2 0)] ?_))))))))
     refine Ok.op rfl (OpOk.step (v := .int .i64 xt.lab.1) (Yields.load 3 rfl rfl Tryz.underlying3 rfl (by kernel_rfl)) rfl rfl (Ok.bat 1 [2, 4, 6] [(52, .bool (xt.lab.1 == 8))] ?_))
     refine Ok.nil (Ok.thenN (Ok.cond (b := (xt.lab.1 == 8)) rfl (fun hc19 => ?_) (fun hc19 => ?_)))
     ·replace hF := hF.1 hc19
      refine Ok.seq (Ok.mix [] [] [.own (.slice ayown5_0l17 yown5_0l17.length cyown5_0l17) 31 2 yown5_0l17.length xsyown5_0l17, .blk bs4 (.cells #[.int .i64 0, .int .i64 0] 31), .blk bs3 (.cells #[.int .i64 xk.1, .int .i64 xk.2.1, .int .i64 xk.2.2.1, .int .i64 xk.2.2.2] 28), .blk bs2 (.cells #[.int .i64 xt.lab.1, .int .i64 xt.lab.2.1, sv xt.lab.2.2, .slice axt_0 xt.kids.length cxt_0] 26)] [(0, true), (1, true), (2, true), (3, true), (4, true), (5, true), (6, true), (7, true), (8, true), (9, true), (10, false), (11, false), (12, true)] (by kernel_rfl) (by kernel_rfl) (.cons_cons _ (.cons_cons _ (.cons_cons _ (.cons_cons _ .slnil)))) (OkM.bat 1 [4, 6] [(54, .slice ayown5_0l17 yown5_0l17.length cyown5_0l17)] ?_))
      obtain ⟨h021, h121, hF⟩ := hF
      have he21 := get_of (l := yown5_0l17) (default : Int × Int) h121
      generalize hg21 : (yown5_0l17.getD (Int.toNat 1) default) = e21 at he21 hF ⊢
      refine OkM.head rfl rfl (show _ = [.own (.slice ayown5_0l17 yown5_0l17.length cyown5_0l17) 31 2 yown5_0l17.length xsyown5_0l17, .blk bs4 (.cells #[.int .i64 0, .int .i64 0] 31), .blk bs3 (.cells #[.int .i64 xk.1, .int .i64 xk.2.1, .int .i64 xk.2.2.1, .int .i64 xk.2.2.2] 28), .blk bs2 (.cells #[.int .i64 xt.lab.1, .int .i64 xt.lab.2.1, sv xt.lab.2.2, .slice axt_0 xt.kids.length cxt_0] 26)] from rfl) (OpQ.indexOwn (e := .pair (.int .i64) (.int .i64)) (q := 1) (el := e21) 0 rfl hLyown5_0l17 rfl rfl Tryz.underlying44 (by kernel_rfl) (by kernel_rfl) h021 he21 rfl fun cs20 _ hr20 hc20 => ?_)
      obtain ⟨_, _, rfl, rfl, rfl⟩ := hr20
      replace hc20 : ∀ j v, ([.int .i64 e21.1, .int .i64 e21.2] : List Value)[j]? = some v → xsyown5_0l17[Int.toNat 1 * 2 + j]? = some v := hc20
      refine OkM.head rfl rfl (show _ = [.own (.slice ayown5_0l17 yown5_0l17.length cyown5_0l17) 31 2 yown5_0l17.length xsyown5_0l17, .blk bs4 (.cells #[.int .i64 0, .int .i64 0] 31), .blk bs3 (.cells #[.int .i64 xk.1, .int .i64 xk.2.1, .int .i64 xk.2.2.1, .int .i64 xk.2.2.2] 28), .blk bs2 (.cells #[.int .i64 xt.lab.1, .int .i64 xt.lab.2.1, sv xt.lab.2.2, .slice axt_0 xt.kids.length cxt_0] 26)] from rfl) (OpQ.step (v := .agg #[.int .i64 e21.1, .int .i64 e21.2]) (Yields.loadAggOwn 0 0 2 #[.int .i64 e21.1, .int .i64 e21.2] rfl hc20 rfl Tryz.underlying31 rfl (by kernel_rfl) (by kernel_rfl) (by kernel_rfl)) rfl rfl (OkM.bat 1 [4, 6] [(56, .agg #[.int .i64 e21.1, .int .i64 e21.2]), (57, .slice ayown5_0l17 yown5_0l17.length cyown5_0l17)] ?_))
      obtain ⟨h023, h123, hF⟩ := hF
      have he23 := get_of (l := yown5_0l17) (default : Int × Int) h123
      generalize hg23 : (yown5_0l17.getD (Int.toNat 2) default) = e23 at he23 hF ⊢
      refine OkM.head rfl rfl (show _ = [.own (.slice ayown5_0l17 yown5_0l17.length cyown5_0l17) 31 2 yown5_0l17.length xsyown5_0l17, .blk bs4 (.cells #[.int .i64 0, .int .i64 0] 31), .blk bs3 (.cells #[.int .i64 xk.1, .int .i64 xk.2.1, .int .i64 xk.2.2.1, .int .i64 xk.2.2.2] 28), .blk bs2 (.cells #[.int .i64 xt.lab.1, .int .i64 xt.lab.2.1, sv xt.lab.2.2, .slice axt_0 xt.kids.length cxt_0] 26)] from rfl) (OpQ.indexOwn (e := .pair (.int .i64) (.int .i64)) (q := 2) (el := e23) 0 rfl hLyown5_0l17 rfl rfl Tryz.underlying44 (by kernel_rfl) (by kernel_rfl) h023 he23 rfl fun cs22 _ hr22 hc22 => ?_)
      obtain ⟨_, _, rfl, rfl, rfl⟩ := hr22
      replace hc22 : ∀ j v, ([.int .i64 e23.1, .int .i64 e23.2] : List Value)[j]? = some v → xsyown5_0l17[Int.toNat 2 * 2 + j]? = some v := hc22
      refine OkM.head rfl rfl (show _ = [.own (.slice ayown5_0l17 yown5_0l17.length cyown5_0l17) 31 2 yown5_0l17.length xsyown5_0l17, .blk bs4 (.cells #[.int .i64 0, .int .i64 0] 31), .blk bs3 (.cells #[.int .i64 xk.1, .int .i64 xk.2.1, .int .i64 xk.2.2.1, .int .i64 xk.2.2.2] 28), .blk bs2 (.cells #[.int .i64 xt.lab.1, .int .i64 xt.lab.2.1, sv xt.lab.2.2, .slice axt_0 xt.kids.length cxt_0] 26)] from rfl) (OpQ.step (v := .agg #[.int .i64 e23.1, .int .i64 e23.2]) (Yields.loadAggOwn 0 0 2 #[.int .i64 e23.1, .int .i64 e23.2] rfl hc22 rfl Tryz.underlying31 rfl (by kernel_rfl) (by kernel_rfl) (by kernel_rfl)) rfl rfl ?_)
      obtain ⟨hp24, hF⟩ := hF
      refine OkM.head rfl rfl (show _ = [.own (.slice ayown5_0l17 yown5_0l17.length cyown5_0l17) 31 2 yown5_0l17.length xsyown5_0l17, .blk bs4 (.cells #[.int .i64 0, .int .i64 0] 31), .blk bs3 (.cells #[.int .i64 xk.1, .int .i64 xk.2.1, .int .i64 xk.2.2.1, .int .i64 xk.2.2.2] 28), .blk bs2 (.cells #[.int .i64 xt.lab.1, .int .i64 xt.lab.2.1, sv xt.lab.2.2, .slice axt_0 xt.kids.length cxt_0] 26)] from rfl) (OpQ.callG (v := .tuple #[.agg #[.int .i64 (prvS 6 e21 e23).1.1, .int .i64 (prvS 6 e21 e23).1.2], .int .i64 (prvS 6 e21 e23).2]) enr (fun W hW => prv_c 6 e21 e23 hp24) rfl ?_)
      refine OkM.bat 3 [4, 6] [(61, .agg #[.int .i64 (prvS 6 e21 e23).1.1, .int .i64 (prvS 6 e21 e23).1.2]), (62, .int .i64 (prvS 6 e21 e23).2)] ?_
      refine OkM.tail rfl rfl (OpOk.alloc (z := .agg #[.int .i64 0, .int .i64 0]) (cs := #[.int .i64 0, .int .i64 0]) (by kernel_rfl) (by kernel_rfl) rfl fun bs10 => ?_)
      refine OkM.leaf (i := 10) (show _ = [.own (.slice ayown5_0l17 yown5_0l17.length cyown5_0l17) 31 2 yown5_0l17.length xsyown5_0l17, .blk bs4 (.cells #[.int .i64 0, .int .i64 0] 31), .blk bs3 (.cells #[.int .i64 xk.1, .int .i64 xk.2.1, .int .i64 xk.2.2.1, .int .i64 xk.2.2.2] 28), .blk bs2 (.cells #[.int .i64 xt.lab.1, .int .i64 xt.lab.2.1, sv xt.lab.2.2, .slice axt_0 xt.kids.length cxt_0] 26)] from rfl) (Gle.refl _) (.cons _ (.cons_cons _ (.cons_cons _ (.cons_cons _ (.cons_cons _ .slnil))))) (OkM.tail rfl rfl (OpOk.sto (k := 2) (v := .agg #[.int .i64 (prvS 6 e21 e23).1.1, .int .i64 (prvS 6 e21 e23).1.2]) 0 #[.int .i64 (prvS 6 e21 e23).1.1, .int .i64 (prvS 6 e21 e23).1.2] rfl rfl rfl ?_))
      refine OkM.leaf (i := 11) (show _ = [.own (.slice ayown5_0l17 yown5_0l17.length cyown5_0l17) 31 2 yown5_0l17.length xsyown5_0l17, .blk bs4 (.cells #[.int .i64 0, .int .i64 0] 31), .blk bs3 (.cells #[.int .i64 xk.1, .int .i64 xk.2.1, .int .i64 xk.2.2.1, .int .i64 xk.2.2.2] 28), .blk bs2 (.cells #[.int .i64 xt.lab.1, .int .i64 xt.lab.2.1, sv xt.lab.2.2, .slice axt_0 xt.kids.length cxt_0] 26)] from rfl) (Gle.refl _) (.cons _ (.cons_cons _ (.cons_cons _ (.cons_cons _ (.cons_cons _ .slnil))))) (OkM.bat 1 [4, 6] [(10, pv bs10 0), (11, .int .i64 (prvS 6 e21 e23).2)] ?_)
      refine OkM.nil (Ok.thenN (Ok.seq (Ok.cut (fun a W => ∃ gj45 : Ghost, Gext w0 gl17 gj45 ∧ StA 110 [(4, pv bs4 0), (6, .slice ayown5_0l17 yown5_0l17.length cyown5_0l17), (10, pv bs10 0), (75, .bool (rvV1 yown5_0l17 e23 e21))] a ∧ StW w0 [.blk bs10 (.cells #[.int .i64 (prvS 6 e21 e23).1.1, .int .i64 (prvS 6 e21 e23).1.2] 31), .own (.slice ayown5_0l17 yown5_0l17.length cyown5_0l17) 31 2 yown5_0l17.length xsyown5_0l17, .blk bs4 (.cells #[.int .i64 0, .int .i64 0] 31)] gj45 W ∧ rvj45 K yown5_0l17 e23 e21) ?_ ?_)))
      ·
       refine Ok.quiet' (by kernel_rfl) (by kernel_rfl) (OkQ.bat 3 [4, 6, 10] [(65, .bool ((prvS 6 e21 e23).2 != 0))] ?_)
       refine OkQ.boolAt 65 (((prvS 6 e21 e23).2 != 0)) rfl (fun hc30 => ?_) (fun hc30 => ?_)
       ·replace hF := hF.1 hc30
        refine OkQ.bat 10 [4, 6, 10] [(75, .bool true)] ?_
        refine OkQ.nil (Ok.thenN (Ok.reval 75 rfl (show (.bool true : Value) = .bool (rvV1 yown5_0l17 e23 e21) from congrArg (Value.bool) (mor_t hc30)) ?_))
        exact fun a W hA hW => ⟨gl17, (Gext.refl w0 gl17), hA.sub (by kernel_rfl), hW.sub (.cons_cons _ (.cons_cons _ (.cons_cons _ (.cons _ (.cons _ .slnil))))), hF⟩
       ·replace hF := hF.2 hc30
        refine OkQ.bat 1 [4, 6, 10] [(65, .bool false), (66, .slice ayown5_0l17 yown5_0l17.length cyown5_0l17)] ?_
        obtain ⟨h032, h132, hF⟩ := hF
        have he32 := get_of (l := yown5_0l17) (default : Int × Int) h132
        generalize hg32 : (yown5_0l17.getD (Int.toNat 0) default) = e32 at he32 hF ⊢
        refine OkQ.opYes (j := 2) (d := 65) (want := false) (b := false) rfl (by kernel_rfl) (by kernel_rfl) rfl (OpQ.indexOwn (e := .pair (.int .i64) (.int .i64)) (q := 0) (el := e32) 1 rfl hLyown5_0l17 rfl rfl Tryz.underlying44 (by kernel_rfl) (by kernel_rfl) h032 he32 rfl fun cs31 _ hr31 hc31 => ?_)
        obtain ⟨_, _, rfl, rfl, rfl⟩ := hr31
        replace hc31 : ∀ j v, ([.int .i64 e32.1, .int .i64 e32.2] : List Value)[j]? = some v → xsyown5_0l17[Int.toNat 0 * 2 + j]? = some v := hc31
        refine OkQ.bat 1 [4, 6, 10, 65] [(68, .pointer (some ⟨ablk ayown5_0l17, Int.toNat 0 * 2, none⟩))] ?_
        refine OkQ.opYes (j := 2) (d := 65) (want := false) (b := false) rfl (by kernel_rfl) (by kernel_rfl) rfl (OpQ.step (v := .int .i64 e32.1) (Yields.loadOwn 1 0 rfl hc31 rfl Tryz.underlying3 rfl (by kernel_rfl)) rfl rfl (OkQ.bat 1 [4, 6, 10, 65] [(69, .int .i64 e32.1), (70, .slice ayown5_0l17 yown5_0l17.length cyown5_0l17)] ?_))
        refine OkQ.opYes (j := 2) (d := 65) (want := false) (b := false) rfl (by kernel_rfl) (by kernel_rfl) rfl (OpQ.indexOwn (e := .pair (.int .i64) (.int .i64)) (q := 1) (el := e21) 1 rfl hLyown5_0l17 rfl rfl Tryz.underlying44 (by kernel_rfl) (by kernel_rfl) h021 he21 rfl fun cs33 _ hr33 hc33 => ?_)
        obtain ⟨_, _, rfl, rfl, rfl⟩ := hr33
        replace hc33 : ∀ j v, ([.int .i64 e21.1, .int .i64 e21.2] : List Value)[j]? = some v → xsyown5_0l17[Int.toNat 1 * 2 + j]? = some v := hc33
        refine OkQ.bat 1 [4, 6, 10, 65, 69] [(72, .pointer (some ⟨ablk ayown5_0l17, Int.toNat 1 * 2, none⟩))] ?_
        refine OkQ.opYes (j := 2) (d := 65) (want := false) (b := false) rfl (by kernel_rfl) (by kernel_rfl) rfl (OpQ.step (v := .int .i64 e21.1) (Yields.loadOwn 1 0 rfl hc33 rfl Tryz.underlying3 rfl (by kernel_rfl)) rfl rfl (OkQ.bat 2 [4, 6, 10] [(75, .bool (e32.1 != e21.1))] ?_))
        refine OkQ.nil (Ok.thenN ?_)
        subst hg32
        refine Ok.reval 75 rfl (show (.bool ((yown5_0l17.getD (Int.toNat 0) default).1 != e21.1) : Value) = .bool (rvV1 yown5_0l17 e23 e21) from congrArg (Value.bool) (mor_f hc30)) ?_
        exact fun a W hA hW => ⟨gl17, (Gext.refl w0 gl17), hA.sub (by kernel_rfl), hW.sub (.cons_cons _ (.cons_cons _ (.cons_cons _ (.cons _ (.cons _ .slnil))))), hF⟩
      ·
       clear hF
       rintro a W ⟨gj45, hxj45, hA, hW, hF⟩
       refine (?_ : Ok _ _ _ _ _ _) a W hA hW
       clear hA hW
       replace hLyown5_0l17 := hLyown5_0l17.mono hxj45.1
       refine Ok.cond (b := (rvV1 yown5_0l17 e23 e21)) rfl (fun hc26 => ?_) (fun hc26 => ?_)
       ·replace hF := hF.1 hc26
        refine Ok.seq (Ok.region (Ok.bat 1 [4] [(76, .agg #[.int .i64 0, .int .i64 0])] ?_))
        refine Ok.op rfl (OpOk.sto (k := 2) (v := .agg #[.int .i64 0, .int .i64 0]) 2 #[.int .i64 0, .int .i64 0] rfl rfl rfl ?_)
        refine Ok.bat 1 [4] [(5, .int .i64 7)] ?_
        refine Ok.nil (Ok.thenN (Ok.ret (Ok.thenR (Ok.thenR ?_))))
        exact Ok.resP (vs := [.agg #[.int .i64 0, .int .i64 0], .int .i64 7]) [] [] (by decide) rfl (.inl rfl) rfl (.cons (.cellAgg 2 2 #[.int .i64 0, .int .i64 0] rfl rfl Tryz.underlying31 rfl (by kernel_rfl) (by kernel_rfl) (by kernel_rfl)) (.cons (.tmp rfl) .nil)) (hxl17.trans hxj45) ⟨(0, 0), 7, rfl, rfl, hF⟩
       ·replace hF := hF.2 hc26
        refine Ok.skip (Ok.thenN (Ok.seq (Ok.mix [] [] [.blk bs10 (.cells #[.int .i64 (prvS 6 e21 e23).1.1, .int .i64 (prvS 6 e21 e23).1.2] 31), .own (.slice ayown5_0l17 yown5_0l17.length cyown5_0l17) 31 2 yown5_0l17.length xsyown5_0l17] [(0, true), (1, true), (2, true), (3, true), (4, true), (5, true), (6, true), (7, false), (8, true)] (by kernel_rfl) (by kernel_rfl) (.cons_cons _ (.cons_cons _ (.cons _ .slnil))) (OkM.bat 1 [4, 10] [(77, .slice ayown5_0l17 yown5_0l17.length cyown5_0l17)] ?_))))
        obtain ⟨h028, h128, hF⟩ := hF
        have he28 := get_of (l := yown5_0l17) (default : Int × Int) h128
        generalize hg28 : (yown5_0l17.getD (Int.toNat 0) default) = e28 at he28 hF ⊢
        refine OkM.head rfl rfl (show _ = [.blk bs10 (.cells #[.int .i64 (prvS 6 e21 e23).1.1, .int .i64 (prvS 6 e21 e23).1.2] 31), .own (.slice ayown5_0l17 yown5_0l17.length cyown5_0l17) 31 2 yown5_0l17.length xsyown5_0l17] from rfl) (OpQ.indexOwn (e := .pair (.int .i64) (.int .i64)) (q := 0) (el := e28) 1 rfl hLyown5_0l17 rfl rfl Tryz.underlying44 (by kernel_rfl) (by kernel_rfl) h028 he28 rfl fun cs27 _ hr27 hc27 => ?_)
        obtain ⟨_, _, rfl, rfl, rfl⟩ := hr27
        replace hc27 : ∀ j v, ([.int .i64 e28.1, .int .i64 e28.2] : List Value)[j]? = some v → xsyown5_0l17[Int.toNat 0 * 2 + j]? = some v := hc27
        refine OkM.head rfl rfl (show _ = [.blk bs10 (.cells #[.int .i64 (prvS 6 e21 e23).1.1, .int .i64 (prvS 6 e21 e23).1.2] 31), .own (.slice ayown5_0l17 yown5_0l17.length cyown5_0l17) 31 2 yown5_0l17.length xsyown5_0l17] from rfl) (OpQ.step (v := .agg #[.int .i64 e28.1, .int .i64 e28.2]) (Yields.loadAggOwn 1 0 2 #[.int .i64 e28.1, .int .i64 e28.2] rfl hc27 rfl Tryz.underlying31 rfl (by kernel_rfl) (by kernel_rfl) (by kernel_rfl)) rfl rfl (OkM.head rfl rfl (show _ = [.blk bs10 (.cells #[.int .i64 (prvS 6 e21 e23).1.1, .int .i64 (prvS 6 e21 e23).1.2] 31), .own (.slice ayown5_0l17 yown5_0l17.length cyown5_0l17) 31 2 yown5_0l17.length xsyown5_0l17] from rfl) (OpQ.step (v := .agg #[.int .i64 (prvS 6 e21 e23).1.1, .int .i64 (prvS 6 e21 e23).1.2]) (Yields.loadAgg 0 2 #[.int .i64 (prvS 6 e21 e23).1.1, .int .i64 (prvS 6 e21 e23).1.2] rfl rfl Tryz.underlying31 rfl (by kernel_rfl) (by kernel_rfl) (by kernel_rfl)) rfl rfl ?_)))
        obtain ⟨hp29, hF⟩ := hF
        refine OkM.head rfl rfl (show _ = [.blk bs10 (.cells #[.int .i64 (prvS 6 e21 e23).1.1, .int .i64 (prvS 6 e21 e23).1.2] 31), .own (.slice ayown5_0l17 yown5_0l17.length cyown5_0l17) 31 2 yown5_0l17.length xsyown5_0l17] from rfl) (OpQ.callG (v := .tuple #[.agg #[.int .i64 (prvS 7 e28 (prvS 6 e21 e23).1).1.1, .int .i64 (prvS 7 e28 (prvS 6 e21 e23).1).1.2], .int .i64 (prvS 7 e28 (prvS 6 e21 e23).1).2]) enr (fun W hW => prv_c 7 e28 (prvS 6 e21 e23).1 hp29) rfl ?_)
        refine OkM.bat 2 [4] [(82, .agg #[.int .i64 (prvS 7 e28 (prvS 6 e21 e23).1).1.1, .int .i64 (prvS 7 e28 (prvS 6 e21 e23).1).1.2]), (83, .int .i64 (prvS 7 e28 (prvS 6 e21 e23).1).2)] ?_
        refine OkM.tail rfl rfl (OpOk.sto (k := 2) (v := .agg #[.int .i64 (prvS 7 e28 (prvS 6 e21 e23).1).1.1, .int .i64 (prvS 7 e28 (prvS 6 e21 e23).1).1.2]) 2 #[.int .i64 (prvS 7 e28 (prvS 6 e21 e23).1).1.1, .int .i64 (prvS 7 e28 (prvS 6 e21 e23).1).1.2] rfl rfl rfl ?_)
        refine OkM.leaf (i := 7) (show _ = [.blk bs10 (.cells #[.int .i64 (prvS 6 e21 e23).1.1, .int .i64 (prvS 6 e21 e23).1.2] 31), .own (.slice ayown5_0l17 yown5_0l17.length cyown5_0l17) 31 2 yown5_0l17.length xsyown5_0l17] from rfl) (Gle.refl _) (.cons_cons _ (.cons_cons _ (.cons _ .slnil))) (OkM.bat 1 [4] [(5, .int .i64 (prvS 7 e28 (prvS 6 e21 e23).1).2)] ?_)
        refine OkM.nil (Ok.thenN (Ok.ret (Ok.thenR ?_)))
        exact Ok.resP (vs := [.agg #[.int .i64 (prvS 7 e28 (prvS 6 e21 e23).1).1.1, .int .i64 (prvS 7 e28 (prvS 6 e21 e23).1).1.2], .int .i64 (prvS 7 e28 (prvS 6 e21 e23).1).2]) [] [] (by decide) rfl (.inl rfl) rfl (.cons (.cellAgg 2 2 #[.int .i64 (prvS 7 e28 (prvS 6 e21 e23).1).1.1, .int .i64 (prvS 7 e28 (prvS 6 e21 e23).1).1.2] rfl rfl Tryz.underlying31 rfl (by kernel_rfl) (by kernel_rfl) (by kernel_rfl)) (.cons (.tmp rfl) .nil)) (hxl17.trans hxj45) ⟨(prvS 7 e28 (prvS 6 e21 e23).1).1, (prvS 7 e28 (prvS 6 e21 e23).1).2, rfl, rfl, hF⟩
     ·replace hF := hF.2 hc19
      refine Ok.skip (Ok.thenN (Ok.seq (Ok.region (Ok.bat 1 [2, 4, 6] [(84, .slice ayown5_0l17 yown5_0l17.length cyown5_0l17)] ?_))))
      obtain ⟨h035, h135, hF⟩ := hF
      have he35 := get_of (l := yown5_0l17) (default : Int × Int) h135
      generalize hg35 : (yown5_0l17.getD (Int.toNat 0) default) = e35 at he35 hF ⊢
      refine Ok.op rfl (OpOk.indexOwn (e := .pair (.int .i64) (.int .i64)) (q := 0) (el := e35) 0 rfl hLyown5_0l17 rfl rfl Tryz.underlying44 (by kernel_rfl) (by kernel_rfl) h035 he35 rfl fun cs34 _ hr34 hc34 => ?_)
      obtain ⟨_, _, rfl, rfl, rfl⟩ := hr34
      replace hc34 : ∀ j v, ([.int .i64 e35.1, .int .i64 e35.2] : List Value)[j]? = some v → xsyown5_0l17[Int.toNat 0 * 2 + j]? = some v := hc34
      refine Ok.op rfl (OpOk.step (v := .agg #[.int .i64 e35.1, .int .i64 e35.2]) (Yields.loadAggOwn 0 0 2 #[.int .i64 e35.1, .int .i64 e35.2] rfl hc34 rfl Tryz.underlying31 rfl (by kernel_rfl) (by kernel_rfl) (by kernel_rfl)) rfl rfl (Ok.op rfl (OpOk.alloc (z := .agg #[.int .i64 0, .int .i64 0]) (cs := #[.int .i64 0, .int .i64 0]) (by kernel_rfl) (by kernel_rfl) rfl fun bs12 => ?_)))
      refine Ok.op rfl (OpOk.sto (k := 2) (v := .agg #[.int .i64 e35.1, .int .i64 e35.2]) 0 #[.int .i64 e35.1, .int .i64 e35.2] rfl rfl rfl ?_)
      refine Ok.nil (Ok.thenN (Ok.seq (Ok.seq (Ok.region (Ok.bat 1 [2, 4, 6] [(12, pv bs12 0), (13, .int .i64 1)] ?_)))))
      refine Ok.nil (Ok.thenN (Ok.block ?_))
      obtain ⟨k, hF⟩ := hF
      refine Ok.loop (fun k a W => ∃ gl62 : Ghost, Gext w0 gl17 gl62 ∧ ∃ (x13l62 : Int) (ybs12_0l62 : Int) (ybs12_1l62 : Int), StA 110 [(2, pv bs2 0), (4, pv bs4 0), (6, .slice ayown5_0l17 yown5_0l17.length cyown5_0l17), (12, pv bs12 0), (13, .int .i64 x13l62)] a ∧ StW w0 [.blk bs12 (.cells #[.int .i64 ybs12_0l62, .int .i64 ybs12_1l62] 31), .own (.slice ayown5_0l17 yown5_0l17.length cyown5_0l17) 31 2 yown5_0l17.length xsyown5_0l17, .blk bs4 (.cells #[.int .i64 0, .int .i64 0] 31), .blk bs2 (.cells #[.int .i64 xt.lab.1, .int .i64 xt.lab.2.1, sv xt.lab.2.2, .slice axt_0 xt.kids.length cxt_0] 26)] gl62 W ∧ rvl62 xt K yown5_0l17 k x13l62 ybs12_0l62 ybs12_1l62) k ?_ ?_
      ·
       exact fun a W hA hW => ⟨gl17, (Gext.refl w0 gl17), 1, e35.1, e35.2, hA.sub (by kernel_rfl), hW.sub (.cons_cons _ (.cons_cons _ (.cons_cons _ (.cons _ (.cons_cons _ .slnil))))), hF⟩
      ·
       clear hF
       rintro k62 a W ⟨gl62, hxl62, x13l62, ybs12_0l62, ybs12_1l62, hA, hW, hF⟩
       cases k62 with
       | zero => exact (hF : False).elim
       | succ k62 =>
        refine (?_ : Ok _ _ _ _ _ _) a W hA hW
        clear hA hW
        replace hLyown5_0l17 := hLyown5_0l17.mono hxl62.1
        replace hRxt_0 := hRxt_0.mono hxl62.1
        refine Ok.seq (Ok.seq (Ok.region (Ok.bat 4 [2, 4, 6, 12, 13] [(90, .bool (decide (x13l62 < (yown5_0l17.length : Int))))] ?_)))
        refine Ok.nil (Ok.thenN (Ok.cond (b := decide (x13l62 < (yown5_0l17.length : Int))) rfl (fun hc37 => ?_) (fun hc37 => ?_)))
        ·replace hF := hF.1 hc37
         refine Ok.skip (Ok.thenN (Ok.seq (Ok.block (Ok.seq (Ok.mix [] [] [.blk bs12 (.cells #[.int .i64 ybs12_0l62, .int .i64 ybs12_1l62] 31), .own (.slice ayown5_0l17 yown5_0l17.length cyown5_0l17) 31 2 yown5_0l17.length xsyown5_0l17, .blk bs4 (.cells #[.int .i64 0, .int .i64 0] 31), .blk bs2 (.cells #[.int .i64 xt.lab.1, .int .i64 xt.lab.2.1, sv xt.lab.2.2, .slice axt_0 xt.kids.length cxt_0] 26)] [(0, true), (1, true), (2, true), (3, true), (4, true), (5, true), (6, true), (7, true), (8, true), (9, true), (10, true), (11, false), (12, false), (13, true)] (by kernel_rfl) (by kernel_rfl) (.cons_cons _ (.cons_cons _ (.cons_cons _ (.cons_cons _ .slnil)))) (OkM.bat 1 [2, 4, 6, 12, 13] [(94, pv bs2 0)] ?_))))))
         refine OkM.head rfl rfl (show _ = [.blk bs12 (.cells #[.int .i64 ybs12_0l62, .int .i64 ybs12_1l62] 31), .own (.slice ayown5_0l17 yown5_0l17.length cyown5_0l17) 31 2 yown5_0l17.length xsyown5_0l17, .blk bs4 (.cells #[.int .i64 0, .int .i64 0] 31), .blk bs2 (.cells #[.int .i64 xt.lab.1, .int .i64 xt.lab.2.1, sv xt.lab.2.2, .slice axt_0 xt.kids.length cxt_0] 26)] from rfl) (OpQ.step (v := .int .i64 xt.lab.1) (Yields.load 3 rfl rfl Tryz.underlying3 rfl (by kernel_rfl)) rfl rfl (OkM.head rfl rfl (show _ = [.blk bs12 (.cells #[.int .i64 ybs12_0l62, .int .i64 ybs12_1l62] 31), .own (.slice ayown5_0l17 yown5_0l17.length cyown5_0l17) 31 2 yown5_0l17.length xsyown5_0l17, .blk bs4 (.cells #[.int .i64 0, .int .i64 0] 31), .blk bs2 (.cells #[.int .i64 xt.lab.1, .int .i64 xt.lab.2.1, sv xt.lab.2.2, .slice axt_0 xt.kids.length cxt_0] 26)] from rfl) (OpQ.step (v := .agg #[.int .i64 ybs12_0l62, .int .i64 ybs12_1l62]) (Yields.loadAgg 0 2 #[.int .i64 ybs12_0l62, .int .i64 ybs12_1l62] rfl rfl Tryz.underlying31 rfl (by kernel_rfl) (by kernel_rfl) (by kernel_rfl)) rfl rfl (OkM.bat 2 [2, 4, 6, 12, 13] [(95, .int .i64 xt.lab.1), (96, .agg #[.int .i64 ybs12_0l62, .int .i64 ybs12_1l62]), (97, .slice ayown5_0l17 yown5_0l17.length cyown5_0l17), (98, .int .i64 x13l62)] ?_))))
         obtain ⟨h039, h139, hF⟩ := hF
         have he39 := get_of (l := yown5_0l17) (default : Int × Int) h139
         generalize hg39 : (yown5_0l17.getD (Int.toNat x13l62) default) = e39 at he39 hF ⊢
         refine OkM.head rfl rfl (show _ = [.blk bs12 (.cells #[.int .i64 ybs12_0l62, .int .i64 ybs12_1l62] 31), .own (.slice ayown5_0l17 yown5_0l17.length cyown5_0l17) 31 2 yown5_0l17.length xsyown5_0l17, .blk bs4 (.cells #[.int .i64 0, .int .i64 0] 31), .blk bs2 (.cells #[.int .i64 xt.lab.1, .int .i64 xt.lab.2.1, sv xt.lab.2.2, .slice axt_0 xt.kids.length cxt_0] 26)] from rfl) (OpQ.indexOwn (e := .pair (.int .i64) (.int .i64)) (q := x13l62) (el := e39) 1 rfl hLyown5_0l17 rfl rfl Tryz.underlying44 (by kernel_rfl) (by kernel_rfl) h039 he39 rfl fun cs38 _ hr38 hc38 => ?_)
         obtain ⟨_, _, rfl, rfl, rfl⟩ := hr38
         replace hc38 : ∀ j v, ([.int .i64 e39.1, .int .i64 e39.2] : List Value)[j]? = some v → xsyown5_0l17[Int.toNat x13l62 * 2 + j]? = some v := hc38
         refine OkM.head rfl rfl (show _ = [.blk bs12 (.cells #[.int .i64 ybs12_0l62, .int .i64 ybs12_1l62] 31), .own (.slice ayown5_0l17 yown5_0l17.length cyown5_0l17) 31 2 yown5_0l17.length xsyown5_0l17, .blk bs4 (.cells #[.int .i64 0, .int .i64 0] 31), .blk bs2 (.cells #[.int .i64 xt.lab.1, .int .i64 xt.lab.2.1, sv xt.lab.2.2, .slice axt_0 xt.kids.length cxt_0] 26)] from rfl) (OpQ.step (v := .agg #[.int .i64 e39.1, .int .i64 e39.2]) (Yields.loadAggOwn 1 0 2 #[.int .i64 e39.1, .int .i64 e39.2] rfl hc38 rfl Tryz.underlying31 rfl (by kernel_rfl) (by kernel_rfl) (by kernel_rfl)) rfl rfl ?_)
         obtain ⟨hp40, hF⟩ := hF
         refine OkM.head rfl rfl (show _ = [.blk bs12 (.cells #[.int .i64 ybs12_0l62, .int .i64 ybs12_1l62] 31), .own (.slice ayown5_0l17 yown5_0l17.length cyown5_0l17) 31 2 yown5_0l17.length xsyown5_0l17, .blk bs4 (.cells #[.int .i64 0, .int .i64 0] 31), .blk bs2 (.cells #[.int .i64 xt.lab.1, .int .i64 xt.lab.2.1, sv xt.lab.2.2, .slice axt_0 xt.kids.length cxt_0] 26)] from rfl) (OpQ.callG (v := .tuple #[.agg #[.int .i64 (prvS xt.lab.1 (ybs12_0l62, ybs12_1l62) e39).1.1, .int .i64 (prvS xt.lab.1 (ybs12_0l62, ybs12_1l62) e39).1.2], .int .i64 (prvS xt.lab.1 (ybs12_0l62, ybs12_1l62) e39).2]) enr (fun W hW => prv_c xt.lab.1 (ybs12_0l62, ybs12_1l62) e39 hp40) rfl ?_)
         refine OkM.bat 3 [2, 4, 6, 12, 13] [(102, .agg #[.int .i64 (prvS xt.lab.1 (ybs12_0l62, ybs12_1l62) e39).1.1, .int .i64 (prvS xt.lab.1 (ybs12_0l62, ybs12_1l62) e39).1.2]), (103, .int .i64 (prvS xt.lab.1 (ybs12_0l62, ybs12_1l62) e39).2)] ?_
         refine OkM.tail rfl rfl (OpOk.alloc (z := .agg #[.int .i64 0, .int .i64 0]) (cs := #[.int .i64 0, .int .i64 0]) (by kernel_rfl) (by kernel_rfl) rfl fun bs14 => ?_)
         refine OkM.leaf (i := 11) (show _ = [.blk bs12 (.cells #[.int .i64 ybs12_0l62, .int .i64 ybs12_1l62] 31), .own (.slice ayown5_0l17 yown5_0l17.length cyown5_0l17) 31 2 yown5_0l17.length xsyown5_0l17, .blk bs4 (.cells #[.int .i64 0, .int .i64 0] 31), .blk bs2 (.cells #[.int .i64 xt.lab.1, .int .i64 xt.lab.2.1, sv xt.lab.2.2, .slice axt_0 xt.kids.length cxt_0] 26)] from rfl) (Gle.refl _) (.cons _ (.cons_cons _ (.cons_cons _ (.cons_cons _ (.cons_cons _ .slnil))))) (OkM.tail rfl rfl (OpOk.sto (k := 2) (v := .agg #[.int .i64 (prvS xt.lab.1 (ybs12_0l62, ybs12_1l62) e39).1.1, .int .i64 (prvS xt.lab.1 (ybs12_0l62, ybs12_1l62) e39).1.2]) 0 #[.int .i64 (prvS xt.lab.1 (ybs12_0l62, ybs12_1l62) e39).1.1, .int .i64 (prvS xt.lab.1 (ybs12_0l62, ybs12_1l62) e39).1.2] rfl rfl rfl ?_))
         refine OkM.leaf (i := 12) (show _ = [.blk bs12 (.cells #[.int .i64 ybs12_0l62, .int .i64 ybs12_1l62] 31), .own (.slice ayown5_0l17 yown5_0l17.length cyown5_0l17) 31 2 yown5_0l17.length xsyown5_0l17, .blk bs4 (.cells #[.int .i64 0, .int .i64 0] 31), .blk bs2 (.cells #[.int .i64 xt.lab.1, .int .i64 xt.lab.2.1, sv xt.lab.2.2, .slice axt_0 xt.kids.length cxt_0] 26)] from rfl) (Gle.refl _) (.cons _ (.cons_cons _ (.cons_cons _ (.cons_cons _ (.cons_cons _ .slnil))))) (OkM.bat 1 [2, 4, 6, 12, 13] [(14, pv bs14 0), (15, .int .i64 (prvS xt.lab.1 (ybs12_0l62, ybs12_1l62) e39).2)] ?_)
         refine OkM.nil (Ok.thenN (Ok.seq (Ok.seq (Ok.region (Ok.bat 2 [2, 4, 6, 12, 13, 14, 15] [(105, .bool ((prvS xt.lab.1 (ybs12_0l62, ybs12_1l62) e39).2 != 0))] ?_)))))
         refine Ok.nil (Ok.thenN (Ok.cond (b := ((prvS xt.lab.1 (ybs12_0l62, ybs12_1l62) e39).2 != 0)) rfl (fun hc42 => ?_) (fun hc42 => ?_)))
         ·replace hF := hF.1 hc42
          refine Ok.seq (Ok.region (Ok.bat 2 [4] [(106, .agg #[.int .i64 0, .int .i64 0]), (107, .int .i64 (prvS xt.lab.1 (ybs12_0l62, ybs12_1l62) e39).2)] ?_))
          refine Ok.op rfl (OpOk.sto (k := 2) (v := .agg #[.int .i64 0, .int .i64 0]) 3 #[.int .i64 0, .int .i64 0] rfl rfl rfl ?_)
          refine Ok.bat 1 [4] [(5, .int .i64 (prvS xt.lab.1 (ybs12_0l62, ybs12_1l62) e39).2)] ?_
          refine Ok.nil (Ok.thenN (Ok.ret (Ok.thenR (Ok.blockR (Ok.thenR (Ok.thenR (Ok.blockR (Ok.thenR ?_))))))))
          exact Ok.resP (vs := [.agg #[.int .i64 0, .int .i64 0], .int .i64 (prvS xt.lab.1 (ybs12_0l62, ybs12_1l62) e39).2]) [] [] (by decide) rfl (.inl rfl) rfl (.cons (.cellAgg 3 2 #[.int .i64 0, .int .i64 0] rfl rfl Tryz.underlying31 rfl (by kernel_rfl) (by kernel_rfl) (by kernel_rfl)) (.cons (.tmp rfl) .nil)) (hxl17.trans hxl62) ⟨(0, 0), (prvS xt.lab.1 (ybs12_0l62, ybs12_1l62) e39).2, rfl, rfl, hF⟩
         ·replace hF := hF.2 hc42
          refine Ok.skip (Ok.thenN (Ok.region (Ok.op rfl (OpOk.step (v := .agg #[.int .i64 (prvS xt.lab.1 (ybs12_0l62, ybs12_1l62) e39).1.1, .int .i64 (prvS xt.lab.1 (ybs12_0l62, ybs12_1l62) e39).1.2]) (Yields.loadAgg 0 2 #[.int .i64 (prvS xt.lab.1 (ybs12_0l62, ybs12_1l62) e39).1.1, .int .i64 (prvS xt.lab.1 (ybs12_0l62, ybs12_1l62) e39).1.2] rfl rfl Tryz.underlying31 rfl (by kernel_rfl) (by kernel_rfl) (by kernel_rfl)) rfl rfl (Ok.op rfl (OpOk.sto (k := 2) (v := .agg #[.int .i64 (prvS xt.lab.1 (ybs12_0l62, ybs12_1l62) e39).1.1, .int .i64 (prvS xt.lab.1 (ybs12_0l62, ybs12_1l62) e39).1.2]) 1 #[.int .i64 (prvS xt.lab.1 (ybs12_0l62, ybs12_1l62) e39).1.1, .int .i64 (prvS xt.lab.1 (ybs12_0l62, ybs12_1l62) e39).1.2] rfl rfl rfl ?_))))))
          refine Ok.nil (Ok.blockN (Ok.thenN (Ok.region (Ok.bat 3 [2, 4, 6, 12] [(13, .int .i64 (w6 (x13l62 + 1)))] ?_))))
          refine Ok.nil (Ok.thenN ?_)
          subst hg39
          exact fun a W hA hW => ⟨k62, Nat.lt_succ_self _, gl62, hxl62, w6 (x13l62 + 1), (prvS xt.lab.1 (ybs12_0l62, ybs12_1l62) (yown5_0l17.getD (Int.toNat x13l62) default)).1.1, (prvS xt.lab.1 (ybs12_0l62, ybs12_1l62) (yown5_0l17.getD (Int.toNat x13l62) default)).1.2, hA.sub (by kernel_rfl), hW.sub (.cons _ (.cons_cons _ (.cons_cons _ (.cons_cons _ (.cons_cons _ .slnil))))), hF⟩
        ·replace hF := hF.2 hc37
         refine Ok.exit (Ok.thenE (Ok.thenE (Ok.blockHit (Ok.thenN (Ok.seq (Ok.region (Ok.op rfl (OpOk.step (v := .agg #[.int .i64 ybs12_0l62, .int .i64 ybs12_1l62]) (Yields.loadAgg 0 2 #[.int .i64 ybs12_0l62, .int .i64 ybs12_1l62] rfl rfl Tryz.underlying31 rfl (by kernel_rfl) (by kernel_rfl) (by kernel_rfl)) rfl rfl (Ok.op rfl (OpOk.sto (k := 2) (v := .agg #[.int .i64 ybs12_0l62, .int .i64 ybs12_1l62]) 2 #[.int .i64 ybs12_0l62, .int .i64 ybs12_1l62] rfl rfl rfl ?_))))))))))
         refine Ok.bat 1 [4] [(5, .int .i64 0)] ?_
         refine Ok.nil (Ok.thenN (Ok.ret ?_))
         exact Ok.resP (vs := [.agg #[.int .i64 ybs12_0l62, .int .i64 ybs12_1l62], .int .i64 0]) [] [] (by decide) rfl (.inl rfl) rfl (.cons (.cellAgg 2 2 #[.int .i64 ybs12_0l62, .int .i64 ybs12_1l62] rfl rfl Tryz.underlying31 rfl (by kernel_rfl) (by kernel_rfl) (by kernel_rfl)) (.cons (.tmp rfl) .nil)) (hxl17.trans hxl62) ⟨(ybs12_0l62, ybs12_1l62), 0, rfl, rfl, hF⟩
theorem rv_0 (t : Tm) (k : Sc) : ¬ rvP 0 t k := vl_0 t k
theorem rv_F (N : Nat) (t : Tm) (k : Sc) (h : rvP (N + 1) t k) : rvF N t k (fun a b => (a, b) = evS t k) := by
 have hk := len_kids t
 have hw := h.2.1
 have e := evS_eq t k
 have hok := h.2.2.1
 refine ⟨fun h1 => ?_, fun h1 => ?_⟩
 ·rw [if_t h1] at e
  rw [e]
 ·rw [if_f h1] at e
  have hsh := shp_cases (vlO h) h1
  have loop : ∀ (m i : Nat) (acc : List Vl), i + m = t.kids.length → acc.length = i → (∀ v ∈ acc, bd v) → evS t k = evA k (cbS t.lab.1) (t.kids.drop i) acc → rvl17 N t k (fun a b => (a, b) = evS t k) (m + 1) (i : Int) acc := by
   intro m
   induction m with
   | zero =>
    intro i acc hi ha hb he
    rw [List.drop_of_length_le (by omega), evA] at he
    have hl0 : 0 < acc.length := by omega
    refine ⟨fun hc => absurd (of_decide_eq_true hc) (by omega), fun _ => ⟨fun h8 => ?_, fun h8 => ?_⟩⟩
    ·have h8' : t.lab.1 = 8 := by simpa using h8
     have hl : acc.length = 3 := by omega
     rw [h8'] at he
     have b0 := bd_at hb (i := 0) (by omega)
     have b1 := bd_at hb (i := 1) (by omega)
     have b2 := bd_at hb (i := 2) (by omega)
     have j45 : rvj45 (fun a b => (a, b) = evS t k) acc (acc.getD (Int.toNat 2) default) (acc.getD (Int.toNat 1) default) := by
      unfold cbS at he
      rw [if_pos (by decide)] at he
      refine ⟨fun hc => ?_, fun hc => ⟨by omega, hl0, ⟨b0, prv_bd _ _ _⟩, ?_⟩⟩
      ·rw [if_t (show (((prvS 6 (acc.getD 1 default) (acc.getD 2 default)).2 != 0) || ((acc.getD 0 default).1 != (acc.getD 1 default).1)) = true from hc)] at he; exact he.symm
      ·rw [if_f (show (((prvS 6 (acc.getD 1 default) (acc.getD 2 default)).2 != 0) || ((acc.getD 0 default).1 != (acc.getD 1 default).1)) = false from hc)] at he; exact he.symm
     exact ⟨by omega, by rw [hl]; decide, by omega, by rw [hl]; decide, ⟨b1, b2⟩, fun _ => j45, fun _ => ⟨by omega, hl0, j45⟩⟩
    ·unfold cbS at he
     rw [if_f h8] at he
     have inner : ∀ (m i : Nat) (v : Vl), i + m = acc.length → bd v → evS t k = prL t.lab.1 v (acc.drop i) → rvl62 t (fun a b => (a, b) = evS t k) acc (m + 1) (i : Int) v.1 v.2 := by
      intro m
      induction m with
      | zero =>
       intro i v hi hv he
       rw [List.drop_of_length_le (by omega), prL] at he
       exact ⟨fun hc => absurd (of_decide_eq_true hc) (by omega), fun _ => he.symm⟩
      | succ m ih =>
       intro i v hi hv he
       have hi' : i < acc.length := by omega
       rw [drop_get (l := acc) default hi', prL] at he
       refine ⟨fun _ => ⟨by omega, by rw [Int.toNat_natCast]; exact hi', ?_⟩, fun hc => absurd (of_decide_eq_false hc) (by omega)⟩
       rw [Int.toNat_natCast]
       refine ⟨⟨hv, bd_at hb hi'⟩, fun hc => ?_, fun hc => ?_⟩
       ·rw [if_t (show ((prvS t.lab.1 v (acc.getD i default)).2 != 0) = true from hc)] at he; exact he.symm
       ·rw [if_f (show ((prvS t.lab.1 v (acc.getD i default)).2 != 0) = false from hc)] at he
        rw [w64 (by omega), show (i : Int) + 1 = ((i + 1 : Nat) : Int) by omega]
        exact ih (i + 1) _ (by omega) (prv_bd _ _ _) he
     have := inner (acc.length - 1) 1 (acc.getD 0 default) (by omega) (bd_at hb hl0) he
     exact ⟨by omega, hl0, _, this⟩
   | succ m ih =>
    intro i acc hi ha hb he
    have hi' : i < t.kids.length := by omega
    rw [drop_get (l := t.kids) default hi', evA_cons] at he
    refine ⟨fun _ => ⟨by omega, by rw [Int.toNat_natCast]; omega, ?_⟩, fun hc => absurd (of_decide_eq_false hc) (by omega)⟩
    rw [Int.toNat_natCast]
    have key : rvP N (t.kids.getD i default) k ∧ (((evS (t.kids.getD i default) k).2 != 0) = true → (fun a b => (a, b) = evS t k) ((0, 0) : Vl) (evS (t.kids.getD i default) k).2) ∧ (((evS (t.kids.getD i default) k).2 != 0) = false → (acc ++ ([(evS (t.kids.getD i default) k).1] : List (Int × Int))).length ≤ 8796093022208 ∧ rvl17 N t k (fun a b => (a, b) = evS t k) (m + 1) (w6 ((i : Int) + 1)) (acc ++ ([(evS (t.kids.getD i default) k).1] : List (Int × Int)))) := by
     refine ⟨vl_kid h hi', fun hc => by rw [if_t hc] at he; exact he.symm, fun hc => ⟨by rw [List.length_append, List.length_singleton]; omega, ?_⟩⟩
     rw [if_f hc] at he
     rw [w64 (by omega), show (i : Int) + 1 = ((i + 1 : Nat) : Int) by omega]
     refine ih (i + 1) _ (by omega) (by rw [List.length_append, List.length_singleton]; omega) (fun v hv => ?_) he
     rcases List.mem_append.1 hv with hv | hv
     ·exact hb v hv
     ·rw [List.mem_singleton] at hv
      subst hv
      exact ev_bd _ _ (vl_kid h hi').2.2.1
    exact ⟨key, key⟩
  exact ⟨_, loop t.kids.length 0 [] (by omega) rfl (fun v hv => by cases hv) (by rw [List.drop_zero]; exact e)⟩
theorem rv_rec : ∀ N, rv_C N
 | 0 => (by intro g axt_0 cxt_0 xt xk hRxt_0 hp; exact (rv_0 xt xk hp).elim)
 | N + 1 =>
  have ih := rv_rec N
  (by intro g axt_0 cxt_0 xt xk hRxt_0 hp; exact (rv_ok N ih xt xk hRxt_0 _ (rv_F N xt xk hp)).gives (by rintro g' H' v _ ⟨r0, r1, rfl, rfl, hK⟩; obtain ⟨rfl, rfl⟩ : r0 = (evS xt xk).1 ∧ r1 = (evS xt xk).2 := ⟨congrArg (fun z => z.1) hK, congrArg (fun z => z.2) hK⟩; rfl))
def rvPE (xt : Tree (Int × Int × Bs)) (xk : Int × Int × Int × Int) : Prop := ∃ N, rvP N xt xk
theorem rv_c {g : Ghost} {axt_0 : Option Addr} {cxt_0 : Nat} (xt : Tree (Int × Int × Bs)) (xk : Int × Int × Int × Int) (hRxt_0 : Rep g (.slice (.tree (.pair (.int .i64) (.pair (.int .i64) (.str))))) [.slice axt_0 xt.kids.length cxt_0] xt.kids)  (hp : rvPE xt xk) : CallsG Tryz.prog 7 #[.agg #[.int .i64 xt.lab.1, .int .i64 xt.lab.2.1, sv xt.lab.2.2, .slice axt_0 xt.kids.length cxt_0], .agg #[.int .i64 xk.1, .int .i64 xk.2.1, .int .i64 xk.2.2.1, .int .i64 xk.2.2.2]] g (.tuple #[.agg #[.int .i64 (evS xt xk).1.1, .int .i64 (evS xt xk).1.2], .int .i64 (evS xt xk).2]) := by
 obtain ⟨N, hp⟩ := hp
 exact (rv_rec N) _ xt xk hRxt_0 hp
/-! how many -/
mutual
def ctS : Tm → Int × Bool
 | .mk x l => if (!(shpM (.mk x l))) = true then (1, false) else ctL l 1
def ctL : List Tm → Int → Int × Bool
 | [], n => (n, true)
 | t :: l, n => if ((!((ctS t).2)) || (decide (n + (ctS t).1 > 30))) = true then (n + (ctS t).1, false) else ctL l (n + (ctS t).1)
end
theorem ctS_eq (t : Tm) : ctS t = if (!(shpM t)) = true then (1, false) else ctL t.kids 1 := by
 obtain ⟨x, l⟩ := t
 rw [ctS]; rfl
/-- both count alike, as far as it goes -/
theorem count_all : ∀ t : Tm, (1 ≤ (ctS t).1 ∧ (ctS t).1 ≤ 8 * wt t) ∧ ((ctS t).2 = true → okT t = true ∧ cnS t = (ctS t).1 ∧ (ctS t).1 ≤ 30) ∧ ((ctS t).2 = false → 30 < cnS t) := by
 refine Tree.ind fun x l ih => ?_
 rw [wt_mk, ctS, cnS, okT]
 cases hs : shpM (.mk x l)
 ·rw [if_pos (by decide), if_pos (by decide)]
  exact ⟨⟨by decide, by show (1 : Int) ≤ _; omega⟩, fun h => (by cases h), fun _ => by decide⟩
 ·rw [if_neg (by decide), if_neg (by decide)]
  have key : ∀ (l : List Tm), (∀ t ∈ l, (1 ≤ (ctS t).1 ∧ (ctS t).1 ≤ 8 * wt t) ∧ ((ctS t).2 = true → okT t = true ∧ cnS t = (ctS t).1 ∧ (ctS t).1 ≤ 30) ∧ ((ctS t).2 = false → 30 < cnS t)) → ∀ n : Int, 1 ≤ n → n ≤ 30 →
    (1 ≤ (ctL l n).1 ∧ (ctL l n).1 ≤ n + 8 * wtL l) ∧ ((ctL l n).2 = true → okL l = true ∧ cnL l n = (ctL l n).1 ∧ (ctL l n).1 ≤ 30) ∧ ((ctL l n).2 = false → 30 < cnL l n) := by
   intro l
   induction l with
   | nil =>
    intro _ n h1 h2
    rw [ctL, cnL, okL]
    exact ⟨⟨h1, by show n ≤ _; omega⟩, fun _ => ⟨rfl, rfl, h2⟩, fun h => (by cases h)⟩
   | cons t l ihl =>
    intro ih n h1 h2
    obtain ⟨⟨a1, a2⟩, a3, a4⟩ := ih t (List.mem_cons_self ..)
    have hc := cn_bd t
    have grow : ∀ (l : List Tm) (n : Int), 1 ≤ n → n ≤ cnL l n := by
     intro l
     induction l with
     | nil => intro n _; rw [cnL]; omega
     | cons t l ihl =>
      intro n hn
      have := cn_bd t
      rw [cnL]
      split
      ·have := ihl (n + cnS t) (by omega); omega
      ·omega
    have hw : wtL (t :: l) = wt t + wtL l := by unfold wtL; rw [List.map_cons, List.sum_cons]
    rw [ctL, cnL, okL, if_pos h2, hw]
    have g := grow l (n + cnS t) (by omega)
    cases hb : (ctS t).2
    ·have := a4 hb
     rw [if_pos (by rfl)]
     exact ⟨⟨by show 1 ≤ n + _; omega, by show n + _ ≤ _; omega⟩, fun h => (by cases h), fun _ => by omega⟩
    ·obtain ⟨b1, b2, b3⟩ := a3 hb
     by_cases hn : n + (ctS t).1 > 30
     ·rw [decide_eq_true hn, if_pos (by decide)]
      exact ⟨⟨by show 1 ≤ n + _; omega, by show n + _ ≤ _; omega⟩, fun h => (by cases h), fun _ => by omega⟩
     ·rw [decide_eq_false hn, if_neg (by decide)]
      obtain ⟨⟨c1, c2⟩, c3, c4⟩ := ihl (fun t ht => ih t (List.mem_cons_of_mem _ ht)) (n + (ctS t).1) (by omega) (by omega)
      rw [b2, b1, Bool.true_and]
      exact ⟨⟨c1, by omega⟩, c3, c4⟩
  obtain ⟨⟨c1, c2⟩, c3, c4⟩ := key l ih 1 (by omega) (by omega)
  rw [Bool.true_and]
  exact ⟨⟨c1, by omega⟩, c3, c4⟩
def ctP (N : Nat) (t : Tm) : Prop := txP N t
def ct_C (N : Nat) : Prop := ∀ (g : Ghost) {axt_0 : Option Addr} {cxt_0 : Nat} (xt : Tree (Int × Int × Bs)) (hRxt_0 : Rep g (.slice (.tree (.pair (.int .i64) (.pair (.int .i64) (.str))))) [.slice axt_0 xt.kids.length cxt_0] xt.kids)  (hp : ctP N xt), CallsG Tryz.prog 10 #[.agg #[.int .i64 xt.lab.1, .int .i64 xt.lab.2.1, sv xt.lab.2.2, .slice axt_0 xt.kids.length cxt_0]] g (.tuple #[.int .i64 (ctS xt).1, .bool (ctS xt).2])
def ctl17b (N : Nat) (xt : Tree (Int × Int × Bs)) (K : Int → Bool → Prop) (x4l17 : Int) (x16l17 : Int) (C17 : Int → Int → Prop) : Prop :=
 ((decide (x16l17 < (xt.kids.length : Int))) = true → (0 : Int) ≤ x16l17 ∧ Int.toNat x16l17 < xt.kids.length ∧ ctP N (xt.kids.getD (Int.toNat x16l17) default) ∧ ((((!((ctS (xt.kids.getD (Int.toNat x16l17) default)).2)) || (decide ((w6 (x4l17 + (ctS (xt.kids.getD (Int.toNat x16l17) default)).1)) > 30)))) = true → K (w6 (x4l17 + (ctS (xt.kids.getD (Int.toNat x16l17) default)).1)) false) ∧ ((((!((ctS (xt.kids.getD (Int.toNat x16l17) default)).2)) || (decide ((w6 (x4l17 + (ctS (xt.kids.getD (Int.toNat x16l17) default)).1)) > 30)))) = false → C17 (w6 (x4l17 + (ctS (xt.kids.getD (Int.toNat x16l17) default)).1)) (w6 (x16l17 + 1)))) ∧ ((decide (x16l17 < (xt.kids.length : Int))) = false → K x4l17 true)
def ctl17 (N : Nat) (xt : Tree (Int × Int × Bs)) (K : Int → Bool → Prop) : Nat → Int → Int → Prop
 | 0, _, _ => False
 | k + 1, x4l17, x16l17 => ctl17b N xt K x4l17 x16l17 (ctl17 N xt K k)
def ctF (N : Nat) (xt : Tree (Int × Int × Bs)) (K : Int → Bool → Prop) : Prop :=
 ((!(shpM xt)) = true → K 1 false) ∧ ((!(shpM xt)) = false → ∃ k, ctl17 N xt K k 1 0)
theorem ct_ok {g : Ghost} (N : Nat) (ih_ct : ct_C N) {axt_0 : Option Addr} {cxt_0 : Nat} (xt : Tree (Int × Int × Bs)) (hRxt_0 : Rep g (.slice (.tree (.pair (.int .i64) (.pair (.int .i64) (.str))))) [.slice axt_0 xt.kids.length cxt_0] xt.kids) (K : Int → Bool → Prop)
  (hF : ctF N xt K) : CallsH Tryz.prog 10 #[.agg #[.int .i64 xt.lab.1, .int .i64 xt.lab.2.1, sv xt.lab.2.2, .slice axt_0 xt.kids.length cxt_0]] g [] (fun g' H' v => ∃ (r0 : Int), ∃ (r1 : Bool), v = .tuple #[.int .i64 r0, .bool r1] ∧ H' = [] ∧ K r0 r1) := by
 refine CallsH.enter 37 [(0, .agg #[.int .i64 xt.lab.1, .int .i64 xt.lab.2.1, sv xt.lab.2.2, .slice axt_0 xt.kids.length cxt_0])] Tryz.func10 rfl (by kernel_rfl) (by kernel_rfl) (by kernel_rfl) fun w0 => ?_
 refine Ok.seq (Ok.region (Ok.op rfl (OpOk.box (v := .agg #[.int .i64 xt.lab.1, .int .i64 xt.lab.2.1, sv xt.lab.2.2, .slice axt_0 xt.kids.length cxt_0]) (cs := #[.int .i64 xt.lab.1, .int .i64 xt.lab.2.1, sv xt.lab.2.2, .slice axt_0 xt.kids.length cxt_0]) rfl (by kernel_rfl) rfl fun bs1 => ?_)))
 refine Ok.batch 2 [(1, pv bs1 0)] (by kernel_rfl) (Ok.nil (Ok.thenN (Ok.seq (Ok.region (Ok.bat 1 [1] [(4, .int .i64 1)] ?_)))))
 refine Ok.nil (Ok.thenN (Ok.seq (Ok.seq (Ok.region (Ok.op rfl (OpOk.step (v := .agg #[.int .i64 xt.lab.1, .int .i64 xt.lab.2.1, sv xt.lab.2.2, .slice axt_0 xt.kids.length cxt_0]) (Yields.loadAgg 0 4 #[.int .i64 xt.lab.1, .int .i64 xt.lab.2.1, sv xt.lab.2.2, .slice axt_0 xt.kids.length cxt_0] rfl rfl Tryz.underlying26 rfl (by kernel_rfl) (by kernel_rfl) (by kernel_rfl)) rfl rfl (Ok.op rfl (OpOk.callG (v := .bool (shpM xt)) enr (fun W hW => shp_c xt (hRxt_0.mono hW.sees)) rfl ?_))))))))
 refine Ok.bat 1 [1, 4] [(11, .bool (!(shpM xt)))] ?_
 refine Ok.nil (Ok.thenN (Ok.cond (b := !(shpM xt)) rfl (fun hc2 => ?_) (fun hc2 => ?_)))
 ·replace hF := hF.1 hc2
  refine Ok.seq (Ok.region (Ok.batch 3 [(2, .int .i64 1), (3, .bool false)] (by kernel_rfl) (Ok.nil (Ok.thenN (Ok.ret (Ok.thenR ?_))))))
  exact Ok.resP (vs := [.int .i64 1, .bool false]) [] [] (by decide) rfl (.inl rfl) rfl (.cons (.tmp rfl) (.cons (.tmp rfl) .nil)) (Gext.refl w0 g) ⟨1, false, rfl, rfl, hF⟩
 ·replace hF := hF.2 hc2
  refine Ok.skip (Ok.thenN (Ok.seq (Ok.seq (Ok.region (Ok.bat 1 [4] [(13, pv bs1 3)] ?_)))))
  refine Ok.op rfl (OpOk.step (v := .slice axt_0 xt.kids.length cxt_0) (Yields.load 0 rfl rfl Tryz.underlying24 rfl (by kernel_rfl)) rfl rfl (Ok.bat 2 [4] [(14, .slice axt_0 xt.kids.length cxt_0), (15, .int .i64 (xt.kids.length : Int)), (16, .int .i64 0)] ?_))
  refine Ok.nil (Ok.thenN (Ok.block ?_))
  obtain ⟨k, hF⟩ := hF
  refine Ok.loop (fun k a W => ∃ (x4l17 : Int) (x16l17 : Int), StA 37 [(4, .int .i64 x4l17), (14, .slice axt_0 xt.kids.length cxt_0), (15, .int .i64 (xt.kids.length : Int)), (16, .int .i64 x16l17)] a ∧ StW w0 [] g W ∧ ctl17 N xt K k x4l17 x16l17) k ?_ ?_
  ·
   exact fun a W hA hW => ⟨1, 0, hA.sub (by kernel_rfl), hW.sub (.cons _ .slnil), hF⟩
  ·
   clear hF
   rintro k17 a W ⟨x4l17, x16l17, hA, hW, hF⟩
   cases k17 with
   | zero => exact (hF : False).elim
   | succ k17 =>
    refine (?_ : Ok _ _ _ _ _ _) a W hA hW
    clear hA hW
    refine Ok.seq (Ok.region (Ok.bat 1 [4, 14, 15, 16] [(17, .bool (decide (x16l17 < (xt.kids.length : Int))))] ?_))
    refine Ok.nil (Ok.thenN (Ok.seq (Ok.cond (b := decide (x16l17 < (xt.kids.length : Int))) rfl (fun hc3 => ?_) (fun hc3 => ?_))))
    ·replace hF := hF.1 hc3
     refine Ok.skip (Ok.thenN (Ok.seq (Ok.block (Ok.seq (Ok.region ?_)))))
     obtain ⟨h05, h15, hF⟩ := hF
     have he5 := get_of (l := xt.kids) (default : Tree (Int × Int × Bs)) h15
     generalize hg5 : (xt.kids.getD (Int.toNat x16l17) default) = e5 at he5 hF ⊢
     refine Ok.op rfl (OpOk.indexRo (e := .tree (.pair (.int .i64) (.pair (.int .i64) (.str)))) (i := x16l17) (el := e5) rfl rfl Tryz.underlying24 (by kernel_rfl) hRxt_0 h05 he5 rfl fun q4 o4 cs4 _ hat4 hr4 => ?_)
     have hT4_0 := hr4
     replace hT4_0 := Rep.tree.1 hT4_0
     obtain ⟨_, _, rfl, ⟨_, _, rfl, rfl, ⟨_, _, rfl, rfl, rfl⟩⟩, ⟨a4_3, c4_3, rfl, hm4_3, hr4_3⟩⟩ := hT4_0
     have hR4_3 : Rep g (.slice (.tree (.pair (.int .i64) (.pair (.int .i64) (.str))))) [.slice a4_3 e5.kids.length c4_3] e5.kids := ⟨a4_3, c4_3, rfl, hm4_3, hr4_3⟩
     replace hat4 : At g q4 o4 [.int .i64 e5.lab.1, .int .i64 e5.lab.2.1, sv e5.lab.2.2, .slice a4_3 e5.kids.length c4_3] := hat4
     refine Ok.op rfl (OpOk.step (v := .agg #[.int .i64 e5.lab.1, .int .i64 e5.lab.2.1, sv e5.lab.2.2, .slice a4_3 e5.kids.length c4_3]) (Yields.loadAggRo 0 4 #[.int .i64 e5.lab.1, .int .i64 e5.lab.2.1, sv e5.lab.2.2, .slice a4_3 e5.kids.length c4_3] hat4 (by kernel_rfl) Tryz.underlying26 rfl (by kernel_rfl) (by kernel_rfl) (by kernel_rfl)) rfl rfl (Ok.op rfl (OpOk.alloc (z := .agg #[.int .i64 0, .int .i64 0, sv ([] : Bs), .slice none 0 0]) (cs := #[.int .i64 0, .int .i64 0, sv ([] : Bs), .slice none 0 0]) (by kernel_rfl) (by kernel_rfl) rfl fun bs6 => ?_)))
     refine Ok.op rfl (OpOk.sto (k := 4) (v := .agg #[.int .i64 e5.lab.1, .int .i64 e5.lab.2.1, sv e5.lab.2.2, .slice a4_3 e5.kids.length c4_3]) 0 #[.int .i64 e5.lab.1, .int .i64 e5.lab.2.1, sv e5.lab.2.2, .slice a4_3 e5.kids.length c4_3] rfl rfl rfl ?_)
     refine Ok.nil (Ok.thenN (Ok.seq (Ok.region (Ok.op rfl (OpOk.step (v := .agg #[.int .i64 e5.lab.1, .int .i64 e5.lab.2.1, sv e5.lab.2.2, .slice a4_3 e5.kids.length c4_3]) (Yields.loadAgg 0 4 #[.int .i64 e5.lab.1, .int .i64 e5.lab.2.1, sv e5.lab.2.2, .slice a4_3 e5.kids.length c4_3] rfl rfl Tryz.underlying26 rfl (by kernel_rfl) (by kernel_rfl) (by kernel_rfl)) rfl rfl ?_)))))
     obtain ⟨hp7, hF⟩ := hF
     refine Ok.op rfl (OpOk.callG (v := .tuple #[.int .i64 (ctS e5).1, .bool (ctS e5).2]) enr (fun W hW => ih_ct _ e5 (hR4_3.mono hW.sees) hp7) rfl ?_)
     refine Ok.bat 5 [4, 14, 15, 16] [(7, .int .i64 (ctS e5).1), (8, .bool (ctS e5).2)] ?_
     refine Ok.nil (Ok.thenN (Ok.seq (Ok.region (Ok.bat 4 [8, 14, 15, 16] [(4, .int .i64 (w6 (x4l17 + (ctS e5).1)))] ?_))))
     refine Ok.nil (Ok.thenN (Ok.seq (Ok.region (Ok.bat 3 [4, 14, 15, 16] [(30, .bool (!((ctS e5).2)))] ?_))))
     refine Ok.midway 3 [(4, .int .i64 (w6 (x4l17 + (ctS e5).1))), (14, .slice axt_0 xt.kids.length cxt_0), (15, .int .i64 (xt.kids.length : Int)), (16, .int .i64 x16l17), (33, .bool ((!((ctS e5).2)) || (decide ((w6 (x4l17 + (ctS e5).1)) > 30))))] (fun hR8 => ?_) ?_
     ·refine Ok.boolAt 30 (!((ctS e5).2)) rfl (fun hc9 => ?_) (fun hc9 => ?_)
      ·skip
       refine Ok.bat 3 [4, 14, 15, 16] [(33, .bool true)] ?_
       refine Ok.reval 33 rfl (show (.bool true : Value) = .bool ((!((ctS e5).2)) || (decide ((w6 (x4l17 + (ctS e5).1)) > 30))) from congrArg Value.bool (mor_t hc9)) (Ok.bat 0 [4, 14, 15, 16] [(33, .bool ((!((ctS e5).2)) || (decide ((w6 (x4l17 + (ctS e5).1)) > 30))))] ?_)
       exact hR8
      ·skip
       refine Ok.bat 3 [4, 14, 15, 16] [(33, .bool (decide ((w6 (x4l17 + (ctS e5).1)) > 30)))] ?_
       refine Ok.reval 33 rfl (show (.bool (decide ((w6 (x4l17 + (ctS e5).1)) > 30)) : Value) = .bool ((!((ctS e5).2)) || (decide ((w6 (x4l17 + (ctS e5).1)) > 30))) from congrArg Value.bool (mor_f hc9)) (Ok.bat 0 [4, 14, 15, 16] [(33, .bool ((!((ctS e5).2)) || (decide ((w6 (x4l17 + (ctS e5).1)) > 30))))] ?_)
       exact hR8
     refine Ok.nil (Ok.thenN (Ok.cond (b := ((!((ctS e5).2)) || (decide ((w6 (x4l17 + (ctS e5).1)) > 30)))) rfl (fun hc10 => ?_) (fun hc10 => ?_)))
     ·replace hF := hF.1 hc10
      refine Ok.seq (Ok.region (Ok.batch 3 [(2, .int .i64 (w6 (x4l17 + (ctS e5).1))), (3, .bool false)] (by kernel_rfl) (Ok.nil (Ok.thenN (Ok.ret (Ok.blockR (Ok.thenR (Ok.thenR (Ok.blockR (Ok.thenR ?_))))))))))
      exact Ok.resP (vs := [.int .i64 (w6 (x4l17 + (ctS e5).1)), .bool false]) [] [] (by decide) rfl (.inl rfl) rfl (.cons (.tmp rfl) (.cons (.tmp rfl) .nil)) (Gext.refl w0 g) ⟨(w6 (x4l17 + (ctS e5).1)), false, rfl, rfl, hF⟩
     ·replace hF := hF.2 hc10
      refine Ok.skip (Ok.blockN (Ok.thenN (Ok.region (Ok.bat 2 [4, 14, 15] [(16, .int .i64 (w6 (x16l17 + 1)))] ?_))))
      refine Ok.nil (Ok.thenN ?_)
      subst hg5
      exact fun a W hA hW => ⟨k17, Nat.lt_succ_self _, w6 (x4l17 + (ctS (xt.kids.getD (Int.toNat x16l17) default)).1), w6 (x16l17 + 1), hA.sub (by kernel_rfl), hW.sub (.cons _ .slnil), hF⟩
    ·replace hF := hF.2 hc3
     refine Ok.exit (Ok.thenE (Ok.thenE (Ok.blockHit (Ok.thenN (Ok.seq (Ok.region (Ok.batch 3 [(2, .int .i64 x4l17), (3, .bool true)] (by kernel_rfl) (Ok.nil (Ok.thenN (Ok.ret ?_))))))))))
     exact Ok.resH (vs := [.int .i64 x4l17, .bool true]) (.inl rfl) rfl (.cons (.tmp rfl) (.cons (.tmp rfl) .nil)) (Gext.refl w0 g) ⟨x4l17, true, rfl, rfl, hF⟩
theorem ct_0 (t : Tm) : ¬ ctP 0 t := tx_0 t
theorem ct_F (N : Nat) (t : Tm) (h : ctP (N + 1) t) : ctF N t (fun a b => (a, b) = ctS t) := by
 have hk := len_kids t
 have hw := h.2
 have e := ctS_eq t
 refine ⟨fun hs => by rw [e, if_t hs], fun hs => ?_⟩
 rw [if_f hs] at e
 have loop : ∀ (m i : Nat) (n : Int), i + m = t.kids.length → 1 ≤ n → n ≤ 10000000 → ctL t.kids 1 = ctL (t.kids.drop i) n → ctl17 N t (fun a b => (a, b) = ctS t) (m + 1) n (i : Int) := by
  intro m
  induction m with
  | zero =>
   intro i n hi h1 h2 he
   rw [List.drop_of_length_le (by omega), ctL] at he
   exact ⟨fun hc => absurd (of_decide_eq_true hc) (by omega), fun _ => by rw [e, he]⟩
  | succ m ih =>
   intro i n hi h1 h2 he
   have hi' : i < t.kids.length := by omega
   have kb := (count_all (t.kids.getD i default)).1
   have kw := wt_kid hi'
   rw [drop_get (l := t.kids) default hi', ctL] at he
   refine ⟨fun _ => ⟨by omega, by rw [Int.toNat_natCast]; exact hi', ?_⟩, fun hc => absurd (of_decide_eq_false hc) (by omega)⟩
   rw [Int.toNat_natCast, w64 (x := n + (ctS (t.kids.getD i default)).1) (by omega)]
   refine ⟨tx_kid h hi', fun hc => by rw [e, he, if_t hc], fun hc => ?_⟩
   rw [w64 (by omega), show (i : Int) + 1 = ((i + 1 : Nat) : Int) by omega]
   have hle : n + (ctS (t.kids.getD i default)).1 ≤ 10000000 := by
    rw [Bool.or_eq_false_iff] at hc
    have := of_decide_eq_false hc.2
    omega
   exact ih (i + 1) _ (by omega) (by omega) hle (by rw [he, if_f hc])
 exact ⟨_, loop t.kids.length 0 1 (by omega) (by omega) (by omega) (by rw [List.drop_zero])⟩
theorem ct_rec : ∀ N, ct_C N
 | 0 => (by intro g axt_0 cxt_0 xt hRxt_0 hp; exact (ct_0 xt hp).elim)
 | N + 1 =>
  have ih := ct_rec N
  (by intro g axt_0 cxt_0 xt hRxt_0 hp; exact (ct_ok N ih xt hRxt_0 _ (ct_F N xt hp)).gives (by rintro g' H' v _ ⟨r0, r1, rfl, rfl, hK⟩; obtain ⟨rfl, rfl⟩ : r0 = (ctS xt).1 ∧ r1 = (ctS xt).2 := ⟨congrArg (fun z => z.1) hK, congrArg (fun z => z.2) hK⟩; rfl))
def ctPE (xt : Tree (Int × Int × Bs)) : Prop := ∃ N, ctP N xt
theorem ct_c {g : Ghost} {axt_0 : Option Addr} {cxt_0 : Nat} (xt : Tree (Int × Int × Bs)) (hRxt_0 : Rep g (.slice (.tree (.pair (.int .i64) (.pair (.int .i64) (.str))))) [.slice axt_0 xt.kids.length cxt_0] xt.kids)  (hp : ctPE xt) : CallsG Tryz.prog 10 #[.agg #[.int .i64 xt.lab.1, .int .i64 xt.lab.2.1, sv xt.lab.2.2, .slice axt_0 xt.kids.length cxt_0]] g (.tuple #[.int .i64 (ctS xt).1, .bool (ctS xt).2]) := by
 obtain ⟨N, hp⟩ := hp
 exact (ct_rec N) _ xt hRxt_0 hp
def vvP (t : Tm) (_ : Sc) : Prop := wt t ≤ 1048576 ∧ Tree.All (fun x _ => numOk x.2) t
def vvS (t : Tm) (k : Sc) : Vl × Int := if (!((ctS t).2)) = true then ((0, 0), 3) else evS t k
def vvF (xt : Tree (Int × Int × Bs)) (xk : Int × Int × Int × Int) (K : (Int × Int) → Int → Prop) : Prop :=
 ctPE xt ∧ ((!((ctS xt).2)) = true → K (0, 0) 3) ∧ ((!((ctS xt).2)) = false → vlPE xt xk ∧ K (evS xt xk).1 (evS xt xk).2)
theorem vv_ok {g : Ghost} {axt_0 : Option Addr} {cxt_0 : Nat} (xt : Tree (Int × Int × Bs)) (xk : Int × Int × Int × Int) (hRxt_0 : Rep g (.slice (.tree (.pair (.int .i64) (.pair (.int .i64) (.str))))) [.slice axt_0 xt.kids.length cxt_0] xt.kids) (K : (Int × Int) → Int → Prop)
  (hF : vvF xt xk K) : CallsH Tryz.prog 5 #[.agg #[.int .i64 xt.lab.1, .int .i64 xt.lab.2.1, sv xt.lab.2.2, .slice axt_0 xt.kids.length cxt_0], .agg #[.int .i64 xk.1, .int .i64 xk.2.1, .int .i64 xk.2.2.1, .int .i64 xk.2.2.2]] g [] (fun g' H' v => ∃ (r0 : Int × Int), ∃ (r1 : Int), v = .tuple #[.agg #[.int .i64 r0.1, .int .i64 r0.2], .int .i64 r1] ∧ H' = [] ∧ K r0 r1) := by
 refine CallsH.enter 21 [(0, .agg #[.int .i64 xt.lab.1, .int .i64 xt.lab.2.1, sv xt.lab.2.2, .slice axt_0 xt.kids.length cxt_0]), (1, .agg #[.int .i64 xk.1, .int .i64 xk.2.1, .int .i64 xk.2.2.1, .int .i64 xk.2.2.2])] Tryz.func5 rfl (by kernel_rfl) (by kernel_rfl) (by kernel_rfl) fun w0 => ?_
 refine Ok.seq (Ok.region (Ok.op rfl (OpOk.box (v := .agg #[.int .i64 xt.lab.1, .int .i64 xt.lab.2.1, sv xt.lab.2.2, .slice axt_0 xt.kids.length cxt_0]) (cs := #[.int .i64 xt.lab.1, .int .i64 xt.lab.2.1, sv xt.lab.2.2, .slice axt_0 xt.kids.length cxt_0]) rfl (by kernel_rfl) rfl fun bs2 => ?_)))
 refine Ok.op rfl (OpOk.box (v := .agg #[.int .i64 xk.1, .int .i64 xk.2.1, .int .i64 xk.2.2.1, .int .i64 xk.2.2.2]) (cs := #[.int .i64 xk.1, .int .i64 xk.2.1, .int .i64 xk.2.2.1, .int .i64 xk.2.2.2]) rfl (by kernel_rfl) rfl fun bs3 => ?_)
 refine Ok.op rfl (OpOk.alloc (z := .agg #[.int .i64 0, .int .i64 0]) (cs := #[.int .i64 0, .int .i64 0]) (by kernel_rfl) (by kernel_rfl) rfl fun bs4 => ?_)
 refine Ok.batch 1 [(2, pv bs2 0), (3, pv bs3 0), (4, pv bs4 0)] (by kernel_rfl) (Ok.nil (Ok.thenN (Ok.seq (Ok.seq (Ok.region (Ok.op rfl (OpOk.step (v := .agg #[.int .i64 xt.lab.1, .int .i64 xt.lab.2.1, sv xt.lab.2.2, .slice axt_0 xt.kids.length cxt_0]) (Yields.loadAgg 2 4 #[.int .i64 xt.lab.1, .int .i64 xt.lab.2.1, sv xt.lab.2.2, .slice axt_0 xt.kids.length cxt_0] rfl rfl Tryz.underlying26 rfl (by kernel_rfl) (by kernel_rfl) (by kernel_rfl)) rfl rfl ?_)))))))
 obtain ⟨hp4, hF⟩ := hF
 refine Ok.op rfl (OpOk.callG (v := .tuple #[.int .i64 (ctS xt).1, .bool (ctS xt).2]) enr (fun W hW => ct_c xt (hRxt_0.mono hW.sees) hp4) rfl ?_)
 refine Ok.bat 5 [2, 3, 4] [(7, .bool (ctS xt).2)] ?_
 refine Ok.nil (Ok.thenN (Ok.seq (Ok.region (Ok.bat 2 [2, 3, 4] [(14, .bool (!((ctS xt).2)))] ?_))))
 refine Ok.nil (Ok.thenN (Ok.cond (b := !((ctS xt).2)) rfl (fun hc5 => ?_) (fun hc5 => ?_)))
 ·replace hF := hF.1 hc5
  refine Ok.seq (Ok.region (Ok.bat 1 [4] [(15, .agg #[.int .i64 0, .int .i64 0])] ?_))
  refine Ok.op rfl (OpOk.sto (k := 2) (v := .agg #[.int .i64 0, .int .i64 0]) 0 #[.int .i64 0, .int .i64 0] rfl rfl rfl ?_)
  refine Ok.bat 1 [4] [(5, .int .i64 3)] ?_
  refine Ok.nil (Ok.thenN (Ok.ret (Ok.thenR ?_)))
  exact Ok.resP (vs := [.agg #[.int .i64 0, .int .i64 0], .int .i64 3]) [] [] (by decide) rfl (.inl rfl) rfl (.cons (.cellAgg 0 2 #[.int .i64 0, .int .i64 0] rfl rfl Tryz.underlying31 rfl (by kernel_rfl) (by kernel_rfl) (by kernel_rfl)) (.cons (.tmp rfl) .nil)) (Gext.refl w0 g) ⟨(0, 0), 3, rfl, rfl, hF⟩
 ·replace hF := hF.2 hc5
  refine Ok.skip (Ok.thenN (Ok.seq (Ok.region (Ok.op rfl (OpOk.step (v := .agg #[.int .i64 xt.lab.1, .int .i64 xt.lab.2.1, sv xt.lab.2.2, .slice axt_0 xt.kids.length cxt_0]) (Yields.loadAgg 2 4 #[.int .i64 xt.lab.1, .int .i64 xt.lab.2.1, sv xt.lab.2.2, .slice axt_0 xt.kids.length cxt_0] rfl rfl Tryz.underlying26 rfl (by kernel_rfl) (by kernel_rfl) (by kernel_rfl)) rfl rfl (Ok.op rfl (OpOk.step (v := .agg #[.int .i64 xk.1, .int .i64 xk.2.1, .int .i64 xk.2.2.1, .int .i64 xk.2.2.2]) (Yields.loadAgg 1 4 #[.int .i64 xk.1, .int .i64 xk.2.1, .int .i64 xk.2.2.1, .int .i64 xk.2.2.2] rfl rfl Tryz.underlying28 rfl (by kernel_rfl) (by kernel_rfl) (by kernel_rfl)) rfl rfl ?_)))))))
  obtain ⟨hp6, hF⟩ := hF
  refine Ok.op rfl (OpOk.callG (v := .tuple #[.agg #[.int .i64 (evS xt xk).1.1, .int .i64 (evS xt xk).1.2], .int .i64 (evS xt xk).2]) enr (fun W hW => vl_c xt xk (hRxt_0.mono hW.sees) hp6) rfl ?_)
  refine Ok.bat 2 [4] [(19, .agg #[.int .i64 (evS xt xk).1.1, .int .i64 (evS xt xk).1.2]), (20, .int .i64 (evS xt xk).2)] ?_
  refine Ok.op rfl (OpOk.sto (k := 2) (v := .agg #[.int .i64 (evS xt xk).1.1, .int .i64 (evS xt xk).1.2]) 0 #[.int .i64 (evS xt xk).1.1, .int .i64 (evS xt xk).1.2] rfl rfl rfl ?_)
  refine Ok.bat 1 [4] [(5, .int .i64 (evS xt xk).2)] ?_
  refine Ok.nil (Ok.thenN (Ok.ret ?_))
  exact Ok.resP (vs := [.agg #[.int .i64 (evS xt xk).1.1, .int .i64 (evS xt xk).1.2], .int .i64 (evS xt xk).2]) [] [] (by decide) rfl (.inl rfl) rfl (.cons (.cellAgg 0 2 #[.int .i64 (evS xt xk).1.1, .int .i64 (evS xt xk).1.2] rfl rfl Tryz.underlying31 rfl (by kernel_rfl) (by kernel_rfl) (by kernel_rfl)) (.cons (.tmp rfl) .nil)) (Gext.refl w0 g) ⟨(evS xt xk).1, (evS xt xk).2, rfl, rfl, hF⟩
theorem vle {t : Tm} {k : Sc} (hp : vvP t k) (h : (ctS t).2 = true) : vlPE t k := ⟨wt t + 1, by omega, hp.1, ((count_all t).2.1 h).1, hp.2⟩
theorem vv_F (t : Tm) (k : Sc) (hp : vvP t k) : vvF t k (fun a b => (a, b) = vvS t k) := by
 refine ⟨⟨wt t + 1, by omega, hp.1⟩, fun h => ?_, fun h => ⟨vle hp (by simpa using h), ?_⟩⟩
 ·unfold vvS; rw [if_t h]
 ·unfold vvS; rw [if_f h]
theorem vv_c {g : Ghost} {axt_0 : Option Addr} {cxt_0 : Nat} (xt : Tree (Int × Int × Bs)) (xk : Int × Int × Int × Int) (hRxt_0 : Rep g (.slice (.tree (.pair (.int .i64) (.pair (.int .i64) (.str))))) [.slice axt_0 xt.kids.length cxt_0] xt.kids)  (hp : vvP xt xk) : CallsG Tryz.prog 5 #[.agg #[.int .i64 xt.lab.1, .int .i64 xt.lab.2.1, sv xt.lab.2.2, .slice axt_0 xt.kids.length cxt_0], .agg #[.int .i64 xk.1, .int .i64 xk.2.1, .int .i64 xk.2.2.1, .int .i64 xk.2.2.2]] g (.tuple #[.agg #[.int .i64 (vvS xt xk).1.1, .int .i64 (vvS xt xk).1.2], .int .i64 (vvS xt xk).2]) :=
 (vv_ok xt xk hRxt_0 _ (vv_F xt xk hp)).gives (by rintro g' H' v _ ⟨r0, r1, rfl, rfl, hK⟩; obtain ⟨rfl, rfl⟩ : r0 = (vvS xt xk).1 ∧ r1 = (vvS xt xk).2 := ⟨congrArg (fun z => z.1) hK, congrArg (fun z => z.2) hK⟩; rfl)
def lcvV0 (xt : Tree (Int × Int × Bs)) (xk : Int × Int × Int × Int) : Bool :=
 ((true && ((vvS xt xk).2 == 3)) && ([((vvS xt xk).1.1 == 0), ((vvS xt xk).1.2 == 0)].all id))
def lcvV1 (xt : Tree (Int × Int × Bs)) (xk : Int × Int × Int × Int) : Bool :=
 (true && (([((vvS xt xk).1.1 == (evS xt xk).1.1), ((vvS xt xk).1.2 == (evS xt xk).1.2)].all id) && ((vvS xt xk).2 == (evS xt xk).2)))
def lcvj11 (xt : Tree (Int × Int × Bs)) (xk : Int × Int × Int × Int) (K : Bool → Prop) : Prop :=
 K (lcvV0 xt xk)
def lcvj17 (xt : Tree (Int × Int × Bs)) (xk : Int × Int × Int × Int) (K : Bool → Prop) : Prop :=
 K (lcvV1 xt xk)
def lcvF (xt : Tree (Int × Int × Bs)) (xk : Int × Int × Int × Int) (K : Bool → Prop) : Prop :=
 vvP xt xk ∧ cnPE xt ∧ ((decide ((cnS xt) > 30)) = true → (((true && ((vvS xt xk).2 == 3))) = true → lcvj11 xt xk K) ∧ (((true && ((vvS xt xk).2 == 3))) = false → lcvj11 xt xk K)) ∧ ((decide ((cnS xt) > 30)) = false → rvPE xt xk ∧ ((true) = true → lcvj17 xt xk K) ∧ ((true) = false → lcvj17 xt xk K))
theorem lcv_ok {g : Ghost} {axt_0 : Option Addr} {cxt_0 : Nat} (xt : Tree (Int × Int × Bs)) (xk : Int × Int × Int × Int) (hRxt_0 : Rep g (.slice (.tree (.pair (.int .i64) (.pair (.int .i64) (.str))))) [.slice axt_0 xt.kids.length cxt_0] xt.kids) (hG0 : Glob g 0 (.slice (.str)) DUnits) (hG1 : SomeInt g 1) (hG2 : GlobL g 2 (.int .u64) DPow) (K : Bool → Prop)
  (hF : lcvF xt xk K) : CallsH Tryz.prog 3 #[.agg #[.int .i64 xt.lab.1, .int .i64 xt.lab.2.1, sv xt.lab.2.2, .slice axt_0 xt.kids.length cxt_0], .agg #[.int .i64 xk.1, .int .i64 xk.2.1, .int .i64 xk.2.2.1, .int .i64 xk.2.2.2]] g [] (fun g' H' v => ∃ (r0 : Bool), v = .bool r0 ∧ H' = [] ∧ K r0) := by
 refine CallsH.enter 47 [(0, .agg #[.int .i64 xt.lab.1, .int .i64 xt.lab.2.1, sv xt.lab.2.2, .slice axt_0 xt.kids.length cxt_0]), (1, .agg #[.int .i64 xk.1, .int .i64 xk.2.1, .int .i64 xk.2.2.1, .int .i64 xk.2.2.2])] Tryz.func3 rfl (by kernel_rfl) (by kernel_rfl) (by kernel_rfl) fun w0 => ?_
 refine Ok.seq (Ok.region (Ok.op rfl (OpOk.box (v := .agg #[.int .i64 xt.lab.1, .int .i64 xt.lab.2.1, sv xt.lab.2.2, .slice axt_0 xt.kids.length cxt_0]) (cs := #[.int .i64 xt.lab.1, .int .i64 xt.lab.2.1, sv xt.lab.2.2, .slice axt_0 xt.kids.length cxt_0]) rfl (by kernel_rfl) rfl fun bs2 => ?_)))
 refine Ok.op rfl (OpOk.box (v := .agg #[.int .i64 xk.1, .int .i64 xk.2.1, .int .i64 xk.2.2.1, .int .i64 xk.2.2.2]) (cs := #[.int .i64 xk.1, .int .i64 xk.2.1, .int .i64 xk.2.2.1, .int .i64 xk.2.2.2]) rfl (by kernel_rfl) rfl fun bs3 => ?_)
 refine Ok.batch 1 [(2, pv bs2 0), (3, pv bs3 0)] (by kernel_rfl) (Ok.nil (Ok.thenN (Ok.seq (Ok.region (Ok.op rfl (OpOk.callG (v := .bool true) enr (fun W hW => twi_c  (hG0.mono hW.sees) (hG1.mono hW.sees) (hG2.mono hW.sees)) rfl ?_))))))
 refine Ok.bat 1 [2, 3] [(5, .bool true)] ?_
 refine Ok.nil (Ok.thenN (Ok.seq (Ok.region (Ok.op rfl (OpOk.step (v := .agg #[.int .i64 xt.lab.1, .int .i64 xt.lab.2.1, sv xt.lab.2.2, .slice axt_0 xt.kids.length cxt_0]) (Yields.loadAgg 1 4 #[.int .i64 xt.lab.1, .int .i64 xt.lab.2.1, sv xt.lab.2.2, .slice axt_0 xt.kids.length cxt_0] rfl rfl Tryz.underlying26 rfl (by kernel_rfl) (by kernel_rfl) (by kernel_rfl)) rfl rfl (Ok.op rfl (OpOk.step (v := .agg #[.int .i64 xk.1, .int .i64 xk.2.1, .int .i64 xk.2.2.1, .int .i64 xk.2.2.2]) (Yields.loadAgg 0 4 #[.int .i64 xk.1, .int .i64 xk.2.1, .int .i64 xk.2.2.1, .int .i64 xk.2.2.2] rfl rfl Tryz.underlying28 rfl (by kernel_rfl) (by kernel_rfl) (by kernel_rfl)) rfl rfl ?_)))))))
 obtain ⟨hp3, hF⟩ := hF
 refine Ok.op rfl (OpOk.callG (v := .tuple #[.agg #[.int .i64 (vvS xt xk).1.1, .int .i64 (vvS xt xk).1.2], .int .i64 (vvS xt xk).2]) enr (fun W hW => vv_c xt xk (hRxt_0.mono hW.sees) hp3) rfl ?_)
 refine Ok.bat 3 [2, 3, 5] [(15, .agg #[.int .i64 (vvS xt xk).1.1, .int .i64 (vvS xt xk).1.2]), (16, .int .i64 (vvS xt xk).2)] ?_
 refine Ok.op rfl (OpOk.alloc (z := .agg #[.int .i64 0, .int .i64 0]) (cs := #[.int .i64 0, .int .i64 0]) (by kernel_rfl) (by kernel_rfl) rfl fun bs6 => ?_)
 refine Ok.op rfl (OpOk.sto (k := 2) (v := .agg #[.int .i64 (vvS xt xk).1.1, .int .i64 (vvS xt xk).1.2]) 0 #[.int .i64 (vvS xt xk).1.1, .int .i64 (vvS xt xk).1.2] rfl rfl rfl ?_)
 refine Ok.bat 1 [2, 3, 5] [(6, pv bs6 0), (7, .int .i64 (vvS xt xk).2)] ?_
 refine Ok.nil (Ok.thenN (Ok.seq (Ok.seq (Ok.region (Ok.op rfl (OpOk.step (v := .agg #[.int .i64 xt.lab.1, .int .i64 xt.lab.2.1, sv xt.lab.2.2, .slice axt_0 xt.kids.length cxt_0]) (Yields.loadAgg 2 4 #[.int .i64 xt.lab.1, .int .i64 xt.lab.2.1, sv xt.lab.2.2, .slice axt_0 xt.kids.length cxt_0] rfl rfl Tryz.underlying26 rfl (by kernel_rfl) (by kernel_rfl) (by kernel_rfl)) rfl rfl ?_))))))
 obtain ⟨hp5, hF⟩ := hF
 refine Ok.op rfl (OpOk.callG (v := .int .i64 (cnS xt)) enr (fun W hW => cn_c xt (hRxt_0.mono hW.sees) hp5) rfl ?_)
 refine Ok.bat 1 [2, 3, 5, 6, 7] [(19, .bool (decide ((cnS xt) > 30)))] ?_
 refine Ok.nil (Ok.thenN (Ok.cond (b := decide ((cnS xt) > 30)) rfl (fun hc6 => ?_) (fun hc6 => ?_)))
 ·replace hF := hF.1 hc6
  refine Ok.cut (fun a W => StA 47 [(4, .bool (lcvV0 xt xk))] a ∧ StW w0 [] g W ∧ lcvj11 xt xk K) ?_ ?_
  ·
   refine Ok.region (Ok.bat 2 [6, 7] [(21, .bool true)] ?_)
   refine Ok.midway 3 [(6, pv bs6 0), (24, .bool (true && ((vvS xt xk).2 == 3)))] (fun hR7 => ?_) ?_
   ·refine Ok.boolAt 21 (true) rfl (fun hc8 => ?_) (fun hc8 => ?_)
    ·skip
     refine Ok.bat 3 [6] [(24, .bool ((vvS xt xk).2 == 3))] ?_
     refine Ok.reval 24 rfl (show (.bool ((vvS xt xk).2 == 3) : Value) = .bool (true && ((vvS xt xk).2 == 3)) from congrArg Value.bool (mand_t hc8)) (Ok.bat 0 [6] [(24, .bool (true && ((vvS xt xk).2 == 3)))] ?_)
     exact hR7
    ·skip
     refine Ok.bat 3 [6] [(24, .bool false)] ?_
     refine Ok.reval 24 rfl (show (.bool false : Value) = .bool (true && ((vvS xt xk).2 == 3)) from congrArg Value.bool (mand_f hc8)) (Ok.bat 0 [6] [(24, .bool (true && ((vvS xt xk).2 == 3)))] ?_)
     exact hR7
   refine Ok.bat 1 [6] [(25, .bool (true && ((vvS xt xk).2 == 3)))] ?_
   refine Ok.boolAt 25 ((true && ((vvS xt xk).2 == 3))) rfl (fun hc9 => ?_) (fun hc9 => ?_)
   ·replace hF := hF.1 hc9
    refine Ok.opYes (j := 5) (d := 25) (want := true) (b := true) rfl (by kernel_rfl) (by kernel_rfl) rfl (OpOk.step (v := .agg #[.int .i64 (vvS xt xk).1.1, .int .i64 (vvS xt xk).1.2]) (Yields.loadAgg 0 2 #[.int .i64 (vvS xt xk).1.1, .int .i64 (vvS xt xk).1.2] rfl rfl Tryz.underlying31 rfl (by kernel_rfl) (by kernel_rfl) (by kernel_rfl)) rfl rfl (Ok.batch 1 [(25, .bool true), (26, .agg #[.int .i64 (vvS xt xk).1.1, .int .i64 (vvS xt xk).1.2]), (27, .agg #[.int .i64 0, .int .i64 0])] (by kernel_rfl) (Ok.opYes (j := 5) (d := 25) (want := true) (b := true) rfl (by kernel_rfl) (by kernel_rfl) rfl (OpOk.step (v := .bool ([((vvS xt xk).1.1 == 0), ((vvS xt xk).1.2 == 0)].all id)) (Yields.eqAgg (k := 2) rfl rfl (.struct (k := 1) Tryz.underlying31 (by kernel_rfl) ⟨by decide, ⟨.int .i64 (vvS xt xk).1.1, .int .i64 0, fun _ => by kernel_rfl, fun _ => by kernel_rfl, EqR.mono (k := 1) (.int Tryz.underlying3) (by decide)⟩, ⟨by decide, ⟨.int .i64 (vvS xt xk).1.2, .int .i64 0, fun _ => by kernel_rfl, fun _ => by kernel_rfl, EqR.mono (k := 1) (.int Tryz.underlying3) (by decide)⟩, trivial⟩⟩) rfl (by kernel_rfl)) rfl rfl ?_))))
    refine Ok.batch 2 [(4, .bool ([((vvS xt xk).1.1 == 0), ((vvS xt xk).1.2 == 0)].all id))] (by kernel_rfl) (Ok.nil (Ok.thenN (Ok.reval 4 rfl (show (.bool ([((vvS xt xk).1.1 == 0), ((vvS xt xk).1.2 == 0)].all id) : Value) = .bool (lcvV0 xt xk) from congrArg (Value.bool) (mand_t hc9)) ?_)))
    exact fun a W hA hW => ⟨hA.sub (by kernel_rfl), hW.sub (.cons _ (.cons _ (.cons _ .slnil))), hF⟩
   ·replace hF := hF.2 hc9
    refine Ok.batch 5 [(4, .bool false)] (by kernel_rfl) (Ok.nil (Ok.thenN (Ok.reval 4 rfl (show (.bool false : Value) = .bool (lcvV0 xt xk) from congrArg (Value.bool) (mand_f hc9)) ?_)))
    exact fun a W hA hW => ⟨hA.sub (by kernel_rfl), hW.sub (.cons _ (.cons _ (.cons _ .slnil))), hF⟩
  ·
   clear hF
   rintro a W ⟨hA, hW, hF⟩
   refine (?_ : Ok _ _ _ _ _ _) a W hA hW
   clear hA hW
   refine Ok.ret (Ok.thenR ?_)
   exact Ok.resH (vs := [.bool (lcvV0 xt xk)]) (.inl rfl) rfl (.cons (.tmp rfl) .nil) (Gext.refl w0 g) ⟨(lcvV0 xt xk), rfl, rfl, hF⟩
 ·replace hF := hF.2 hc6
  refine Ok.skip (Ok.thenN (Ok.seq (Ok.region (Ok.op rfl (OpOk.step (v := .agg #[.int .i64 xt.lab.1, .int .i64 xt.lab.2.1, sv xt.lab.2.2, .slice axt_0 xt.kids.length cxt_0]) (Yields.loadAgg 2 4 #[.int .i64 xt.lab.1, .int .i64 xt.lab.2.1, sv xt.lab.2.2, .slice axt_0 xt.kids.length cxt_0] rfl rfl Tryz.underlying26 rfl (by kernel_rfl) (by kernel_rfl) (by kernel_rfl)) rfl rfl (Ok.op rfl (OpOk.step (v := .agg #[.int .i64 xk.1, .int .i64 xk.2.1, .int .i64 xk.2.2.1, .int .i64 xk.2.2.2]) (Yields.loadAgg 1 4 #[.int .i64 xk.1, .int .i64 xk.2.1, .int .i64 xk.2.2.1, .int .i64 xk.2.2.2] rfl rfl Tryz.underlying28 rfl (by kernel_rfl) (by kernel_rfl) (by kernel_rfl)) rfl rfl ?_)))))))
  obtain ⟨hp10, hF⟩ := hF
  refine Ok.op rfl (OpOk.callG (v := .tuple #[.agg #[.int .i64 (evS xt xk).1.1, .int .i64 (evS xt xk).1.2], .int .i64 (evS xt xk).2]) enr (fun W hW => rv_c xt xk (hRxt_0.mono hW.sees) hp10) rfl ?_)
  refine Ok.bat 3 [5, 6, 7] [(34, .agg #[.int .i64 (evS xt xk).1.1, .int .i64 (evS xt xk).1.2]), (35, .int .i64 (evS xt xk).2)] ?_
  refine Ok.op rfl (OpOk.alloc (z := .agg #[.int .i64 0, .int .i64 0]) (cs := #[.int .i64 0, .int .i64 0]) (by kernel_rfl) (by kernel_rfl) rfl fun bs8 => ?_)
  refine Ok.op rfl (OpOk.sto (k := 2) (v := .agg #[.int .i64 (evS xt xk).1.1, .int .i64 (evS xt xk).1.2]) 0 #[.int .i64 (evS xt xk).1.1, .int .i64 (evS xt xk).1.2] rfl rfl rfl ?_)
  refine Ok.bat 1 [5, 6, 7] [(8, pv bs8 0), (9, .int .i64 (evS xt xk).2)] ?_
  refine Ok.nil (Ok.thenN (Ok.cut (fun a W => StA 47 [(4, .bool (lcvV1 xt xk))] a ∧ StW w0 [] g W ∧ lcvj17 xt xk K) ?_ ?_))
  ·
   refine Ok.region (Ok.bat 2 [6, 7, 8, 9] [(37, .bool true)] ?_)
   refine Ok.boolAt 37 (true) rfl (fun hc12 => ?_) (fun hc12 => ?_)
   ·replace hF := hF.1 hc12
    refine Ok.opYes (j := 1) (d := 37) (want := true) (b := true) rfl (by kernel_rfl) (by kernel_rfl) rfl (OpOk.step (v := .agg #[.int .i64 (vvS xt xk).1.1, .int .i64 (vvS xt xk).1.2]) (Yields.loadAgg 1 2 #[.int .i64 (vvS xt xk).1.1, .int .i64 (vvS xt xk).1.2] rfl rfl Tryz.underlying31 rfl (by kernel_rfl) (by kernel_rfl) (by kernel_rfl)) rfl rfl (Ok.opYes (j := 1) (d := 37) (want := true) (b := true) rfl (by kernel_rfl) (by kernel_rfl) rfl (OpOk.step (v := .agg #[.int .i64 (evS xt xk).1.1, .int .i64 (evS xt xk).1.2]) (Yields.loadAgg 0 2 #[.int .i64 (evS xt xk).1.1, .int .i64 (evS xt xk).1.2] rfl rfl Tryz.underlying31 rfl (by kernel_rfl) (by kernel_rfl) (by kernel_rfl)) rfl rfl (Ok.opYes (j := 1) (d := 37) (want := true) (b := true) rfl (by kernel_rfl) (by kernel_rfl) rfl (OpOk.step (v := .bool ([((vvS xt xk).1.1 == (evS xt xk).1.1), ((vvS xt xk).1.2 == (evS xt xk).1.2)].all id)) (Yields.eqAgg (k := 2) rfl rfl (.struct (k := 1) Tryz.underlying31 (by kernel_rfl) ⟨by decide, ⟨.int .i64 (vvS xt xk).1.1, .int .i64 (evS xt xk).1.1, fun _ => by kernel_rfl, fun _ => by kernel_rfl, EqR.mono (k := 1) (.int Tryz.underlying3) (by decide)⟩, ⟨by decide, ⟨.int .i64 (vvS xt xk).1.2, .int .i64 (evS xt xk).1.2, fun _ => by kernel_rfl, fun _ => by kernel_rfl, EqR.mono (k := 1) (.int Tryz.underlying3) (by decide)⟩, trivial⟩⟩) rfl (by kernel_rfl)) rfl rfl ?_)))))
    refine Ok.bat 2 [7, 9] [(42, .bool ([((vvS xt xk).1.1 == (evS xt xk).1.1), ((vvS xt xk).1.2 == (evS xt xk).1.2)].all id))] ?_
    refine Ok.midway 4 [(46, .bool (([((vvS xt xk).1.1 == (evS xt xk).1.1), ((vvS xt xk).1.2 == (evS xt xk).1.2)].all id) && ((vvS xt xk).2 == (evS xt xk).2)))] (fun hR13 => ?_) ?_
    ·refine Ok.boolAt 42 (([((vvS xt xk).1.1 == (evS xt xk).1.1), ((vvS xt xk).1.2 == (evS xt xk).1.2)].all id)) rfl (fun hc14 => ?_) (fun hc14 => ?_)
     ·skip
      refine Ok.batch 4 [(46, .bool ((vvS xt xk).2 == (evS xt xk).2))] (by kernel_rfl) (Ok.reval 46 rfl (show (.bool ((vvS xt xk).2 == (evS xt xk).2) : Value) = .bool (([((vvS xt xk).1.1 == (evS xt xk).1.1), ((vvS xt xk).1.2 == (evS xt xk).1.2)].all id) && ((vvS xt xk).2 == (evS xt xk).2)) from congrArg Value.bool (mand_t hc14)) (Ok.batch 0 [(46, .bool (([((vvS xt xk).1.1 == (evS xt xk).1.1), ((vvS xt xk).1.2 == (evS xt xk).1.2)].all id) && ((vvS xt xk).2 == (evS xt xk).2)))] (by kernel_rfl) ?_))
      exact hR13
     ·skip
      refine Ok.batch 4 [(46, .bool false)] (by kernel_rfl) (Ok.reval 46 rfl (show (.bool false : Value) = .bool (([((vvS xt xk).1.1 == (evS xt xk).1.1), ((vvS xt xk).1.2 == (evS xt xk).1.2)].all id) && ((vvS xt xk).2 == (evS xt xk).2)) from congrArg Value.bool (mand_f hc14)) (Ok.batch 0 [(46, .bool (([((vvS xt xk).1.1 == (evS xt xk).1.1), ((vvS xt xk).1.2 == (evS xt xk).1.2)].all id) && ((vvS xt xk).2 == (evS xt xk).2)))] (by kernel_rfl) ?_))
      exact hR13
    refine Ok.batch 1 [(4, .bool (([((vvS xt xk).1.1 == (evS xt xk).1.1), ((vvS xt xk).1.2 == (evS xt xk).1.2)].all id) && ((vvS xt xk).2 == (evS xt xk).2)))] (by kernel_rfl) (Ok.nil (Ok.thenN (Ok.reval 4 rfl (show (.bool (([((vvS xt xk).1.1 == (evS xt xk).1.1), ((vvS xt xk).1.2 == (evS xt xk).1.2)].all id) && ((vvS xt xk).2 == (evS xt xk).2)) : Value) = .bool (lcvV1 xt xk) from congrArg (Value.bool) (mand_t hc12)) ?_)))
    exact fun a W hA hW => ⟨hA.sub (by kernel_rfl), hW.sub (.cons _ (.cons _ (.cons _ (.cons _ .slnil)))), hF⟩
   ·replace hF := hF.2 hc12
    refine Ok.batch 10 [(4, .bool false)] (by kernel_rfl) (Ok.nil (Ok.thenN (Ok.reval 4 rfl (show (.bool false : Value) = .bool (lcvV1 xt xk) from congrArg (Value.bool) (mand_f hc12)) ?_)))
    exact fun a W hA hW => ⟨hA.sub (by kernel_rfl), hW.sub (.cons _ (.cons _ (.cons _ (.cons _ .slnil)))), hF⟩
  ·
   clear hF
   rintro a W ⟨hA, hW, hF⟩
   refine (?_ : Ok _ _ _ _ _ _) a W hA hW
   clear hA hW
   refine Ok.ret ?_
   exact Ok.resH (vs := [.bool (lcvV1 xt xk)]) (.inl rfl) rfl (.cons (.tmp rfl) .nil) (Gext.refl w0 g) ⟨(lcvV1 xt xk), rfl, rfl, hF⟩
theorem all_mono {p q : Lb → Nat → Prop} (h : ∀ x n, p x n → q x n) : ∀ t : Tm, Tree.All p t → Tree.All q t := by
 refine Tree.ind fun x l ih ha => ?_
 rw [Tree.All] at ha ⊢
 exact ⟨h _ _ ha.1, Tree.allL_iff.2 fun t ht => ih t ht (Tree.allL_iff.1 ha.2 t ht)⟩
def lcvP (t : Tm) (k : Sc) : Prop := DomU (.tree (.pair (.int .i64) (.pair (.int .i64) (.str)))) t ∧ DomU (.pair (.int .i64) (.pair (.int .i64) (.pair (.int .i64) (.int .i64)))) k
theorem lcv_F (t : Tm) (k : Sc) (hp : lcvP t k) : lcvF t k (fun r => r = true) := by
 obtain ⟨⟨⟨hd, hs⟩, hb⟩, -⟩ := hp
 have hw : wt t ≤ 1048576 := hb
 have hd : t.All fun y n => Dom (.pair (.int .i64) (.pair (.int .i64) .str)) y ∧ n ≤ maxLen := hd
 have hv : vvP t k := ⟨hw, all_mono (fun x n h => Dom.i64 h.1.2.1) t hd⟩
 obtain ⟨-, c2, c3⟩ := count_all t
 refine ⟨hv, ⟨wt t + 1, by omega, hw⟩, fun h => ?_, fun h => ?_⟩
 ·have h := of_decide_eq_true h
  have hf : (ctS t).2 = false := by
   cases hc : (ctS t).2
   ·rfl
   ·have := c2 hc; omega
  have key : lcvj11 t k (fun r => r = true) := by
   unfold lcvj11 lcvV0 vvS
   rw [hf]; rfl
  exact ⟨fun _ => key, fun _ => key⟩
 ·have h := of_decide_eq_false h
  have hf : (ctS t).2 = true := by
   cases hc : (ctS t).2
   ·exact absurd (c3 hc) (by omega)
   ·rfl
  have key : lcvj17 t k (fun r => r = true) := by
   unfold lcvj17 lcvV1 vvS
   rw [hf]
   simp
  exact ⟨vle hv hf, fun _ => key, fun _ => key⟩
theorem lcv_c {g : Ghost} {axt_0 : Option Addr} {cxt_0 : Nat} (xt : Tree (Int × Int × Bs)) (xk : Int × Int × Int × Int) (hRxt_0 : Rep g (.slice (.tree (.pair (.int .i64) (.pair (.int .i64) (.str))))) [.slice axt_0 xt.kids.length cxt_0] xt.kids) (hG0 : Glob g 0 (.slice (.str)) DUnits) (hG1 : SomeInt g 1) (hG2 : GlobL g 2 (.int .u64) DPow)  (hp : lcvP xt xk) : CallsG Tryz.prog 3 #[.agg #[.int .i64 xt.lab.1, .int .i64 xt.lab.2.1, sv xt.lab.2.2, .slice axt_0 xt.kids.length cxt_0], .agg #[.int .i64 xk.1, .int .i64 xk.2.1, .int .i64 xk.2.2.1, .int .i64 xk.2.2.2]] g (.bool true) :=
 (lcv_ok xt xk hRxt_0 hG0 hG1 hG2 _ (lcv_F xt xk hp)).gives (by rintro g' H' v _ ⟨r0, rfl, rfl, hK⟩; subst hK; rfl)
end Go.Proofs.YtogcmkphibegbaaGreatDoor.Cl
