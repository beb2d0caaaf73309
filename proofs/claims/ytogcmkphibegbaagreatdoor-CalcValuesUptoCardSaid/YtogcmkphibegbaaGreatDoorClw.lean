/- calc: the value of a term, by the program and by the document. -/
import Derived.Test.YtogcmkphibegbaaGreatDoorClv
namespace Go.Proofs.YtogcmkphibegbaaGreatDoor.Cl
open Go Go.Eng Go.RowKit Go.Shelf Go.Proofs Bld Trm Css Tk Dm Jo Co
set_option maxHeartbeats 4000000
set_option maxRecDepth 100000
set_option linter.unusedSimpArgs false
set_option linter.unusedVariables false
/-! alike -/
def prL (k : Int) : Vl → List Vl → Vl × Int
 | v, [] => (v, 0)
 | v, w :: l => if ((prvS k v w).2 != 0) = true then ((0, 0), (prvS k v w).2) else prL k (prvS k v w).1 l
def cbS (k : Int) (l : List Vl) : Vl × Int :=
 if (k == 8) = true then (if (((prvS 6 (l.getD 1 default) (l.getD 2 default)).2 != 0) || ((l.getD 0 default).1 != (l.getD 1 default).1)) = true then ((0, 0), 7) else prvS 7 (l.getD 0 default) (prvS 6 (l.getD 1 default) (l.getD 2 default)).1)
 else prL k (l.getD 0 default) (l.drop 1)
def alP (k : Int) (l : List Vl) : Prop := (∀ v ∈ l, bd v) ∧ l.length ≤ 2000000 ∧ ((k = 2 ∨ k = 3) ∧ l.length = 2 ∨ (k = 6 ∨ k = 7) ∧ 1 ≤ l.length ∨ k = 8 ∧ l.length = 3)
theorem bd_at {l : List Vl} (h : ∀ v ∈ l, bd v) {i : Nat} (hi : i < l.length) : bd (l.getD i default) := by
 rw [List.getD_eq_getElem?_getD, List.getElem?_eq_getElem hi]
 exact h _ (List.getElem_mem hi)
def alkV2 (xkind : Int) (xl : List (Int × Int)) (e3 : Int × Int) (ybs6_1l9 : Int) : Int :=
 (if (xkind == 8) = true then (if e3.2 < (if (xl.getD (Int.toNat 2) default).2 < (xl.getD (Int.toNat 1) default).2 then (xl.getD (Int.toNat 2) default).2 else (xl.getD (Int.toNat 1) default).2) then (if (xl.getD (Int.toNat 2) default).2 < (xl.getD (Int.toNat 1) default).2 then (xl.getD (Int.toNat 2) default).2 else (xl.getD (Int.toNat 1) default).2) else e3.2) else ybs6_1l9)
def alkV3 (xkind : Int) (xl : List (Int × Int)) (x15l9 : Int) (ybs6_1l9 : Int) : Int :=
 (if (xkind == 2) = true then w6 (ybs6_1l9 + ((xl.drop (Int.toNat 1)).getD (Int.toNat x15l9) default).2) else (if (xkind == 3) = true then w6 (ybs6_1l9 - ((xl.drop (Int.toNat 1)).getD (Int.toNat x15l9) default).2) else (if (xkind == 6) = true then (if ((xl.drop (Int.toNat 1)).getD (Int.toNat x15l9) default).2 < ybs6_1l9 then ((xl.drop (Int.toNat 1)).getD (Int.toNat x15l9) default).2 else ybs6_1l9) else (if (xkind == 7) = true then (if ybs6_1l9 < ((xl.drop (Int.toNat 1)).getD (Int.toNat x15l9) default).2 then ((xl.drop (Int.toNat 1)).getD (Int.toNat x15l9) default).2 else ybs6_1l9) else ybs6_1l9))))
def alkj16 (xkind : Int) (xl : List (Int × Int)) (x15l9 : Int) (ybs6_1l9 : Int) (C9 : Int → Int → Prop) : Prop :=
 C9 (w6 (x15l9 + 1)) (alkV3 xkind xl x15l9 ybs6_1l9)
def alkj45 (xkind : Int) (xl : List (Int × Int)) (K : (Int × Int) → Int → Prop) (e3 : Int × Int) (ybs6_1l9 : Int) : Prop :=
 K (e3.1, (ccutM (alkV2 xkind xl e3 ybs6_1l9))) 0
def alkl9b (xkind : Int) (xl : List (Int × Int)) (K : (Int × Int) → Int → Prop) (e3 : Int × Int) (x15l9 : Int) (ybs6_1l9 : Int) (C9 : Int → Int → Prop) : Prop :=
 ((decide (x15l9 < ((xl.drop (Int.toNat 1)).length : Int))) = true → (0 : Int) ≤ x15l9 ∧ Int.toNat x15l9 < (xl.drop (Int.toNat 1)).length ∧ (((((xl.drop (Int.toNat 1)).getD (Int.toNat x15l9) default).1 != e3.1)) = true → K (0, 0) 7) ∧ (((((xl.drop (Int.toNat 1)).getD (Int.toNat x15l9) default).1 != e3.1)) = false → (((xkind == 2)) = true → alkj16 xkind xl x15l9 ybs6_1l9 C9) ∧ (((xkind == 2)) = false → (((xkind == 3)) = true → alkj16 xkind xl x15l9 ybs6_1l9 C9) ∧ (((xkind == 3)) = false → (((xkind == 6)) = true → alkj16 xkind xl x15l9 ybs6_1l9 C9) ∧ (((xkind == 6)) = false → (((xkind == 7)) = true → alkj16 xkind xl x15l9 ybs6_1l9 C9) ∧ (((xkind == 7)) = false → alkj16 xkind xl x15l9 ybs6_1l9 C9)))))) ∧ ((decide (x15l9 < ((xl.drop (Int.toNat 1)).length : Int))) = false → (((xkind == 8)) = true → (0 : Int) ≤ 1 ∧ Int.toNat 1 < xl.length ∧ (0 : Int) ≤ 2 ∧ Int.toNat 2 < xl.length ∧ alkj45 xkind xl K e3 ybs6_1l9) ∧ (((xkind == 8)) = false → alkj45 xkind xl K e3 ybs6_1l9))
def alkl9 (xkind : Int) (xl : List (Int × Int)) (K : (Int × Int) → Int → Prop) (e3 : Int × Int) : Nat → Int → Int → Prop
 | 0, _, _ => False
 | k + 1, x15l9, ybs6_1l9 => alkl9b xkind xl K e3 x15l9 ybs6_1l9 (alkl9 xkind xl K e3 k)
def alkF (xkind : Int) (xl : List (Int × Int)) (K : (Int × Int) → Int → Prop) : Prop :=
 (0 : Int) ≤ 0 ∧ Int.toNat 0 < xl.length ∧ (0 : Int) ≤ 1 ∧ (1 : Int) ≤ (xl.length : Int) ∧ (xl.length : Int) ≤ (xl.length : Int) ∧ ∃ k, alkl9 xkind xl K (xl.getD (Int.toNat 0) default) k 0 (xl.getD (Int.toNat 0) default).2
theorem alk_ok {g : Ghost} (xkind : Int) {axl_0 : Option Addr} {cxl_0 : Nat} (xl : List (Int × Int)) (hRxl_0 : Rep g (.slice (.pair (.int .i64) (.int .i64))) [.slice axl_0 xl.length cxl_0] xl) (K : (Int × Int) → Int → Prop)
  (hF : alkF xkind xl K) : CallsH Tryz.prog 28 #[.int .i64 xkind, .slice axl_0 xl.length cxl_0] g [] (fun g' H' v => ∃ (r0 : Int × Int), ∃ (r1 : Int), v = .tuple #[.agg #[.int .i64 r0.1, .int .i64 r0.2], .int .i64 r1] ∧ H' = [] ∧ K r0 r1) := by
 refine CallsH.enter 85 [(0, .int .i64 xkind), (1, .slice axl_0 xl.length cxl_0)] Tryz.func28 rfl (by kernel_rfl) (by kernel_rfl) (by kernel_rfl) fun w0 => ?_
 refine Ok.seq (Ok.region (Ok.op rfl (OpOk.alloc (z := .agg #[.int .i64 0, .int .i64 0]) (cs := #[.int .i64 0, .int .i64 0]) (by kernel_rfl) (by kernel_rfl) rfl fun bs4 => ?_)))
 refine Ok.batch 1 [(0, .int .i64 xkind), (1, .slice axl_0 xl.length cxl_0), (4, pv bs4 0)] (by kernel_rfl) (Ok.nil (Ok.thenN (Ok.seq (Ok.region (Ok.bat 1 [0, 1, 4] [(9, .slice axl_0 xl.length cxl_0)] ?_)))))
 obtain ⟨h03, h13, hF⟩ := hF
 have he3 := get_of (l := xl) (default : Int × Int) h13
 generalize hg3 : (xl.getD (Int.toNat 0) default) = e3 at he3 hF ⊢
 refine Ok.op rfl (OpOk.indexRo (e := .pair (.int .i64) (.int .i64)) (i := 0) (el := e3) rfl rfl Tryz.underlying44 (by kernel_rfl) hRxl_0 h03 he3 rfl fun q2 o2 cs2 _ hat2 hr2 => ?_)
 obtain ⟨_, _, rfl, rfl, rfl⟩ := hr2
 replace hat2 : At g q2 o2 [.int .i64 e3.1, .int .i64 e3.2] := hat2
 refine Ok.op rfl (OpOk.step (v := .agg #[.int .i64 e3.1, .int .i64 e3.2]) (Yields.loadAggRo 0 2 #[.int .i64 e3.1, .int .i64 e3.2] hat2 (by kernel_rfl) Tryz.underlying31 rfl (by kernel_rfl) (by kernel_rfl) (by kernel_rfl)) rfl rfl (Ok.op rfl (OpOk.alloc (z := .agg #[.int .i64 0, .int .i64 0]) (cs := #[.int .i64 0, .int .i64 0]) (by kernel_rfl) (by kernel_rfl) rfl fun bs6 => ?_)))
 refine Ok.op rfl (OpOk.sto (k := 2) (v := .agg #[.int .i64 e3.1, .int .i64 e3.2]) 0 #[.int .i64 e3.1, .int .i64 e3.2] rfl rfl rfl ?_)
 refine Ok.nil (Ok.thenN (Ok.seq (Ok.seq (Ok.region (Ok.bat 1 [0, 1, 4] [(6, pv bs6 0), (12, .slice axl_0 xl.length cxl_0)] ?_)))))
 obtain ⟨h05, h15, h25, hF⟩ := hF
 refine Ok.op rfl (OpOk.sliceRo (e := .pair (.int .i64) (.int .i64)) (l := 1) (h := (xl.length : Int)) rfl Tryz.underlying44 (by kernel_rfl) (.inl ⟨_, _, rfl, rfl⟩) (.inr ⟨rfl, rfl⟩) hRxl_0 h05 h15 h25 rfl (xl.drop (Int.toNat 1)) (by rw [show ((xl.length : Int)).toNat = xl.length from Int.toNat_natCast _, List.take_length]) fun a5 c5 hR5 => ?_)
 refine Ok.bat 2 [0, 1, 4, 6] [(13, .slice a5 (xl.drop (Int.toNat 1)).length c5), (14, .int .i64 ((xl.drop (Int.toNat 1)).length : Int)), (15, .int .i64 0)] ?_
 refine Ok.nil (Ok.thenN (Ok.block ?_))
 obtain ⟨k, hF⟩ := hF
 refine Ok.loop (fun k a W => ∃ (x15l9 : Int) (ybs6_1l9 : Int), StA 85 [(0, .int .i64 xkind), (1, .slice axl_0 xl.length cxl_0), (4, pv bs4 0), (6, pv bs6 0), (13, .slice a5 (xl.drop (Int.toNat 1)).length c5), (14, .int .i64 ((xl.drop (Int.toNat 1)).length : Int)), (15, .int .i64 x15l9)] a ∧ StW w0 [.blk bs6 (.cells #[.int .i64 e3.1, .int .i64 ybs6_1l9] 31), .blk bs4 (.cells #[.int .i64 0, .int .i64 0] 31)] g W ∧ alkl9 xkind xl K e3 k x15l9 ybs6_1l9) k ?_ ?_
 ·
  exact fun a W hA hW => ⟨0, e3.2, hA.sub (by kernel_rfl), hW, hF⟩
 ·
  clear hF
  rintro k9 a W ⟨x15l9, ybs6_1l9, hA, hW, hF⟩
  cases k9 with
  | zero => exact (hF : False).elim
  | succ k9 =>
   refine (?_ : Ok _ _ _ _ _ _) a W hA hW
   clear hA hW
   refine Ok.seq (Ok.region (Ok.bat 1 [0, 1, 4, 6, 13, 14, 15] [(16, .bool (decide (x15l9 < ((xl.drop (Int.toNat 1)).length : Int))))] ?_))
   refine Ok.nil (Ok.thenN (Ok.seq (Ok.cond (b := decide (x15l9 < ((xl.drop (Int.toNat 1)).length : Int))) rfl (fun hc6 => ?_) (fun hc6 => ?_))))
   ·replace hF := hF.1 hc6
    refine Ok.skip (Ok.thenN (Ok.cut (fun a W => StA 85 [(0, .int .i64 xkind), (1, .slice axl_0 xl.length cxl_0), (4, pv bs4 0), (6, pv bs6 0), (13, .slice a5 (xl.drop (Int.toNat 1)).length c5), (14, .int .i64 ((xl.drop (Int.toNat 1)).length : Int)), (15, .int .i64 x15l9)] a ∧ StW w0 [.blk bs6 (.cells #[.int .i64 e3.1, .int .i64 (alkV3 xkind xl x15l9 ybs6_1l9)] 31), .blk bs4 (.cells #[.int .i64 0, .int .i64 0] 31)] g W ∧ alkj16 xkind xl x15l9 ybs6_1l9 (alkl9 xkind xl K e3 k9)) ?_ ?_))
    ·
     refine Ok.block (Ok.seq (Ok.region ?_))
     obtain ⟨h08, h18, hF⟩ := hF
     have he8 := get_of (l := (xl.drop (Int.toNat 1))) (default : Int × Int) h18
     generalize hg8 : ((xl.drop (Int.toNat 1)).getD (Int.toNat x15l9) default) = e8 at he8 hF ⊢
     refine Ok.op rfl (OpOk.indexRo (e := .pair (.int .i64) (.int .i64)) (i := x15l9) (el := e8) rfl rfl Tryz.underlying44 (by kernel_rfl) hR5 h08 he8 rfl fun q7 o7 cs7 _ hat7 hr7 => ?_)
     obtain ⟨_, _, rfl, rfl, rfl⟩ := hr7
     replace hat7 : At g q7 o7 [.int .i64 e8.1, .int .i64 e8.2] := hat7
     refine Ok.op rfl (OpOk.step (v := .agg #[.int .i64 e8.1, .int .i64 e8.2]) (Yields.loadAggRo 0 2 #[.int .i64 e8.1, .int .i64 e8.2] hat7 (by kernel_rfl) Tryz.underlying31 rfl (by kernel_rfl) (by kernel_rfl) (by kernel_rfl)) rfl rfl (Ok.op rfl (OpOk.alloc (z := .agg #[.int .i64 0, .int .i64 0]) (cs := #[.int .i64 0, .int .i64 0]) (by kernel_rfl) (by kernel_rfl) rfl fun bs8 => ?_)))
     refine Ok.op rfl (OpOk.sto (k := 2) (v := .agg #[.int .i64 e8.1, .int .i64 e8.2]) 0 #[.int .i64 e8.1, .int .i64 e8.2] rfl rfl rfl ?_)
     refine Ok.nil (Ok.thenN (Ok.block (Ok.seq (Ok.region (Ok.bat 1 [0, 1, 4, 6, 13, 14, 15] [(8, pv bs8 0), (20, pv bs8 0)] ?_)))))
     refine Ok.op rfl (OpOk.step (v := .int .i64 e8.1) (Yields.load 0 rfl rfl Tryz.underlying3 rfl (by kernel_rfl)) rfl rfl (Ok.bat 1 [0, 1, 4, 6, 8, 13, 14, 15] [(21, .int .i64 e8.1), (22, pv bs6 0)] ?_))
     refine Ok.op rfl (OpOk.step (v := .int .i64 e3.1) (Yields.load 1 rfl rfl Tryz.underlying3 rfl (by kernel_rfl)) rfl rfl (Ok.bat 2 [0, 1, 4, 6, 8, 13, 14, 15] [(19, .bool (e8.1 != e3.1))] ?_))
     refine Ok.nil (Ok.thenN (Ok.cond (b := (e8.1 != e3.1)) rfl (fun hc10 => ?_) (fun hc10 => ?_)))
     ·replace hF := hF.1 hc10
      refine Ok.seq (Ok.region (Ok.bat 1 [4] [(25, .agg #[.int .i64 0, .int .i64 0])] ?_))
      refine Ok.op rfl (OpOk.sto (k := 2) (v := .agg #[.int .i64 0, .int .i64 0]) 2 #[.int .i64 0, .int .i64 0] rfl rfl rfl ?_)
      refine Ok.bat 1 [4] [(5, .int .i64 7)] ?_
      refine Ok.nil (Ok.thenN (Ok.ret (Ok.blockR (Ok.blockR (Ok.thenR (Ok.thenR (Ok.blockR (Ok.thenR ?_))))))))
      exact Ok.resP (vs := [.agg #[.int .i64 0, .int .i64 0], .int .i64 7]) [] [] (by decide) rfl (.inl rfl) rfl (.cons (.cellAgg 2 2 #[.int .i64 0, .int .i64 0] rfl rfl Tryz.underlying31 rfl (by kernel_rfl) (by kernel_rfl) (by kernel_rfl)) (.cons (.tmp rfl) .nil)) (Gext.refl w0 g) ⟨(0, 0), 7, rfl, rfl, hF⟩
     ·replace hF := hF.2 hc10
      refine Ok.seq (Ok.region (Ok.bat 3 [0, 1, 4, 6, 8, 13, 14, 15] [(26, .bool (xkind == 2))] ?_))
      refine Ok.nil (Ok.thenN (Ok.cond (b := (xkind == 2)) rfl (fun hc11 => ?_) (fun hc11 => ?_)))
      ·replace hF := hF.1 hc11
       refine Ok.region (Ok.bat 1 [0, 1, 4, 6, 8, 13, 14, 15] [(29, pv bs6 1)] ?_)
       refine Ok.op rfl (OpOk.step (v := .int .i64 ybs6_1l9) (Yields.load 1 rfl rfl Tryz.underlying3 rfl (by kernel_rfl)) rfl rfl (Ok.bat 1 [0, 1, 4, 6, 13, 14, 15] [(30, .int .i64 ybs6_1l9), (31, pv bs8 1)] ?_))
       refine Ok.op rfl (OpOk.step (v := .int .i64 e8.2) (Yields.load 0 rfl rfl Tryz.underlying3 rfl (by kernel_rfl)) rfl rfl (Ok.bat 2 [0, 1, 4, 6, 13, 14, 15] [(33, .int .i64 (w6 (ybs6_1l9 + e8.2))), (34, pv bs6 1)] ?_))
       refine Ok.op rfl (OpOk.sto (k := 1) (v := .int .i64 (w6 (ybs6_1l9 + e8.2))) 1 #[.int .i64 e3.1, .int .i64 (w6 (ybs6_1l9 + e8.2))] rfl rfl rfl ?_)
       refine Ok.nil (Ok.blockN (Ok.blockN (Ok.thenN ?_)))
       subst hg8
       refine Ok.heapEq (H' := [.blk bs8 (.cells #[.int .i64 ((xl.drop (Int.toNat 1)).getD (Int.toNat x15l9) default).1, .int .i64 ((xl.drop (Int.toNat 1)).getD (Int.toNat x15l9) default).2] 31), .blk bs6 (.cells #[.int .i64 e3.1, .int .i64 (alkV3 xkind xl x15l9 ybs6_1l9)] 31), .blk bs4 (.cells #[.int .i64 0, .int .i64 0] 31)]) (econs (rfl) (econs (congrArg (fun l : List Value => Ent.blk bs6 (.cells ⟨l⟩ 31)) (lcons (rfl) (lcons (congrArg (Value.int .i64) ((if_t hc11).symm)) rfl))) (econs (rfl) rfl))) ?_
       exact fun a W hA hW => ⟨hA.sub (by kernel_rfl), hW.sub (.cons _ (.cons_cons _ (.cons_cons _ .slnil))), hF⟩
      ·replace hF := hF.2 hc11
       refine Ok.seq (Ok.region (Ok.bat 3 [0, 1, 4, 6, 8, 13, 14, 15] [(35, .bool (xkind == 3))] ?_))
       refine Ok.nil (Ok.thenN (Ok.cond (b := (xkind == 3)) rfl (fun hc12 => ?_) (fun hc12 => ?_)))
       ·replace hF := hF.1 hc12
        refine Ok.region (Ok.bat 1 [0, 1, 4, 6, 8, 13, 14, 15] [(38, pv bs6 1)] ?_)
        refine Ok.op rfl (OpOk.step (v := .int .i64 ybs6_1l9) (Yields.load 1 rfl rfl Tryz.underlying3 rfl (by kernel_rfl)) rfl rfl (Ok.bat 1 [0, 1, 4, 6, 13, 14, 15] [(39, .int .i64 ybs6_1l9), (40, pv bs8 1)] ?_))
        refine Ok.op rfl (OpOk.step (v := .int .i64 e8.2) (Yields.load 0 rfl rfl Tryz.underlying3 rfl (by kernel_rfl)) rfl rfl (Ok.bat 2 [0, 1, 4, 6, 13, 14, 15] [(42, .int .i64 (w6 (ybs6_1l9 - e8.2))), (43, pv bs6 1)] ?_))
        refine Ok.op rfl (OpOk.sto (k := 1) (v := .int .i64 (w6 (ybs6_1l9 - e8.2))) 1 #[.int .i64 e3.1, .int .i64 (w6 (ybs6_1l9 - e8.2))] rfl rfl rfl ?_)
        refine Ok.nil (Ok.blockN (Ok.blockN (Ok.thenN ?_)))
        subst hg8
        refine Ok.heapEq (H' := [.blk bs8 (.cells #[.int .i64 ((xl.drop (Int.toNat 1)).getD (Int.toNat x15l9) default).1, .int .i64 ((xl.drop (Int.toNat 1)).getD (Int.toNat x15l9) default).2] 31), .blk bs6 (.cells #[.int .i64 e3.1, .int .i64 (alkV3 xkind xl x15l9 ybs6_1l9)] 31), .blk bs4 (.cells #[.int .i64 0, .int .i64 0] 31)]) (econs (rfl) (econs (congrArg (fun l : List Value => Ent.blk bs6 (.cells ⟨l⟩ 31)) (lcons (rfl) (lcons (congrArg (Value.int .i64) ((Eq.trans ((if_t hc12).symm) ((if_f hc11).symm)))) rfl))) (econs (rfl) rfl))) ?_
        exact fun a W hA hW => ⟨hA.sub (by kernel_rfl), hW.sub (.cons _ (.cons_cons _ (.cons_cons _ .slnil))), hF⟩
       ·replace hF := hF.2 hc12
        refine Ok.seq (Ok.region (Ok.bat 3 [0, 1, 4, 6, 8, 13, 14, 15] [(44, .bool (xkind == 6))] ?_))
        refine Ok.nil (Ok.thenN (Ok.cond (b := (xkind == 6)) rfl (fun hc13 => ?_) (fun hc13 => ?_)))
        ·replace hF := hF.1 hc13
         refine Ok.region (Ok.bat 1 [0, 1, 4, 6, 8, 13, 14, 15] [(47, pv bs6 1)] ?_)
         refine Ok.op rfl (OpOk.step (v := .int .i64 ybs6_1l9) (Yields.load 1 rfl rfl Tryz.underlying3 rfl (by kernel_rfl)) rfl rfl (Ok.bat 1 [0, 1, 4, 6, 13, 14, 15] [(48, .int .i64 ybs6_1l9), (49, pv bs8 1)] ?_))
         refine Ok.op rfl (OpOk.step (v := .int .i64 e8.2) (Yields.load 0 rfl rfl Tryz.underlying3 rfl (by kernel_rfl)) rfl rfl (Ok.bat 2 [0, 1, 4, 6, 13, 14, 15] [(51, .int .i64 (if e8.2 < ybs6_1l9 then e8.2 else ybs6_1l9)), (52, pv bs6 1)] ?_))
         refine Ok.op rfl (OpOk.sto (k := 1) (v := .int .i64 (if e8.2 < ybs6_1l9 then e8.2 else ybs6_1l9)) 1 #[.int .i64 e3.1, .int .i64 (if e8.2 < ybs6_1l9 then e8.2 else ybs6_1l9)] rfl rfl rfl ?_)
         refine Ok.nil (Ok.blockN (Ok.blockN (Ok.thenN ?_)))
         subst hg8
         refine Ok.heapEq (H' := [.blk bs8 (.cells #[.int .i64 ((xl.drop (Int.toNat 1)).getD (Int.toNat x15l9) default).1, .int .i64 ((xl.drop (Int.toNat 1)).getD (Int.toNat x15l9) default).2] 31), .blk bs6 (.cells #[.int .i64 e3.1, .int .i64 (alkV3 xkind xl x15l9 ybs6_1l9)] 31), .blk bs4 (.cells #[.int .i64 0, .int .i64 0] 31)]) (econs (rfl) (econs (congrArg (fun l : List Value => Ent.blk bs6 (.cells ⟨l⟩ 31)) (lcons (rfl) (lcons (congrArg (Value.int .i64) ((Eq.trans ((Eq.trans ((if_t hc13).symm) ((if_f hc12).symm))) ((if_f hc11).symm)))) rfl))) (econs (rfl) rfl))) ?_
         exact fun a W hA hW => ⟨hA.sub (by kernel_rfl), hW.sub (.cons _ (.cons_cons _ (.cons_cons _ .slnil))), hF⟩
        ·replace hF := hF.2 hc13
         refine Ok.seq (Ok.region (Ok.bat 3 [0, 1, 4, 6, 8, 13, 14, 15] [(53, .bool (xkind == 7))] ?_))
         refine Ok.nil (Ok.thenN (Ok.cond (b := (xkind == 7)) rfl (fun hc14 => ?_) (fun hc14 => ?_)))
         ·replace hF := hF.1 hc14
          refine Ok.region (Ok.bat 1 [0, 1, 4, 6, 8, 13, 14, 15] [(56, pv bs6 1)] ?_)
          refine Ok.op rfl (OpOk.step (v := .int .i64 ybs6_1l9) (Yields.load 1 rfl rfl Tryz.underlying3 rfl (by kernel_rfl)) rfl rfl (Ok.bat 1 [0, 1, 4, 6, 13, 14, 15] [(57, .int .i64 ybs6_1l9), (58, pv bs8 1)] ?_))
          refine Ok.op rfl (OpOk.step (v := .int .i64 e8.2) (Yields.load 0 rfl rfl Tryz.underlying3 rfl (by kernel_rfl)) rfl rfl (Ok.bat 2 [0, 1, 4, 6, 13, 14, 15] [(60, .int .i64 (if ybs6_1l9 < e8.2 then e8.2 else ybs6_1l9)), (61, pv bs6 1)] ?_))
          refine Ok.op rfl (OpOk.sto (k := 1) (v := .int .i64 (if ybs6_1l9 < e8.2 then e8.2 else ybs6_1l9)) 1 #[.int .i64 e3.1, .int .i64 (if ybs6_1l9 < e8.2 then e8.2 else ybs6_1l9)] rfl rfl rfl ?_)
          refine Ok.nil (Ok.blockN (Ok.blockN (Ok.thenN ?_)))
          subst hg8
          refine Ok.heapEq (H' := [.blk bs8 (.cells #[.int .i64 ((xl.drop (Int.toNat 1)).getD (Int.toNat x15l9) default).1, .int .i64 ((xl.drop (Int.toNat 1)).getD (Int.toNat x15l9) default).2] 31), .blk bs6 (.cells #[.int .i64 e3.1, .int .i64 (alkV3 xkind xl x15l9 ybs6_1l9)] 31), .blk bs4 (.cells #[.int .i64 0, .int .i64 0] 31)]) (econs (rfl) (econs (congrArg (fun l : List Value => Ent.blk bs6 (.cells ⟨l⟩ 31)) (lcons (rfl) (lcons (congrArg (Value.int .i64) ((Eq.trans ((Eq.trans ((Eq.trans ((if_t hc14).symm) ((if_f hc13).symm))) ((if_f hc12).symm))) ((if_f hc11).symm)))) rfl))) (econs (rfl) rfl))) ?_
          exact fun a W hA hW => ⟨hA.sub (by kernel_rfl), hW.sub (.cons _ (.cons_cons _ (.cons_cons _ .slnil))), hF⟩
         ·replace hF := hF.2 hc14
          refine Ok.skip (Ok.blockN (Ok.blockN (Ok.thenN ?_)))
          subst hg8
          refine Ok.heapEq (H' := [.blk bs8 (.cells #[.int .i64 ((xl.drop (Int.toNat 1)).getD (Int.toNat x15l9) default).1, .int .i64 ((xl.drop (Int.toNat 1)).getD (Int.toNat x15l9) default).2] 31), .blk bs6 (.cells #[.int .i64 e3.1, .int .i64 (alkV3 xkind xl x15l9 ybs6_1l9)] 31), .blk bs4 (.cells #[.int .i64 0, .int .i64 0] 31)]) (econs (rfl) (econs (congrArg (fun l : List Value => Ent.blk bs6 (.cells ⟨l⟩ 31)) (lcons (rfl) (lcons (congrArg (Value.int .i64) ((Eq.trans ((Eq.trans ((Eq.trans ((if_f hc14).symm) ((if_f hc13).symm))) ((if_f hc12).symm))) ((if_f hc11).symm)))) rfl))) (econs (rfl) rfl))) ?_
          exact fun a W hA hW => ⟨hA.sub (by kernel_rfl), hW.sub (.cons _ (.cons_cons _ (.cons_cons _ .slnil))), hF⟩
    ·
     clear hF
     rintro a W ⟨hA, hW, hF⟩
     refine (?_ : Ok _ _ _ _ _ _) a W hA hW
     clear hA hW
     refine Ok.region (Ok.bat 2 [0, 1, 4, 6, 13, 14] [(15, .int .i64 (w6 (x15l9 + 1)))] ?_)
     refine Ok.nil (Ok.thenN ?_)
     exact fun a W hA hW => ⟨k9, Nat.lt_succ_self _, w6 (x15l9 + 1), (alkV3 xkind xl x15l9 ybs6_1l9), hA.sub (by kernel_rfl), hW, hF⟩
   ·replace hF := hF.2 hc6
    refine Ok.exit (Ok.thenE (Ok.thenE (Ok.blockHit (Ok.thenN (Ok.cut (fun a W => StA 85 [(4, pv bs4 0), (6, pv bs6 0)] a ∧ StW w0 [.blk bs6 (.cells #[.int .i64 e3.1, .int .i64 (alkV2 xkind xl e3 ybs6_1l9)] 31), .blk bs4 (.cells #[.int .i64 0, .int .i64 0] 31)] g W ∧ alkj45 xkind xl K e3 ybs6_1l9) ?_ ?_)))))
    ·
     refine Ok.seq (Ok.region (Ok.bat 2 [1, 4, 6] [(64, .bool (xkind == 8))] ?_))
     refine Ok.nil (Ok.thenN (Ok.cond (b := (xkind == 8)) rfl (fun hc15 => ?_) (fun hc15 => ?_)))
     ·replace hF := hF.1 hc15
      refine Ok.mix [] [] [.blk bs4 (.cells #[.int .i64 0, .int .i64 0] 31)] [(0, true), (1, true), (2, true), (3, true), (4, true), (5, true), (6, true), (7, true), (8, true), (9, true), (10, true), (11, true), (12, true), (13, true), (14, true), (15, false)] (by kernel_rfl) (by kernel_rfl) (.cons _ (.cons_cons _ .slnil)) (OkM.bat 1 [1, 4, 6] [(65, .slice axl_0 xl.length cxl_0)] ?_)
      refine OkM.head rfl rfl (show _ = [.blk bs4 (.cells #[.int .i64 0, .int .i64 0] 31)] from rfl) (OpQ.indexRo (e := .pair (.int .i64) (.int .i64)) (i := 0) (el := e3) rfl rfl Tryz.underlying44 (by kernel_rfl) hRxl_0 h03 he3 rfl fun q16 o16 cs16 _ hat16 hr16 => ?_)
      obtain ⟨_, _, rfl, rfl, rfl⟩ := hr16
      replace hat16 : At g q16 o16 [.int .i64 e3.1, .int .i64 e3.2] := hat16
      refine OkM.bat 1 [1, 4, 6] [(67, .pointer (some ⟨q16, o16 + 1, none⟩))] ?_
      refine OkM.head rfl rfl (show _ = [.blk bs4 (.cells #[.int .i64 0, .int .i64 0] 31)] from rfl) (OpQ.step (v := .int .i64 e3.2) (Yields.loadRo 1 hat16 (by kernel_rfl) Tryz.underlying3 rfl (by kernel_rfl)) rfl rfl (OkM.bat 1 [1, 4, 6] [(68, .int .i64 e3.2), (69, .slice axl_0 xl.length cxl_0)] ?_))
      obtain ⟨h018, h118, hF⟩ := hF
      have he18 := get_of (l := xl) (default : Int × Int) h118
      generalize hg18 : (xl.getD (Int.toNat 1) default) = e18 at he18 hF ⊢
      refine OkM.head rfl rfl (show _ = [.blk bs4 (.cells #[.int .i64 0, .int .i64 0] 31)] from rfl) (OpQ.indexRo (e := .pair (.int .i64) (.int .i64)) (i := 1) (el := e18) rfl rfl Tryz.underlying44 (by kernel_rfl) hRxl_0 h018 he18 rfl fun q17 o17 cs17 _ hat17 hr17 => ?_)
      obtain ⟨_, _, rfl, rfl, rfl⟩ := hr17
      replace hat17 : At g q17 o17 [.int .i64 e18.1, .int .i64 e18.2] := hat17
      refine OkM.bat 1 [1, 4, 6, 68] [(71, .pointer (some ⟨q17, o17 + 1, none⟩))] ?_
      refine OkM.head rfl rfl (show _ = [.blk bs4 (.cells #[.int .i64 0, .int .i64 0] 31)] from rfl) (OpQ.step (v := .int .i64 e18.2) (Yields.loadRo 1 hat17 (by kernel_rfl) Tryz.underlying3 rfl (by kernel_rfl)) rfl rfl (OkM.bat 1 [4, 6, 68] [(72, .int .i64 e18.2), (73, .slice axl_0 xl.length cxl_0)] ?_))
      obtain ⟨h020, h120, hF⟩ := hF
      have he20 := get_of (l := xl) (default : Int × Int) h120
      generalize hg20 : (xl.getD (Int.toNat 2) default) = e20 at he20 hF ⊢
      refine OkM.head rfl rfl (show _ = [.blk bs4 (.cells #[.int .i64 0, .int .i64 0] 31)] from rfl) (OpQ.indexRo (e := .pair (.int .i64) (.int .i64)) (i := 2) (el := e20) rfl rfl Tryz.underlying44 (by kernel_rfl) hRxl_0 h020 he20 rfl fun q19 o19 cs19 _ hat19 hr19 => ?_)
      obtain ⟨_, _, rfl, rfl, rfl⟩ := hr19
      replace hat19 : At g q19 o19 [.int .i64 e20.1, .int .i64 e20.2] := hat19
      refine OkM.bat 1 [4, 6, 68, 72] [(75, .pointer (some ⟨q19, o19 + 1, none⟩))] ?_
      refine OkM.head rfl rfl (show _ = [.blk bs4 (.cells #[.int .i64 0, .int .i64 0] 31)] from rfl) (OpQ.step (v := .int .i64 e20.2) (Yields.loadRo 1 hat19 (by kernel_rfl) Tryz.underlying3 rfl (by kernel_rfl)) rfl rfl (OkM.bat 3 [4, 6] [(78, .int .i64 (if e3.2 < (if e20.2 < e18.2 then e20.2 else e18.2) then (if e20.2 < e18.2 then e20.2 else e18.2) else e3.2)), (79, pv bs6 1)] ?_))
      refine OkM.tail rfl rfl (OpOk.sto (k := 1) (v := .int .i64 (if e3.2 < (if e20.2 < e18.2 then e20.2 else e18.2) then (if e20.2 < e18.2 then e20.2 else e18.2) else e3.2)) 0 #[.int .i64 e3.1, .int .i64 (if e3.2 < (if e20.2 < e18.2 then e20.2 else e18.2) then (if e20.2 < e18.2 then e20.2 else e18.2) else e3.2)] rfl rfl rfl ?_)
      refine OkM.leaf (i := 15) (show _ = [.blk bs4 (.cells #[.int .i64 0, .int .i64 0] 31)] from rfl) (Gle.refl _) (.cons _ (.cons_cons _ .slnil)) (OkM.nil (Ok.thenN ?_))
      subst hg20
      subst hg18
      refine Ok.heapEq (H' := [.blk bs6 (.cells #[.int .i64 e3.1, .int .i64 (alkV2 xkind xl e3 ybs6_1l9)] 31), .blk bs4 (.cells #[.int .i64 0, .int .i64 0] 31)]) (econs (congrArg (fun l : List Value => Ent.blk bs6 (.cells ⟨l⟩ 31)) (lcons (rfl) (lcons (congrArg (Value.int .i64) ((if_t hc15).symm)) rfl))) (econs (rfl) rfl)) ?_
      exact fun a W hA hW => ⟨hA.sub (by kernel_rfl), hW, hF⟩
     ·replace hF := hF.2 hc15
      refine Ok.skip (Ok.thenN (Ok.heapEq (H' := [.blk bs6 (.cells #[.int .i64 e3.1, .int .i64 (alkV2 xkind xl e3 ybs6_1l9)] 31), .blk bs4 (.cells #[.int .i64 0, .int .i64 0] 31)]) (econs (congrArg (fun l : List Value => Ent.blk bs6 (.cells ⟨l⟩ 31)) (lcons (rfl) (lcons (congrArg (Value.int .i64) ((if_f hc15).symm)) rfl))) (econs (rfl) rfl)) ?_))
      exact fun a W hA hW => ⟨hA.sub (by kernel_rfl), hW, hF⟩
    ·
     clear hF
     rintro a W ⟨hA, hW, hF⟩
     refine (?_ : Ok _ _ _ _ _ _) a W hA hW
     clear hA hW
     refine Ok.seq (Ok.region (Ok.bat 1 [4, 6] [(80, pv bs6 1)] ?_))
     refine Ok.op rfl (OpOk.step (v := .int .i64 (alkV2 xkind xl e3 ybs6_1l9)) (Yields.load 0 rfl rfl Tryz.underlying3 rfl (by kernel_rfl)) rfl rfl (Ok.op rfl (OpOk.callG (v := .int .i64 (ccutM (alkV2 xkind xl e3 ybs6_1l9))) enr (fun W hW => ccut_c (alkV2 xkind xl e3 ybs6_1l9)) rfl ?_)))
     refine Ok.bat 1 [4, 6] [(82, .int .i64 (ccutM (alkV2 xkind xl e3 ybs6_1l9))), (83, pv bs6 1)] ?_
     refine Ok.op rfl (OpOk.sto (k := 1) (v := .int .i64 (ccutM (alkV2 xkind xl e3 ybs6_1l9))) 0 #[.int .i64 e3.1, .int .i64 (ccutM (alkV2 xkind xl e3 ybs6_1l9))] rfl rfl rfl ?_)
     refine Ok.nil (Ok.thenN (Ok.seq (Ok.region (Ok.op rfl (OpOk.step (v := .agg #[.int .i64 e3.1, .int .i64 (ccutM (alkV2 xkind xl e3 ybs6_1l9))]) (Yields.loadAgg 0 2 #[.int .i64 e3.1, .int .i64 (ccutM (alkV2 xkind xl e3 ybs6_1l9))] rfl rfl Tryz.underlying31 rfl (by kernel_rfl) (by kernel_rfl) (by kernel_rfl)) rfl rfl (Ok.op rfl (OpOk.sto (k := 2) (v := .agg #[.int .i64 e3.1, .int .i64 (ccutM (alkV2 xkind xl e3 ybs6_1l9))]) 1 #[.int .i64 e3.1, .int .i64 (ccutM (alkV2 xkind xl e3 ybs6_1l9))] rfl rfl rfl ?_)))))))
     refine Ok.bat 1 [4] [(5, .int .i64 0)] ?_
     refine Ok.nil (Ok.thenN (Ok.ret ?_))
     exact Ok.resP (vs := [.agg #[.int .i64 e3.1, .int .i64 (ccutM (alkV2 xkind xl e3 ybs6_1l9))], .int .i64 0]) [] [] (by decide) rfl (.inl rfl) rfl (.cons (.cellAgg 1 2 #[.int .i64 e3.1, .int .i64 (ccutM (alkV2 xkind xl e3 ybs6_1l9))] rfl rfl Tryz.underlying31 rfl (by kernel_rfl) (by kernel_rfl) (by kernel_rfl)) (.cons (.tmp rfl) .nil)) (Gext.refl w0 g) ⟨(e3.1, (ccutM (alkV2 xkind xl e3 ybs6_1l9))), 0, rfl, rfl, hF⟩
theorem mm_in {x y : Int} (hx : -16777216 ≤ x ∧ x ≤ 16777216) (hy : -16777216 ≤ y ∧ y ≤ 16777216) : (-16777216 ≤ (if x < y then x else y) ∧ (if x < y then x else y) ≤ 16777216) ∧ (-16777216 ≤ (if x < y then y else x) ∧ (if x < y then y else x) ≤ 16777216) := by
 constructor <;> split <;> omega
theorem alk_F (k : Int) (l : List Vl) (hp : alP k l) : alkF k l (fun x y => (x, y) = cbS k l) := by
 obtain ⟨hb, hl, hk⟩ := hp
 have h0 : 0 < l.length := by omega
 have hb0 := bd_at hb h0
 have j45 : ∀ n : Int, ((l.getD 0 default).1, rcutM (alkV2 k l (l.getD 0 default) n)) = (cbS k l).1 → (cbS k l).2 = 0 → alkj45 k l (fun x y => (x, y) = cbS k l) (l.getD 0 default) n := by
  intro n h1 h2
  unfold alkj45
  rw [ccut_eq, h1, ← h2]
 -- min and max
 have run67 : (k = 6 ∨ k = 7) → ∀ (m i : Nat) (n : Int), i + m + 1 = l.length → (-16777216 ≤ n ∧ n ≤ 16777216) → cbS k l = prL k ((l.getD 0 default).1, n) (l.drop (i + 1)) → alkl9 k l (fun x y => (x, y) = cbS k l) (l.getD 0 default) (m + 1) (i : Int) n := by
  intro hk m
  have k8 : (k == 8) = false := by simp; omega
  have k2 : (k == 2) = false := by simp; omega
  have k3 : (k == 3) = false := by simp; omega
  have k4 : (k == 4) = false := by simp; omega
  have k5 : (k == 5) = false := by simp; omega
  induction m with
  | zero =>
   intro i n hi hn he
   refine ⟨fun hc => absurd (of_decide_eq_true hc) (by rw [List.length_drop]; show ¬ ((i : Int) < ((l.length - 1 : Nat) : Int)); omega), fun _ => ⟨fun h => (by rw [k8] at h; cases h), fun _ => ?_⟩⟩
   rw [List.drop_of_length_le (by omega)] at he
   refine j45 n ?_ ?_
   ·unfold alkV2
    rw [k8, if_neg (by simp), rcut_id hn, he]; rfl
   ·rw [he]; rfl
  | succ m ih =>
   intro i n hi hn he
   have hi1 : i + 1 < l.length := by omega
   have hbi := bd_at hb hi1
   have hd : (l.drop (Int.toNat 1)).getD (Int.toNat (i : Int)) default = l.getD (i + 1) default := by
    rw [Int.toNat_natCast, List.getD_eq_getElem?_getD, List.getElem?_drop, List.getD_eq_getElem?_getD, show Int.toNat 1 + i = i + 1 by show 1 + i = _; omega]
   rw [drop_get (l := l) default hi1] at he
   refine ⟨fun _ => ⟨by omega, by rw [List.length_drop, Int.toNat_natCast]; show i < l.length - 1; omega, ?_⟩, fun hc => absurd (of_decide_eq_false hc) (by rw [List.length_drop]; show ¬ ¬ ((i : Int) < ((l.length - 1 : Nat) : Int)); omega)⟩
   rw [hd]
   refine ⟨fun h => ?_, fun h => ?_⟩
   ·have h : ((l.getD 0 default).1 != (l.getD (i + 1) default).1) = true := by
     rw [bne_comm]; exact h
    rw [prL] at he
    have e : prvS k ((l.getD 0 default).1, n) (l.getD (i + 1) default) = ((0, 0), 7) := by
     unfold prvS
     rw [k4, k5, if_neg (by simp), if_neg (by simp), if_pos h]
    rw [e] at he
    rw [he]; rfl
   ·have h' : ((l.getD 0 default).1 != (l.getD (i + 1) default).1) = false := by
     rw [bne_comm]; exact h
    rw [prL] at he
    have key : alkj16 k l (i : Int) n (alkl9 k l (fun x y => (x, y) = cbS k l) (l.getD 0 default) (m + 1)) := by
     unfold alkj16 alkV3
     rw [hd, k2, k3, w64 (by omega), show (i : Int) + 1 = ((i + 1 : Nat) : Int) by omega]
     rw [if_neg (by simp), if_neg (by simp)]
     have e : prvS k ((l.getD 0 default).1, n) (l.getD (i + 1) default) = (((l.getD 0 default).1, (if (k == 6) = true then (if (l.getD (i + 1) default).2 < n then (l.getD (i + 1) default).2 else n) else (if (k == 7) = true then (if n < (l.getD (i + 1) default).2 then (l.getD (i + 1) default).2 else n) else n))), 0) := by
      have mm := mm_in hbi hn
      have mm2 := mm_in hn hbi
      unfold prvS
      rw [k4, k5, if_neg (by simp), if_neg (by simp), if_neg (by rw [h']; simp)]
      unfold prvV2 prvV1
      rcases hk with rfl | rfl
      ·show ((_, rcutM (if (l.getD (i + 1) default).2 < n then (l.getD (i + 1) default).2 else n)), (0 : Int)) = _
       rw [rcut_id mm.1]; rfl
      ·show ((_, rcutM (if n < (l.getD (i + 1) default).2 then (l.getD (i + 1) default).2 else n)), (0 : Int)) = _
       rw [rcut_id mm2.2]; rfl
     rw [e] at he
     refine ih (i + 1) _ (by omega) ?_ he
     have mm := mm_in hbi hn
     have mm2 := mm_in hn hbi
     rcases hk with rfl | rfl
     ·exact mm.1
     ·exact mm2.2
    exact ⟨fun _ => key, fun _ => ⟨fun _ => key, fun _ => ⟨fun _ => key, fun _ => ⟨fun _ => key, fun _ => key⟩⟩⟩⟩
 refine ⟨by omega, h0, by omega, by omega, by omega, ?_⟩
 rw [show Int.toNat 0 = 0 from rfl]
 rcases hk with ⟨hk, hl2⟩ | ⟨hk, hl1⟩ | ⟨rfl, hl3⟩
 ·-- two
  obtain ⟨a, b, rfl⟩ : ∃ a b, l = [a, b] := by
   match l, hl2 with
   | [a, b], _ => exact ⟨a, b, rfl⟩
  have hbb : bd b := hb b (by simp)
  have hba : bd a := hb a (by simp)
  have k8 : (k == 8) = false := by simp; omega
  have k4 : (k == 4) = false := by simp; omega
  have k5 : (k == 5) = false := by simp; omega
  have k6 : (k == 6) = false := by simp; omega
  have k7 : (k == 7) = false := by simp; omega
  have ecb : cbS k [a, b] = prvS k a b := by
   unfold cbS
   rw [k8, if_neg (by simp)]
   show prL k a [b] = _
   rw [prL, prL]
   cases h : ((prvS k a b).2 != 0)
   ·rw [if_neg (by simp)]; exact (prvO h).symm
   ·rw [if_pos rfl]; exact (prvE h).symm
  have fin : ∀ n : Int, (prvS k a b = ((a.1, rcutM n), 0)) → alkl9 k [a, b] (fun x y => (x, y) = cbS k [a, b]) a 1 1 n := by
   intro n he
   refine ⟨fun hc => absurd hc (by show ¬ (decide ((1 : Int) < ((1 : Nat) : Int)) = true); decide), fun _ => ⟨fun h => (by rw [k8] at h; cases h), fun _ => ?_⟩⟩
   refine j45 n ?_ ?_
   ·rw [ecb, he]
    unfold alkV2
    rw [k8, if_neg (by simp)]; rfl
   ·rw [ecb, he]
  refine ⟨2, ⟨fun _ => ⟨by decide, by show 0 < 1; decide, fun h => ?_, fun h => ?_⟩, fun hc => absurd hc (by show ¬ (decide ((0 : Int) < ((1 : Nat) : Int)) = false); decide)⟩⟩
  ·have h : (a.1 != b.1) = true := by rw [bne_comm]; exact h
   rw [ecb]
   unfold prvS
   rw [k4, k5, if_neg (by simp), if_neg (by simp), if_pos h]
  ·have h : (a.1 != b.1) = false := by rw [bne_comm]; exact h
   have key : alkj16 k [a, b] 0 a.2 (alkl9 k [a, b] (fun x y => (x, y) = cbS k [a, b]) a 1) := by
    unfold alkj16
    refine fin _ ?_
    unfold prvS
    rw [k4, k5, if_neg (by simp), if_neg (by simp), if_neg (by rw [h]; simp)]
    unfold prvV2 prvV1 prvV0 alkV3
    rw [k6, k7]
    rcases hk with rfl | rfl <;> rfl
   exact ⟨fun _ => key, fun _ => ⟨fun _ => key, fun _ => ⟨fun _ => key, fun _ => ⟨fun _ => key, fun _ => key⟩⟩⟩⟩
 ·refine ⟨_, run67 hk (l.length - 1) 0 _ (by omega) hb0 ?_⟩
  unfold cbS
  rw [if_neg (by simp; omega)]
 ·-- clamp
  obtain ⟨a, b, c, rfl⟩ : ∃ a b c, l = [a, b, c] := by
   match l, hl3 with
   | [a, b, c], _ => exact ⟨a, b, c, rfl⟩
  have hba : bd a := hb a (by simp)
  have hbb : bd b := hb b (by simp)
  have hbc : bd c := hb c (by simp)
  have e6 : prvS 6 b c = if (b.1 != c.1) = true then ((0, 0), 7) else ((b.1, if c.2 < b.2 then c.2 else b.2), 0) := by
   show (if (b.1 != c.1) = true then _ else ((b.1, rcutM (if c.2 < b.2 then c.2 else b.2)), (0 : Int))) = _
   rw [rcut_id (mm_in hbc hbb).1]
  have ecb : cbS 8 [a, b, c] = if (((prvS 6 b c).2 != 0) || (a.1 != b.1)) = true then ((0, 0), 7) else prvS 7 a (prvS 6 b c).1 := rfl
  have bad1 : (a.1 != b.1) = true → cbS 8 [a, b, c] = ((0, 0), 7) := fun h => by rw [ecb, h, Bool.or_true, if_pos rfl]
  have bad2 : (b.1 != c.1) = true → cbS 8 [a, b, c] = ((0, 0), 7) := fun h => by
   rw [ecb, e6, if_pos h]; rfl
  have good : (a.1 != b.1) = false → (b.1 != c.1) = false → ((a.1, rcutM (alkV2 8 [a, b, c] a a.2)), (0 : Int)) = cbS 8 [a, b, c] := fun h1 h2 => by
   have e1 : a.1 = b.1 := by simpa using h1
   have e6' : prvS 6 b c = ((b.1, if c.2 < b.2 then c.2 else b.2), 0) := by rw [e6, if_f h2]
   rw [ecb, e6', h1]
   show _ = prvS 7 a (b.1, _)
   unfold prvS
   rw [if_neg (by decide), if_neg (by decide), if_neg (by show ¬ (a.1 != b.1) = true; rw [h1]; simp)]
   rfl
  have step : ∀ (m : Nat) (i : Int) (w : Vl), ([a, b, c].drop (Int.toNat 1)).getD (Int.toNat i) default = w → (i = 0 ∨ i = 1) → ((w.1 != a.1) = true → cbS 8 [a, b, c] = ((0, 0), 7)) → ((w.1 != a.1) = false → alkl9 8 [a, b, c] (fun x y => (x, y) = cbS 8 [a, b, c]) a m (i + 1) a.2) →
    alkl9 8 [a, b, c] (fun x y => (x, y) = cbS 8 [a, b, c]) a (m + 1) i a.2 := by
   intro m i w hw hi hbad hgo
   refine ⟨fun _ => ⟨by omega, by show Int.toNat i < 2; omega, ?_⟩, fun hc => absurd (of_decide_eq_false hc) (by show ¬ ¬ (i < 2); omega)⟩
   rw [hw]
   refine ⟨fun h => by rw [hbad h], fun h => ?_⟩
   have key : alkj16 8 [a, b, c] i a.2 (alkl9 8 [a, b, c] (fun x y => (x, y) = cbS 8 [a, b, c]) a m) := by
    unfold alkj16
    rw [w64 (by omega)]
    exact hgo h
   exact ⟨fun _ => key, fun _ => ⟨fun _ => key, fun _ => ⟨fun _ => key, fun _ => ⟨fun _ => key, fun _ => key⟩⟩⟩⟩
  refine ⟨3, step 2 0 b rfl (.inl rfl) (fun h => bad1 (by rw [bne_comm]; exact h)) fun h1 => step 1 1 c rfl (.inr rfl) (fun h => ?_) fun h2 => ?_⟩
  ·have e1 : b.1 = a.1 := by simpa using h1
   exact bad2 (by rw [e1, bne_comm]; exact h)
  ·have e1 : b.1 = a.1 := by simpa using h1
   have e2 : c.1 = a.1 := by simpa using h2
   have g := good (by rw [bne_comm]; exact h1) (by rw [e1, e2]; simp)
   have key : alkj45 8 [a, b, c] (fun x y => (x, y) = cbS 8 [a, b, c]) a a.2 := j45 a.2 (by rw [← g]; rfl) (by rw [← g])
   exact ⟨fun hc => absurd hc (by show ¬ (decide ((2 : Int) < ((2 : Nat) : Int)) = true); decide), fun _ => ⟨fun _ => ⟨by decide, by show 1 < 3; decide, by decide, by show 2 < 3; decide, key⟩, fun h => absurd h (by decide)⟩⟩
theorem alk_c {g : Ghost} (xkind : Int) {axl_0 : Option Addr} {cxl_0 : Nat} (xl : List (Int × Int)) (hRxl_0 : Rep g (.slice (.pair (.int .i64) (.int .i64))) [.slice axl_0 xl.length cxl_0] xl)  (hp : alP xkind xl) : CallsG Tryz.prog 28 #[.int .i64 xkind, .slice axl_0 xl.length cxl_0] g (.tuple #[.agg #[.int .i64 (cbS xkind xl).1.1, .int .i64 (cbS xkind xl).1.2], .int .i64 (cbS xkind xl).2]) :=
 (alk_ok xkind xl hRxl_0 _ (alk_F xkind xl hp)).gives (by rintro g' H' v _ ⟨r0, r1, rfl, rfl, hK⟩; obtain ⟨rfl, rfl⟩ : r0 = (cbS xkind xl).1 ∧ r1 = (cbS xkind xl).2 := ⟨congrArg (fun z => z.1) hK, congrArg (fun z => z.2) hK⟩; rfl)
end Go.Proofs.YtogcmkphibegbaaGreatDoor.Cl
